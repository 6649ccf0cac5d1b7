import Derived.Test.YtpchecdlbagedaaGreatAeD
import Derived.Test.YtpchecdlbagedaaGreatAe4
set_option linter.unusedVariables false
set_option linter.unusedSimpArgs false
namespace Go.Proofs.YtpchecdlbagedaaGreat.law
open Go Go.Proofs Ae
open Ae.AV (int sl eptr agg ptr bool str)
open Ae.AW (seq ret res skip block region meet inBlock loopF exit)
open Ae.AOps (pureR makeR split callF stE ldB stP allocP callDP idxO stO mkO alloc1 stB)
open Ae.HS (wf' pushN push0 pop0 joinK1 selEG initK)
set_option maxRecDepth 100000
set_option linter.unusedVariables false
theorem ext_clone134_ok {l:List Int} {z:Nat} {f:Bool} {e:List AV} (hL:LR rJ 1 l z e) {r:List Int} (h:cloneI l=some r) {st:St} (hs:WF st):ACall Cf 134 [.sl z f e] st fun v o s'=>(rL rJ 1 r v∧s'=st)∧o=true:=by
 obtain ⟨h1,rfl⟩:=φClone_run hL h
 refine ⟨0,.sl 1 false e,true,st,?_,⟨⟨1,false,e,rfl,.inl rfl,hL.el⟩,rfl⟩,rfl⟩
 show (φClone [.sl z f e]).map _=_
 rw[h1]
 rfl
theorem ext_byte_ok {s:List UInt8} {c r:Int} (h:ixByteM s c=some r) {st:St} (hs:WF st):ACall Cf 137 [.str s,.int .u8 c] st fun v _ s'=>rI .i64 r v∧s'=st:=by
 cases h
 exact ⟨0,_,_,_,rfl,rfl,rfl⟩
noncomputable def oE66:OT OutPush:=oLeaf rOutPush true 3 4 (Sh.A (f:=csOutPush) (fun _=>⟨(.cons (One.of Sh.I _) (.cons (One.of Sh.I _) (.cons (One.of Sh.S _) .nil))),rfl⟩)) (fun h=>by cases h) (fun _=>(.A (.cons .I (.cons .I (.cons .S .nil)))))
noncomputable def oE67:OT (List OutPush):=oSl oE66
noncomputable def oE73:OT OutMove:=oLeaf rOutMove true 2 4 (Sh.A (f:=csOutMove) (fun _=>⟨(.cons (One.of Sh.I _) (.cons (One.of Sh.S _) .nil)),rfl⟩)) (fun h=>by cases h) (fun _=>(.A (.cons .I (.cons .S .nil))))
noncomputable def oE74:OT (List OutMove):=oSl oE73
noncomputable def oE42:OT (List (List OutMove)):=oSl oE74
noncomputable def oE4:OT Bool:=oLeaf rB false 1 4 Sh.B (fun _=>rfl) (fun _=>.B)
noncomputable def oE71:OT Push:=oLeaf rPush true 2 4 (Sh.A (f:=csPush) (fun _=>⟨(.cons (One.of Sh.I _) (.cons (One.of Sh.I _) .nil)),rfl⟩)) (fun h=>by cases h) (fun _=>(.A (.cons .I (.cons .I .nil))))
noncomputable def oE63:OT (List Push):=oSl oE71
noncomputable def oE2:OT Int:=oLeaf rJ false 1 4 Sh.I (fun _=>rfl) (fun _=>.I)
noncomputable def oE64:OT (List Int):=oSl oE2
noncomputable def oE30:OT (List (List Int)):=oSl oE64
theorem laws_szOutPush_ok {a1:OutPush} {left2 r:Int} {s:St} (h:laws_szOutPush a1 left2=some r) (hs:WF s):ACall Cf 109 [(agg [(J a1.To),(J a1.Put),(str a1.Out)]),(J left2)] s fun v _ s'=>rJ r v∧s'=s:=by
 refine ACall.pure rfl rfl rfl .I ?_
 have hWF:=hs.lo'
 unfold laws_szOutPush at h
 refine sr<|makeR rfl rfl rfl rfl rfl rfl (rfl:_=(eptr [(J a1.To),(J a1.Put),(str a1.Out)] 0))<|q (J 0)<|ns ?_
 refine q (J left2) ?_
 refine q (eptr [(J a1.To),(J a1.Put),(str a1.Out)] 2) ?_
 refine lE (str a1.Out) ?_
 refine q (J (a1.Out.length:Int)) ?_
 refine q (J (W (left2 - (a1.Out.length:Int)))) ?_
 refine aq (J (W (left2 - (a1.Out.length:Int))))<|nl ?_
 refine seq<|sr<|q (J (W (left2 - (a1.Out.length:Int)))) ?_
 refine q (bool (decide ((W (left2 - (a1.Out.length:Int)):Int)<0)))<|nl ?_
 rcases oite h with ⟨hc3,h⟩ | ⟨hc3,h⟩
 ·refine cT hc3<|sr<|q (J (-1))<|nl ?_
  cases h
  exact ret ⟨rfl,_,_,rfl,rfl⟩
 refine cF hc3<|skip<|sr<|q (J (W (left2 - (a1.Out.length:Int)))) ?_
 refine aq (J (W (left2 - (a1.Out.length:Int))))<|nl ?_
 cases h
 exact ret ⟨rfl,_,_,rfl,rfl⟩
theorem laws_szOutPushS_ok {a1:List OutPush} {left6:Int} {z2:Nat} {f3:Bool} {e4:List AV} {s:St} (h5:LR rOutPush 3 a1 z2 e4) {r:Int} (h:laws_szOutPushS a1 left6=some r) (hs:WF s):ACall Cf 63 [(sl z2 f3 e4),(J left6)] s fun v _ s'=>rJ r v∧s'=s:=by
 refine ACall.pure rfl rfl rfl .I ?_
 have hWF:=hs.lo'
 unfold laws_szOutPushS at h
 refine sr<|q (J 0)<|ns ?_
 refine q (J left6) ?_
 refine q (sl z2 f3 e4)<|AOps.p rfl (len_eq h5) ?_
 refine q (J (W (left6 - (a1.length:Int)))) ?_
 refine aq (J (W (left6 - (a1.length:Int))))<|nl ?_
 refine seq<|sr<|q (J (W (left6 - (a1.length:Int)))) ?_
 refine q (bool (decide ((W (left6 - (a1.length:Int)):Int)<0)))<|nl ?_
 rcases oite h with ⟨hc7,h⟩ | ⟨hc7,h⟩
 ·refine cT hc7<|sr<|q (J (-1))<|nl ?_
  cases h
  exact ret ⟨rfl,_,_,rfl,rfl⟩
 refine cF hc7<|skip<|seq<|sr<|q (J 0)<|nl ?_
 refine meet (σ:=Int) (fun left8 tm os=>⟨updL tm [(1,(J left8))],updL os [],s.M⟩) (fun left8=>laws_szOutPushS_J1 left8=some r) ?_ ?_
 ·rintro left8 tm os h
  unfold laws_szOutPushS_J1 at h
  refine sr<|q (J left8) ?_
  refine aq (J left8)<|nl ?_
  cases h
  exact ret ⟨rfl,_,_,rfl,rfl⟩
 intro KJ9
 refine block<|res [(0,(sl z2 f3 e4)),(1,(J (W (left6 - (a1.length:Int))))),(5,(J 0))] [] ⟨rfl,rfl,rfl,tv⟩ tv ?_
 refine loopF (σ:=Int × Int) (τ:=Unit) (fun (left10,i11) _=>True) (fun (left10,i11) _ tm os=>⟨updL tm [(0,(sl z2 f3 e4)),(1,(J left10)),(5,(J i11))],updL os [],s.M⟩) ?_ (x:=(W (left6 - (a1.length:Int)),0)) (y:=()) h tv
 clear h
 rintro ⟨left10,i11⟩ _ tm os - ee1 h hL1 hR1
 unfold laws_szOutPushS_S1 at h
 dsimp only at h
 refine seq<|sr<|q (J i11) ?_
 refine q (sl z2 f3 e4)<|AOps.p rfl (len_eq h5) ?_
 refine q (bool (decide ((i11:Int)<(a1.length:Int))))<|nl ?_
 rcases oite h with ⟨hc12,h⟩ | ⟨hc12,h⟩
 ·refine cT hc12<|skip<|seq<|block<|sr<|q (sl z2 f3 e4) ?_
  refine q (J i11) ?_
  obtain ⟨x13,h14,h⟩:=obind h
  obtain ⟨v17,h15,h16⟩:=idx_sl h5 h14
  obtain ⟨_,rfl,h18⟩:=h15
  obtain ⟨_,_,rfl,h19,h20⟩:=Cs_cons h18
  cases h19
  obtain ⟨_,_,rfl,h21,h22⟩:=Cs_cons h20
  cases h21
  obtain ⟨_,_,rfl,h23,h24⟩:=Cs_cons h22
  cases h23
  cases Cs_nil h24
  refine pureR rfl rfl rfl h16 rfl (rfl:_=(eptr [(J x13.To),(J x13.Put),(str x13.Out)] 0))<|lE (agg [(J x13.To),(J x13.Put),(str x13.Out)]) ?_
  refine q (J left10) ?_
  obtain ⟨y25,h26,h⟩:=obind h
  refine cP (laws_szOutPush_ok  h26 hWF) ?_
  intro _ o28 h27
  cases h27
  refine aq (J y25)<|ns ?_
  refine q (J y25) ?_
  refine q (bool (decide ((y25:Int)<0)))<|nl ?_
  rcases oite h with ⟨hc29,h⟩ | ⟨hc29,h⟩
  ·refine cT hc29<|sr<|q (J (-1))<|nl ?_
   cases h
   have hr:=hR1 _ rfl
   subst hr
   exact ret ⟨rfl,_,_,rfl,rfl⟩
  refine cF hc29<|skip<|inBlock<|region<|q (J i11) ?_
  refine q (J (W (i11+1))) ?_
  refine aq (J (W (i11+1)))<|nl ?_
  cases h
  exact res [(0,(sl z2 f3 e4)),(1,(J y25)),(5,(J (W (i11+1))))] [] ⟨rfl,rfl,rfl,tv⟩ tv (hL1 _ rfl () _ _ tv)
 refine cF hc12<|exit rfl ?_
 obtain ⟨r30,hm,hx⟩:=omap h
 clear h
 subst hx
 have hx:=hR1 _ rfl
 rw[hx] at hm
 have h:=hm
 exact res [(1,(J left10))] [] ⟨rfl,tv⟩ tv (KJ9 (left10) _ _ h)
theorem laws_szOutPushSS_ok {a1:List (List OutPush)} {left6:Int} {z2:Nat} {f3:Bool} {e4:List AV} {s:St} (h5:LR (rL rOutPush 3) 1 a1 z2 e4) {r:Int} (h:laws_szOutPushSS a1 left6=some r) (hs:WF s):ACall Cf 15 [(sl z2 f3 e4),(J left6)] s fun v _ s'=>rJ r v∧s'=s:=by
 refine ACall.pure rfl rfl rfl .I ?_
 have hWF:=hs.lo'
 unfold laws_szOutPushSS at h
 refine sr<|q (J 0)<|ns ?_
 refine q (J left6) ?_
 refine q (sl z2 f3 e4)<|AOps.p rfl (len_eq h5) ?_
 refine q (J (W (left6 - (a1.length:Int)))) ?_
 refine aq (J (W (left6 - (a1.length:Int))))<|nl ?_
 refine seq<|sr<|q (J (W (left6 - (a1.length:Int)))) ?_
 refine q (bool (decide ((W (left6 - (a1.length:Int)):Int)<0)))<|nl ?_
 rcases oite h with ⟨hc7,h⟩ | ⟨hc7,h⟩
 ·refine cT hc7<|sr<|q (J (-1))<|nl ?_
  cases h
  exact ret ⟨rfl,_,_,rfl,rfl⟩
 refine cF hc7<|skip<|seq<|sr<|q (J 0)<|nl ?_
 refine meet (σ:=Int) (fun left8 tm os=>⟨updL tm [(1,(J left8))],updL os [],s.M⟩) (fun left8=>laws_szOutPushSS_J1 left8=some r) ?_ ?_
 ·rintro left8 tm os h
  unfold laws_szOutPushSS_J1 at h
  refine sr<|q (J left8) ?_
  refine aq (J left8)<|nl ?_
  cases h
  exact ret ⟨rfl,_,_,rfl,rfl⟩
 intro KJ9
 refine block<|res [(0,(sl z2 f3 e4)),(1,(J (W (left6 - (a1.length:Int))))),(5,(J 0))] [] ⟨rfl,rfl,rfl,tv⟩ tv ?_
 refine loopF (σ:=Int × Int) (τ:=Unit) (fun (left10,i11) _=>True) (fun (left10,i11) _ tm os=>⟨updL tm [(0,(sl z2 f3 e4)),(1,(J left10)),(5,(J i11))],updL os [],s.M⟩) ?_ (x:=(W (left6 - (a1.length:Int)),0)) (y:=()) h tv
 clear h
 rintro ⟨left10,i11⟩ _ tm os - ee1 h hL1 hR1
 unfold laws_szOutPushSS_S1 at h
 dsimp only at h
 refine seq<|sr<|q (J i11) ?_
 refine q (sl z2 f3 e4)<|AOps.p rfl (len_eq h5) ?_
 refine q (bool (decide ((i11:Int)<(a1.length:Int))))<|nl ?_
 rcases oite h with ⟨hc12,h⟩ | ⟨hc12,h⟩
 ·refine cT hc12<|skip<|seq<|block<|sr<|q (sl z2 f3 e4) ?_
  refine q (J i11) ?_
  obtain ⟨x13,h14,h⟩:=obind h
  obtain ⟨v17,h15,h16⟩:=idx_sl h5 h14
  obtain ⟨z18,f19,e20,rfl,h21⟩:=h15
  refine pureR rfl rfl rfl h16 rfl (rfl:_=(eptr [(sl z18 f19 e20)] 0))<|lE (sl z18 f19 e20) ?_
  refine q (J left10) ?_
  obtain ⟨y22,h23,h⟩:=obind h
  refine cP (laws_szOutPushS_ok h21 h23 hWF) ?_
  intro _ o25 h24
  cases h24
  refine aq (J y22)<|ns ?_
  refine q (J y22) ?_
  refine q (bool (decide ((y22:Int)<0)))<|nl ?_
  rcases oite h with ⟨hc26,h⟩ | ⟨hc26,h⟩
  ·refine cT hc26<|sr<|q (J (-1))<|nl ?_
   cases h
   have hr:=hR1 _ rfl
   subst hr
   exact ret ⟨rfl,_,_,rfl,rfl⟩
  refine cF hc26<|skip<|inBlock<|region<|q (J i11) ?_
  refine q (J (W (i11+1))) ?_
  refine aq (J (W (i11+1)))<|nl ?_
  cases h
  exact res [(0,(sl z2 f3 e4)),(1,(J y22)),(5,(J (W (i11+1))))] [] ⟨rfl,rfl,rfl,tv⟩ tv (hL1 _ rfl () _ _ tv)
 refine cF hc12<|exit rfl ?_
 obtain ⟨r27,hm,hx⟩:=omap h
 clear h
 subst hx
 have hx:=hR1 _ rfl
 rw[hx] at hm
 have h:=hm
 exact res [(1,(J left10))] [] ⟨rfl,tv⟩ tv (KJ9 (left10) _ _ h)
theorem laws_szOutMove_ok {a1:OutMove} {left2 r:Int} {s:St} (h:laws_szOutMove a1 left2=some r) (hs:WF s):ACall Cf 110 [(agg [(J a1.To),(str a1.Out)]),(J left2)] s fun v _ s'=>rJ r v∧s'=s:=by
 refine ACall.pure rfl rfl rfl .I ?_
 have hWF:=hs.lo'
 unfold laws_szOutMove at h
 refine sr<|makeR rfl rfl rfl rfl rfl rfl (rfl:_=(eptr [(J a1.To),(str a1.Out)] 0))<|q (J 0)<|ns ?_
 refine q (J left2) ?_
 refine q (eptr [(J a1.To),(str a1.Out)] 1) ?_
 refine lE (str a1.Out) ?_
 refine q (J (a1.Out.length:Int)) ?_
 refine q (J (W (left2 - (a1.Out.length:Int)))) ?_
 refine aq (J (W (left2 - (a1.Out.length:Int))))<|nl ?_
 refine seq<|sr<|q (J (W (left2 - (a1.Out.length:Int)))) ?_
 refine q (bool (decide ((W (left2 - (a1.Out.length:Int)):Int)<0)))<|nl ?_
 rcases oite h with ⟨hc3,h⟩ | ⟨hc3,h⟩
 ·refine cT hc3<|sr<|q (J (-1))<|nl ?_
  cases h
  exact ret ⟨rfl,_,_,rfl,rfl⟩
 refine cF hc3<|skip<|sr<|q (J (W (left2 - (a1.Out.length:Int)))) ?_
 refine aq (J (W (left2 - (a1.Out.length:Int))))<|nl ?_
 cases h
 exact ret ⟨rfl,_,_,rfl,rfl⟩
theorem laws_szOutMoveS_ok {a1:List OutMove} {left6:Int} {z2:Nat} {f3:Bool} {e4:List AV} {s:St} (h5:LR rOutMove 2 a1 z2 e4) {r:Int} (h:laws_szOutMoveS a1 left6=some r) (hs:WF s):ACall Cf 64 [(sl z2 f3 e4),(J left6)] s fun v _ s'=>rJ r v∧s'=s:=by
 refine ACall.pure rfl rfl rfl .I ?_
 have hWF:=hs.lo'
 unfold laws_szOutMoveS at h
 refine sr<|q (J 0)<|ns ?_
 refine q (J left6) ?_
 refine q (sl z2 f3 e4)<|AOps.p rfl (len_eq h5) ?_
 refine q (J (W (left6 - (a1.length:Int)))) ?_
 refine aq (J (W (left6 - (a1.length:Int))))<|nl ?_
 refine seq<|sr<|q (J (W (left6 - (a1.length:Int)))) ?_
 refine q (bool (decide ((W (left6 - (a1.length:Int)):Int)<0)))<|nl ?_
 rcases oite h with ⟨hc7,h⟩ | ⟨hc7,h⟩
 ·refine cT hc7<|sr<|q (J (-1))<|nl ?_
  cases h
  exact ret ⟨rfl,_,_,rfl,rfl⟩
 refine cF hc7<|skip<|seq<|sr<|q (J 0)<|nl ?_
 refine meet (σ:=Int) (fun left8 tm os=>⟨updL tm [(1,(J left8))],updL os [],s.M⟩) (fun left8=>laws_szOutMoveS_J1 left8=some r) ?_ ?_
 ·rintro left8 tm os h
  unfold laws_szOutMoveS_J1 at h
  refine sr<|q (J left8) ?_
  refine aq (J left8)<|nl ?_
  cases h
  exact ret ⟨rfl,_,_,rfl,rfl⟩
 intro KJ9
 refine block<|res [(0,(sl z2 f3 e4)),(1,(J (W (left6 - (a1.length:Int))))),(5,(J 0))] [] ⟨rfl,rfl,rfl,tv⟩ tv ?_
 refine loopF (σ:=Int × Int) (τ:=Unit) (fun (left10,i11) _=>True) (fun (left10,i11) _ tm os=>⟨updL tm [(0,(sl z2 f3 e4)),(1,(J left10)),(5,(J i11))],updL os [],s.M⟩) ?_ (x:=(W (left6 - (a1.length:Int)),0)) (y:=()) h tv
 clear h
 rintro ⟨left10,i11⟩ _ tm os - ee1 h hL1 hR1
 unfold laws_szOutMoveS_S1 at h
 dsimp only at h
 refine seq<|sr<|q (J i11) ?_
 refine q (sl z2 f3 e4)<|AOps.p rfl (len_eq h5) ?_
 refine q (bool (decide ((i11:Int)<(a1.length:Int))))<|nl ?_
 rcases oite h with ⟨hc12,h⟩ | ⟨hc12,h⟩
 ·refine cT hc12<|skip<|seq<|block<|sr<|q (sl z2 f3 e4) ?_
  refine q (J i11) ?_
  obtain ⟨x13,h14,h⟩:=obind h
  obtain ⟨v17,h15,h16⟩:=idx_sl h5 h14
  obtain ⟨_,rfl,h18⟩:=h15
  obtain ⟨_,_,rfl,h19,h20⟩:=Cs_cons h18
  cases h19
  obtain ⟨_,_,rfl,h21,h22⟩:=Cs_cons h20
  cases h21
  cases Cs_nil h22
  refine pureR rfl rfl rfl h16 rfl (rfl:_=(eptr [(J x13.To),(str x13.Out)] 0))<|lE (agg [(J x13.To),(str x13.Out)]) ?_
  refine q (J left10) ?_
  obtain ⟨y23,h24,h⟩:=obind h
  refine cP (laws_szOutMove_ok  h24 hWF) ?_
  intro _ o26 h25
  cases h25
  refine aq (J y23)<|ns ?_
  refine q (J y23) ?_
  refine q (bool (decide ((y23:Int)<0)))<|nl ?_
  rcases oite h with ⟨hc27,h⟩ | ⟨hc27,h⟩
  ·refine cT hc27<|sr<|q (J (-1))<|nl ?_
   cases h
   have hr:=hR1 _ rfl
   subst hr
   exact ret ⟨rfl,_,_,rfl,rfl⟩
  refine cF hc27<|skip<|inBlock<|region<|q (J i11) ?_
  refine q (J (W (i11+1))) ?_
  refine aq (J (W (i11+1)))<|nl ?_
  cases h
  exact res [(0,(sl z2 f3 e4)),(1,(J y23)),(5,(J (W (i11+1))))] [] ⟨rfl,rfl,rfl,tv⟩ tv (hL1 _ rfl () _ _ tv)
 refine cF hc12<|exit rfl ?_
 obtain ⟨r28,hm,hx⟩:=omap h
 clear h
 subst hx
 have hx:=hR1 _ rfl
 rw[hx] at hm
 have h:=hm
 exact res [(1,(J left10))] [] ⟨rfl,tv⟩ tv (KJ9 (left10) _ _ h)
theorem laws_szOutMoveSS_ok {a1:List (List OutMove)} {left6:Int} {z2:Nat} {f3:Bool} {e4:List AV} {s:St} (h5:LR (rL rOutMove 2) 1 a1 z2 e4) {r:Int} (h:laws_szOutMoveSS a1 left6=some r) (hs:WF s):ACall Cf 17 [(sl z2 f3 e4),(J left6)] s fun v _ s'=>rJ r v∧s'=s:=by
 refine ACall.pure rfl rfl rfl .I ?_
 have hWF:=hs.lo'
 unfold laws_szOutMoveSS at h
 refine sr<|q (J 0)<|ns ?_
 refine q (J left6) ?_
 refine q (sl z2 f3 e4)<|AOps.p rfl (len_eq h5) ?_
 refine q (J (W (left6 - (a1.length:Int)))) ?_
 refine aq (J (W (left6 - (a1.length:Int))))<|nl ?_
 refine seq<|sr<|q (J (W (left6 - (a1.length:Int)))) ?_
 refine q (bool (decide ((W (left6 - (a1.length:Int)):Int)<0)))<|nl ?_
 rcases oite h with ⟨hc7,h⟩ | ⟨hc7,h⟩
 ·refine cT hc7<|sr<|q (J (-1))<|nl ?_
  cases h
  exact ret ⟨rfl,_,_,rfl,rfl⟩
 refine cF hc7<|skip<|seq<|sr<|q (J 0)<|nl ?_
 refine meet (σ:=Int) (fun left8 tm os=>⟨updL tm [(1,(J left8))],updL os [],s.M⟩) (fun left8=>laws_szOutMoveSS_J1 left8=some r) ?_ ?_
 ·rintro left8 tm os h
  unfold laws_szOutMoveSS_J1 at h
  refine sr<|q (J left8) ?_
  refine aq (J left8)<|nl ?_
  cases h
  exact ret ⟨rfl,_,_,rfl,rfl⟩
 intro KJ9
 refine block<|res [(0,(sl z2 f3 e4)),(1,(J (W (left6 - (a1.length:Int))))),(5,(J 0))] [] ⟨rfl,rfl,rfl,tv⟩ tv ?_
 refine loopF (σ:=Int × Int) (τ:=Unit) (fun (left10,i11) _=>True) (fun (left10,i11) _ tm os=>⟨updL tm [(0,(sl z2 f3 e4)),(1,(J left10)),(5,(J i11))],updL os [],s.M⟩) ?_ (x:=(W (left6 - (a1.length:Int)),0)) (y:=()) h tv
 clear h
 rintro ⟨left10,i11⟩ _ tm os - ee1 h hL1 hR1
 unfold laws_szOutMoveSS_S1 at h
 dsimp only at h
 refine seq<|sr<|q (J i11) ?_
 refine q (sl z2 f3 e4)<|AOps.p rfl (len_eq h5) ?_
 refine q (bool (decide ((i11:Int)<(a1.length:Int))))<|nl ?_
 rcases oite h with ⟨hc12,h⟩ | ⟨hc12,h⟩
 ·refine cT hc12<|skip<|seq<|block<|sr<|q (sl z2 f3 e4) ?_
  refine q (J i11) ?_
  obtain ⟨x13,h14,h⟩:=obind h
  obtain ⟨v17,h15,h16⟩:=idx_sl h5 h14
  obtain ⟨z18,f19,e20,rfl,h21⟩:=h15
  refine pureR rfl rfl rfl h16 rfl (rfl:_=(eptr [(sl z18 f19 e20)] 0))<|lE (sl z18 f19 e20) ?_
  refine q (J left10) ?_
  obtain ⟨y22,h23,h⟩:=obind h
  refine cP (laws_szOutMoveS_ok h21 h23 hWF) ?_
  intro _ o25 h24
  cases h24
  refine aq (J y22)<|ns ?_
  refine q (J y22) ?_
  refine q (bool (decide ((y22:Int)<0)))<|nl ?_
  rcases oite h with ⟨hc26,h⟩ | ⟨hc26,h⟩
  ·refine cT hc26<|sr<|q (J (-1))<|nl ?_
   cases h
   have hr:=hR1 _ rfl
   subst hr
   exact ret ⟨rfl,_,_,rfl,rfl⟩
  refine cF hc26<|skip<|inBlock<|region<|q (J i11) ?_
  refine q (J (W (i11+1))) ?_
  refine aq (J (W (i11+1)))<|nl ?_
  cases h
  exact res [(0,(sl z2 f3 e4)),(1,(J y22)),(5,(J (W (i11+1))))] [] ⟨rfl,rfl,rfl,tv⟩ tv (hL1 _ rfl () _ _ tv)
 refine cF hc12<|exit rfl ?_
 obtain ⟨r27,hm,hx⟩:=omap h
 clear h
 subst hx
 have hx:=hR1 _ rfl
 rw[hx] at hm
 have h:=hm
 exact res [(1,(J left10))] [] ⟨rfl,tv⟩ tv (KJ9 (left10) _ _ h)
theorem laws_szOutMoveSSS_ok {a1:List (List (List OutMove))} {left6:Int} {z2:Nat} {f3:Bool} {e4:List AV} {s:St} (h5:LR (rL (rL rOutMove 2) 1) 1 a1 z2 e4) {r:Int} (h:laws_szOutMoveSSS a1 left6=some r) (hs:WF s):ACall Cf 16 [(sl z2 f3 e4),(J left6)] s fun v _ s'=>rJ r v∧s'=s:=by
 refine ACall.pure rfl rfl rfl .I ?_
 have hWF:=hs.lo'
 unfold laws_szOutMoveSSS at h
 refine sr<|q (J 0)<|ns ?_
 refine q (J left6) ?_
 refine q (sl z2 f3 e4)<|AOps.p rfl (len_eq h5) ?_
 refine q (J (W (left6 - (a1.length:Int)))) ?_
 refine aq (J (W (left6 - (a1.length:Int))))<|nl ?_
 refine seq<|sr<|q (J (W (left6 - (a1.length:Int)))) ?_
 refine q (bool (decide ((W (left6 - (a1.length:Int)):Int)<0)))<|nl ?_
 rcases oite h with ⟨hc7,h⟩ | ⟨hc7,h⟩
 ·refine cT hc7<|sr<|q (J (-1))<|nl ?_
  cases h
  exact ret ⟨rfl,_,_,rfl,rfl⟩
 refine cF hc7<|skip<|seq<|sr<|q (J 0)<|nl ?_
 refine meet (σ:=Int) (fun left8 tm os=>⟨updL tm [(1,(J left8))],updL os [],s.M⟩) (fun left8=>laws_szOutMoveSSS_J1 left8=some r) ?_ ?_
 ·rintro left8 tm os h
  unfold laws_szOutMoveSSS_J1 at h
  refine sr<|q (J left8) ?_
  refine aq (J left8)<|nl ?_
  cases h
  exact ret ⟨rfl,_,_,rfl,rfl⟩
 intro KJ9
 refine block<|res [(0,(sl z2 f3 e4)),(1,(J (W (left6 - (a1.length:Int))))),(5,(J 0))] [] ⟨rfl,rfl,rfl,tv⟩ tv ?_
 refine loopF (σ:=Int × Int) (τ:=Unit) (fun (left10,i11) _=>True) (fun (left10,i11) _ tm os=>⟨updL tm [(0,(sl z2 f3 e4)),(1,(J left10)),(5,(J i11))],updL os [],s.M⟩) ?_ (x:=(W (left6 - (a1.length:Int)),0)) (y:=()) h tv
 clear h
 rintro ⟨left10,i11⟩ _ tm os - ee1 h hL1 hR1
 unfold laws_szOutMoveSSS_S1 at h
 dsimp only at h
 refine seq<|sr<|q (J i11) ?_
 refine q (sl z2 f3 e4)<|AOps.p rfl (len_eq h5) ?_
 refine q (bool (decide ((i11:Int)<(a1.length:Int))))<|nl ?_
 rcases oite h with ⟨hc12,h⟩ | ⟨hc12,h⟩
 ·refine cT hc12<|skip<|seq<|block<|sr<|q (sl z2 f3 e4) ?_
  refine q (J i11) ?_
  obtain ⟨x13,h14,h⟩:=obind h
  obtain ⟨v17,h15,h16⟩:=idx_sl h5 h14
  obtain ⟨z18,f19,e20,rfl,h21⟩:=h15
  refine pureR rfl rfl rfl h16 rfl (rfl:_=(eptr [(sl z18 f19 e20)] 0))<|lE (sl z18 f19 e20) ?_
  refine q (J left10) ?_
  obtain ⟨y22,h23,h⟩:=obind h
  refine cP (laws_szOutMoveSS_ok h21 h23 hWF) ?_
  intro _ o25 h24
  cases h24
  refine aq (J y22)<|ns ?_
  refine q (J y22) ?_
  refine q (bool (decide ((y22:Int)<0)))<|nl ?_
  rcases oite h with ⟨hc26,h⟩ | ⟨hc26,h⟩
  ·refine cT hc26<|sr<|q (J (-1))<|nl ?_
   cases h
   have hr:=hR1 _ rfl
   subst hr
   exact ret ⟨rfl,_,_,rfl,rfl⟩
  refine cF hc26<|skip<|inBlock<|region<|q (J i11) ?_
  refine q (J (W (i11+1))) ?_
  refine aq (J (W (i11+1)))<|nl ?_
  cases h
  exact res [(0,(sl z2 f3 e4)),(1,(J y22)),(5,(J (W (i11+1))))] [] ⟨rfl,rfl,rfl,tv⟩ tv (hL1 _ rfl () _ _ tv)
 refine cF hc12<|exit rfl ?_
 obtain ⟨r27,hm,hx⟩:=omap h
 clear h
 subst hx
 have hx:=hR1 _ rfl
 rw[hx] at hm
 have h:=hm
 exact res [(1,(J left10))] [] ⟨rfl,tv⟩ tv (KJ9 (left10) _ _ h)
theorem laws_szRewriter_ok {a1:Rewriter} {left14:Int} {z2 z6 z10:Nat} {f3 f7 f11:Bool} {e4 e8 e12:List AV} {s:St} (h5:LR (rL rOutPush 3) 1 a1.Call z2 e4) (h9:LR (rL (rL rOutMove 2) 1) 1 a1.Return z6 e8) (h13:LR (rL rOutMove 2) 1 a1.Inner z10 e12) {r:Int} (h:laws_szRewriter a1 left14=some r) (hs:WF s):ACall Cf 4 [(agg [(J a1.Stack),(J a1.Start),(sl z2 f3 e4),(sl z6 f7 e8),(sl z10 f11 e12)]),(J left14)] s fun v _ s'=>rJ r v∧s'=s:=by
 refine ACall.pure rfl rfl rfl .I ?_
 have hWF:=hs.lo'
 unfold laws_szRewriter at h
 refine sr<|makeR rfl rfl rfl rfl rfl rfl (rfl:_=(eptr [(J a1.Stack),(J a1.Start),(sl z2 f3 e4),(sl z6 f7 e8),(sl z10 f11 e12)] 0))<|q (J 0)<|ns ?_
 refine q (eptr [(J a1.Stack),(J a1.Start),(sl z2 f3 e4),(sl z6 f7 e8),(sl z10 f11 e12)] 2) ?_
 refine lE (sl z2 f3 e4) ?_
 refine q (J left14) ?_
 obtain ⟨y15,h16,h⟩:=obind h
 refine cP (laws_szOutPushSS_ok h5 h16 hWF) ?_
 intro _ o18 h17
 cases h17
 refine aq (J y15)<|nl ?_
 refine seq<|sr<|q (J y15) ?_
 refine q (bool (decide ((y15:Int)<0)))<|nl ?_
 rcases oite h with ⟨hc19,h⟩ | ⟨hc19,h⟩
 ·refine cT hc19<|sr<|q (J (-1))<|nl ?_
  cases h
  exact ret ⟨rfl,_,_,rfl,rfl⟩
 refine cF hc19<|skip<|sr<|q (eptr [(J a1.Stack),(J a1.Start),(sl z2 f3 e4),(sl z6 f7 e8),(sl z10 f11 e12)] 3) ?_
 refine lE (sl z6 f7 e8) ?_
 refine q (J y15) ?_
 obtain ⟨y20,h21,h⟩:=obind h
 refine cP (laws_szOutMoveSSS_ok h9 h21 hWF) ?_
 intro _ o23 h22
 cases h22
 refine aq (J y20)<|nl ?_
 refine seq<|sr<|q (J y20) ?_
 refine q (bool (decide ((y20:Int)<0)))<|nl ?_
 rcases oite h with ⟨hc24,h⟩ | ⟨hc24,h⟩
 ·refine cT hc24<|sr<|q (J (-1))<|nl ?_
  cases h
  exact ret ⟨rfl,_,_,rfl,rfl⟩
 refine cF hc24<|skip<|sr<|q (eptr [(J a1.Stack),(J a1.Start),(sl z2 f3 e4),(sl z6 f7 e8),(sl z10 f11 e12)] 4) ?_
 refine lE (sl z10 f11 e12) ?_
 refine q (J y20) ?_
 obtain ⟨y25,h26,h⟩:=obind h
 refine cP (laws_szOutMoveSS_ok h13 h26 hWF) ?_
 intro _ o28 h27
 cases h27
 refine aq (J y25)<|nl ?_
 refine seq<|sr<|q (J y25) ?_
 refine q (bool (decide ((y25:Int)<0)))<|nl ?_
 rcases oite h with ⟨hc29,h⟩ | ⟨hc29,h⟩
 ·refine cT hc29<|sr<|q (J (-1))<|nl ?_
  cases h
  exact ret ⟨rfl,_,_,rfl,rfl⟩
 refine cF hc29<|skip<|sr<|q (J y25) ?_
 refine aq (J y25)<|nl ?_
 cases h
 exact ret ⟨rfl,_,_,rfl,rfl⟩
theorem laws_szBoolS_ok {a1:List Bool} {left6:Int} {z2:Nat} {f3:Bool} {e4:List AV} {s:St} (h5:LR rB 1 a1 z2 e4) {r:Int} (h:laws_szBoolS a1 left6=some r) (hs:WF s):ACall Cf 18 [(sl z2 f3 e4),(J left6)] s fun v _ s'=>rJ r v∧s'=s:=by
 refine ACall.pure rfl rfl rfl .I ?_
 have hWF:=hs.lo'
 unfold laws_szBoolS at h
 refine sr<|q (J 0)<|ns ?_
 refine q (J left6) ?_
 refine q (sl z2 f3 e4)<|AOps.p rfl (len_eq h5) ?_
 refine q (J (W (left6 - (a1.length:Int)))) ?_
 refine aq (J (W (left6 - (a1.length:Int))))<|nl ?_
 refine seq<|sr<|q (J (W (left6 - (a1.length:Int)))) ?_
 refine q (bool (decide ((W (left6 - (a1.length:Int)):Int)<0)))<|nl ?_
 rcases oite h with ⟨hc7,h⟩ | ⟨hc7,h⟩
 ·refine cT hc7<|sr<|q (J (-1))<|nl ?_
  cases h
  exact ret ⟨rfl,_,_,rfl,rfl⟩
 refine cF hc7<|skip<|sr<|q (J (W (left6 - (a1.length:Int)))) ?_
 refine aq (J (W (left6 - (a1.length:Int))))<|nl ?_
 cases h
 exact ret ⟨rfl,_,_,rfl,rfl⟩
theorem laws_szPushS_ok {a1:List Push} {left6:Int} {z2:Nat} {f3:Bool} {e4:List AV} {s:St} (h5:LR rPush 2 a1 z2 e4) {r:Int} (h:laws_szPushS a1 left6=some r) (hs:WF s):ACall Cf 65 [(sl z2 f3 e4),(J left6)] s fun v _ s'=>rJ r v∧s'=s:=by
 refine ACall.pure rfl rfl rfl .I ?_
 have hWF:=hs.lo'
 unfold laws_szPushS at h
 refine sr<|q (J 0)<|ns ?_
 refine q (J left6) ?_
 refine q (sl z2 f3 e4)<|AOps.p rfl (len_eq h5) ?_
 refine q (J (W (left6 - (a1.length:Int)))) ?_
 refine aq (J (W (left6 - (a1.length:Int))))<|nl ?_
 refine seq<|sr<|q (J (W (left6 - (a1.length:Int)))) ?_
 refine q (bool (decide ((W (left6 - (a1.length:Int)):Int)<0)))<|nl ?_
 rcases oite h with ⟨hc7,h⟩ | ⟨hc7,h⟩
 ·refine cT hc7<|sr<|q (J (-1))<|nl ?_
  cases h
  exact ret ⟨rfl,_,_,rfl,rfl⟩
 refine cF hc7<|skip<|sr<|q (J (W (left6 - (a1.length:Int)))) ?_
 refine aq (J (W (left6 - (a1.length:Int))))<|nl ?_
 cases h
 exact ret ⟨rfl,_,_,rfl,rfl⟩
theorem laws_szPushSS_ok {a1:List (List Push)} {left6:Int} {z2:Nat} {f3:Bool} {e4:List AV} {s:St} (h5:LR (rL rPush 2) 1 a1 z2 e4) {r:Int} (h:laws_szPushSS a1 left6=some r) (hs:WF s):ACall Cf 19 [(sl z2 f3 e4),(J left6)] s fun v _ s'=>rJ r v∧s'=s:=by
 refine ACall.pure rfl rfl rfl .I ?_
 have hWF:=hs.lo'
 unfold laws_szPushSS at h
 refine sr<|q (J 0)<|ns ?_
 refine q (J left6) ?_
 refine q (sl z2 f3 e4)<|AOps.p rfl (len_eq h5) ?_
 refine q (J (W (left6 - (a1.length:Int)))) ?_
 refine aq (J (W (left6 - (a1.length:Int))))<|nl ?_
 refine seq<|sr<|q (J (W (left6 - (a1.length:Int)))) ?_
 refine q (bool (decide ((W (left6 - (a1.length:Int)):Int)<0)))<|nl ?_
 rcases oite h with ⟨hc7,h⟩ | ⟨hc7,h⟩
 ·refine cT hc7<|sr<|q (J (-1))<|nl ?_
  cases h
  exact ret ⟨rfl,_,_,rfl,rfl⟩
 refine cF hc7<|skip<|seq<|sr<|q (J 0)<|nl ?_
 refine meet (σ:=Int) (fun left8 tm os=>⟨updL tm [(1,(J left8))],updL os [],s.M⟩) (fun left8=>laws_szPushSS_J1 left8=some r) ?_ ?_
 ·rintro left8 tm os h
  unfold laws_szPushSS_J1 at h
  refine sr<|q (J left8) ?_
  refine aq (J left8)<|nl ?_
  cases h
  exact ret ⟨rfl,_,_,rfl,rfl⟩
 intro KJ9
 refine block<|res [(0,(sl z2 f3 e4)),(1,(J (W (left6 - (a1.length:Int))))),(5,(J 0))] [] ⟨rfl,rfl,rfl,tv⟩ tv ?_
 refine loopF (σ:=Int × Int) (τ:=Unit) (fun (left10,i11) _=>True) (fun (left10,i11) _ tm os=>⟨updL tm [(0,(sl z2 f3 e4)),(1,(J left10)),(5,(J i11))],updL os [],s.M⟩) ?_ (x:=(W (left6 - (a1.length:Int)),0)) (y:=()) h tv
 clear h
 rintro ⟨left10,i11⟩ _ tm os - ee1 h hL1 hR1
 unfold laws_szPushSS_S1 at h
 dsimp only at h
 refine seq<|sr<|q (J i11) ?_
 refine q (sl z2 f3 e4)<|AOps.p rfl (len_eq h5) ?_
 refine q (bool (decide ((i11:Int)<(a1.length:Int))))<|nl ?_
 rcases oite h with ⟨hc12,h⟩ | ⟨hc12,h⟩
 ·refine cT hc12<|skip<|seq<|block<|sr<|q (sl z2 f3 e4) ?_
  refine q (J i11) ?_
  obtain ⟨x13,h14,h⟩:=obind h
  obtain ⟨v17,h15,h16⟩:=idx_sl h5 h14
  obtain ⟨z18,f19,e20,rfl,h21⟩:=h15
  refine pureR rfl rfl rfl h16 rfl (rfl:_=(eptr [(sl z18 f19 e20)] 0))<|lE (sl z18 f19 e20) ?_
  refine q (J left10) ?_
  obtain ⟨y22,h23,h⟩:=obind h
  refine cP (laws_szPushS_ok h21 h23 hWF) ?_
  intro _ o25 h24
  cases h24
  refine aq (J y22)<|ns ?_
  refine q (J y22) ?_
  refine q (bool (decide ((y22:Int)<0)))<|nl ?_
  rcases oite h with ⟨hc26,h⟩ | ⟨hc26,h⟩
  ·refine cT hc26<|sr<|q (J (-1))<|nl ?_
   cases h
   have hr:=hR1 _ rfl
   subst hr
   exact ret ⟨rfl,_,_,rfl,rfl⟩
  refine cF hc26<|skip<|inBlock<|region<|q (J i11) ?_
  refine q (J (W (i11+1))) ?_
  refine aq (J (W (i11+1)))<|nl ?_
  cases h
  exact res [(0,(sl z2 f3 e4)),(1,(J y22)),(5,(J (W (i11+1))))] [] ⟨rfl,rfl,rfl,tv⟩ tv (hL1 _ rfl () _ _ tv)
 refine cF hc12<|exit rfl ?_
 obtain ⟨r27,hm,hx⟩:=omap h
 clear h
 subst hx
 have hx:=hR1 _ rfl
 rw[hx] at hm
 have h:=hm
 exact res [(1,(J left10))] [] ⟨rfl,tv⟩ tv (KJ9 (left10) _ _ h)
theorem laws_szInt64S_ok {a1:List Int} {left6:Int} {z2:Nat} {f3:Bool} {e4:List AV} {s:St} (h5:LR rJ 1 a1 z2 e4) {r:Int} (h:laws_szInt64S a1 left6=some r) (hs:WF s):ACall Cf 66 [(sl z2 f3 e4),(J left6)] s fun v _ s'=>rJ r v∧s'=s:=by
 refine ACall.pure rfl rfl rfl .I ?_
 have hWF:=hs.lo'
 unfold laws_szInt64S at h
 refine sr<|q (J 0)<|ns ?_
 refine q (J left6) ?_
 refine q (sl z2 f3 e4)<|AOps.p rfl (len_eq h5) ?_
 refine q (J (W (left6 - (a1.length:Int)))) ?_
 refine aq (J (W (left6 - (a1.length:Int))))<|nl ?_
 refine seq<|sr<|q (J (W (left6 - (a1.length:Int)))) ?_
 refine q (bool (decide ((W (left6 - (a1.length:Int)):Int)<0)))<|nl ?_
 rcases oite h with ⟨hc7,h⟩ | ⟨hc7,h⟩
 ·refine cT hc7<|sr<|q (J (-1))<|nl ?_
  cases h
  exact ret ⟨rfl,_,_,rfl,rfl⟩
 refine cF hc7<|skip<|sr<|q (J (W (left6 - (a1.length:Int)))) ?_
 refine aq (J (W (left6 - (a1.length:Int))))<|nl ?_
 cases h
 exact ret ⟨rfl,_,_,rfl,rfl⟩
theorem laws_szInt64SS_ok {a1:List (List Int)} {left6:Int} {z2:Nat} {f3:Bool} {e4:List AV} {s:St} (h5:LR (rL rJ 1) 1 a1 z2 e4) {r:Int} (h:laws_szInt64SS a1 left6=some r) (hs:WF s):ACall Cf 21 [(sl z2 f3 e4),(J left6)] s fun v _ s'=>rJ r v∧s'=s:=by
 refine ACall.pure rfl rfl rfl .I ?_
 have hWF:=hs.lo'
 unfold laws_szInt64SS at h
 refine sr<|q (J 0)<|ns ?_
 refine q (J left6) ?_
 refine q (sl z2 f3 e4)<|AOps.p rfl (len_eq h5) ?_
 refine q (J (W (left6 - (a1.length:Int)))) ?_
 refine aq (J (W (left6 - (a1.length:Int))))<|nl ?_
 refine seq<|sr<|q (J (W (left6 - (a1.length:Int)))) ?_
 refine q (bool (decide ((W (left6 - (a1.length:Int)):Int)<0)))<|nl ?_
 rcases oite h with ⟨hc7,h⟩ | ⟨hc7,h⟩
 ·refine cT hc7<|sr<|q (J (-1))<|nl ?_
  cases h
  exact ret ⟨rfl,_,_,rfl,rfl⟩
 refine cF hc7<|skip<|seq<|sr<|q (J 0)<|nl ?_
 refine meet (σ:=Int) (fun left8 tm os=>⟨updL tm [(1,(J left8))],updL os [],s.M⟩) (fun left8=>laws_szInt64SS_J1 left8=some r) ?_ ?_
 ·rintro left8 tm os h
  unfold laws_szInt64SS_J1 at h
  refine sr<|q (J left8) ?_
  refine aq (J left8)<|nl ?_
  cases h
  exact ret ⟨rfl,_,_,rfl,rfl⟩
 intro KJ9
 refine block<|res [(0,(sl z2 f3 e4)),(1,(J (W (left6 - (a1.length:Int))))),(5,(J 0))] [] ⟨rfl,rfl,rfl,tv⟩ tv ?_
 refine loopF (σ:=Int × Int) (τ:=Unit) (fun (left10,i11) _=>True) (fun (left10,i11) _ tm os=>⟨updL tm [(0,(sl z2 f3 e4)),(1,(J left10)),(5,(J i11))],updL os [],s.M⟩) ?_ (x:=(W (left6 - (a1.length:Int)),0)) (y:=()) h tv
 clear h
 rintro ⟨left10,i11⟩ _ tm os - ee1 h hL1 hR1
 unfold laws_szInt64SS_S1 at h
 dsimp only at h
 refine seq<|sr<|q (J i11) ?_
 refine q (sl z2 f3 e4)<|AOps.p rfl (len_eq h5) ?_
 refine q (bool (decide ((i11:Int)<(a1.length:Int))))<|nl ?_
 rcases oite h with ⟨hc12,h⟩ | ⟨hc12,h⟩
 ·refine cT hc12<|skip<|seq<|block<|sr<|q (sl z2 f3 e4) ?_
  refine q (J i11) ?_
  obtain ⟨x13,h14,h⟩:=obind h
  obtain ⟨v17,h15,h16⟩:=idx_sl h5 h14
  obtain ⟨z18,f19,e20,rfl,h21⟩:=h15
  refine pureR rfl rfl rfl h16 rfl (rfl:_=(eptr [(sl z18 f19 e20)] 0))<|lE (sl z18 f19 e20) ?_
  refine q (J left10) ?_
  obtain ⟨y22,h23,h⟩:=obind h
  refine cP (laws_szInt64S_ok h21 h23 hWF) ?_
  intro _ o25 h24
  cases h24
  refine aq (J y22)<|ns ?_
  refine q (J y22) ?_
  refine q (bool (decide ((y22:Int)<0)))<|nl ?_
  rcases oite h with ⟨hc26,h⟩ | ⟨hc26,h⟩
  ·refine cT hc26<|sr<|q (J (-1))<|nl ?_
   cases h
   have hr:=hR1 _ rfl
   subst hr
   exact ret ⟨rfl,_,_,rfl,rfl⟩
  refine cF hc26<|skip<|inBlock<|region<|q (J i11) ?_
  refine q (J (W (i11+1))) ?_
  refine aq (J (W (i11+1)))<|nl ?_
  cases h
  exact res [(0,(sl z2 f3 e4)),(1,(J y22)),(5,(J (W (i11+1))))] [] ⟨rfl,rfl,rfl,tv⟩ tv (hL1 _ rfl () _ _ tv)
 refine cF hc12<|exit rfl ?_
 obtain ⟨r27,hm,hx⟩:=omap h
 clear h
 subst hx
 have hx:=hR1 _ rfl
 rw[hx] at hm
 have h:=hm
 exact res [(1,(J left10))] [] ⟨rfl,tv⟩ tv (KJ9 (left10) _ _ h)
theorem laws_szInt64SSS_ok {a1:List (List (List Int))} {left6:Int} {z2:Nat} {f3:Bool} {e4:List AV} {s:St} (h5:LR (rL (rL rJ 1) 1) 1 a1 z2 e4) {r:Int} (h:laws_szInt64SSS a1 left6=some r) (hs:WF s):ACall Cf 20 [(sl z2 f3 e4),(J left6)] s fun v _ s'=>rJ r v∧s'=s:=by
 refine ACall.pure rfl rfl rfl .I ?_
 have hWF:=hs.lo'
 unfold laws_szInt64SSS at h
 refine sr<|q (J 0)<|ns ?_
 refine q (J left6) ?_
 refine q (sl z2 f3 e4)<|AOps.p rfl (len_eq h5) ?_
 refine q (J (W (left6 - (a1.length:Int)))) ?_
 refine aq (J (W (left6 - (a1.length:Int))))<|nl ?_
 refine seq<|sr<|q (J (W (left6 - (a1.length:Int)))) ?_
 refine q (bool (decide ((W (left6 - (a1.length:Int)):Int)<0)))<|nl ?_
 rcases oite h with ⟨hc7,h⟩ | ⟨hc7,h⟩
 ·refine cT hc7<|sr<|q (J (-1))<|nl ?_
  cases h
  exact ret ⟨rfl,_,_,rfl,rfl⟩
 refine cF hc7<|skip<|seq<|sr<|q (J 0)<|nl ?_
 refine meet (σ:=Int) (fun left8 tm os=>⟨updL tm [(1,(J left8))],updL os [],s.M⟩) (fun left8=>laws_szInt64SSS_J1 left8=some r) ?_ ?_
 ·rintro left8 tm os h
  unfold laws_szInt64SSS_J1 at h
  refine sr<|q (J left8) ?_
  refine aq (J left8)<|nl ?_
  cases h
  exact ret ⟨rfl,_,_,rfl,rfl⟩
 intro KJ9
 refine block<|res [(0,(sl z2 f3 e4)),(1,(J (W (left6 - (a1.length:Int))))),(5,(J 0))] [] ⟨rfl,rfl,rfl,tv⟩ tv ?_
 refine loopF (σ:=Int × Int) (τ:=Unit) (fun (left10,i11) _=>True) (fun (left10,i11) _ tm os=>⟨updL tm [(0,(sl z2 f3 e4)),(1,(J left10)),(5,(J i11))],updL os [],s.M⟩) ?_ (x:=(W (left6 - (a1.length:Int)),0)) (y:=()) h tv
 clear h
 rintro ⟨left10,i11⟩ _ tm os - ee1 h hL1 hR1
 unfold laws_szInt64SSS_S1 at h
 dsimp only at h
 refine seq<|sr<|q (J i11) ?_
 refine q (sl z2 f3 e4)<|AOps.p rfl (len_eq h5) ?_
 refine q (bool (decide ((i11:Int)<(a1.length:Int))))<|nl ?_
 rcases oite h with ⟨hc12,h⟩ | ⟨hc12,h⟩
 ·refine cT hc12<|skip<|seq<|block<|sr<|q (sl z2 f3 e4) ?_
  refine q (J i11) ?_
  obtain ⟨x13,h14,h⟩:=obind h
  obtain ⟨v17,h15,h16⟩:=idx_sl h5 h14
  obtain ⟨z18,f19,e20,rfl,h21⟩:=h15
  refine pureR rfl rfl rfl h16 rfl (rfl:_=(eptr [(sl z18 f19 e20)] 0))<|lE (sl z18 f19 e20) ?_
  refine q (J left10) ?_
  obtain ⟨y22,h23,h⟩:=obind h
  refine cP (laws_szInt64SS_ok h21 h23 hWF) ?_
  intro _ o25 h24
  cases h24
  refine aq (J y22)<|ns ?_
  refine q (J y22) ?_
  refine q (bool (decide ((y22:Int)<0)))<|nl ?_
  rcases oite h with ⟨hc26,h⟩ | ⟨hc26,h⟩
  ·refine cT hc26<|sr<|q (J (-1))<|nl ?_
   cases h
   have hr:=hR1 _ rfl
   subst hr
   exact ret ⟨rfl,_,_,rfl,rfl⟩
  refine cF hc26<|skip<|inBlock<|region<|q (J i11) ?_
  refine q (J (W (i11+1))) ?_
  refine aq (J (W (i11+1)))<|nl ?_
  cases h
  exact res [(0,(sl z2 f3 e4)),(1,(J y22)),(5,(J (W (i11+1))))] [] ⟨rfl,rfl,rfl,tv⟩ tv (hL1 _ rfl () _ _ tv)
 refine cF hc12<|exit rfl ?_
 obtain ⟨r27,hm,hx⟩:=omap h
 clear h
 subst hx
 have hx:=hR1 _ rfl
 rw[hx] at hm
 have h:=hm
 exact res [(1,(J left10))] [] ⟨rfl,tv⟩ tv (KJ9 (left10) _ _ h)
theorem laws_szChecker_ok {a1:Checker} {left18:Int} {z2 z6 z10 z14:Nat} {f3 f7 f11 f15:Bool} {e4 e8 e12 e16:List AV} {s:St} (h5:LR rB 1 a1.Accept z2 e4) (h9:LR (rL rPush 2) 1 a1.Call z6 e8) (h13:LR (rL (rL rJ 1) 1) 1 a1.Return z10 e12) (h17:LR (rL rJ 1) 1 a1.Inner z14 e16) {r:Int} (h:laws_szChecker a1 left18=some r) (hs:WF s):ACall Cf 5 [(agg [(J a1.Stack),(J a1.Start),(sl z2 f3 e4),(sl z6 f7 e8),(sl z10 f11 e12),(sl z14 f15 e16)]),(J left18)] s fun v _ s'=>rJ r v∧s'=s:=by
 refine ACall.pure rfl rfl rfl .I ?_
 have hWF:=hs.lo'
 unfold laws_szChecker at h
 refine sr<|makeR rfl rfl rfl rfl rfl rfl (rfl:_=(eptr [(J a1.Stack),(J a1.Start),(sl z2 f3 e4),(sl z6 f7 e8),(sl z10 f11 e12),(sl z14 f15 e16)] 0))<|q (J 0)<|ns ?_
 refine q (eptr [(J a1.Stack),(J a1.Start),(sl z2 f3 e4),(sl z6 f7 e8),(sl z10 f11 e12),(sl z14 f15 e16)] 2) ?_
 refine lE (sl z2 f3 e4) ?_
 refine q (J left18) ?_
 obtain ⟨y19,h20,h⟩:=obind h
 refine cP (laws_szBoolS_ok h5 h20 hWF) ?_
 intro _ o22 h21
 cases h21
 refine aq (J y19)<|nl ?_
 refine seq<|sr<|q (J y19) ?_
 refine q (bool (decide ((y19:Int)<0)))<|nl ?_
 rcases oite h with ⟨hc23,h⟩ | ⟨hc23,h⟩
 ·refine cT hc23<|sr<|q (J (-1))<|nl ?_
  cases h
  exact ret ⟨rfl,_,_,rfl,rfl⟩
 refine cF hc23<|skip<|sr<|q (eptr [(J a1.Stack),(J a1.Start),(sl z2 f3 e4),(sl z6 f7 e8),(sl z10 f11 e12),(sl z14 f15 e16)] 3) ?_
 refine lE (sl z6 f7 e8) ?_
 refine q (J y19) ?_
 obtain ⟨y24,h25,h⟩:=obind h
 refine cP (laws_szPushSS_ok h9 h25 hWF) ?_
 intro _ o27 h26
 cases h26
 refine aq (J y24)<|nl ?_
 refine seq<|sr<|q (J y24) ?_
 refine q (bool (decide ((y24:Int)<0)))<|nl ?_
 rcases oite h with ⟨hc28,h⟩ | ⟨hc28,h⟩
 ·refine cT hc28<|sr<|q (J (-1))<|nl ?_
  cases h
  exact ret ⟨rfl,_,_,rfl,rfl⟩
 refine cF hc28<|skip<|sr<|q (eptr [(J a1.Stack),(J a1.Start),(sl z2 f3 e4),(sl z6 f7 e8),(sl z10 f11 e12),(sl z14 f15 e16)] 4) ?_
 refine lE (sl z10 f11 e12) ?_
 refine q (J y24) ?_
 obtain ⟨y29,h30,h⟩:=obind h
 refine cP (laws_szInt64SSS_ok h13 h30 hWF) ?_
 intro _ o32 h31
 cases h31
 refine aq (J y29)<|nl ?_
 refine seq<|sr<|q (J y29) ?_
 refine q (bool (decide ((y29:Int)<0)))<|nl ?_
 rcases oite h with ⟨hc33,h⟩ | ⟨hc33,h⟩
 ·refine cT hc33<|sr<|q (J (-1))<|nl ?_
  cases h
  exact ret ⟨rfl,_,_,rfl,rfl⟩
 refine cF hc33<|skip<|sr<|q (eptr [(J a1.Stack),(J a1.Start),(sl z2 f3 e4),(sl z6 f7 e8),(sl z10 f11 e12),(sl z14 f15 e16)] 5) ?_
 refine lE (sl z14 f15 e16) ?_
 refine q (J y29) ?_
 obtain ⟨y34,h35,h⟩:=obind h
 refine cP (laws_szInt64SS_ok h17 h35 hWF) ?_
 intro _ o37 h36
 cases h36
 refine aq (J y34)<|nl ?_
 refine seq<|sr<|q (J y34) ?_
 refine q (bool (decide ((y34:Int)<0)))<|nl ?_
 rcases oite h with ⟨hc38,h⟩ | ⟨hc38,h⟩
 ·refine cT hc38<|sr<|q (J (-1))<|nl ?_
  cases h
  exact ret ⟨rfl,_,_,rfl,rfl⟩
 refine cF hc38<|skip<|sr<|q (J y34) ?_
 refine aq (J y34)<|nl ?_
 cases h
 exact ret ⟨rfl,_,_,rfl,rfl⟩
theorem laws_toOutPush_K0_ok {a1 r:OutPush} {s:St} (h:laws_toOutPush_K0 a1=some r) (hs:WF s):ACall Cf 115 [(agg [(J a1.To),(J a1.Put),(str a1.Out)])] s (fun v _ s'=>∃ (Ls':List (List BX)),v=(agg [(J r.To),(J r.Put),(str r.Out)])∧HS [] true s s' (([]:List BX)++Ls'.flatten)∧AllG [] Ls') true:=by
 refine ACall.keepR rfl rfl rfl ?_
 have hH0:=HS.g0 (initK hs)
 have hG0:=AllG.nil
 have hl:LoOK [] true s:=LoOK.nil
 unfold laws_toOutPush_K0 at h
 refine sr<|makeR rfl rfl rfl rfl rfl rfl (rfl:_=(eptr [(J a1.To),(J a1.Put),(str a1.Out)] 0))<|allocP rfl rfl rfl rfl ⟨rfl,rfl⟩ rfl<|ns ?_
 refine alloc1 hH0 rfl rfl rfl rfl rfl rfl ?_
 intro b2 s3 hH4
 change HS [] true s s3 (([⟨some b2,[(J 0),(J 0),(str ([]:List UInt8))],(fun _=>false)⟩]:List BX)++List.flatten ([]:List (List BX))) at hH4
 refine ns<|q (eptr [(J a1.To),(J a1.Put),(str a1.Out)] 0) ?_
 refine lE (J a1.To) ?_
 refine q (ptr b2 0)<|stE (i:=0) (v:=(J a1.To)) hH4 hl rfl rfl rfl rfl rfl rfl rfl rfl rfl (lt_b rfl) (le_b rfl) rfl ?_
 intro w5 s6 h7 h8 hH9
 change HS [] true s s6 (([⟨some b2,[(J a1.To),(J 0),(str ([]:List UInt8))],w5⟩]:List BX)++List.flatten ([]:List (List BX))) at hH9
 refine ns<|q (eptr [(J a1.To),(J a1.Put),(str a1.Out)] 1) ?_
 refine lE (J a1.Put) ?_
 refine q (ptr b2 1)<|stE (i:=0) (v:=(J a1.Put)) hH9 hl rfl rfl rfl rfl rfl rfl rfl rfl rfl (lt_b rfl) (le_b rfl) rfl ?_
 intro w10 s11 h12 h13 hH14
 change HS [] true s s11 (([⟨some b2,[(J a1.To),(J a1.Put),(str ([]:List UInt8))],w10⟩]:List BX)++List.flatten ([]:List (List BX))) at hH14
 refine ns<|q (eptr [(J a1.To),(J a1.Put),(str a1.Out)] 2) ?_
 refine lE (str a1.Out) ?_
 refine q (ptr b2 2)<|stE (i:=0) (v:=(str a1.Out)) hH14 hl rfl rfl rfl rfl rfl rfl rfl rfl rfl (lt_b rfl) (le_b rfl) rfl ?_
 intro w15 s16 h17 h18 hH19
 change HS [] true s s16 (([⟨some b2,[(J a1.To),(J a1.Put),(str a1.Out)],w15⟩]:List BX)++List.flatten ([]:List (List BX))) at hH19
 refine ns<|ldB (i:=0) (v:=(agg [(J a1.To),(J a1.Put),(str a1.Out)])) hH19 rfl rfl rfl rfl rfl rfl rfl rfl rfl<|stP (v:=(agg [(J a1.To),(J a1.Put),(str a1.Out)])) rfl rfl rfl rfl rfl rfl rfl rfl rfl (lt_b rfl) rfl<|nl ?_
 cases h
 obtain ⟨Ls20,hG21,hH22⟩:=selEG hH19 hG0 [] []
 exact ret ⟨_,_,rfl,⟨Ls20,rfl,hH22,hG21⟩⟩
theorem laws_toOutPushS_K0_ok {a1:List OutPush} {z2:Nat} {f3:Bool} {e4:List AV} {s:St} (h5:LR rOutPush 3 a1 z2 e4) {r:(List OutPush)} (h:laws_toOutPushS_K0 a1=some r) (hs:WF s):ACall Cf 73 [(sl z2 f3 e4)] s (fun v _ s'=>∃ (h1':AV) (k2':KT) (Ls':List (List BX)),v=h1'∧HS [] true s s' (([]:List BX)++Ls'.flatten)∧AllG [OS oE66 h1' k2' r] Ls'∧h1'.one=true) true:=by
 refine ACall.keepR rfl rfl rfl ?_
 have hH0:=HS.g0 (initK hs)
 have hG0:=AllG.nil
 have hl:LoOK [] true s:=LoOK.nil
 unfold laws_toOutPushS_K0 at h
 refine sr<|q (sl 0 true [])<|ns ?_
 refine q (sl z2 f3 e4)<|AOps.p rfl (len_eq h5) ?_
 obtain ⟨l6,h7,h⟩:=obind h
 refine mkO (e:=oE66) (x0:=((⟨0,0,([]:List UInt8)⟩:OutPush):OutPush)) (fun _=>AV.undef) hH0 hG0 rfl rfl rfl rfl rfl rfl rfl ⟨rfl,rfl,by decide⟩ h7 ⟨rfl,rfl⟩ (fun _=>⟨⟨(agg [(J 0),(J 0),(str ([]:List UInt8))]),⟨_,rfl,(.cons rfl (.cons rfl (.cons rfl .nil)))⟩,rfl⟩,rfl⟩) rfl ?_
 intro h8 k10 Ls11 s12 ho9 hG13 hH14
 refine aq h8<|nl ?_
 refine seq<|sr<|q (J 0)<|nl ?_
 refine meet (σ:=(List OutPush) × St × (List (List BX))) (fun (out15,s16,Ls17) tm os=>⟨updL tm [(3,h8)],updL os [],s16⟩) (fun (out15,s16,Ls17)=>(HS [] true s s16 (([]:List BX)++Ls17.flatten))∧(AllG [OS oE66 h8 k10 out15] Ls17)∧laws_toOutPushS_K0_J1 out15=some r) ?_ ?_
 ·rintro ⟨out15,s16,Ls17⟩ tm os ⟨hH18,hG19,h⟩
  unfold laws_toOutPushS_K0_J1 at h
  refine sr<|q h8 ?_
  refine aq h8<|nl ?_
  cases h
  exact ret ⟨_,_,rfl,⟨h8,k10,Ls17,rfl,hH18,hG19,ho9⟩⟩
 intro KJ20
 refine block<|res [(0,(sl z2 f3 e4)),(3,h8),(4,(J 0))] [] ⟨rfl,rfl,rfl,tv⟩ tv ?_
 refine loopF (σ:=(List OutPush) × Int) (τ:=St × (List (List BX))) (fun (out21,i22) (s23,Ls24)=>(HS [] true s s23 (([]:List BX)++Ls24.flatten))∧(AllG [OS oE66 h8 k10 out21] Ls24)) (fun (out21,i22) (s23,Ls24) tm os=>⟨updL tm [(0,(sl z2 f3 e4)),(3,h8),(4,(J i22))],updL os [],s23⟩) ?_ (x:=(l6,0)) (y:=(s12,Ls11)) h ⟨hH14,hG13⟩
 clear h
 rintro ⟨out21,i22⟩ ⟨s23,Ls24⟩ tm os ⟨hH25,hG26⟩ ee1 h hL1 hR1
 unfold laws_toOutPushS_K0_S1 at h
 dsimp only at h
 refine seq<|sr<|q (J i22) ?_
 refine q (sl z2 f3 e4)<|AOps.p rfl (len_eq h5) ?_
 refine q (bool (decide ((i22:Int)<(a1.length:Int))))<|nl ?_
 rcases oite h with ⟨hc27,h⟩ | ⟨hc27,h⟩
 ·refine cT hc27<|skip<|seq<|block<|region<|q h8 ?_
  refine q (J i22) ?_
  refine q (sl z2 f3 e4) ?_
  refine q (J i22) ?_
  obtain ⟨x28,h29,h⟩:=obind h
  obtain ⟨v32,h30,h31⟩:=idx_sl h5 h29
  obtain ⟨_,rfl,h33⟩:=h30
  obtain ⟨_,_,rfl,h34,h35⟩:=Cs_cons h33
  cases h34
  obtain ⟨_,_,rfl,h36,h37⟩:=Cs_cons h35
  cases h36
  obtain ⟨_,_,rfl,h38,h39⟩:=Cs_cons h37
  cases h38
  cases Cs_nil h39
  refine pureR rfl rfl rfl h31 rfl (rfl:_=(eptr [(J x28.To),(J x28.Put),(str x28.Out)] 0))<|lE (agg [(J x28.To),(J x28.Put),(str x28.Out)]) ?_
  obtain ⟨y40,h41,h⟩:=obind h
  have hP42:=pop0 hH25
  refine callF (al:=true) (g:=115) (args:=[(agg [(J x28.To),(J x28.Put),(str x28.Out)])]) rfl rfl rfl (laws_toOutPush_K0_ok   h41 (wf' hH25)) ?_
  rintro _ _ s43 ⟨Ls45,rfl,hH46,hG47⟩
  have hJ48:=joinK1 hP42 hH46
  cases hG47
  have hH49:=push0 hJ48
  obtain ⟨x52,h53,h⟩:=obind h
  refine idxO (j:=0) hG26 rfl Sub.here h53 rfl rfl rfl rfl rfl rfl rfl rfl rfl ?_
  intro b50 hb51
  refine stO (j:=0) (q:=0) (v:=(agg [(J y40.To),(J y40.Put),(str y40.Out)])) (y':=y40) hH49 hG26 hl rfl Sub.here h53 hb51 rfl rfl rfl rfl rfl rfl rfl rfl (lt_b rfl) (le_b rfl) rfl (fun c B hc=>oLeaf_set hc ⟨_,rfl,(.cons rfl (.cons rfl (.cons rfl .nil)))⟩) ?_
  intro Ls54 s55 hG56 hH57
  refine nl<|inBlock<|region<|q (J i22) ?_
  refine q (J (W (i22+1))) ?_
  refine aq (J (W (i22+1)))<|nl ?_
  cases h
  exact res [(0,(sl z2 f3 e4)),(3,h8),(4,(J (W (i22+1))))] [] ⟨rfl,rfl,rfl,tv⟩ tv (hL1 _ rfl (s55,Ls54) _ _ ⟨hH57,hG56⟩)
 refine cF hc27<|exit rfl ?_
 obtain ⟨r58,hm,hx⟩:=omap h
 clear h
 subst hx
 have hx:=hR1 _ rfl
 rw[hx] at hm
 have h:=hm
 exact res [(3,h8)] [] ⟨rfl,tv⟩ tv (KJ20 (out21,s23,Ls24) _ _ ⟨hH25,hG26,h⟩)
theorem laws_toOutPushSS_K0_ok {a1:List (List OutPush)} {z2:Nat} {f3:Bool} {e4:List AV} {s:St} (h5:LR (rL rOutPush 3) 1 a1 z2 e4) {r:(List (List OutPush))} (h:laws_toOutPushSS_K0 a1=some r) (hs:WF s):ACall Cf 26 [(sl z2 f3 e4)] s (fun v _ s'=>∃ (h1':AV) (k2':KT) (Ls':List (List BX)),v=h1'∧HS [] true s s' (([]:List BX)++Ls'.flatten)∧AllG [OS oE67 h1' k2' r] Ls'∧h1'.one=true) true:=by
 refine ACall.keepR rfl rfl rfl ?_
 have hH0:=HS.g0 (initK hs)
 have hG0:=AllG.nil
 have hl:LoOK [] true s:=LoOK.nil
 unfold laws_toOutPushSS_K0 at h
 refine sr<|q (sl 0 true [])<|ns ?_
 refine q (sl z2 f3 e4)<|AOps.p rfl (len_eq h5) ?_
 obtain ⟨l6,h7,h⟩:=obind h
 refine mkO (e:=oE67) (x0:=(([]:List OutPush):List OutPush)) (fun _=>sl 0 true []) hH0 hG0 rfl rfl rfl rfl rfl rfl rfl ⟨rfl,rfl,by decide⟩ h7 ⟨rfl,rfl⟩ (fun _=>⟨rfl,OS.nil (Or.inr rfl)⟩) rfl ?_
 intro h8 k10 Ls11 s12 ho9 hG13 hH14
 refine aq h8<|nl ?_
 refine seq<|sr<|q (J 0)<|nl ?_
 refine meet (σ:=(List (List OutPush)) × KT × St × (List (List BX))) (fun (out15,k16,s17,Ls18) tm os=>⟨updL tm [(3,h8)],updL os [],s17⟩) (fun (out15,k16,s17,Ls18)=>(HS [] true s s17 (([]:List BX)++Ls18.flatten))∧(AllG [OS oE67 h8 k16 out15] Ls18)∧laws_toOutPushSS_K0_J1 out15=some r) ?_ ?_
 ·rintro ⟨out15,k16,s17,Ls18⟩ tm os ⟨hH19,hG20,h⟩
  unfold laws_toOutPushSS_K0_J1 at h
  refine sr<|q h8 ?_
  refine aq h8<|nl ?_
  cases h
  exact ret ⟨_,_,rfl,⟨h8,k16,Ls18,rfl,hH19,hG20,ho9⟩⟩
 intro KJ21
 refine block<|res [(0,(sl z2 f3 e4)),(3,h8),(4,(J 0))] [] ⟨rfl,rfl,rfl,tv⟩ tv ?_
 refine loopF (σ:=(List (List OutPush)) × Int) (τ:=KT × St × (List (List BX))) (fun (out22,i24) (k23,s25,Ls26)=>(HS [] true s s25 (([]:List BX)++Ls26.flatten))∧(AllG [OS oE67 h8 k23 out22] Ls26)) (fun (out22,i24) (k23,s25,Ls26) tm os=>⟨updL tm [(0,(sl z2 f3 e4)),(3,h8),(4,(J i24))],updL os [],s25⟩) ?_ (x:=(l6,0)) (y:=(k10,s12,Ls11)) h ⟨hH14,hG13⟩
 clear h
 rintro ⟨out22,i24⟩ ⟨k23,s25,Ls26⟩ tm os ⟨hH27,hG28⟩ ee1 h hL1 hR1
 unfold laws_toOutPushSS_K0_S1 at h
 dsimp only at h
 refine seq<|sr<|q (J i24) ?_
 refine q (sl z2 f3 e4)<|AOps.p rfl (len_eq h5) ?_
 refine q (bool (decide ((i24:Int)<(a1.length:Int))))<|nl ?_
 rcases oite h with ⟨hc29,h⟩ | ⟨hc29,h⟩
 ·refine cT hc29<|skip<|seq<|block<|region<|q h8 ?_
  refine q (J i24) ?_
  refine q (sl z2 f3 e4) ?_
  refine q (J i24) ?_
  obtain ⟨x30,h31,h⟩:=obind h
  obtain ⟨v34,h32,h33⟩:=idx_sl h5 h31
  obtain ⟨z35,f36,e37,rfl,h38⟩:=h32
  refine pureR rfl rfl rfl h33 rfl (rfl:_=(eptr [(sl z35 f36 e37)] 0))<|lE (sl z35 f36 e37) ?_
  obtain ⟨y39,h40,h⟩:=obind h
  have hP44:=pop0 hH27
  refine callF (al:=true) (g:=73) (args:=[(sl z35 f36 e37)]) rfl rfl rfl (laws_toOutPushS_K0_ok h38  h40 (wf' hH27)) ?_
  rintro h41 _ s45 ⟨_,k42,Ls47,rfl,hH48,hG49,ho43⟩
  have hJ50:=joinK1 hP44 hH48
  obtain ⟨Ls51,Lf52,hG53,hF54,hP55⟩:=pushN hJ50 hG28 hG49
  cases hF54
  have hH56:=push0 hP55
  obtain ⟨x59,h60,h⟩:=obind h
  refine idxO (j:=1) hG53 rfl Sub.here h60 rfl rfl rfl rfl rfl rfl rfl rfl rfl ?_
  intro b57 hb58
  refine AOps.stH (j:=1) (j2:=0) (q:=0) (y':=y39) hH56 hG53 hl rfl rfl (by decide) h60 hb58 rfl rfl rfl rfl rfl rfl rfl (le_b rfl) rfl (fun ρ=>match ρ with | []=>h41 | a::ρ=>k42 (a::ρ)) (fun c B L2 hc hO=>by obtain ⟨rfl,_⟩:=hc; exact OS.own hO) ?_
  intro k61 Ls62 s63 hG64 hH65
  refine nl<|inBlock<|region<|q (J i24) ?_
  refine q (J (W (i24+1))) ?_
  refine aq (J (W (i24+1)))<|nl ?_
  cases h
  obtain ⟨Ls66,hG67,hH68⟩:=selEG hH65 hG64 [] [some 1]
  exact res [(0,(sl z2 f3 e4)),(3,h8),(4,(J (W (i24+1))))] [] ⟨rfl,rfl,rfl,tv⟩ tv (hL1 _ rfl (k61,s63,Ls66) _ _ ⟨hH68,hG67⟩)
 refine cF hc29<|exit rfl ?_
 obtain ⟨r69,hm,hx⟩:=omap h
 clear h
 subst hx
 have hx:=hR1 _ rfl
 rw[hx] at hm
 have h:=hm
 exact res [(3,h8)] [] ⟨rfl,tv⟩ tv (KJ21 (out22,k23,s25,Ls26) _ _ ⟨hH27,hG28,h⟩)
theorem laws_toOutMove_K0_ok {a1 r:OutMove} {s:St} (h:laws_toOutMove_K0 a1=some r) (hs:WF s):ACall Cf 116 [(agg [(J a1.To),(str a1.Out)])] s (fun v _ s'=>∃ (Ls':List (List BX)),v=(agg [(J r.To),(str r.Out)])∧HS [] true s s' (([]:List BX)++Ls'.flatten)∧AllG [] Ls') true:=by
 refine ACall.keepR rfl rfl rfl ?_
 have hH0:=HS.g0 (initK hs)
 have hG0:=AllG.nil
 have hl:LoOK [] true s:=LoOK.nil
 unfold laws_toOutMove_K0 at h
 refine sr<|makeR rfl rfl rfl rfl rfl rfl (rfl:_=(eptr [(J a1.To),(str a1.Out)] 0))<|allocP rfl rfl rfl rfl ⟨rfl,rfl⟩ rfl<|ns ?_
 refine alloc1 hH0 rfl rfl rfl rfl rfl rfl ?_
 intro b2 s3 hH4
 change HS [] true s s3 (([⟨some b2,[(J 0),(str ([]:List UInt8))],(fun _=>false)⟩]:List BX)++List.flatten ([]:List (List BX))) at hH4
 refine ns<|q (eptr [(J a1.To),(str a1.Out)] 0) ?_
 refine lE (J a1.To) ?_
 refine q (ptr b2 0)<|stE (i:=0) (v:=(J a1.To)) hH4 hl rfl rfl rfl rfl rfl rfl rfl rfl rfl (lt_b rfl) (le_b rfl) rfl ?_
 intro w5 s6 h7 h8 hH9
 change HS [] true s s6 (([⟨some b2,[(J a1.To),(str ([]:List UInt8))],w5⟩]:List BX)++List.flatten ([]:List (List BX))) at hH9
 refine ns<|q (eptr [(J a1.To),(str a1.Out)] 1) ?_
 refine lE (str a1.Out) ?_
 refine q (ptr b2 1)<|stE (i:=0) (v:=(str a1.Out)) hH9 hl rfl rfl rfl rfl rfl rfl rfl rfl rfl (lt_b rfl) (le_b rfl) rfl ?_
 intro w10 s11 h12 h13 hH14
 change HS [] true s s11 (([⟨some b2,[(J a1.To),(str a1.Out)],w10⟩]:List BX)++List.flatten ([]:List (List BX))) at hH14
 refine ns<|ldB (i:=0) (v:=(agg [(J a1.To),(str a1.Out)])) hH14 rfl rfl rfl rfl rfl rfl rfl rfl rfl<|stP (v:=(agg [(J a1.To),(str a1.Out)])) rfl rfl rfl rfl rfl rfl rfl rfl rfl (lt_b rfl) rfl<|nl ?_
 cases h
 obtain ⟨Ls15,hG16,hH17⟩:=selEG hH14 hG0 [] []
 exact ret ⟨_,_,rfl,⟨Ls15,rfl,hH17,hG16⟩⟩
theorem laws_toOutMoveS_K0_ok {a1:List OutMove} {z2:Nat} {f3:Bool} {e4:List AV} {s:St} (h5:LR rOutMove 2 a1 z2 e4) {r:(List OutMove)} (h:laws_toOutMoveS_K0 a1=some r) (hs:WF s):ACall Cf 74 [(sl z2 f3 e4)] s (fun v _ s'=>∃ (h1':AV) (k2':KT) (Ls':List (List BX)),v=h1'∧HS [] true s s' (([]:List BX)++Ls'.flatten)∧AllG [OS oE73 h1' k2' r] Ls'∧h1'.one=true) true:=by
 refine ACall.keepR rfl rfl rfl ?_
 have hH0:=HS.g0 (initK hs)
 have hG0:=AllG.nil
 have hl:LoOK [] true s:=LoOK.nil
 unfold laws_toOutMoveS_K0 at h
 refine sr<|q (sl 0 true [])<|ns ?_
 refine q (sl z2 f3 e4)<|AOps.p rfl (len_eq h5) ?_
 obtain ⟨l6,h7,h⟩:=obind h
 refine mkO (e:=oE73) (x0:=((⟨0,([]:List UInt8)⟩:OutMove):OutMove)) (fun _=>AV.undef) hH0 hG0 rfl rfl rfl rfl rfl rfl rfl ⟨rfl,rfl,by decide⟩ h7 ⟨rfl,rfl⟩ (fun _=>⟨⟨(agg [(J 0),(str ([]:List UInt8))]),⟨_,rfl,(.cons rfl (.cons rfl .nil))⟩,rfl⟩,rfl⟩) rfl ?_
 intro h8 k10 Ls11 s12 ho9 hG13 hH14
 refine aq h8<|nl ?_
 refine seq<|sr<|q (J 0)<|nl ?_
 refine meet (σ:=(List OutMove) × St × (List (List BX))) (fun (out15,s16,Ls17) tm os=>⟨updL tm [(3,h8)],updL os [],s16⟩) (fun (out15,s16,Ls17)=>(HS [] true s s16 (([]:List BX)++Ls17.flatten))∧(AllG [OS oE73 h8 k10 out15] Ls17)∧laws_toOutMoveS_K0_J1 out15=some r) ?_ ?_
 ·rintro ⟨out15,s16,Ls17⟩ tm os ⟨hH18,hG19,h⟩
  unfold laws_toOutMoveS_K0_J1 at h
  refine sr<|q h8 ?_
  refine aq h8<|nl ?_
  cases h
  exact ret ⟨_,_,rfl,⟨h8,k10,Ls17,rfl,hH18,hG19,ho9⟩⟩
 intro KJ20
 refine block<|res [(0,(sl z2 f3 e4)),(3,h8),(4,(J 0))] [] ⟨rfl,rfl,rfl,tv⟩ tv ?_
 refine loopF (σ:=(List OutMove) × Int) (τ:=St × (List (List BX))) (fun (out21,i22) (s23,Ls24)=>(HS [] true s s23 (([]:List BX)++Ls24.flatten))∧(AllG [OS oE73 h8 k10 out21] Ls24)) (fun (out21,i22) (s23,Ls24) tm os=>⟨updL tm [(0,(sl z2 f3 e4)),(3,h8),(4,(J i22))],updL os [],s23⟩) ?_ (x:=(l6,0)) (y:=(s12,Ls11)) h ⟨hH14,hG13⟩
 clear h
 rintro ⟨out21,i22⟩ ⟨s23,Ls24⟩ tm os ⟨hH25,hG26⟩ ee1 h hL1 hR1
 unfold laws_toOutMoveS_K0_S1 at h
 dsimp only at h
 refine seq<|sr<|q (J i22) ?_
 refine q (sl z2 f3 e4)<|AOps.p rfl (len_eq h5) ?_
 refine q (bool (decide ((i22:Int)<(a1.length:Int))))<|nl ?_
 rcases oite h with ⟨hc27,h⟩ | ⟨hc27,h⟩
 ·refine cT hc27<|skip<|seq<|block<|region<|q h8 ?_
  refine q (J i22) ?_
  refine q (sl z2 f3 e4) ?_
  refine q (J i22) ?_
  obtain ⟨x28,h29,h⟩:=obind h
  obtain ⟨v32,h30,h31⟩:=idx_sl h5 h29
  obtain ⟨_,rfl,h33⟩:=h30
  obtain ⟨_,_,rfl,h34,h35⟩:=Cs_cons h33
  cases h34
  obtain ⟨_,_,rfl,h36,h37⟩:=Cs_cons h35
  cases h36
  cases Cs_nil h37
  refine pureR rfl rfl rfl h31 rfl (rfl:_=(eptr [(J x28.To),(str x28.Out)] 0))<|lE (agg [(J x28.To),(str x28.Out)]) ?_
  obtain ⟨y38,h39,h⟩:=obind h
  have hP40:=pop0 hH25
  refine callF (al:=true) (g:=116) (args:=[(agg [(J x28.To),(str x28.Out)])]) rfl rfl rfl (laws_toOutMove_K0_ok   h39 (wf' hH25)) ?_
  rintro _ _ s41 ⟨Ls43,rfl,hH44,hG45⟩
  have hJ46:=joinK1 hP40 hH44
  cases hG45
  have hH47:=push0 hJ46
  obtain ⟨x50,h51,h⟩:=obind h
  refine idxO (j:=0) hG26 rfl Sub.here h51 rfl rfl rfl rfl rfl rfl rfl rfl rfl ?_
  intro b48 hb49
  refine stO (j:=0) (q:=0) (v:=(agg [(J y38.To),(str y38.Out)])) (y':=y38) hH47 hG26 hl rfl Sub.here h51 hb49 rfl rfl rfl rfl rfl rfl rfl rfl (lt_b rfl) (le_b rfl) rfl (fun c B hc=>oLeaf_set hc ⟨_,rfl,(.cons rfl (.cons rfl .nil))⟩) ?_
  intro Ls52 s53 hG54 hH55
  refine nl<|inBlock<|region<|q (J i22) ?_
  refine q (J (W (i22+1))) ?_
  refine aq (J (W (i22+1)))<|nl ?_
  cases h
  exact res [(0,(sl z2 f3 e4)),(3,h8),(4,(J (W (i22+1))))] [] ⟨rfl,rfl,rfl,tv⟩ tv (hL1 _ rfl (s53,Ls52) _ _ ⟨hH55,hG54⟩)
 refine cF hc27<|exit rfl ?_
 obtain ⟨r56,hm,hx⟩:=omap h
 clear h
 subst hx
 have hx:=hR1 _ rfl
 rw[hx] at hm
 have h:=hm
 exact res [(3,h8)] [] ⟨rfl,tv⟩ tv (KJ20 (out21,s23,Ls24) _ _ ⟨hH25,hG26,h⟩)
theorem laws_toOutMoveSS_K0_ok {a1:List (List OutMove)} {z2:Nat} {f3:Bool} {e4:List AV} {s:St} (h5:LR (rL rOutMove 2) 1 a1 z2 e4) {r:(List (List OutMove))} (h:laws_toOutMoveSS_K0 a1=some r) (hs:WF s):ACall Cf 28 [(sl z2 f3 e4)] s (fun v _ s'=>∃ (h1':AV) (k2':KT) (Ls':List (List BX)),v=h1'∧HS [] true s s' (([]:List BX)++Ls'.flatten)∧AllG [OS oE74 h1' k2' r] Ls'∧h1'.one=true) true:=by
 refine ACall.keepR rfl rfl rfl ?_
 have hH0:=HS.g0 (initK hs)
 have hG0:=AllG.nil
 have hl:LoOK [] true s:=LoOK.nil
 unfold laws_toOutMoveSS_K0 at h
 refine sr<|q (sl 0 true [])<|ns ?_
 refine q (sl z2 f3 e4)<|AOps.p rfl (len_eq h5) ?_
 obtain ⟨l6,h7,h⟩:=obind h
 refine mkO (e:=oE74) (x0:=(([]:List OutMove):List OutMove)) (fun _=>sl 0 true []) hH0 hG0 rfl rfl rfl rfl rfl rfl rfl ⟨rfl,rfl,by decide⟩ h7 ⟨rfl,rfl⟩ (fun _=>⟨rfl,OS.nil (Or.inr rfl)⟩) rfl ?_
 intro h8 k10 Ls11 s12 ho9 hG13 hH14
 refine aq h8<|nl ?_
 refine seq<|sr<|q (J 0)<|nl ?_
 refine meet (σ:=(List (List OutMove)) × KT × St × (List (List BX))) (fun (out15,k16,s17,Ls18) tm os=>⟨updL tm [(3,h8)],updL os [],s17⟩) (fun (out15,k16,s17,Ls18)=>(HS [] true s s17 (([]:List BX)++Ls18.flatten))∧(AllG [OS oE74 h8 k16 out15] Ls18)∧laws_toOutMoveSS_K0_J1 out15=some r) ?_ ?_
 ·rintro ⟨out15,k16,s17,Ls18⟩ tm os ⟨hH19,hG20,h⟩
  unfold laws_toOutMoveSS_K0_J1 at h
  refine sr<|q h8 ?_
  refine aq h8<|nl ?_
  cases h
  exact ret ⟨_,_,rfl,⟨h8,k16,Ls18,rfl,hH19,hG20,ho9⟩⟩
 intro KJ21
 refine block<|res [(0,(sl z2 f3 e4)),(3,h8),(4,(J 0))] [] ⟨rfl,rfl,rfl,tv⟩ tv ?_
 refine loopF (σ:=(List (List OutMove)) × Int) (τ:=KT × St × (List (List BX))) (fun (out22,i24) (k23,s25,Ls26)=>(HS [] true s s25 (([]:List BX)++Ls26.flatten))∧(AllG [OS oE74 h8 k23 out22] Ls26)) (fun (out22,i24) (k23,s25,Ls26) tm os=>⟨updL tm [(0,(sl z2 f3 e4)),(3,h8),(4,(J i24))],updL os [],s25⟩) ?_ (x:=(l6,0)) (y:=(k10,s12,Ls11)) h ⟨hH14,hG13⟩
 clear h
 rintro ⟨out22,i24⟩ ⟨k23,s25,Ls26⟩ tm os ⟨hH27,hG28⟩ ee1 h hL1 hR1
 unfold laws_toOutMoveSS_K0_S1 at h
 dsimp only at h
 refine seq<|sr<|q (J i24) ?_
 refine q (sl z2 f3 e4)<|AOps.p rfl (len_eq h5) ?_
 refine q (bool (decide ((i24:Int)<(a1.length:Int))))<|nl ?_
 rcases oite h with ⟨hc29,h⟩ | ⟨hc29,h⟩
 ·refine cT hc29<|skip<|seq<|block<|region<|q h8 ?_
  refine q (J i24) ?_
  refine q (sl z2 f3 e4) ?_
  refine q (J i24) ?_
  obtain ⟨x30,h31,h⟩:=obind h
  obtain ⟨v34,h32,h33⟩:=idx_sl h5 h31
  obtain ⟨z35,f36,e37,rfl,h38⟩:=h32
  refine pureR rfl rfl rfl h33 rfl (rfl:_=(eptr [(sl z35 f36 e37)] 0))<|lE (sl z35 f36 e37) ?_
  obtain ⟨y39,h40,h⟩:=obind h
  have hP44:=pop0 hH27
  refine callF (al:=true) (g:=74) (args:=[(sl z35 f36 e37)]) rfl rfl rfl (laws_toOutMoveS_K0_ok h38  h40 (wf' hH27)) ?_
  rintro h41 _ s45 ⟨_,k42,Ls47,rfl,hH48,hG49,ho43⟩
  have hJ50:=joinK1 hP44 hH48
  obtain ⟨Ls51,Lf52,hG53,hF54,hP55⟩:=pushN hJ50 hG28 hG49
  cases hF54
  have hH56:=push0 hP55
  obtain ⟨x59,h60,h⟩:=obind h
  refine idxO (j:=1) hG53 rfl Sub.here h60 rfl rfl rfl rfl rfl rfl rfl rfl rfl ?_
  intro b57 hb58
  refine AOps.stH (j:=1) (j2:=0) (q:=0) (y':=y39) hH56 hG53 hl rfl rfl (by decide) h60 hb58 rfl rfl rfl rfl rfl rfl rfl (le_b rfl) rfl (fun ρ=>match ρ with | []=>h41 | a::ρ=>k42 (a::ρ)) (fun c B L2 hc hO=>by obtain ⟨rfl,_⟩:=hc; exact OS.own hO) ?_
  intro k61 Ls62 s63 hG64 hH65
  refine nl<|inBlock<|region<|q (J i24) ?_
  refine q (J (W (i24+1))) ?_
  refine aq (J (W (i24+1)))<|nl ?_
  cases h
  obtain ⟨Ls66,hG67,hH68⟩:=selEG hH65 hG64 [] [some 1]
  exact res [(0,(sl z2 f3 e4)),(3,h8),(4,(J (W (i24+1))))] [] ⟨rfl,rfl,rfl,tv⟩ tv (hL1 _ rfl (k61,s63,Ls66) _ _ ⟨hH68,hG67⟩)
 refine cF hc29<|exit rfl ?_
 obtain ⟨r69,hm,hx⟩:=omap h
 clear h
 subst hx
 have hx:=hR1 _ rfl
 rw[hx] at hm
 have h:=hm
 exact res [(3,h8)] [] ⟨rfl,tv⟩ tv (KJ21 (out22,k23,s25,Ls26) _ _ ⟨hH27,hG28,h⟩)
theorem laws_toOutMoveSSS_K0_ok {a1:List (List (List OutMove))} {z2:Nat} {f3:Bool} {e4:List AV} {s:St} (h5:LR (rL (rL rOutMove 2) 1) 1 a1 z2 e4) {r:(List (List (List OutMove)))} (h:laws_toOutMoveSSS_K0 a1=some r) (hs:WF s):ACall Cf 27 [(sl z2 f3 e4)] s (fun v _ s'=>∃ (h1':AV) (k2':KT) (Ls':List (List BX)),v=h1'∧HS [] true s s' (([]:List BX)++Ls'.flatten)∧AllG [OS oE42 h1' k2' r] Ls'∧h1'.one=true) true:=by
 refine ACall.keepR rfl rfl rfl ?_
 have hH0:=HS.g0 (initK hs)
 have hG0:=AllG.nil
 have hl:LoOK [] true s:=LoOK.nil
 unfold laws_toOutMoveSSS_K0 at h
 refine sr<|q (sl 0 true [])<|ns ?_
 refine q (sl z2 f3 e4)<|AOps.p rfl (len_eq h5) ?_
 obtain ⟨l6,h7,h⟩:=obind h
 refine mkO (e:=oE42) (x0:=(([]:List (List OutMove)):List (List OutMove))) (fun _=>sl 0 true []) hH0 hG0 rfl rfl rfl rfl rfl rfl rfl ⟨rfl,rfl,by decide⟩ h7 ⟨rfl,rfl⟩ (fun _=>⟨rfl,OS.nil (Or.inr rfl)⟩) rfl ?_
 intro h8 k10 Ls11 s12 ho9 hG13 hH14
 refine aq h8<|nl ?_
 refine seq<|sr<|q (J 0)<|nl ?_
 refine meet (σ:=(List (List (List OutMove))) × KT × St × (List (List BX))) (fun (out15,k16,s17,Ls18) tm os=>⟨updL tm [(3,h8)],updL os [],s17⟩) (fun (out15,k16,s17,Ls18)=>(HS [] true s s17 (([]:List BX)++Ls18.flatten))∧(AllG [OS oE42 h8 k16 out15] Ls18)∧laws_toOutMoveSSS_K0_J1 out15=some r) ?_ ?_
 ·rintro ⟨out15,k16,s17,Ls18⟩ tm os ⟨hH19,hG20,h⟩
  unfold laws_toOutMoveSSS_K0_J1 at h
  refine sr<|q h8 ?_
  refine aq h8<|nl ?_
  cases h
  exact ret ⟨_,_,rfl,⟨h8,k16,Ls18,rfl,hH19,hG20,ho9⟩⟩
 intro KJ21
 refine block<|res [(0,(sl z2 f3 e4)),(3,h8),(4,(J 0))] [] ⟨rfl,rfl,rfl,tv⟩ tv ?_
 refine loopF (σ:=(List (List (List OutMove))) × Int) (τ:=KT × St × (List (List BX))) (fun (out22,i24) (k23,s25,Ls26)=>(HS [] true s s25 (([]:List BX)++Ls26.flatten))∧(AllG [OS oE42 h8 k23 out22] Ls26)) (fun (out22,i24) (k23,s25,Ls26) tm os=>⟨updL tm [(0,(sl z2 f3 e4)),(3,h8),(4,(J i24))],updL os [],s25⟩) ?_ (x:=(l6,0)) (y:=(k10,s12,Ls11)) h ⟨hH14,hG13⟩
 clear h
 rintro ⟨out22,i24⟩ ⟨k23,s25,Ls26⟩ tm os ⟨hH27,hG28⟩ ee1 h hL1 hR1
 unfold laws_toOutMoveSSS_K0_S1 at h
 dsimp only at h
 refine seq<|sr<|q (J i24) ?_
 refine q (sl z2 f3 e4)<|AOps.p rfl (len_eq h5) ?_
 refine q (bool (decide ((i24:Int)<(a1.length:Int))))<|nl ?_
 rcases oite h with ⟨hc29,h⟩ | ⟨hc29,h⟩
 ·refine cT hc29<|skip<|seq<|block<|region<|q h8 ?_
  refine q (J i24) ?_
  refine q (sl z2 f3 e4) ?_
  refine q (J i24) ?_
  obtain ⟨x30,h31,h⟩:=obind h
  obtain ⟨v34,h32,h33⟩:=idx_sl h5 h31
  obtain ⟨z35,f36,e37,rfl,h38⟩:=h32
  refine pureR rfl rfl rfl h33 rfl (rfl:_=(eptr [(sl z35 f36 e37)] 0))<|lE (sl z35 f36 e37) ?_
  obtain ⟨y39,h40,h⟩:=obind h
  have hP44:=pop0 hH27
  refine callF (al:=true) (g:=28) (args:=[(sl z35 f36 e37)]) rfl rfl rfl (laws_toOutMoveSS_K0_ok h38  h40 (wf' hH27)) ?_
  rintro h41 _ s45 ⟨_,k42,Ls47,rfl,hH48,hG49,ho43⟩
  have hJ50:=joinK1 hP44 hH48
  obtain ⟨Ls51,Lf52,hG53,hF54,hP55⟩:=pushN hJ50 hG28 hG49
  cases hF54
  have hH56:=push0 hP55
  obtain ⟨x59,h60,h⟩:=obind h
  refine idxO (j:=1) hG53 rfl Sub.here h60 rfl rfl rfl rfl rfl rfl rfl rfl rfl ?_
  intro b57 hb58
  refine AOps.stH (j:=1) (j2:=0) (q:=0) (y':=y39) hH56 hG53 hl rfl rfl (by decide) h60 hb58 rfl rfl rfl rfl rfl rfl rfl (le_b rfl) rfl (fun ρ=>match ρ with | []=>h41 | a::ρ=>k42 (a::ρ)) (fun c B L2 hc hO=>by obtain ⟨rfl,_⟩:=hc; exact OS.own hO) ?_
  intro k61 Ls62 s63 hG64 hH65
  refine nl<|inBlock<|region<|q (J i24) ?_
  refine q (J (W (i24+1))) ?_
  refine aq (J (W (i24+1)))<|nl ?_
  cases h
  obtain ⟨Ls66,hG67,hH68⟩:=selEG hH65 hG64 [] [some 1]
  exact res [(0,(sl z2 f3 e4)),(3,h8),(4,(J (W (i24+1))))] [] ⟨rfl,rfl,rfl,tv⟩ tv (hL1 _ rfl (k61,s63,Ls66) _ _ ⟨hH68,hG67⟩)
 refine cF hc29<|exit rfl ?_
 obtain ⟨r69,hm,hx⟩:=omap h
 clear h
 subst hx
 have hx:=hR1 _ rfl
 rw[hx] at hm
 have h:=hm
 exact res [(3,h8)] [] ⟨rfl,tv⟩ tv (KJ21 (out22,k23,s25,Ls26) _ _ ⟨hH27,hG28,h⟩)
theorem laws_toRewriter_K0_ok {a1:Rewriter} {z2 z6 z10:Nat} {f3 f7 f11:Bool} {e4 e8 e12:List AV} {s:St} (h5:LR (rL rOutPush 3) 1 a1.Call z2 e4) (h9:LR (rL (rL rOutMove 2) 1) 1 a1.Return z6 e8) (h13:LR (rL rOutMove 2) 1 a1.Inner z10 e12) {r:Rewriter} (h:laws_toRewriter_K0 a1=some r) (hs:WF s):ACall Cf 7 [(agg [(J a1.Stack),(J a1.Start),(sl z2 f3 e4),(sl z6 f7 e8),(sl z10 f11 e12)])] s (fun v _ s'=>∃ (h1':AV) (k2':KT) (h4':AV) (k5':KT) (h7':AV) (k8':KT) (Ls':List (List BX)),v=(agg [(J r.Stack),(J r.Start),h1',h4',h7'])∧HS [] true s s' (([]:List BX)++Ls'.flatten)∧AllG [OS oE67 h1' k2' r.Call,OS oE42 h4' k5' r.Return,OS oE74 h7' k8' r.Inner] Ls'∧h1'.one=true∧h4'.one=true∧h7'.one=true) true:=by
 refine ACall.keepR rfl rfl rfl ?_
 have hH0:=HS.g0 (initK hs)
 have hG0:=AllG.nil
 have hl:LoOK [] true s:=LoOK.nil
 unfold laws_toRewriter_K0 at h
 refine sr<|makeR rfl rfl rfl rfl rfl rfl (rfl:_=(eptr [(J a1.Stack),(J a1.Start),(sl z2 f3 e4),(sl z6 f7 e8),(sl z10 f11 e12)] 0))<|allocP rfl rfl rfl rfl ⟨rfl,rfl⟩ rfl<|ns ?_
 refine alloc1 hH0 rfl rfl rfl rfl rfl rfl ?_
 intro b14 s15 hH16
 change HS [] true s s15 (([⟨some b14,[(J 0),(J 0),(sl 0 true []),(sl 0 true []),(sl 0 true [])],(fun _=>false)⟩]:List BX)++List.flatten ([]:List (List BX))) at hH16
 refine ns<|q (eptr [(J a1.Stack),(J a1.Start),(sl z2 f3 e4),(sl z6 f7 e8),(sl z10 f11 e12)] 0) ?_
 refine lE (J a1.Stack) ?_
 refine q (ptr b14 0)<|stE (i:=0) (v:=(J a1.Stack)) hH16 hl rfl rfl rfl rfl rfl rfl rfl rfl rfl (lt_b rfl) (le_b rfl) rfl ?_
 intro w17 s18 h19 h20 hH21
 change HS [] true s s18 (([⟨some b14,[(J a1.Stack),(J 0),(sl 0 true []),(sl 0 true []),(sl 0 true [])],w17⟩]:List BX)++List.flatten ([]:List (List BX))) at hH21
 refine ns<|q (eptr [(J a1.Stack),(J a1.Start),(sl z2 f3 e4),(sl z6 f7 e8),(sl z10 f11 e12)] 1) ?_
 refine lE (J a1.Start) ?_
 refine q (ptr b14 1)<|stE (i:=0) (v:=(J a1.Start)) hH21 hl rfl rfl rfl rfl rfl rfl rfl rfl rfl (lt_b rfl) (le_b rfl) rfl ?_
 intro w22 s23 h24 h25 hH26
 change HS [] true s s23 (([⟨some b14,[(J a1.Stack),(J a1.Start),(sl 0 true []),(sl 0 true []),(sl 0 true [])],w22⟩]:List BX)++List.flatten ([]:List (List BX))) at hH26
 refine ns<|q (eptr [(J a1.Stack),(J a1.Start),(sl z2 f3 e4),(sl z6 f7 e8),(sl z10 f11 e12)] 2) ?_
 refine lE (sl z2 f3 e4) ?_
 obtain ⟨y27,h28,h⟩:=obind h
 have hP32:=pop0 hH26
 refine callF (al:=true) (g:=26) (args:=[(sl z2 f3 e4)]) rfl rfl rfl (laws_toOutPushSS_K0_ok h5  h28 (wf' hH26)) ?_
 rintro h29 _ s33 ⟨_,k30,Ls35,rfl,hH36,hG37,ho31⟩
 have hJ38:=joinK1 hP32 hH36
 obtain ⟨Ls39,Lf40,hG41,hF42,hP43⟩:=pushN hJ38 hG0 hG37
 cases hF42
 have hH44:=push0 hP43
 change HS [] true s s33 (([⟨some b14,[(J a1.Stack),(J a1.Start),(sl 0 true []),(sl 0 true []),(sl 0 true [])],w22⟩]:List BX)++Ls39.flatten) at hH44
 change AllG [OS oE67 h29 k30 y27] Ls39 at hG41
 refine q (ptr b14 2)<|stE (i:=0) (v:=h29) hH44 hl rfl rfl rfl rfl rfl rfl rfl (one_lay ho31) (one_len ho31) (lt_b rfl) (le_b rfl) rfl ?_
 intro w45 s46 h47 h48 hH49
 rw[AV.cells_one ho31] at hH49
 change HS [] true s s46 (([⟨some b14,[(J a1.Stack),(J a1.Start),h29,(sl 0 true []),(sl 0 true [])],w45⟩]:List BX)++Ls39.flatten) at hH49
 refine ns<|q (eptr [(J a1.Stack),(J a1.Start),(sl z2 f3 e4),(sl z6 f7 e8),(sl z10 f11 e12)] 3) ?_
 refine lE (sl z6 f7 e8) ?_
 obtain ⟨y50,h51,h⟩:=obind h
 have hP55:=pop0 hH49
 refine callF (al:=true) (g:=27) (args:=[(sl z6 f7 e8)]) rfl rfl rfl (laws_toOutMoveSSS_K0_ok h9  h51 (wf' hH49)) ?_
 rintro h52 _ s56 ⟨_,k53,Ls58,rfl,hH59,hG60,ho54⟩
 have hJ61:=joinK1 hP55 hH59
 obtain ⟨Ls62,Lf63,hG64,hF65,hP66⟩:=pushN hJ61 hG41 hG60
 cases hF65
 have hH67:=push0 hP66
 change HS [] true s s56 (([⟨some b14,[(J a1.Stack),(J a1.Start),h29,(sl 0 true []),(sl 0 true [])],w45⟩]:List BX)++Ls62.flatten) at hH67
 change AllG [OS oE42 h52 k53 y50,OS oE67 h29 k30 y27] Ls62 at hG64
 refine q (ptr b14 3)<|stE (i:=0) (v:=h52) hH67 hl rfl rfl rfl rfl rfl rfl rfl (one_lay ho54) (one_len ho54) (lt_b rfl) (le_b rfl) rfl ?_
 intro w68 s69 h70 h71 hH72
 rw[AV.cells_one ho54] at hH72
 change HS [] true s s69 (([⟨some b14,[(J a1.Stack),(J a1.Start),h29,h52,(sl 0 true [])],w68⟩]:List BX)++Ls62.flatten) at hH72
 refine ns<|q (eptr [(J a1.Stack),(J a1.Start),(sl z2 f3 e4),(sl z6 f7 e8),(sl z10 f11 e12)] 4) ?_
 refine lE (sl z10 f11 e12) ?_
 obtain ⟨y73,h74,h⟩:=obind h
 have hP78:=pop0 hH72
 refine callF (al:=true) (g:=28) (args:=[(sl z10 f11 e12)]) rfl rfl rfl (laws_toOutMoveSS_K0_ok h13  h74 (wf' hH72)) ?_
 rintro h75 _ s79 ⟨_,k76,Ls81,rfl,hH82,hG83,ho77⟩
 have hJ84:=joinK1 hP78 hH82
 obtain ⟨Ls85,Lf86,hG87,hF88,hP89⟩:=pushN hJ84 hG64 hG83
 cases hF88
 have hH90:=push0 hP89
 change HS [] true s s79 (([⟨some b14,[(J a1.Stack),(J a1.Start),h29,h52,(sl 0 true [])],w68⟩]:List BX)++Ls85.flatten) at hH90
 change AllG [OS oE74 h75 k76 y73,OS oE42 h52 k53 y50,OS oE67 h29 k30 y27] Ls85 at hG87
 refine q (ptr b14 4)<|stE (i:=0) (v:=h75) hH90 hl rfl rfl rfl rfl rfl rfl rfl (one_lay ho77) (one_len ho77) (lt_b rfl) (le_b rfl) rfl ?_
 intro w91 s92 h93 h94 hH95
 rw[AV.cells_one ho77] at hH95
 change HS [] true s s92 (([⟨some b14,[(J a1.Stack),(J a1.Start),h29,h52,h75],w91⟩]:List BX)++Ls85.flatten) at hH95
 refine ns<|ldB (i:=0) (v:=(agg [(J a1.Stack),(J a1.Start),h29,h52,h75])) hH95 rfl rfl rfl rfl rfl rfl rfl rfl rfl<|stP (v:=(agg [(J a1.Stack),(J a1.Start),h29,h52,h75])) rfl rfl rfl rfl rfl rfl rfl (lay_cons rfl (lay_cons rfl (lay_cons ho31 (lay_cons ho54 (lay_cons ho77 lay_nil))))) rfl (lt_b rfl) rfl<|nl ?_
 cases h
 obtain ⟨Ls96,hG97,hH98⟩:=selEG hH95 hG87 [] [some 2,some 1,some 0]
 exact ret ⟨_,_,rfl,⟨h29,k30,h52,k53,h75,k76,Ls96,rfl,hH98,hG97,ho31,ho54,ho77⟩⟩
theorem laws_toBoolS_K0_ok {a1:List Bool} {z2:Nat} {f3:Bool} {e4:List AV} {s:St} (h5:LR rB 1 a1 z2 e4) {r:(List Bool)} (h:laws_toBoolS_K0 a1=some r) (hs:WF s):ACall Cf 29 [(sl z2 f3 e4)] s (fun v _ s'=>∃ (h1':AV) (k2':KT) (Ls':List (List BX)),v=h1'∧HS [] true s s' (([]:List BX)++Ls'.flatten)∧AllG [OS oE4 h1' k2' r] Ls'∧h1'.one=true) true:=by
 refine ACall.keepR rfl rfl rfl ?_
 have hH0:=HS.g0 (initK hs)
 have hG0:=AllG.nil
 have hl:LoOK [] true s:=LoOK.nil
 unfold laws_toBoolS_K0 at h
 refine sr<|q (sl 0 true [])<|ns ?_
 refine q (sl z2 f3 e4)<|AOps.p rfl (len_eq h5) ?_
 obtain ⟨l6,h7,h⟩:=obind h
 refine mkO (e:=oE4) (x0:=(false:Bool)) (fun _=>AV.undef) hH0 hG0 rfl rfl rfl rfl rfl rfl rfl ⟨rfl,rfl,by decide⟩ h7 ⟨rfl,rfl⟩ (fun _=>⟨⟨(bool false),rfl,rfl⟩,rfl⟩) rfl ?_
 intro h8 k10 Ls11 s12 ho9 hG13 hH14
 refine aq h8<|nl ?_
 refine seq<|sr<|q (J 0)<|nl ?_
 refine meet (σ:=(List Bool) × St × (List (List BX))) (fun (out15,s16,Ls17) tm os=>⟨updL tm [(3,h8)],updL os [],s16⟩) (fun (out15,s16,Ls17)=>(HS [] true s s16 (([]:List BX)++Ls17.flatten))∧(AllG [OS oE4 h8 k10 out15] Ls17)∧laws_toBoolS_K0_J1 out15=some r) ?_ ?_
 ·rintro ⟨out15,s16,Ls17⟩ tm os ⟨hH18,hG19,h⟩
  unfold laws_toBoolS_K0_J1 at h
  refine sr<|q h8 ?_
  refine aq h8<|nl ?_
  cases h
  exact ret ⟨_,_,rfl,⟨h8,k10,Ls17,rfl,hH18,hG19,ho9⟩⟩
 intro KJ20
 refine block<|res [(0,(sl z2 f3 e4)),(3,h8),(4,(J 0))] [] ⟨rfl,rfl,rfl,tv⟩ tv ?_
 refine loopF (σ:=(List Bool) × Int) (τ:=St × (List (List BX))) (fun (out21,i22) (s23,Ls24)=>(HS [] true s s23 (([]:List BX)++Ls24.flatten))∧(AllG [OS oE4 h8 k10 out21] Ls24)) (fun (out21,i22) (s23,Ls24) tm os=>⟨updL tm [(0,(sl z2 f3 e4)),(3,h8),(4,(J i22))],updL os [],s23⟩) ?_ (x:=(l6,0)) (y:=(s12,Ls11)) h ⟨hH14,hG13⟩
 clear h
 rintro ⟨out21,i22⟩ ⟨s23,Ls24⟩ tm os ⟨hH25,hG26⟩ ee1 h hL1 hR1
 unfold laws_toBoolS_K0_S1 at h
 dsimp only at h
 refine seq<|sr<|q (J i22) ?_
 refine q (sl z2 f3 e4)<|AOps.p rfl (len_eq h5) ?_
 refine q (bool (decide ((i22:Int)<(a1.length:Int))))<|nl ?_
 rcases oite h with ⟨hc27,h⟩ | ⟨hc27,h⟩
 ·refine cT hc27<|skip<|seq<|block<|region<|q h8 ?_
  refine q (J i22) ?_
  refine q (sl z2 f3 e4) ?_
  refine q (J i22) ?_
  obtain ⟨x28,h29,h⟩:=obind h
  obtain ⟨v32,h30,h31⟩:=idx_sl h5 h29
  cases h30
  refine pureR rfl rfl rfl h31 rfl (rfl:_=(eptr [(bool x28)] 0))<|lE (bool x28) ?_
  obtain ⟨x35,h36,h⟩:=obind h
  refine idxO (j:=0) hG26 rfl Sub.here h36 rfl rfl rfl rfl rfl rfl rfl rfl rfl ?_
  intro b33 hb34
  refine stO (j:=0) (q:=0) (v:=(bool x28)) (y':=x28) hH25 hG26 hl rfl Sub.here h36 hb34 rfl rfl rfl rfl rfl rfl rfl rfl (lt_b rfl) (le_b rfl) rfl (fun c B hc=>oLeaf_set hc rfl) ?_
  intro Ls37 s38 hG39 hH40
  refine nl<|inBlock<|region<|q (J i22) ?_
  refine q (J (W (i22+1))) ?_
  refine aq (J (W (i22+1)))<|nl ?_
  cases h
  exact res [(0,(sl z2 f3 e4)),(3,h8),(4,(J (W (i22+1))))] [] ⟨rfl,rfl,rfl,tv⟩ tv (hL1 _ rfl (s38,Ls37) _ _ ⟨hH40,hG39⟩)
 refine cF hc27<|exit rfl ?_
 obtain ⟨r41,hm,hx⟩:=omap h
 clear h
 subst hx
 have hx:=hR1 _ rfl
 rw[hx] at hm
 have h:=hm
 exact res [(3,h8)] [] ⟨rfl,tv⟩ tv (KJ20 (out21,s23,Ls24) _ _ ⟨hH25,hG26,h⟩)
theorem laws_toPush_ok {a1 r:Push} {s:St} (h:laws_toPush a1=some r) (hs:WF s):ACall Cf 117 [(agg [(J a1.To),(J a1.Put)])] s fun v _ s'=>(rPush) r v∧s'=s:=by
 refine ACall.boxes rfl rfl rfl ?_
 have hH0:=HS.init hs
 unfold laws_toPush at h
 refine sr<|makeR rfl rfl rfl rfl rfl rfl (rfl:_=(eptr [(J a1.To),(J a1.Put)] 0))<|allocP rfl rfl rfl rfl ⟨rfl,rfl⟩ rfl<|ns ?_
 refine alloc1 hH0 rfl rfl rfl rfl rfl rfl ?_
 intro b2 s3 hH4
 refine ns<|q (eptr [(J a1.To),(J a1.Put)] 0) ?_
 refine lE (J a1.To) ?_
 refine q (ptr b2 0)<|stB (i:=0) (v:=(J a1.To)) hH4 rfl rfl rfl rfl rfl rfl rfl rfl rfl (lt_b rfl) (le_b rfl) rfl ?_
 intro w5 s6 h7 h8 hH9
 refine ns<|q (eptr [(J a1.To),(J a1.Put)] 1) ?_
 refine lE (J a1.Put) ?_
 refine q (ptr b2 1)<|stB (i:=0) (v:=(J a1.Put)) hH9 rfl rfl rfl rfl rfl rfl rfl rfl rfl (lt_b rfl) (le_b rfl) rfl ?_
 intro w10 s11 h12 h13 hH14
 refine ns<|ldB (i:=0) (v:=(agg [(J a1.To),(J a1.Put)])) hH14 rfl rfl rfl rfl rfl rfl rfl rfl rfl<|stP (v:=(agg [(J a1.To),(J a1.Put)])) rfl rfl rfl rfl rfl rfl rfl rfl rfl (lt_b rfl) rfl<|nl ?_
 cases h
 exact ret ⟨⟨_,hH14⟩,_,_,rfl,(Fin.of (p:=(rPush) (⟨a1.To,a1.Put⟩:Push)) (.A (.cons .I (.cons .I .nil))) (⟨_,rfl,(.cons rfl (.cons rfl .nil))⟩)).2⟩
theorem laws_toPushS_K0_ok {a1:List Push} {z2:Nat} {f3:Bool} {e4:List AV} {s:St} (h5:LR rPush 2 a1 z2 e4) {r:(List Push)} (h:laws_toPushS_K0 a1=some r) (hs:WF s):ACall Cf 75 [(sl z2 f3 e4)] s (fun v _ s'=>∃ (h1':AV) (k2':KT) (Ls':List (List BX)),v=h1'∧HS [] true s s' (([]:List BX)++Ls'.flatten)∧AllG [OS oE71 h1' k2' r] Ls'∧h1'.one=true) true:=by
 refine ACall.keepR rfl rfl rfl ?_
 have hH0:=HS.g0 (initK hs)
 have hG0:=AllG.nil
 have hl:LoOK [] true s:=LoOK.nil
 unfold laws_toPushS_K0 at h
 refine sr<|q (sl 0 true [])<|ns ?_
 refine q (sl z2 f3 e4)<|AOps.p rfl (len_eq h5) ?_
 obtain ⟨l6,h7,h⟩:=obind h
 refine mkO (e:=oE71) (x0:=((⟨0,0⟩:Push):Push)) (fun _=>AV.undef) hH0 hG0 rfl rfl rfl rfl rfl rfl rfl ⟨rfl,rfl,by decide⟩ h7 ⟨rfl,rfl⟩ (fun _=>⟨⟨(agg [(J 0),(J 0)]),⟨_,rfl,(.cons rfl (.cons rfl .nil))⟩,rfl⟩,rfl⟩) rfl ?_
 intro h8 k10 Ls11 s12 ho9 hG13 hH14
 refine aq h8<|nl ?_
 refine seq<|sr<|q (J 0)<|nl ?_
 refine meet (σ:=(List Push) × St × (List (List BX))) (fun (out15,s16,Ls17) tm os=>⟨updL tm [(3,h8)],updL os [],s16⟩) (fun (out15,s16,Ls17)=>(HS [] true s s16 (([]:List BX)++Ls17.flatten))∧(AllG [OS oE71 h8 k10 out15] Ls17)∧laws_toPushS_K0_J1 out15=some r) ?_ ?_
 ·rintro ⟨out15,s16,Ls17⟩ tm os ⟨hH18,hG19,h⟩
  unfold laws_toPushS_K0_J1 at h
  refine sr<|q h8 ?_
  refine aq h8<|nl ?_
  cases h
  exact ret ⟨_,_,rfl,⟨h8,k10,Ls17,rfl,hH18,hG19,ho9⟩⟩
 intro KJ20
 refine block<|res [(0,(sl z2 f3 e4)),(3,h8),(4,(J 0))] [] ⟨rfl,rfl,rfl,tv⟩ tv ?_
 refine loopF (σ:=(List Push) × Int) (τ:=St × (List (List BX))) (fun (out21,i22) (s23,Ls24)=>(HS [] true s s23 (([]:List BX)++Ls24.flatten))∧(AllG [OS oE71 h8 k10 out21] Ls24)) (fun (out21,i22) (s23,Ls24) tm os=>⟨updL tm [(0,(sl z2 f3 e4)),(3,h8),(4,(J i22))],updL os [],s23⟩) ?_ (x:=(l6,0)) (y:=(s12,Ls11)) h ⟨hH14,hG13⟩
 clear h
 rintro ⟨out21,i22⟩ ⟨s23,Ls24⟩ tm os ⟨hH25,hG26⟩ ee1 h hL1 hR1
 unfold laws_toPushS_K0_S1 at h
 dsimp only at h
 refine seq<|sr<|q (J i22) ?_
 refine q (sl z2 f3 e4)<|AOps.p rfl (len_eq h5) ?_
 refine q (bool (decide ((i22:Int)<(a1.length:Int))))<|nl ?_
 rcases oite h with ⟨hc27,h⟩ | ⟨hc27,h⟩
 ·refine cT hc27<|skip<|seq<|block<|region<|q h8 ?_
  refine q (J i22) ?_
  refine q (sl z2 f3 e4) ?_
  refine q (J i22) ?_
  obtain ⟨x28,h29,h⟩:=obind h
  obtain ⟨v32,h30,h31⟩:=idx_sl h5 h29
  obtain ⟨_,rfl,h33⟩:=h30
  obtain ⟨_,_,rfl,h34,h35⟩:=Cs_cons h33
  cases h34
  obtain ⟨_,_,rfl,h36,h37⟩:=Cs_cons h35
  cases h36
  cases Cs_nil h37
  refine pureR rfl rfl rfl h31 rfl (rfl:_=(eptr [(J x28.To),(J x28.Put)] 0))<|lE (agg [(J x28.To),(J x28.Put)]) ?_
  obtain ⟨y38,h39,h⟩:=obind h
  refine cP (laws_toPush_ok  h39 (wf' hH25)) ?_
  intro _ o46 h40
  obtain ⟨_,rfl,h41⟩:=h40
  obtain ⟨_,_,rfl,h42,h43⟩:=Cs_cons h41
  cases h42
  obtain ⟨_,_,rfl,h44,h45⟩:=Cs_cons h43
  cases h44
  cases Cs_nil h45
  obtain ⟨x49,h50,h⟩:=obind h
  refine idxO (j:=0) hG26 rfl Sub.here h50 rfl rfl rfl rfl rfl rfl rfl rfl rfl ?_
  intro b47 hb48
  refine stO (j:=0) (q:=0) (v:=(agg [(J y38.To),(J y38.Put)])) (y':=y38) hH25 hG26 hl rfl Sub.here h50 hb48 rfl rfl rfl rfl rfl rfl rfl rfl (lt_b rfl) (le_b rfl) rfl (fun c B hc=>oLeaf_set hc ⟨_,rfl,(.cons rfl (.cons rfl .nil))⟩) ?_
  intro Ls51 s52 hG53 hH54
  refine nl<|inBlock<|region<|q (J i22) ?_
  refine q (J (W (i22+1))) ?_
  refine aq (J (W (i22+1)))<|nl ?_
  cases h
  exact res [(0,(sl z2 f3 e4)),(3,h8),(4,(J (W (i22+1))))] [] ⟨rfl,rfl,rfl,tv⟩ tv (hL1 _ rfl (s52,Ls51) _ _ ⟨hH54,hG53⟩)
 refine cF hc27<|exit rfl ?_
 obtain ⟨r55,hm,hx⟩:=omap h
 clear h
 subst hx
 have hx:=hR1 _ rfl
 rw[hx] at hm
 have h:=hm
 exact res [(3,h8)] [] ⟨rfl,tv⟩ tv (KJ20 (out21,s23,Ls24) _ _ ⟨hH25,hG26,h⟩)
theorem laws_toPushSS_K0_ok {a1:List (List Push)} {z2:Nat} {f3:Bool} {e4:List AV} {s:St} (h5:LR (rL rPush 2) 1 a1 z2 e4) {r:(List (List Push))} (h:laws_toPushSS_K0 a1=some r) (hs:WF s):ACall Cf 30 [(sl z2 f3 e4)] s (fun v _ s'=>∃ (h1':AV) (k2':KT) (Ls':List (List BX)),v=h1'∧HS [] true s s' (([]:List BX)++Ls'.flatten)∧AllG [OS oE63 h1' k2' r] Ls'∧h1'.one=true) true:=by
 refine ACall.keepR rfl rfl rfl ?_
 have hH0:=HS.g0 (initK hs)
 have hG0:=AllG.nil
 have hl:LoOK [] true s:=LoOK.nil
 unfold laws_toPushSS_K0 at h
 refine sr<|q (sl 0 true [])<|ns ?_
 refine q (sl z2 f3 e4)<|AOps.p rfl (len_eq h5) ?_
 obtain ⟨l6,h7,h⟩:=obind h
 refine mkO (e:=oE63) (x0:=(([]:List Push):List Push)) (fun _=>sl 0 true []) hH0 hG0 rfl rfl rfl rfl rfl rfl rfl ⟨rfl,rfl,by decide⟩ h7 ⟨rfl,rfl⟩ (fun _=>⟨rfl,OS.nil (Or.inr rfl)⟩) rfl ?_
 intro h8 k10 Ls11 s12 ho9 hG13 hH14
 refine aq h8<|nl ?_
 refine seq<|sr<|q (J 0)<|nl ?_
 refine meet (σ:=(List (List Push)) × KT × St × (List (List BX))) (fun (out15,k16,s17,Ls18) tm os=>⟨updL tm [(3,h8)],updL os [],s17⟩) (fun (out15,k16,s17,Ls18)=>(HS [] true s s17 (([]:List BX)++Ls18.flatten))∧(AllG [OS oE63 h8 k16 out15] Ls18)∧laws_toPushSS_K0_J1 out15=some r) ?_ ?_
 ·rintro ⟨out15,k16,s17,Ls18⟩ tm os ⟨hH19,hG20,h⟩
  unfold laws_toPushSS_K0_J1 at h
  refine sr<|q h8 ?_
  refine aq h8<|nl ?_
  cases h
  exact ret ⟨_,_,rfl,⟨h8,k16,Ls18,rfl,hH19,hG20,ho9⟩⟩
 intro KJ21
 refine block<|res [(0,(sl z2 f3 e4)),(3,h8),(4,(J 0))] [] ⟨rfl,rfl,rfl,tv⟩ tv ?_
 refine loopF (σ:=(List (List Push)) × Int) (τ:=KT × St × (List (List BX))) (fun (out22,i24) (k23,s25,Ls26)=>(HS [] true s s25 (([]:List BX)++Ls26.flatten))∧(AllG [OS oE63 h8 k23 out22] Ls26)) (fun (out22,i24) (k23,s25,Ls26) tm os=>⟨updL tm [(0,(sl z2 f3 e4)),(3,h8),(4,(J i24))],updL os [],s25⟩) ?_ (x:=(l6,0)) (y:=(k10,s12,Ls11)) h ⟨hH14,hG13⟩
 clear h
 rintro ⟨out22,i24⟩ ⟨k23,s25,Ls26⟩ tm os ⟨hH27,hG28⟩ ee1 h hL1 hR1
 unfold laws_toPushSS_K0_S1 at h
 dsimp only at h
 refine seq<|sr<|q (J i24) ?_
 refine q (sl z2 f3 e4)<|AOps.p rfl (len_eq h5) ?_
 refine q (bool (decide ((i24:Int)<(a1.length:Int))))<|nl ?_
 rcases oite h with ⟨hc29,h⟩ | ⟨hc29,h⟩
 ·refine cT hc29<|skip<|seq<|block<|region<|q h8 ?_
  refine q (J i24) ?_
  refine q (sl z2 f3 e4) ?_
  refine q (J i24) ?_
  obtain ⟨x30,h31,h⟩:=obind h
  obtain ⟨v34,h32,h33⟩:=idx_sl h5 h31
  obtain ⟨z35,f36,e37,rfl,h38⟩:=h32
  refine pureR rfl rfl rfl h33 rfl (rfl:_=(eptr [(sl z35 f36 e37)] 0))<|lE (sl z35 f36 e37) ?_
  obtain ⟨y39,h40,h⟩:=obind h
  have hP44:=pop0 hH27
  refine callF (al:=true) (g:=75) (args:=[(sl z35 f36 e37)]) rfl rfl rfl (laws_toPushS_K0_ok h38  h40 (wf' hH27)) ?_
  rintro h41 _ s45 ⟨_,k42,Ls47,rfl,hH48,hG49,ho43⟩
  have hJ50:=joinK1 hP44 hH48
  obtain ⟨Ls51,Lf52,hG53,hF54,hP55⟩:=pushN hJ50 hG28 hG49
  cases hF54
  have hH56:=push0 hP55
  obtain ⟨x59,h60,h⟩:=obind h
  refine idxO (j:=1) hG53 rfl Sub.here h60 rfl rfl rfl rfl rfl rfl rfl rfl rfl ?_
  intro b57 hb58
  refine AOps.stH (j:=1) (j2:=0) (q:=0) (y':=y39) hH56 hG53 hl rfl rfl (by decide) h60 hb58 rfl rfl rfl rfl rfl rfl rfl (le_b rfl) rfl (fun ρ=>match ρ with | []=>h41 | a::ρ=>k42 (a::ρ)) (fun c B L2 hc hO=>by obtain ⟨rfl,_⟩:=hc; exact OS.own hO) ?_
  intro k61 Ls62 s63 hG64 hH65
  refine nl<|inBlock<|region<|q (J i24) ?_
  refine q (J (W (i24+1))) ?_
  refine aq (J (W (i24+1)))<|nl ?_
  cases h
  obtain ⟨Ls66,hG67,hH68⟩:=selEG hH65 hG64 [] [some 1]
  exact res [(0,(sl z2 f3 e4)),(3,h8),(4,(J (W (i24+1))))] [] ⟨rfl,rfl,rfl,tv⟩ tv (hL1 _ rfl (k61,s63,Ls66) _ _ ⟨hH68,hG67⟩)
 refine cF hc29<|exit rfl ?_
 obtain ⟨r69,hm,hx⟩:=omap h
 clear h
 subst hx
 have hx:=hR1 _ rfl
 rw[hx] at hm
 have h:=hm
 exact res [(3,h8)] [] ⟨rfl,tv⟩ tv (KJ21 (out22,k23,s25,Ls26) _ _ ⟨hH27,hG28,h⟩)
theorem laws_toInt64S_K0_ok {a1:List Int} {z2:Nat} {f3:Bool} {e4:List AV} {s:St} (h5:LR rJ 1 a1 z2 e4) {r:(List Int)} (h:laws_toInt64S_K0 a1=some r) (hs:WF s):ACall Cf 76 [(sl z2 f3 e4)] s (fun v _ s'=>∃ (h1':AV) (k2':KT) (Ls':List (List BX)),v=h1'∧HS [] true s s' (([]:List BX)++Ls'.flatten)∧AllG [OS oE2 h1' k2' r] Ls'∧h1'.one=true) true:=by
 refine ACall.keepR rfl rfl rfl ?_
 have hH0:=HS.g0 (initK hs)
 have hG0:=AllG.nil
 have hl:LoOK [] true s:=LoOK.nil
 unfold laws_toInt64S_K0 at h
 refine sr<|q (sl 0 true [])<|ns ?_
 refine q (sl z2 f3 e4)<|AOps.p rfl (len_eq h5) ?_
 obtain ⟨l6,h7,h⟩:=obind h
 refine mkO (e:=oE2) (x0:=(0:Int)) (fun _=>AV.undef) hH0 hG0 rfl rfl rfl rfl rfl rfl rfl ⟨rfl,rfl,by decide⟩ h7 ⟨rfl,rfl⟩ (fun _=>⟨⟨(J 0),rfl,rfl⟩,rfl⟩) rfl ?_
 intro h8 k10 Ls11 s12 ho9 hG13 hH14
 refine aq h8<|nl ?_
 refine seq<|sr<|q (J 0)<|nl ?_
 refine meet (σ:=(List Int) × St × (List (List BX))) (fun (out15,s16,Ls17) tm os=>⟨updL tm [(3,h8)],updL os [],s16⟩) (fun (out15,s16,Ls17)=>(HS [] true s s16 (([]:List BX)++Ls17.flatten))∧(AllG [OS oE2 h8 k10 out15] Ls17)∧laws_toInt64S_K0_J1 out15=some r) ?_ ?_
 ·rintro ⟨out15,s16,Ls17⟩ tm os ⟨hH18,hG19,h⟩
  unfold laws_toInt64S_K0_J1 at h
  refine sr<|q h8 ?_
  refine aq h8<|nl ?_
  cases h
  exact ret ⟨_,_,rfl,⟨h8,k10,Ls17,rfl,hH18,hG19,ho9⟩⟩
 intro KJ20
 refine block<|res [(0,(sl z2 f3 e4)),(3,h8),(4,(J 0))] [] ⟨rfl,rfl,rfl,tv⟩ tv ?_
 refine loopF (σ:=(List Int) × Int) (τ:=St × (List (List BX))) (fun (out21,i22) (s23,Ls24)=>(HS [] true s s23 (([]:List BX)++Ls24.flatten))∧(AllG [OS oE2 h8 k10 out21] Ls24)) (fun (out21,i22) (s23,Ls24) tm os=>⟨updL tm [(0,(sl z2 f3 e4)),(3,h8),(4,(J i22))],updL os [],s23⟩) ?_ (x:=(l6,0)) (y:=(s12,Ls11)) h ⟨hH14,hG13⟩
 clear h
 rintro ⟨out21,i22⟩ ⟨s23,Ls24⟩ tm os ⟨hH25,hG26⟩ ee1 h hL1 hR1
 unfold laws_toInt64S_K0_S1 at h
 dsimp only at h
 refine seq<|sr<|q (J i22) ?_
 refine q (sl z2 f3 e4)<|AOps.p rfl (len_eq h5) ?_
 refine q (bool (decide ((i22:Int)<(a1.length:Int))))<|nl ?_
 rcases oite h with ⟨hc27,h⟩ | ⟨hc27,h⟩
 ·refine cT hc27<|skip<|seq<|block<|region<|q h8 ?_
  refine q (J i22) ?_
  refine q (sl z2 f3 e4) ?_
  refine q (J i22) ?_
  obtain ⟨x28,h29,h⟩:=obind h
  obtain ⟨v32,h30,h31⟩:=idx_sl h5 h29
  cases h30
  refine pureR rfl rfl rfl h31 rfl (rfl:_=(eptr [(J x28)] 0))<|lE (J x28) ?_
  obtain ⟨x35,h36,h⟩:=obind h
  refine idxO (j:=0) hG26 rfl Sub.here h36 rfl rfl rfl rfl rfl rfl rfl rfl rfl ?_
  intro b33 hb34
  refine stO (j:=0) (q:=0) (v:=(J x28)) (y':=x28) hH25 hG26 hl rfl Sub.here h36 hb34 rfl rfl rfl rfl rfl rfl rfl rfl (lt_b rfl) (le_b rfl) rfl (fun c B hc=>oLeaf_set hc rfl) ?_
  intro Ls37 s38 hG39 hH40
  refine nl<|inBlock<|region<|q (J i22) ?_
  refine q (J (W (i22+1))) ?_
  refine aq (J (W (i22+1)))<|nl ?_
  cases h
  exact res [(0,(sl z2 f3 e4)),(3,h8),(4,(J (W (i22+1))))] [] ⟨rfl,rfl,rfl,tv⟩ tv (hL1 _ rfl (s38,Ls37) _ _ ⟨hH40,hG39⟩)
 refine cF hc27<|exit rfl ?_
 obtain ⟨r41,hm,hx⟩:=omap h
 clear h
 subst hx
 have hx:=hR1 _ rfl
 rw[hx] at hm
 have h:=hm
 exact res [(3,h8)] [] ⟨rfl,tv⟩ tv (KJ20 (out21,s23,Ls24) _ _ ⟨hH25,hG26,h⟩)
theorem laws_toInt64SS_K0_ok {a1:List (List Int)} {z2:Nat} {f3:Bool} {e4:List AV} {s:St} (h5:LR (rL rJ 1) 1 a1 z2 e4) {r:(List (List Int))} (h:laws_toInt64SS_K0 a1=some r) (hs:WF s):ACall Cf 32 [(sl z2 f3 e4)] s (fun v _ s'=>∃ (h1':AV) (k2':KT) (Ls':List (List BX)),v=h1'∧HS [] true s s' (([]:List BX)++Ls'.flatten)∧AllG [OS oE64 h1' k2' r] Ls'∧h1'.one=true) true:=by
 refine ACall.keepR rfl rfl rfl ?_
 have hH0:=HS.g0 (initK hs)
 have hG0:=AllG.nil
 have hl:LoOK [] true s:=LoOK.nil
 unfold laws_toInt64SS_K0 at h
 refine sr<|q (sl 0 true [])<|ns ?_
 refine q (sl z2 f3 e4)<|AOps.p rfl (len_eq h5) ?_
 obtain ⟨l6,h7,h⟩:=obind h
 refine mkO (e:=oE64) (x0:=(([]:List Int):List Int)) (fun _=>sl 0 true []) hH0 hG0 rfl rfl rfl rfl rfl rfl rfl ⟨rfl,rfl,by decide⟩ h7 ⟨rfl,rfl⟩ (fun _=>⟨rfl,OS.nil (Or.inr rfl)⟩) rfl ?_
 intro h8 k10 Ls11 s12 ho9 hG13 hH14
 refine aq h8<|nl ?_
 refine seq<|sr<|q (J 0)<|nl ?_
 refine meet (σ:=(List (List Int)) × KT × St × (List (List BX))) (fun (out15,k16,s17,Ls18) tm os=>⟨updL tm [(3,h8)],updL os [],s17⟩) (fun (out15,k16,s17,Ls18)=>(HS [] true s s17 (([]:List BX)++Ls18.flatten))∧(AllG [OS oE64 h8 k16 out15] Ls18)∧laws_toInt64SS_K0_J1 out15=some r) ?_ ?_
 ·rintro ⟨out15,k16,s17,Ls18⟩ tm os ⟨hH19,hG20,h⟩
  unfold laws_toInt64SS_K0_J1 at h
  refine sr<|q h8 ?_
  refine aq h8<|nl ?_
  cases h
  exact ret ⟨_,_,rfl,⟨h8,k16,Ls18,rfl,hH19,hG20,ho9⟩⟩
 intro KJ21
 refine block<|res [(0,(sl z2 f3 e4)),(3,h8),(4,(J 0))] [] ⟨rfl,rfl,rfl,tv⟩ tv ?_
 refine loopF (σ:=(List (List Int)) × Int) (τ:=KT × St × (List (List BX))) (fun (out22,i24) (k23,s25,Ls26)=>(HS [] true s s25 (([]:List BX)++Ls26.flatten))∧(AllG [OS oE64 h8 k23 out22] Ls26)) (fun (out22,i24) (k23,s25,Ls26) tm os=>⟨updL tm [(0,(sl z2 f3 e4)),(3,h8),(4,(J i24))],updL os [],s25⟩) ?_ (x:=(l6,0)) (y:=(k10,s12,Ls11)) h ⟨hH14,hG13⟩
 clear h
 rintro ⟨out22,i24⟩ ⟨k23,s25,Ls26⟩ tm os ⟨hH27,hG28⟩ ee1 h hL1 hR1
 unfold laws_toInt64SS_K0_S1 at h
 dsimp only at h
 refine seq<|sr<|q (J i24) ?_
 refine q (sl z2 f3 e4)<|AOps.p rfl (len_eq h5) ?_
 refine q (bool (decide ((i24:Int)<(a1.length:Int))))<|nl ?_
 rcases oite h with ⟨hc29,h⟩ | ⟨hc29,h⟩
 ·refine cT hc29<|skip<|seq<|block<|region<|q h8 ?_
  refine q (J i24) ?_
  refine q (sl z2 f3 e4) ?_
  refine q (J i24) ?_
  obtain ⟨x30,h31,h⟩:=obind h
  obtain ⟨v34,h32,h33⟩:=idx_sl h5 h31
  obtain ⟨z35,f36,e37,rfl,h38⟩:=h32
  refine pureR rfl rfl rfl h33 rfl (rfl:_=(eptr [(sl z35 f36 e37)] 0))<|lE (sl z35 f36 e37) ?_
  obtain ⟨y39,h40,h⟩:=obind h
  have hP44:=pop0 hH27
  refine callF (al:=true) (g:=76) (args:=[(sl z35 f36 e37)]) rfl rfl rfl (laws_toInt64S_K0_ok h38  h40 (wf' hH27)) ?_
  rintro h41 _ s45 ⟨_,k42,Ls47,rfl,hH48,hG49,ho43⟩
  have hJ50:=joinK1 hP44 hH48
  obtain ⟨Ls51,Lf52,hG53,hF54,hP55⟩:=pushN hJ50 hG28 hG49
  cases hF54
  have hH56:=push0 hP55
  obtain ⟨x59,h60,h⟩:=obind h
  refine idxO (j:=1) hG53 rfl Sub.here h60 rfl rfl rfl rfl rfl rfl rfl rfl rfl ?_
  intro b57 hb58
  refine AOps.stH (j:=1) (j2:=0) (q:=0) (y':=y39) hH56 hG53 hl rfl rfl (by decide) h60 hb58 rfl rfl rfl rfl rfl rfl rfl (le_b rfl) rfl (fun ρ=>match ρ with | []=>h41 | a::ρ=>k42 (a::ρ)) (fun c B L2 hc hO=>by obtain ⟨rfl,_⟩:=hc; exact OS.own hO) ?_
  intro k61 Ls62 s63 hG64 hH65
  refine nl<|inBlock<|region<|q (J i24) ?_
  refine q (J (W (i24+1))) ?_
  refine aq (J (W (i24+1)))<|nl ?_
  cases h
  obtain ⟨Ls66,hG67,hH68⟩:=selEG hH65 hG64 [] [some 1]
  exact res [(0,(sl z2 f3 e4)),(3,h8),(4,(J (W (i24+1))))] [] ⟨rfl,rfl,rfl,tv⟩ tv (hL1 _ rfl (k61,s63,Ls66) _ _ ⟨hH68,hG67⟩)
 refine cF hc29<|exit rfl ?_
 obtain ⟨r69,hm,hx⟩:=omap h
 clear h
 subst hx
 have hx:=hR1 _ rfl
 rw[hx] at hm
 have h:=hm
 exact res [(3,h8)] [] ⟨rfl,tv⟩ tv (KJ21 (out22,k23,s25,Ls26) _ _ ⟨hH27,hG28,h⟩)
theorem laws_toInt64SSS_K0_ok {a1:List (List (List Int))} {z2:Nat} {f3:Bool} {e4:List AV} {s:St} (h5:LR (rL (rL rJ 1) 1) 1 a1 z2 e4) {r:(List (List (List Int)))} (h:laws_toInt64SSS_K0 a1=some r) (hs:WF s):ACall Cf 31 [(sl z2 f3 e4)] s (fun v _ s'=>∃ (h1':AV) (k2':KT) (Ls':List (List BX)),v=h1'∧HS [] true s s' (([]:List BX)++Ls'.flatten)∧AllG [OS oE30 h1' k2' r] Ls'∧h1'.one=true) true:=by
 refine ACall.keepR rfl rfl rfl ?_
 have hH0:=HS.g0 (initK hs)
 have hG0:=AllG.nil
 have hl:LoOK [] true s:=LoOK.nil
 unfold laws_toInt64SSS_K0 at h
 refine sr<|q (sl 0 true [])<|ns ?_
 refine q (sl z2 f3 e4)<|AOps.p rfl (len_eq h5) ?_
 obtain ⟨l6,h7,h⟩:=obind h
 refine mkO (e:=oE30) (x0:=(([]:List (List Int)):List (List Int))) (fun _=>sl 0 true []) hH0 hG0 rfl rfl rfl rfl rfl rfl rfl ⟨rfl,rfl,by decide⟩ h7 ⟨rfl,rfl⟩ (fun _=>⟨rfl,OS.nil (Or.inr rfl)⟩) rfl ?_
 intro h8 k10 Ls11 s12 ho9 hG13 hH14
 refine aq h8<|nl ?_
 refine seq<|sr<|q (J 0)<|nl ?_
 refine meet (σ:=(List (List (List Int))) × KT × St × (List (List BX))) (fun (out15,k16,s17,Ls18) tm os=>⟨updL tm [(3,h8)],updL os [],s17⟩) (fun (out15,k16,s17,Ls18)=>(HS [] true s s17 (([]:List BX)++Ls18.flatten))∧(AllG [OS oE30 h8 k16 out15] Ls18)∧laws_toInt64SSS_K0_J1 out15=some r) ?_ ?_
 ·rintro ⟨out15,k16,s17,Ls18⟩ tm os ⟨hH19,hG20,h⟩
  unfold laws_toInt64SSS_K0_J1 at h
  refine sr<|q h8 ?_
  refine aq h8<|nl ?_
  cases h
  exact ret ⟨_,_,rfl,⟨h8,k16,Ls18,rfl,hH19,hG20,ho9⟩⟩
 intro KJ21
 refine block<|res [(0,(sl z2 f3 e4)),(3,h8),(4,(J 0))] [] ⟨rfl,rfl,rfl,tv⟩ tv ?_
 refine loopF (σ:=(List (List (List Int))) × Int) (τ:=KT × St × (List (List BX))) (fun (out22,i24) (k23,s25,Ls26)=>(HS [] true s s25 (([]:List BX)++Ls26.flatten))∧(AllG [OS oE30 h8 k23 out22] Ls26)) (fun (out22,i24) (k23,s25,Ls26) tm os=>⟨updL tm [(0,(sl z2 f3 e4)),(3,h8),(4,(J i24))],updL os [],s25⟩) ?_ (x:=(l6,0)) (y:=(k10,s12,Ls11)) h ⟨hH14,hG13⟩
 clear h
 rintro ⟨out22,i24⟩ ⟨k23,s25,Ls26⟩ tm os ⟨hH27,hG28⟩ ee1 h hL1 hR1
 unfold laws_toInt64SSS_K0_S1 at h
 dsimp only at h
 refine seq<|sr<|q (J i24) ?_
 refine q (sl z2 f3 e4)<|AOps.p rfl (len_eq h5) ?_
 refine q (bool (decide ((i24:Int)<(a1.length:Int))))<|nl ?_
 rcases oite h with ⟨hc29,h⟩ | ⟨hc29,h⟩
 ·refine cT hc29<|skip<|seq<|block<|region<|q h8 ?_
  refine q (J i24) ?_
  refine q (sl z2 f3 e4) ?_
  refine q (J i24) ?_
  obtain ⟨x30,h31,h⟩:=obind h
  obtain ⟨v34,h32,h33⟩:=idx_sl h5 h31
  obtain ⟨z35,f36,e37,rfl,h38⟩:=h32
  refine pureR rfl rfl rfl h33 rfl (rfl:_=(eptr [(sl z35 f36 e37)] 0))<|lE (sl z35 f36 e37) ?_
  obtain ⟨y39,h40,h⟩:=obind h
  have hP44:=pop0 hH27
  refine callF (al:=true) (g:=32) (args:=[(sl z35 f36 e37)]) rfl rfl rfl (laws_toInt64SS_K0_ok h38  h40 (wf' hH27)) ?_
  rintro h41 _ s45 ⟨_,k42,Ls47,rfl,hH48,hG49,ho43⟩
  have hJ50:=joinK1 hP44 hH48
  obtain ⟨Ls51,Lf52,hG53,hF54,hP55⟩:=pushN hJ50 hG28 hG49
  cases hF54
  have hH56:=push0 hP55
  obtain ⟨x59,h60,h⟩:=obind h
  refine idxO (j:=1) hG53 rfl Sub.here h60 rfl rfl rfl rfl rfl rfl rfl rfl rfl ?_
  intro b57 hb58
  refine AOps.stH (j:=1) (j2:=0) (q:=0) (y':=y39) hH56 hG53 hl rfl rfl (by decide) h60 hb58 rfl rfl rfl rfl rfl rfl rfl (le_b rfl) rfl (fun ρ=>match ρ with | []=>h41 | a::ρ=>k42 (a::ρ)) (fun c B L2 hc hO=>by obtain ⟨rfl,_⟩:=hc; exact OS.own hO) ?_
  intro k61 Ls62 s63 hG64 hH65
  refine nl<|inBlock<|region<|q (J i24) ?_
  refine q (J (W (i24+1))) ?_
  refine aq (J (W (i24+1)))<|nl ?_
  cases h
  obtain ⟨Ls66,hG67,hH68⟩:=selEG hH65 hG64 [] [some 1]
  exact res [(0,(sl z2 f3 e4)),(3,h8),(4,(J (W (i24+1))))] [] ⟨rfl,rfl,rfl,tv⟩ tv (hL1 _ rfl (k61,s63,Ls66) _ _ ⟨hH68,hG67⟩)
 refine cF hc29<|exit rfl ?_
 obtain ⟨r69,hm,hx⟩:=omap h
 clear h
 subst hx
 have hx:=hR1 _ rfl
 rw[hx] at hm
 have h:=hm
 exact res [(3,h8)] [] ⟨rfl,tv⟩ tv (KJ21 (out22,k23,s25,Ls26) _ _ ⟨hH27,hG28,h⟩)
theorem laws_toChecker_K0_ok {a1:Checker} {z2 z6 z10 z14:Nat} {f3 f7 f11 f15:Bool} {e4 e8 e12 e16:List AV} {s:St} (h5:LR rB 1 a1.Accept z2 e4) (h9:LR (rL rPush 2) 1 a1.Call z6 e8) (h13:LR (rL (rL rJ 1) 1) 1 a1.Return z10 e12) (h17:LR (rL rJ 1) 1 a1.Inner z14 e16) {r:Checker} (h:laws_toChecker_K0 a1=some r) (hs:WF s):ACall Cf 8 [(agg [(J a1.Stack),(J a1.Start),(sl z2 f3 e4),(sl z6 f7 e8),(sl z10 f11 e12),(sl z14 f15 e16)])] s (fun v _ s'=>∃ (h1':AV) (k2':KT) (h4':AV) (k5':KT) (h7':AV) (k8':KT) (h10':AV) (k11':KT) (Ls':List (List BX)),v=(agg [(J r.Stack),(J r.Start),h1',h4',h7',h10'])∧HS [] true s s' (([]:List BX)++Ls'.flatten)∧AllG [OS oE4 h1' k2' r.Accept,OS oE63 h4' k5' r.Call,OS oE30 h7' k8' r.Return,OS oE64 h10' k11' r.Inner] Ls'∧h1'.one=true∧h4'.one=true∧h7'.one=true∧h10'.one=true) true:=by
 refine ACall.keepR rfl rfl rfl ?_
 have hH0:=HS.g0 (initK hs)
 have hG0:=AllG.nil
 have hl:LoOK [] true s:=LoOK.nil
 unfold laws_toChecker_K0 at h
 refine sr<|makeR rfl rfl rfl rfl rfl rfl (rfl:_=(eptr [(J a1.Stack),(J a1.Start),(sl z2 f3 e4),(sl z6 f7 e8),(sl z10 f11 e12),(sl z14 f15 e16)] 0))<|allocP rfl rfl rfl rfl ⟨rfl,rfl⟩ rfl<|ns ?_
 refine alloc1 hH0 rfl rfl rfl rfl rfl rfl ?_
 intro b18 s19 hH20
 change HS [] true s s19 (([⟨some b18,[(J 0),(J 0),(sl 0 true []),(sl 0 true []),(sl 0 true []),(sl 0 true [])],(fun _=>false)⟩]:List BX)++List.flatten ([]:List (List BX))) at hH20
 refine ns<|q (eptr [(J a1.Stack),(J a1.Start),(sl z2 f3 e4),(sl z6 f7 e8),(sl z10 f11 e12),(sl z14 f15 e16)] 0) ?_
 refine lE (J a1.Stack) ?_
 refine q (ptr b18 0)<|stE (i:=0) (v:=(J a1.Stack)) hH20 hl rfl rfl rfl rfl rfl rfl rfl rfl rfl (lt_b rfl) (le_b rfl) rfl ?_
 intro w21 s22 h23 h24 hH25
 change HS [] true s s22 (([⟨some b18,[(J a1.Stack),(J 0),(sl 0 true []),(sl 0 true []),(sl 0 true []),(sl 0 true [])],w21⟩]:List BX)++List.flatten ([]:List (List BX))) at hH25
 refine ns<|q (eptr [(J a1.Stack),(J a1.Start),(sl z2 f3 e4),(sl z6 f7 e8),(sl z10 f11 e12),(sl z14 f15 e16)] 1) ?_
 refine lE (J a1.Start) ?_
 refine q (ptr b18 1)<|stE (i:=0) (v:=(J a1.Start)) hH25 hl rfl rfl rfl rfl rfl rfl rfl rfl rfl (lt_b rfl) (le_b rfl) rfl ?_
 intro w26 s27 h28 h29 hH30
 change HS [] true s s27 (([⟨some b18,[(J a1.Stack),(J a1.Start),(sl 0 true []),(sl 0 true []),(sl 0 true []),(sl 0 true [])],w26⟩]:List BX)++List.flatten ([]:List (List BX))) at hH30
 refine ns<|q (eptr [(J a1.Stack),(J a1.Start),(sl z2 f3 e4),(sl z6 f7 e8),(sl z10 f11 e12),(sl z14 f15 e16)] 2) ?_
 refine lE (sl z2 f3 e4) ?_
 obtain ⟨y31,h32,h⟩:=obind h
 have hP36:=pop0 hH30
 refine callF (al:=true) (g:=29) (args:=[(sl z2 f3 e4)]) rfl rfl rfl (laws_toBoolS_K0_ok h5  h32 (wf' hH30)) ?_
 rintro h33 _ s37 ⟨_,k34,Ls39,rfl,hH40,hG41,ho35⟩
 have hJ42:=joinK1 hP36 hH40
 obtain ⟨Ls43,Lf44,hG45,hF46,hP47⟩:=pushN hJ42 hG0 hG41
 cases hF46
 have hH48:=push0 hP47
 change HS [] true s s37 (([⟨some b18,[(J a1.Stack),(J a1.Start),(sl 0 true []),(sl 0 true []),(sl 0 true []),(sl 0 true [])],w26⟩]:List BX)++Ls43.flatten) at hH48
 change AllG [OS oE4 h33 k34 y31] Ls43 at hG45
 refine q (ptr b18 2)<|stE (i:=0) (v:=h33) hH48 hl rfl rfl rfl rfl rfl rfl rfl (one_lay ho35) (one_len ho35) (lt_b rfl) (le_b rfl) rfl ?_
 intro w49 s50 h51 h52 hH53
 rw[AV.cells_one ho35] at hH53
 change HS [] true s s50 (([⟨some b18,[(J a1.Stack),(J a1.Start),h33,(sl 0 true []),(sl 0 true []),(sl 0 true [])],w49⟩]:List BX)++Ls43.flatten) at hH53
 refine ns<|q (eptr [(J a1.Stack),(J a1.Start),(sl z2 f3 e4),(sl z6 f7 e8),(sl z10 f11 e12),(sl z14 f15 e16)] 3) ?_
 refine lE (sl z6 f7 e8) ?_
 obtain ⟨y54,h55,h⟩:=obind h
 have hP59:=pop0 hH53
 refine callF (al:=true) (g:=30) (args:=[(sl z6 f7 e8)]) rfl rfl rfl (laws_toPushSS_K0_ok h9  h55 (wf' hH53)) ?_
 rintro h56 _ s60 ⟨_,k57,Ls62,rfl,hH63,hG64,ho58⟩
 have hJ65:=joinK1 hP59 hH63
 obtain ⟨Ls66,Lf67,hG68,hF69,hP70⟩:=pushN hJ65 hG45 hG64
 cases hF69
 have hH71:=push0 hP70
 change HS [] true s s60 (([⟨some b18,[(J a1.Stack),(J a1.Start),h33,(sl 0 true []),(sl 0 true []),(sl 0 true [])],w49⟩]:List BX)++Ls66.flatten) at hH71
 change AllG [OS oE63 h56 k57 y54,OS oE4 h33 k34 y31] Ls66 at hG68
 refine q (ptr b18 3)<|stE (i:=0) (v:=h56) hH71 hl rfl rfl rfl rfl rfl rfl rfl (one_lay ho58) (one_len ho58) (lt_b rfl) (le_b rfl) rfl ?_
 intro w72 s73 h74 h75 hH76
 rw[AV.cells_one ho58] at hH76
 change HS [] true s s73 (([⟨some b18,[(J a1.Stack),(J a1.Start),h33,h56,(sl 0 true []),(sl 0 true [])],w72⟩]:List BX)++Ls66.flatten) at hH76
 refine ns<|q (eptr [(J a1.Stack),(J a1.Start),(sl z2 f3 e4),(sl z6 f7 e8),(sl z10 f11 e12),(sl z14 f15 e16)] 4) ?_
 refine lE (sl z10 f11 e12) ?_
 obtain ⟨y77,h78,h⟩:=obind h
 have hP82:=pop0 hH76
 refine callF (al:=true) (g:=31) (args:=[(sl z10 f11 e12)]) rfl rfl rfl (laws_toInt64SSS_K0_ok h13  h78 (wf' hH76)) ?_
 rintro h79 _ s83 ⟨_,k80,Ls85,rfl,hH86,hG87,ho81⟩
 have hJ88:=joinK1 hP82 hH86
 obtain ⟨Ls89,Lf90,hG91,hF92,hP93⟩:=pushN hJ88 hG68 hG87
 cases hF92
 have hH94:=push0 hP93
 change HS [] true s s83 (([⟨some b18,[(J a1.Stack),(J a1.Start),h33,h56,(sl 0 true []),(sl 0 true [])],w72⟩]:List BX)++Ls89.flatten) at hH94
 change AllG [OS oE30 h79 k80 y77,OS oE63 h56 k57 y54,OS oE4 h33 k34 y31] Ls89 at hG91
 refine q (ptr b18 4)<|stE (i:=0) (v:=h79) hH94 hl rfl rfl rfl rfl rfl rfl rfl (one_lay ho81) (one_len ho81) (lt_b rfl) (le_b rfl) rfl ?_
 intro w95 s96 h97 h98 hH99
 rw[AV.cells_one ho81] at hH99
 change HS [] true s s96 (([⟨some b18,[(J a1.Stack),(J a1.Start),h33,h56,h79,(sl 0 true [])],w95⟩]:List BX)++Ls89.flatten) at hH99
 refine ns<|q (eptr [(J a1.Stack),(J a1.Start),(sl z2 f3 e4),(sl z6 f7 e8),(sl z10 f11 e12),(sl z14 f15 e16)] 5) ?_
 refine lE (sl z14 f15 e16) ?_
 obtain ⟨y100,h101,h⟩:=obind h
 have hP105:=pop0 hH99
 refine callF (al:=true) (g:=32) (args:=[(sl z14 f15 e16)]) rfl rfl rfl (laws_toInt64SS_K0_ok h17  h101 (wf' hH99)) ?_
 rintro h102 _ s106 ⟨_,k103,Ls108,rfl,hH109,hG110,ho104⟩
 have hJ111:=joinK1 hP105 hH109
 obtain ⟨Ls112,Lf113,hG114,hF115,hP116⟩:=pushN hJ111 hG91 hG110
 cases hF115
 have hH117:=push0 hP116
 change HS [] true s s106 (([⟨some b18,[(J a1.Stack),(J a1.Start),h33,h56,h79,(sl 0 true [])],w95⟩]:List BX)++Ls112.flatten) at hH117
 change AllG [OS oE64 h102 k103 y100,OS oE30 h79 k80 y77,OS oE63 h56 k57 y54,OS oE4 h33 k34 y31] Ls112 at hG114
 refine q (ptr b18 5)<|stE (i:=0) (v:=h102) hH117 hl rfl rfl rfl rfl rfl rfl rfl (one_lay ho104) (one_len ho104) (lt_b rfl) (le_b rfl) rfl ?_
 intro w118 s119 h120 h121 hH122
 rw[AV.cells_one ho104] at hH122
 change HS [] true s s119 (([⟨some b18,[(J a1.Stack),(J a1.Start),h33,h56,h79,h102],w118⟩]:List BX)++Ls112.flatten) at hH122
 refine ns<|ldB (i:=0) (v:=(agg [(J a1.Stack),(J a1.Start),h33,h56,h79,h102])) hH122 rfl rfl rfl rfl rfl rfl rfl rfl rfl<|stP (v:=(agg [(J a1.Stack),(J a1.Start),h33,h56,h79,h102])) rfl rfl rfl rfl rfl rfl rfl (lay_cons rfl (lay_cons rfl (lay_cons ho35 (lay_cons ho58 (lay_cons ho81 (lay_cons ho104 lay_nil)))))) rfl (lt_b rfl) rfl<|nl ?_
 cases h
 obtain ⟨Ls123,hG124,hH125⟩:=selEG hH122 hG114 [] [some 3,some 2,some 1,some 0]
 exact ret ⟨_,_,rfl,⟨h33,k34,h56,k57,h79,k80,h102,k103,Ls123,rfl,hH125,hG124,ho35,ho58,ho81,ho104⟩⟩
theorem spec_l00In_ok {n1 low2 high3:Int} {s:St} {r:Bool} (h:spec_l00In n1 low2 high3=some r) (hs:WF s):ACall Cf 67 [(J n1),(J low2),(J high3)] s fun v _ s'=>(rB) r v∧s'=s:=by
 refine ACall.pure rfl rfl rfl .B ?_
 have hWF:=hs.lo'
 unfold spec_l00In at h
 refine sr<|q (bool false)<|ns ?_
 refine q (J n1) ?_
 refine q (J low2) ?_
 refine q (bool (decide ((n1:Int)≥low2))) ?_
 refine q (bool (decide ((n1:Int)≥low2))) ?_
 refine split 4 (fun f'=>∃ tm' os',f'=⟨updL tm' [(14,(bool ((decide ((n1:Int)≥low2))&&(decide ((n1:Int)≤high3)))))],updL os' [],s.M⟩) ?_ ?_
 ·rcases Bool.eq_false_or_eq_true (decide ((n1:Int)≥low2)) with hc4 | hc4
  ·refine kn 10 hc4<|q (J n1) ?_
   refine q (J high3) ?_
   refine q (bool (decide ((n1:Int)≤high3))) ?_
   refine q (bool (decide ((n1:Int)≤high3))) ?_
   exact rR ⟨congrArg bool (and_t hc4),tv⟩
  ·refine kn 10 hc4<|sk ?_
   refine sk ?_
   refine sk ?_
   refine q (bool false) ?_
   exact rR ⟨congrArg bool (and_f hc4),tv⟩
 rintro _ ⟨tm,os,rfl⟩
 refine aq (bool ((decide ((n1:Int)≥low2))&&(decide ((n1:Int)≤high3))))<|nl ?_
 cases h
 exact ret ⟨rfl,_,_,rfl,rfl⟩
theorem spec_l01Symbol_ok {b1 r:Int} {s:St} (h:spec_l01Symbol b1=some r) (hs:WF s):ACall Cf 113 [(int .u8 b1)] s fun v _ s'=>rJ r v∧s'=s:=by
 refine ACall.pure rfl rfl rfl .I ?_
 have hWF:=hs.lo'
 unfold spec_l01Symbol at h
 refine sr<|q (J 0)<|nl ?_
 refine seq<|sr<|q (J 0)<|nl ?_
 refine meet (σ:=Unit) (fun _ tm os=>⟨updL tm [],updL os [],s.M⟩) (fun _=>spec_l01Symbol_J1=some r) ?_ ?_
 ·rintro _ tm os h
  unfold spec_l01Symbol_J1 at h
  refine sr<|q (J (-1))<|nl ?_
  cases h
  exact ret ⟨rfl,_,_,rfl,rfl⟩
 intro KJ2
 refine block<|res [(0,(int .u8 b1)),(3,(J 0))] [] ⟨rfl,rfl,tv⟩ tv ?_
 refine loopF (σ:=Int) (τ:=Unit) (fun k3 _=>True) (fun k3 _ tm os=>⟨updL tm [(0,(int .u8 b1)),(3,(J k3))],updL os [],s.M⟩) ?_ (x:=(0)) (y:=()) h tv
 clear h
 rintro k3 _ tm os - ee1 h hL1 hR1
 unfold spec_l01Symbol_S1 at h
 refine seq<|sr<|q (J k3) ?_
 refine q (bool (decide ((k3:Int)<6)))<|nl ?_
 rcases oite h with ⟨hc4,h⟩ | ⟨hc4,h⟩
 ·refine cT hc4<|skip<|seq<|block<|sr<|q (J k3) ?_
  obtain ⟨c5,h6,h⟩:=obind h
  refine pureR rfl rfl rfl (chr_str h6) rfl (rfl:_=(int .u8 c5))<|q (int .u8 b1) ?_
  refine q (bool (c5 == b1))<|nl ?_
  rcases oite h with ⟨hc7,h⟩ | ⟨hc7,h⟩
  ·refine cT hc7<|sr<|q (J k3) ?_
   refine aq (J k3)<|nl ?_
   cases h
   have hr:=hR1 _ rfl
   subst hr
   exact ret ⟨rfl,_,_,rfl,rfl⟩
  refine cF hc7<|skip<|inBlock<|region<|q (J k3) ?_
  refine q (J (W (k3+1))) ?_
  refine aq (J (W (k3+1)))<|nl ?_
  cases h
  exact res [(0,(int .u8 b1)),(3,(J (W (k3+1))))] [] ⟨rfl,rfl,tv⟩ tv (hL1 _ rfl () _ _ tv)
 refine cF hc4<|exit rfl ?_
 obtain ⟨r8,hm,hx⟩:=omap h
 clear h
 subst hx
 have hx:=hR1 _ rfl
 rw[hx] at hm
 have h:=hm
 exact res [] [] tv tv (KJ2 () _ _ h)
theorem spec_l01Ok_ok {w1:List UInt8} {s:St} {r:Bool} (h:spec_l01Ok w1=some r) (hs:WF s):ACall Cf 111 [(str w1)] s fun v _ s'=>(rB) r v∧s'=s:=by
 refine ACall.pure rfl rfl rfl .B ?_
 have hWF:=hs.lo'
 unfold spec_l01Ok at h
 refine sr<|q (bool false)<|nl ?_
 refine seq<|sr<|q (J 0)<|nl ?_
 refine meet (σ:=Unit) (fun _ tm os=>⟨updL tm [(0,(str w1))],updL os [],s.M⟩) (fun _=>spec_l01Ok_J1 w1=some r) ?_ ?_
 ·rintro _ tm os h
  unfold spec_l01Ok_J1 at h
  refine sr<|q (str w1) ?_
  refine q (J (w1.length:Int)) ?_
  refine q (bool (decide (((w1.length:Int):Int)≤60))) ?_
  refine aq (bool (decide (((w1.length:Int):Int)≤60)))<|nl ?_
  cases h
  exact ret ⟨rfl,_,_,rfl,rfl⟩
 intro KJ2
 refine block<|res [(0,(str w1)),(3,(J 0))] [] ⟨rfl,rfl,tv⟩ tv ?_
 refine loopF (σ:=Int) (τ:=Unit) (fun i3 _=>True) (fun i3 _ tm os=>⟨updL tm [(0,(str w1)),(3,(J i3))],updL os [],s.M⟩) ?_ (x:=(0)) (y:=()) h tv
 clear h
 rintro i3 _ tm os - ee1 h hL1 hR1
 unfold spec_l01Ok_S1 at h
 refine seq<|sr<|q (J i3) ?_
 refine q (str w1) ?_
 refine q (J (w1.length:Int)) ?_
 refine q (bool (decide ((i3:Int)<(w1.length:Int))))<|nl ?_
 rcases oite h with ⟨hc4,h⟩ | ⟨hc4,h⟩
 ·refine cT hc4<|skip<|seq<|block<|sr<|q (str w1) ?_
  refine q (J i3) ?_
  obtain ⟨c5,h6,h⟩:=obind h
  refine pureR rfl rfl rfl (chr_str h6) rfl (rfl:_=(int .u8 c5)) ?_
  obtain ⟨y7,h8,h⟩:=obind h
  refine cP (spec_l01Symbol_ok  h8 hWF) ?_
  intro _ o10 h9
  cases h9
  refine q (bool (decide ((y7:Int)<0)))<|nl ?_
  rcases oite h with ⟨hc11,h⟩ | ⟨hc11,h⟩
  ·refine cT hc11<|sr<|q (bool false)<|nl ?_
   cases h
   have hr:=hR1 _ rfl
   subst hr
   exact ret ⟨rfl,_,_,rfl,rfl⟩
  refine cF hc11<|skip<|inBlock<|region<|q (J i3) ?_
  refine q (J (W (i3+1))) ?_
  refine aq (J (W (i3+1)))<|nl ?_
  cases h
  exact res [(0,(str w1)),(3,(J (W (i3+1))))] [] ⟨rfl,rfl,tv⟩ tv (hL1 _ rfl () _ _ tv)
 refine cF hc4<|exit rfl ?_
 obtain ⟨r12,hm,hx⟩:=omap h
 clear h
 subst hx
 have hx:=hR1 _ rfl
 rw[hx] at hm
 have h:=hm
 exact res [(0,(str w1))] [] ⟨rfl,tv⟩ tv (KJ2 () _ _ h)
theorem spec_l06Out_ok {p0_1:List UInt8} {s:St} {r:Bool} (h:spec_l06Out p0_1=some r) (hs:WF s):ACall Cf 69 [(str p0_1)] s fun v _ s'=>(rB) r v∧s'=s:=by
 refine ACall.pure rfl rfl rfl .B ?_
 have hWF:=hs.lo'
 unfold spec_l06Out at h
 refine sr<|q (bool false)<|ns ?_
 refine q (str p0_1) ?_
 refine q (J (p0_1.length:Int)) ?_
 refine q (bool (decide (((p0_1.length:Int):Int)≤4))) ?_
 refine q (bool (decide (((p0_1.length:Int):Int)≤4))) ?_
 obtain ⟨b3,hb,h⟩:=obind h
 refine split 3 (fun f'=>∃ tm' os',f'=⟨updL tm' [(9,(bool b3))],updL os' [],s.M⟩) ?_ ?_
 ·rcases oite hb with ⟨hc2,hb⟩ | ⟨hc2,hb⟩
  ·have h:=hb
   refine kn 6 hc2<|q (str p0_1) ?_
   obtain ⟨y4,h5,h⟩:=obind h
   refine cP (spec_l01Ok_ok  h5 hWF) ?_
   intro _ o7 h6
   cases h6
   refine q (bool y4) ?_
   exact rR ⟨bJ h,tv⟩
  ·refine kn 6 hc2<|sk ?_
   refine sk ?_
   refine q (bool false) ?_
   exact rR ⟨bJ hb,tv⟩
 rintro _ ⟨tm,os,rfl⟩
 refine aq (bool b3)<|nl ?_
 cases h
 exact ret ⟨rfl,_,_,rfl,rfl⟩
theorem spec_l06Moves_ok {list1:List OutMove} {length6 n7:Int} {z2:Nat} {f3:Bool} {e4:List AV} {s:St} (h5:LR rOutMove 2 list1 z2 e4) {r:Bool} (h:spec_l06Moves list1 length6 n7=some r) (hs:WF s):ACall Cf 68 [(sl z2 f3 e4),(J length6),(J n7)] s fun v _ s'=>(rB) r v∧s'=s:=by
 refine ACall.pure rfl rfl rfl .B ?_
 have hWF:=hs.lo'
 unfold spec_l06Moves at h
 refine sr ?_
 refine q (bool false) ?_
 refine nl ?_
 refine seq ?_
 refine sr ?_
 refine q (J 0) ?_
 refine nl ?_
 refine meet (σ:=Unit) (fun _ tm os=>⟨updL tm [(0,(sl z2 f3 e4)),(1,(J length6))],updL os [],s.M⟩) (fun _=>spec_l06Moves_J1 list1 length6=some r) ?_ ?_
 ·rintro _ tm os h
  unfold spec_l06Moves_J1 at h
  refine sr ?_
  refine q (sl z2 f3 e4) ?_
  refine AOps.p rfl (len_eq h5) ?_
  refine q (J length6) ?_
  refine q (bool ((list1.length:Int) == length6)) ?_
  refine aq (bool ((list1.length:Int) == length6)) ?_
  refine nl ?_
  cases h
  exact ret ⟨rfl,_,_,rfl,rfl⟩
 intro KJ8
 refine block ?_
 refine res [(0,(sl z2 f3 e4)),(1,(J length6)),(2,(J n7)),(7,(J 0))] [] ⟨rfl,rfl,rfl,rfl,tv⟩ tv ?_
 refine loopF (σ:=Int) (τ:=Unit) (fun i9 _=>True) (fun i9 _ tm os=>⟨updL tm [(0,(sl z2 f3 e4)),(1,(J length6)),(2,(J n7)),(7,(J i9))],updL os [],s.M⟩) ?_ (x:=(0)) (y:=()) h tv
 clear h
 rintro i9 _ tm os - ee1 h hL1 hR1
 unfold spec_l06Moves_S1 at h
 refine seq ?_
 refine sr ?_
 refine q (J i9) ?_
 refine q (sl z2 f3 e4) ?_
 refine AOps.p rfl (len_eq h5) ?_
 refine q (bool (decide ((i9:Int)<(list1.length:Int)))) ?_
 refine nl ?_
 rcases oite h with ⟨hc10,h⟩ | ⟨hc10,h⟩
 ·refine cT hc10 ?_
  refine skip ?_
  refine seq ?_
  refine block ?_
  refine sr ?_
  refine q (sl z2 f3 e4) ?_
  refine q (J i9) ?_
  obtain ⟨x11,h12,h⟩:=obind h
  obtain ⟨v15,h13,h14⟩:=idx_sl h5 h12
  obtain ⟨_,rfl,h16⟩:=h13
  obtain ⟨_,_,rfl,h17,h18⟩:=Cs_cons h16
  cases h17
  obtain ⟨_,_,rfl,h19,h20⟩:=Cs_cons h18
  cases h19
  cases Cs_nil h20
  refine pureR rfl rfl rfl h14 rfl (rfl:_=(eptr [(J x11.To),(str x11.Out)] 0)) ?_
  refine q (eptr [(J x11.To),(str x11.Out)] 0) ?_
  refine lE (J x11.To) ?_
  refine q (J n7) ?_
  refine q (J (W (n7 - 1))) ?_
  obtain ⟨y21,h22,h⟩:=obind h
  refine cP (spec_l00In_ok  h22 hWF) ?_
  intro _ o24 h23
  cases h23
  refine q (bool (!y21)) ?_
  refine q (bool (!y21)) ?_
  obtain ⟨b26,hb,h⟩:=obind h
  refine split 8 (fun f'=>∃ tm' os',f'=⟨updL tm' [(0,(sl z2 f3 e4)),(1,(J length6)),(2,(J n7)),(7,(J i9)),(31,(bool b26))],updL os' [],s.M⟩) ?_ ?_
  ·rcases oite hb with ⟨hc25,hb⟩ | ⟨hc25,hb⟩
   ·refine kn 23 hc25 ?_
    refine sk ?_
    refine sk ?_
    refine sk ?_
    refine sk ?_
    refine sk ?_
    refine sk ?_
    refine sk ?_
    refine q (bool true) ?_
    exact rR ⟨rfl,rfl,rfl,rfl,bJ hb,tv⟩
   ·have h:=hb
    refine kn 23 hc25 ?_
    refine q (sl z2 f3 e4) ?_
    refine q (J i9) ?_
    obtain ⟨x27,h28,h⟩:=obind h
    obtain ⟨v31,h29,h30⟩:=idx_sl h5 h28
    obtain ⟨_,rfl,h32⟩:=h29
    obtain ⟨_,_,rfl,h33,h34⟩:=Cs_cons h32
    cases h33
    obtain ⟨_,_,rfl,h35,h36⟩:=Cs_cons h34
    cases h35
    cases Cs_nil h36
    refine pureR rfl rfl rfl h30 rfl (rfl:_=(eptr [(J x27.To),(str x27.Out)] 0)) ?_
    refine q (eptr [(J x27.To),(str x27.Out)] 1) ?_
    refine lE (str x27.Out) ?_
    obtain ⟨y37,h38,h⟩:=obind h
    refine cP (spec_l06Out_ok  h38 hWF) ?_
    intro _ o40 h39
    cases h39
    refine q (bool (!y37)) ?_
    refine q (bool (!y37)) ?_
    exact rR ⟨rfl,rfl,rfl,rfl,bJ h,tv⟩
  rintro _ ⟨tm,os,rfl⟩
  refine nl ?_
  rcases oite h with ⟨hc41,h⟩ | ⟨hc41,h⟩
  ·refine cT hc41 ?_
   refine sr ?_
   refine q (bool false) ?_
   refine nl ?_
   cases h
   have hr:=hR1 _ rfl
   subst hr
   exact ret ⟨rfl,_,_,rfl,rfl⟩
  refine cF hc41 ?_
  refine skip ?_
  refine inBlock ?_
  refine region ?_
  refine q (J i9) ?_
  refine q (J (W (i9+1))) ?_
  refine aq (J (W (i9+1))) ?_
  refine nl ?_
  cases h
  exact res [(0,(sl z2 f3 e4)),(1,(J length6)),(2,(J n7)),(7,(J (W (i9+1))))] [] ⟨rfl,rfl,rfl,rfl,tv⟩ tv (hL1 _ rfl () _ _ tv)
 refine cF hc10 ?_
 refine exit rfl ?_
 obtain ⟨r42,hm,hx⟩:=omap h
 clear h
 subst hx
 have hx:=hR1 _ rfl
 rw[hx] at hm
 have h:=hm
 exact res [(0,(sl z2 f3 e4)),(1,(J length6))] [] ⟨rfl,rfl,tv⟩ tv (KJ8 () _ _ h)
theorem spec_l06Ok_ok {p1:Rewriter} {z2 z6 z10:Nat} {f3 f7 f11:Bool} {e4 e8 e12:List AV} {s:St} (h5:LR (rL rOutPush 3) 1 p1.Call z2 e4) (h9:LR (rL (rL rOutMove 2) 1) 1 p1.Return z6 e8) (h13:LR (rL rOutMove 2) 1 p1.Inner z10 e12) {r:Bool} (h:spec_l06Ok p1=some r) (hs:WF s):ACall Cf 22 [(eptr [(J p1.Stack),(J p1.Start),(sl z2 f3 e4),(sl z6 f7 e8),(sl z10 f11 e12)] 0)] s fun v _ s'=>(rB) r v∧s'=s:=by
 refine ACall.pure rfl rfl rfl .B ?_
 have hWF:=hs.lo'
 unfold spec_l06Ok at h
 refine sr ?_
 refine q (bool false) ?_
 refine ns ?_
 refine q (eptr [(J p1.Stack),(J p1.Start),(sl z2 f3 e4),(sl z6 f7 e8),(sl z10 f11 e12)] 0) ?_
 refine q (eptr [(J p1.Stack),(J p1.Start),(sl z2 f3 e4),(sl z6 f7 e8),(sl z10 f11 e12)] 0) ?_
 refine q (eptr [(J p1.Stack),(J p1.Start),(sl z2 f3 e4),(sl z6 f7 e8),(sl z10 f11 e12)] 2) ?_
 refine lE (sl z2 f3 e4) ?_
 refine AOps.p rfl (len_eq h5) ?_
 refine aq (J (p1.Call.length:Int)) ?_
 refine nl ?_
 refine seq ?_
 refine sr ?_
 refine q (J (p1.Call.length:Int)) ?_
 obtain ⟨y14,h15,h⟩:=obind h
 refine cP (spec_l00In_ok  h15 hWF) ?_
 intro _ o17 h16
 cases h16
 refine q (bool (!y14)) ?_
 refine q (bool (!y14)) ?_
 obtain ⟨b19,hb,h⟩:=obind h
 refine split 7 (fun f'=>∃ tm' os',f'=⟨updL tm' [(0,(eptr [(J p1.Stack),(J p1.Start),(sl z2 f3 e4),(sl z6 f7 e8),(sl z10 f11 e12)] 0)),(3,(J (p1.Call.length:Int))),(22,(bool b19))],updL os' [],s.M⟩) ?_ ?_
 ·rcases oite hb with ⟨hc18,hb⟩ | ⟨hc18,hb⟩
  ·refine kn 15 hc18 ?_
   refine sk ?_
   refine sk ?_
   refine sk ?_
   refine sk ?_
   refine sk ?_
   refine sk ?_
   refine q (bool true) ?_
   exact rR ⟨rfl,rfl,bJ hb,tv⟩
  ·have h:=hb
   refine kn 15 hc18 ?_
   refine q (eptr [(J p1.Stack),(J p1.Start),(sl z2 f3 e4),(sl z6 f7 e8),(sl z10 f11 e12)] 0) ?_
   refine q (eptr [(J p1.Stack),(J p1.Start),(sl z2 f3 e4),(sl z6 f7 e8),(sl z10 f11 e12)] 0) ?_
   refine q (eptr [(J p1.Stack),(J p1.Start),(sl z2 f3 e4),(sl z6 f7 e8),(sl z10 f11 e12)] 0) ?_
   refine lE (J p1.Stack) ?_
   obtain ⟨y20,h21,h⟩:=obind h
   refine cP (spec_l00In_ok  h21 hWF) ?_
   intro _ o23 h22
   cases h22
   refine q (bool (!y20)) ?_
   refine q (bool (!y20)) ?_
   exact rR ⟨rfl,rfl,bJ h,tv⟩
 rintro _ ⟨tm,os,rfl⟩
 refine q (bool b19) ?_
 obtain ⟨b25,hb,h⟩:=obind h
 refine split 9 (fun f'=>∃ tm' os',f'=⟨updL tm' [(0,(eptr [(J p1.Stack),(J p1.Start),(sl z2 f3 e4),(sl z6 f7 e8),(sl z10 f11 e12)] 0)),(3,(J (p1.Call.length:Int))),(32,(bool b25))],updL os' [],s.M⟩) ?_ ?_
 ·rcases oite hb with ⟨hc24,hb⟩ | ⟨hc24,hb⟩
  ·refine kn 23 hc24 ?_
   refine sk ?_
   refine sk ?_
   refine sk ?_
   refine sk ?_
   refine sk ?_
   refine sk ?_
   refine sk ?_
   refine sk ?_
   refine q (bool true) ?_
   exact rR ⟨rfl,rfl,bJ hb,tv⟩
  ·have h:=hb
   refine kn 23 hc24 ?_
   refine q (eptr [(J p1.Stack),(J p1.Start),(sl z2 f3 e4),(sl z6 f7 e8),(sl z10 f11 e12)] 0) ?_
   refine q (eptr [(J p1.Stack),(J p1.Start),(sl z2 f3 e4),(sl z6 f7 e8),(sl z10 f11 e12)] 0) ?_
   refine q (eptr [(J p1.Stack),(J p1.Start),(sl z2 f3 e4),(sl z6 f7 e8),(sl z10 f11 e12)] 1) ?_
   refine lE (J p1.Start) ?_
   refine q (J (p1.Call.length:Int)) ?_
   refine q (J (W ((p1.Call.length:Int) - 1))) ?_
   obtain ⟨y26,h27,h⟩:=obind h
   refine cP (spec_l00In_ok  h27 hWF) ?_
   intro _ o29 h28
   cases h28
   refine q (bool (!y26)) ?_
   refine q (bool (!y26)) ?_
   exact rR ⟨rfl,rfl,bJ h,tv⟩
 rintro _ ⟨tm,os,rfl⟩
 refine q (bool b25) ?_
 refine split 8 (fun f'=>∃ tm' os',f'=⟨updL tm' [(0,(eptr [(J p1.Stack),(J p1.Start),(sl z2 f3 e4),(sl z6 f7 e8),(sl z10 f11 e12)] 0)),(3,(J (p1.Call.length:Int))),(41,(bool (b25||((p1.Return.length:Int) != (p1.Call.length:Int)))))],updL os' [],s.M⟩) ?_ ?_
 ·rcases Bool.eq_false_or_eq_true b25 with hc30 | hc30
  ·refine kn 33 hc30 ?_
   refine sk ?_
   refine sk ?_
   refine sk ?_
   refine sk ?_
   refine sk ?_
   refine sk ?_
   refine sk ?_
   refine q (bool true) ?_
   exact rR ⟨rfl,rfl,congrArg bool (or_t hc30),tv⟩
  ·refine kn 33 hc30 ?_
   refine q (eptr [(J p1.Stack),(J p1.Start),(sl z2 f3 e4),(sl z6 f7 e8),(sl z10 f11 e12)] 0) ?_
   refine q (eptr [(J p1.Stack),(J p1.Start),(sl z2 f3 e4),(sl z6 f7 e8),(sl z10 f11 e12)] 0) ?_
   refine q (eptr [(J p1.Stack),(J p1.Start),(sl z2 f3 e4),(sl z6 f7 e8),(sl z10 f11 e12)] 3) ?_
   refine lE (sl z6 f7 e8) ?_
   refine AOps.p rfl (len_eq h9) ?_
   refine q (J (p1.Call.length:Int)) ?_
   refine q (bool ((p1.Return.length:Int) != (p1.Call.length:Int))) ?_
   refine q (bool ((p1.Return.length:Int) != (p1.Call.length:Int))) ?_
   exact rR ⟨rfl,rfl,congrArg bool (or_f hc30),tv⟩
 rintro _ ⟨tm,os,rfl⟩
 refine q (bool (b25||((p1.Return.length:Int) != (p1.Call.length:Int)))) ?_
 refine split 8 (fun f'=>∃ tm' os',f'=⟨updL tm' [(0,(eptr [(J p1.Stack),(J p1.Start),(sl z2 f3 e4),(sl z6 f7 e8),(sl z10 f11 e12)] 0)),(3,(J (p1.Call.length:Int))),(50,(bool ((b25||((p1.Return.length:Int) != (p1.Call.length:Int)))||((p1.Inner.length:Int) != (p1.Call.length:Int)))))],updL os' [],s.M⟩) ?_ ?_
 ·rcases Bool.eq_false_or_eq_true (b25||((p1.Return.length:Int) != (p1.Call.length:Int))) with hc31 | hc31
  ·refine kn 42 hc31 ?_
   refine sk ?_
   refine sk ?_
   refine sk ?_
   refine sk ?_
   refine sk ?_
   refine sk ?_
   refine sk ?_
   refine q (bool true) ?_
   exact rR ⟨rfl,rfl,congrArg bool (or_t hc31),tv⟩
  ·refine kn 42 hc31 ?_
   refine q (eptr [(J p1.Stack),(J p1.Start),(sl z2 f3 e4),(sl z6 f7 e8),(sl z10 f11 e12)] 0) ?_
   refine q (eptr [(J p1.Stack),(J p1.Start),(sl z2 f3 e4),(sl z6 f7 e8),(sl z10 f11 e12)] 0) ?_
   refine q (eptr [(J p1.Stack),(J p1.Start),(sl z2 f3 e4),(sl z6 f7 e8),(sl z10 f11 e12)] 4) ?_
   refine lE (sl z10 f11 e12) ?_
   refine AOps.p rfl (len_eq h13) ?_
   refine q (J (p1.Call.length:Int)) ?_
   refine q (bool ((p1.Inner.length:Int) != (p1.Call.length:Int))) ?_
   refine q (bool ((p1.Inner.length:Int) != (p1.Call.length:Int))) ?_
   exact rR ⟨rfl,rfl,congrArg bool (or_f hc31),tv⟩
 rintro _ ⟨tm,os,rfl⟩
 refine nl ?_
 rcases oite h with ⟨hc32,h⟩ | ⟨hc32,h⟩
 ·refine cT hc32 ?_
  refine sr ?_
  refine q (bool false) ?_
  refine nl ?_
  cases h
  exact ret ⟨rfl,_,_,rfl,rfl⟩
 refine cF hc32 ?_
 refine skip ?_
 refine seq ?_
 refine sr ?_
 refine q (J 0) ?_
 refine nl ?_
 refine meet (σ:=Unit) (fun _ tm os=>⟨updL tm [],updL os [],s.M⟩) (fun _=>spec_l06Ok_J1=some r) ?_ ?_
 ·rintro _ tm os h
  unfold spec_l06Ok_J1 at h
  refine sr ?_
  refine q (bool true) ?_
  refine nl ?_
  cases h
  exact ret ⟨rfl,_,_,rfl,rfl⟩
 intro KJ33
 refine block ?_
 refine res [(0,(eptr [(J p1.Stack),(J p1.Start),(sl z2 f3 e4),(sl z6 f7 e8),(sl z10 f11 e12)] 0)),(3,(J (p1.Call.length:Int))),(4,(J 0))] [] ⟨rfl,rfl,rfl,tv⟩ tv ?_
 refine loopF (σ:=Int) (τ:=Unit) (fun t34 _=>True) (fun t34 _ tm os=>⟨updL tm [(0,(eptr [(J p1.Stack),(J p1.Start),(sl z2 f3 e4),(sl z6 f7 e8),(sl z10 f11 e12)] 0)),(3,(J (p1.Call.length:Int))),(4,(J t34))],updL os [],s.M⟩) ?_ (x:=(0)) (y:=()) h tv
 clear h
 rintro t34 _ tm os - ee1 h hL1 hR1
 unfold spec_l06Ok_S1 at h
 refine seq ?_
 refine sr ?_
 refine q (J t34) ?_
 refine q (J (p1.Call.length:Int)) ?_
 refine q (bool (decide ((t34:Int)<(p1.Call.length:Int)))) ?_
 refine nl ?_
 rcases oite h with ⟨hc35,h⟩ | ⟨hc35,h⟩
 ·refine cT hc35 ?_
  refine skip ?_
  refine seq ?_
  refine block ?_
  refine seq ?_
  refine sr ?_
  refine q (eptr [(J p1.Stack),(J p1.Start),(sl z2 f3 e4),(sl z6 f7 e8),(sl z10 f11 e12)] 0) ?_
  refine q (eptr [(J p1.Stack),(J p1.Start),(sl z2 f3 e4),(sl z6 f7 e8),(sl z10 f11 e12)] 0) ?_
  refine q (eptr [(J p1.Stack),(J p1.Start),(sl z2 f3 e4),(sl z6 f7 e8),(sl z10 f11 e12)] 2) ?_
  refine lE (sl z2 f3 e4) ?_
  refine q (J t34) ?_
  obtain ⟨x36,h37,h⟩:=obind h
  obtain ⟨v40,h38,h39⟩:=idx_sl h5 h37
  obtain ⟨z41,f42,e43,rfl,h44⟩:=h38
  refine pureR rfl rfl rfl h39 rfl (rfl:_=(eptr [(sl z41 f42 e43)] 0)) ?_
  refine lE (sl z41 f42 e43) ?_
  refine AOps.p rfl (len_eq h44) ?_
  refine q (bool ((x36.length:Int) != 2)) ?_
  refine q (bool ((x36.length:Int) != 2)) ?_
  obtain ⟨b46,hb,h⟩:=obind h
  refine split 10 (fun f'=>∃ tm' os',f'=⟨updL tm' [(0,(eptr [(J p1.Stack),(J p1.Start),(sl z2 f3 e4),(sl z6 f7 e8),(sl z10 f11 e12)] 0)),(3,(J (p1.Call.length:Int))),(4,(J t34)),(75,(bool b46))],updL os' [],s.M⟩) ?_ ?_
  ·rcases oite hb with ⟨hc45,hb⟩ | ⟨hc45,hb⟩
   ·refine kn 65 hc45 ?_
    refine sk ?_
    refine sk ?_
    refine sk ?_
    refine sk ?_
    refine sk ?_
    refine sk ?_
    refine sk ?_
    refine sk ?_
    refine sk ?_
    refine q (bool true) ?_
    exact rR ⟨rfl,rfl,rfl,bJ hb,tv⟩
   ·have h:=hb
    refine kn 65 hc45 ?_
    refine q (eptr [(J p1.Stack),(J p1.Start),(sl z2 f3 e4),(sl z6 f7 e8),(sl z10 f11 e12)] 0) ?_
    refine q (eptr [(J p1.Stack),(J p1.Start),(sl z2 f3 e4),(sl z6 f7 e8),(sl z10 f11 e12)] 0) ?_
    refine q (eptr [(J p1.Stack),(J p1.Start),(sl z2 f3 e4),(sl z6 f7 e8),(sl z10 f11 e12)] 3) ?_
    refine lE (sl z6 f7 e8) ?_
    refine q (J t34) ?_
    obtain ⟨x47,h48,h⟩:=obind h
    obtain ⟨v51,h49,h50⟩:=idx_sl h9 h48
    obtain ⟨z52,f53,e54,rfl,h55⟩:=h49
    refine pureR rfl rfl rfl h50 rfl (rfl:_=(eptr [(sl z52 f53 e54)] 0)) ?_
    refine lE (sl z52 f53 e54) ?_
    refine AOps.p rfl (len_eq h55) ?_
    refine q (bool ((x47.length:Int) != 2)) ?_
    refine q (bool ((x47.length:Int) != 2)) ?_
    exact rR ⟨rfl,rfl,rfl,bJ h,tv⟩
  rintro _ ⟨tm,os,rfl⟩
  refine q (bool b46) ?_
  obtain ⟨b57,hb,h⟩:=obind h
  refine split 11 (fun f'=>∃ tm' os',f'=⟨updL tm' [(0,(eptr [(J p1.Stack),(J p1.Start),(sl z2 f3 e4),(sl z6 f7 e8),(sl z10 f11 e12)] 0)),(3,(J (p1.Call.length:Int))),(4,(J t34)),(87,(bool b57))],updL os' [],s.M⟩) ?_ ?_
  ·rcases oite hb with ⟨hc56,hb⟩ | ⟨hc56,hb⟩
   ·refine kn 76 hc56 ?_
    refine sk ?_
    refine sk ?_
    refine sk ?_
    refine sk ?_
    refine sk ?_
    refine sk ?_
    refine sk ?_
    refine sk ?_
    refine sk ?_
    refine sk ?_
    refine q (bool true) ?_
    exact rR ⟨rfl,rfl,rfl,bJ hb,tv⟩
   ·have h:=hb
    refine kn 76 hc56 ?_
    refine q (eptr [(J p1.Stack),(J p1.Start),(sl z2 f3 e4),(sl z6 f7 e8),(sl z10 f11 e12)] 0) ?_
    refine q (eptr [(J p1.Stack),(J p1.Start),(sl z2 f3 e4),(sl z6 f7 e8),(sl z10 f11 e12)] 0) ?_
    refine q (eptr [(J p1.Stack),(J p1.Start),(sl z2 f3 e4),(sl z6 f7 e8),(sl z10 f11 e12)] 4) ?_
    refine lE (sl z10 f11 e12) ?_
    refine q (J t34) ?_
    obtain ⟨x58,h59,h⟩:=obind h
    obtain ⟨v62,h60,h61⟩:=idx_sl h13 h59
    obtain ⟨z63,f64,e65,rfl,h66⟩:=h60
    refine pureR rfl rfl rfl h61 rfl (rfl:_=(eptr [(sl z63 f64 e65)] 0)) ?_
    refine lE (sl z63 f64 e65) ?_
    refine q (J (p1.Call.length:Int)) ?_
    obtain ⟨y67,h68,h⟩:=obind h
    refine cP (spec_l06Moves_ok h66 h68 hWF) ?_
    intro _ o70 h69
    cases h69
    refine q (bool (!y67)) ?_
    refine q (bool (!y67)) ?_
    exact rR ⟨rfl,rfl,rfl,bJ h,tv⟩
  rintro _ ⟨tm,os,rfl⟩
  refine nl ?_
  rcases oite h with ⟨hc71,h⟩ | ⟨hc71,h⟩
  ·refine cT hc71 ?_
   refine sr ?_
   refine q (bool false) ?_
   refine nl ?_
   cases h
   have hr:=hR1 _ rfl
   subst hr
   exact ret ⟨rfl,_,_,rfl,rfl⟩
  refine cF hc71 ?_
  refine skip ?_
  refine sr ?_
  refine q (J 0) ?_
  refine nl ?_
  refine meet (σ:=Unit) (fun _ tm os=>⟨updL tm [(0,(eptr [(J p1.Stack),(J p1.Start),(sl z2 f3 e4),(sl z6 f7 e8),(sl z10 f11 e12)] 0)),(3,(J (p1.Call.length:Int))),(4,(J t34))],updL os [],s.M⟩) (fun _=>spec_l06Ok_J2 t34=some ee1) ?_ ?_
  ·rintro _ tm os h
   unfold spec_l06Ok_J2 at h
   refine inBlock ?_
   refine region ?_
   refine q (J t34) ?_
   refine q (J (W (t34+1))) ?_
   refine aq (J (W (t34+1))) ?_
   refine nl ?_
   cases h
   exact res [(0,(eptr [(J p1.Stack),(J p1.Start),(sl z2 f3 e4),(sl z6 f7 e8),(sl z10 f11 e12)] 0)),(3,(J (p1.Call.length:Int))),(4,(J (W (t34+1))))] [] ⟨rfl,rfl,rfl,tv⟩ tv (hL1 _ rfl () _ _ tv)
  intro KJ72
  refine block ?_
  refine res [(0,(eptr [(J p1.Stack),(J p1.Start),(sl z2 f3 e4),(sl z6 f7 e8),(sl z10 f11 e12)] 0)),(3,(J (p1.Call.length:Int))),(4,(J t34)),(5,(J 0))] [] ⟨rfl,rfl,rfl,rfl,tv⟩ tv ?_
  refine loopF (σ:=Int) (τ:=Unit) (fun t73 _=>True) (fun t73 _ tm os=>⟨updL tm [(0,(eptr [(J p1.Stack),(J p1.Start),(sl z2 f3 e4),(sl z6 f7 e8),(sl z10 f11 e12)] 0)),(3,(J (p1.Call.length:Int))),(4,(J t34)),(5,(J t73))],updL os [],s.M⟩) ?_ (x:=(0)) (y:=()) h tv
  clear h
  rintro t73 _ tm os - ee2 h hL2 hR2
  unfold spec_l06Ok_S2 at h
  refine seq ?_
  refine sr ?_
  refine q (J t73) ?_
  refine q (bool (decide ((t73:Int)<2))) ?_
  refine nl ?_
  rcases oite h with ⟨hc74,h⟩ | ⟨hc74,h⟩
  ·refine cT hc74 ?_
   refine skip ?_
   refine seq ?_
   refine block ?_
   refine sr ?_
   refine q (eptr [(J p1.Stack),(J p1.Start),(sl z2 f3 e4),(sl z6 f7 e8),(sl z10 f11 e12)] 0) ?_
   refine q (eptr [(J p1.Stack),(J p1.Start),(sl z2 f3 e4),(sl z6 f7 e8),(sl z10 f11 e12)] 0) ?_
   refine q (eptr [(J p1.Stack),(J p1.Start),(sl z2 f3 e4),(sl z6 f7 e8),(sl z10 f11 e12)] 2) ?_
   refine lE (sl z2 f3 e4) ?_
   refine q (J t34) ?_
   obtain ⟨x75,h76,h⟩:=obind h
   obtain ⟨v79,h77,h78⟩:=idx_sl h5 h76
   obtain ⟨z80,f81,e82,rfl,h83⟩:=h77
   refine pureR rfl rfl rfl h78 rfl (rfl:_=(eptr [(sl z80 f81 e82)] 0)) ?_
   refine lE (sl z80 f81 e82) ?_
   refine q (J t73) ?_
   obtain ⟨x84,h85,h⟩:=obind h
   obtain ⟨v88,h86,h87⟩:=idx_sl h83 h85
   obtain ⟨_,rfl,h89⟩:=h86
   obtain ⟨_,_,rfl,h90,h91⟩:=Cs_cons h89
   cases h90
   obtain ⟨_,_,rfl,h92,h93⟩:=Cs_cons h91
   cases h92
   obtain ⟨_,_,rfl,h94,h95⟩:=Cs_cons h93
   cases h94
   cases Cs_nil h95
   refine pureR rfl rfl rfl h87 rfl (rfl:_=(eptr [(J x84.To),(J x84.Put),(str x84.Out)] 0)) ?_
   refine lE (agg [(J x84.To),(J x84.Put),(str x84.Out)]) ?_
   refine allocP rfl rfl rfl rfl ⟨rfl,rfl⟩ rfl ?_
   refine stP (v:=(agg [(J x84.To),(J x84.Put),(str x84.Out)])) rfl rfl rfl rfl rfl rfl rfl rfl rfl (lt_b rfl) rfl ?_
   refine ns ?_
   refine q (eptr [(J x84.To),(J x84.Put),(str x84.Out)] 0) ?_
   refine lE (J x84.To) ?_
   refine q (J (p1.Call.length:Int)) ?_
   refine q (J (W ((p1.Call.length:Int) - 1))) ?_
   obtain ⟨y96,h97,h⟩:=obind h
   refine callDP (g:=67) (args:=[(J x84.To),(J 0),(J (W ((p1.Call.length:Int) - 1)))]) (p:=(rB) y96) rfl rfl rfl (spec_l00In_ok  h97 hWF.still) (fun v hv=>Nice.pure (k:=FINK) (p:=(rB) y96) .B _ v hv) ?_
   intro _ o99 h98
   cases h98
   refine q (bool (!y96)) ?_
   refine q (bool (!y96)) ?_
   obtain ⟨b101,hb,h⟩:=obind h
   refine split 10 (fun f'=>∃ tm' os',f'=⟨updL tm' [(0,(eptr [(J p1.Stack),(J p1.Start),(sl z2 f3 e4),(sl z6 f7 e8),(sl z10 f11 e12)] 0)),(3,(J (p1.Call.length:Int))),(4,(J t34)),(5,(J t73)),(6,(eptr [(J x84.To),(J x84.Put),(str x84.Out)] 0)),(118,(bool b101))],updL os' [],s.M⟩) ?_ ?_
   ·rcases oite hb with ⟨hc100,hb⟩ | ⟨hc100,hb⟩
    ·refine kn 108 hc100 ?_
     refine sk ?_
     refine sk ?_
     refine sk ?_
     refine sk ?_
     refine sk ?_
     refine sk ?_
     refine sk ?_
     refine sk ?_
     refine sk ?_
     refine q (bool true) ?_
     exact rR ⟨rfl,rfl,rfl,rfl,rfl,bJ hb,tv⟩
    ·have h:=hb
     refine kn 108 hc100 ?_
     refine q (eptr [(J x84.To),(J x84.Put),(str x84.Out)] 1) ?_
     refine lE (J x84.Put) ?_
     refine q (eptr [(J p1.Stack),(J p1.Start),(sl z2 f3 e4),(sl z6 f7 e8),(sl z10 f11 e12)] 0) ?_
     refine q (eptr [(J p1.Stack),(J p1.Start),(sl z2 f3 e4),(sl z6 f7 e8),(sl z10 f11 e12)] 0) ?_
     refine q (eptr [(J p1.Stack),(J p1.Start),(sl z2 f3 e4),(sl z6 f7 e8),(sl z10 f11 e12)] 0) ?_
     refine lE (J p1.Stack) ?_
     refine q (J (W (p1.Stack - 1))) ?_
     obtain ⟨y102,h103,h⟩:=obind h
     refine callDP (g:=67) (args:=[(J x84.Put),(J 0),(J (W (p1.Stack - 1)))]) (p:=(rB) y102) rfl rfl rfl (spec_l00In_ok  h103 hWF.still) (fun v hv=>Nice.pure (k:=FINK) (p:=(rB) y102) .B _ v hv) ?_
     intro _ o105 h104
     cases h104
     refine q (bool (!y102)) ?_
     refine q (bool (!y102)) ?_
     exact rR ⟨rfl,rfl,rfl,rfl,rfl,bJ h,tv⟩
   rintro _ ⟨tm,os,rfl⟩
   refine q (bool b101) ?_
   obtain ⟨b107,hb,h⟩:=obind h
   refine split 5 (fun f'=>∃ tm' os',f'=⟨updL tm' [(0,(eptr [(J p1.Stack),(J p1.Start),(sl z2 f3 e4),(sl z6 f7 e8),(sl z10 f11 e12)] 0)),(3,(J (p1.Call.length:Int))),(4,(J t34)),(5,(J t73)),(124,(bool b107))],updL os' [],s.M⟩) ?_ ?_
   ·rcases oite hb with ⟨hc106,hb⟩ | ⟨hc106,hb⟩
    ·refine kn 119 hc106 ?_
     refine sk ?_
     refine sk ?_
     refine sk ?_
     refine sk ?_
     refine q (bool true) ?_
     exact rR ⟨rfl,rfl,rfl,rfl,bJ hb,tv⟩
    ·have h:=hb
     refine kn 119 hc106 ?_
     refine q (eptr [(J x84.To),(J x84.Put),(str x84.Out)] 2) ?_
     refine lE (str x84.Out) ?_
     obtain ⟨y108,h109,h⟩:=obind h
     refine callDP (g:=69) (args:=[(str x84.Out)]) (p:=(rB) y108) rfl rfl rfl (spec_l06Out_ok  h109 hWF.still) (fun v hv=>Nice.pure (k:=FINK) (p:=(rB) y108) .B _ v hv) ?_
     intro _ o111 h110
     cases h110
     refine q (bool (!y108)) ?_
     refine q (bool (!y108)) ?_
     exact rR ⟨rfl,rfl,rfl,rfl,bJ h,tv⟩
   rintro _ ⟨tm,os,rfl⟩
   refine q (bool b107) ?_
   obtain ⟨b113,hb,h⟩:=obind h
   refine split 19 (fun f'=>∃ tm' os',f'=⟨updL tm' [(0,(eptr [(J p1.Stack),(J p1.Start),(sl z2 f3 e4),(sl z6 f7 e8),(sl z10 f11 e12)] 0)),(3,(J (p1.Call.length:Int))),(4,(J t34)),(5,(J t73)),(144,(bool b113))],updL os' [],s.M⟩) ?_ ?_
   ·rcases oite hb with ⟨hc112,hb⟩ | ⟨hc112,hb⟩
    ·refine kn 125 hc112 ?_
     refine sk ?_
     refine sk ?_
     refine sk ?_
     refine sk ?_
     refine sk ?_
     refine sk ?_
     refine sk ?_
     refine sk ?_
     refine sk ?_
     refine sk ?_
     refine sk ?_
     refine sk ?_
     refine sk ?_
     refine sk ?_
     refine sk ?_
     refine sk ?_
     refine sk ?_
     refine sk ?_
     refine q (bool true) ?_
     exact rR ⟨rfl,rfl,rfl,rfl,bJ hb,tv⟩
    ·have h:=hb
     refine kn 125 hc112 ?_
     refine q (eptr [(J p1.Stack),(J p1.Start),(sl z2 f3 e4),(sl z6 f7 e8),(sl z10 f11 e12)] 0) ?_
     refine q (eptr [(J p1.Stack),(J p1.Start),(sl z2 f3 e4),(sl z6 f7 e8),(sl z10 f11 e12)] 0) ?_
     refine q (eptr [(J p1.Stack),(J p1.Start),(sl z2 f3 e4),(sl z6 f7 e8),(sl z10 f11 e12)] 3) ?_
     refine lE (sl z6 f7 e8) ?_
     refine q (J t34) ?_
     obtain ⟨x114,h115,h⟩:=obind h
     obtain ⟨v118,h116,h117⟩:=idx_sl h9 h115
     obtain ⟨z119,f120,e121,rfl,h122⟩:=h116
     refine pureR rfl rfl rfl h117 rfl (rfl:_=(eptr [(sl z119 f120 e121)] 0)) ?_
     refine lE (sl z119 f120 e121) ?_
     refine q (J t73) ?_
     obtain ⟨x123,h124,h⟩:=obind h
     obtain ⟨v127,h125,h126⟩:=idx_sl h122 h124
     obtain ⟨z128,f129,e130,rfl,h131⟩:=h125
     refine pureR rfl rfl rfl h126 rfl (rfl:_=(eptr [(sl z128 f129 e130)] 0)) ?_
     refine lE (sl z128 f129 e130) ?_
     refine q (eptr [(J p1.Stack),(J p1.Start),(sl z2 f3 e4),(sl z6 f7 e8),(sl z10 f11 e12)] 0) ?_
     refine q (eptr [(J p1.Stack),(J p1.Start),(sl z2 f3 e4),(sl z6 f7 e8),(sl z10 f11 e12)] 0) ?_
     refine q (eptr [(J p1.Stack),(J p1.Start),(sl z2 f3 e4),(sl z6 f7 e8),(sl z10 f11 e12)] 0) ?_
     refine lE (J p1.Stack) ?_
     refine q (J (W (p1.Stack+1))) ?_
     refine q (J (p1.Call.length:Int)) ?_
     obtain ⟨y132,h133,h⟩:=obind h
     refine callDP (g:=68) (args:=[(sl z128 f129 e130),(J (W (p1.Stack+1))),(J (p1.Call.length:Int))]) (p:=(rB) y132) rfl rfl rfl (spec_l06Moves_ok h131 h133 hWF.still) (fun v hv=>Nice.pure (k:=FINK) (p:=(rB) y132) .B _ v hv) ?_
     intro _ o135 h134
     cases h134
     refine q (bool (!y132)) ?_
     refine q (bool (!y132)) ?_
     exact rR ⟨rfl,rfl,rfl,rfl,bJ h,tv⟩
   rintro _ ⟨tm,os,rfl⟩
   refine nl ?_
   rcases oite h with ⟨hc136,h⟩ | ⟨hc136,h⟩
   ·refine cT hc136 ?_
    refine sr ?_
    refine q (bool false) ?_
    refine nl ?_
    cases h
    have hr:=hR2 _ rfl
    cases hr
    have hr:=hR1 _ rfl
    subst hr
    exact ret ⟨rfl,_,_,rfl,rfl⟩
   refine cF hc136 ?_
   refine skip ?_
   refine inBlock ?_
   refine region ?_
   refine q (J t73) ?_
   refine q (J (W (t73+1))) ?_
   refine aq (J (W (t73+1))) ?_
   refine nl ?_
   cases h
   exact res [(0,(eptr [(J p1.Stack),(J p1.Start),(sl z2 f3 e4),(sl z6 f7 e8),(sl z10 f11 e12)] 0)),(3,(J (p1.Call.length:Int))),(4,(J t34)),(5,(J (W (t73+1))))] [] ⟨rfl,rfl,rfl,rfl,tv⟩ tv (hL2 _ rfl () _ _ tv)
  refine cF hc74 ?_
  refine exit rfl ?_
  obtain ⟨r137,hm,hx⟩:=omap h
  clear h
  subst hx
  have hx:=hR2 _ rfl
  rw[hx] at hm
  have h:=hm
  exact res [(0,(eptr [(J p1.Stack),(J p1.Start),(sl z2 f3 e4),(sl z6 f7 e8),(sl z10 f11 e12)] 0)),(3,(J (p1.Call.length:Int))),(4,(J t34))] [] ⟨rfl,rfl,rfl,tv⟩ tv (KJ72 () _ _ h)
 refine cF hc35 ?_
 refine exit rfl ?_
 obtain ⟨r138,hm,hx⟩:=omap h
 clear h
 subst hx
 have hx:=hR1 _ rfl
 rw[hx] at hm
 have h:=hm
 exact res [] [] tv tv (KJ33 () _ _ h)
theorem spec_l02List_ok {list1:List Int} {length6 n7:Int} {z2:Nat} {f3:Bool} {e4:List AV} {s:St} (h5:LR rJ 1 list1 z2 e4) {r:Bool} (h:spec_l02List list1 length6 n7=some r) (hs:WF s):ACall Cf 70 [(sl z2 f3 e4),(J length6),(J n7)] s fun v _ s'=>(rB) r v∧s'=s:=by
 refine ACall.pure rfl rfl rfl .B ?_
 have hWF:=hs.lo'
 unfold spec_l02List at h
 refine sr<|q (bool false)<|nl ?_
 refine seq<|sr<|q (sl z2 f3 e4)<|AOps.p rfl (len_eq h5) ?_
 refine q (J length6) ?_
 refine q (bool ((list1.length:Int) != length6))<|nl ?_
 rcases oite h with ⟨hc8,h⟩ | ⟨hc8,h⟩
 ·refine cT hc8<|sr<|q (bool false)<|nl ?_
  cases h
  exact ret ⟨rfl,_,_,rfl,rfl⟩
 refine cF hc8<|skip<|seq<|sr<|q (J 0)<|nl ?_
 refine meet (σ:=Unit) (fun _ tm os=>⟨updL tm [],updL os [],s.M⟩) (fun _=>spec_l02List_J1=some r) ?_ ?_
 ·rintro _ tm os h
  unfold spec_l02List_J1 at h
  refine sr<|q (bool true)<|nl ?_
  cases h
  exact ret ⟨rfl,_,_,rfl,rfl⟩
 intro KJ9
 refine block<|res [(0,(sl z2 f3 e4)),(2,(J n7)),(7,(J 0))] [] ⟨rfl,rfl,rfl,tv⟩ tv ?_
 refine loopF (σ:=Int) (τ:=Unit) (fun i10 _=>True) (fun i10 _ tm os=>⟨updL tm [(0,(sl z2 f3 e4)),(2,(J n7)),(7,(J i10))],updL os [],s.M⟩) ?_ (x:=(0)) (y:=()) h tv
 clear h
 rintro i10 _ tm os - ee1 h hL1 hR1
 unfold spec_l02List_S1 at h
 refine seq<|sr<|q (J i10) ?_
 refine q (sl z2 f3 e4)<|AOps.p rfl (len_eq h5) ?_
 refine q (bool (decide ((i10:Int)<(list1.length:Int))))<|nl ?_
 rcases oite h with ⟨hc11,h⟩ | ⟨hc11,h⟩
 ·refine cT hc11<|skip<|seq<|block<|sr<|q (sl z2 f3 e4) ?_
  refine q (J i10) ?_
  obtain ⟨x12,h13,h⟩:=obind h
  obtain ⟨v16,h14,h15⟩:=idx_sl h5 h13
  cases h14
  refine pureR rfl rfl rfl h15 rfl (rfl:_=(eptr [(J x12)] 0))<|lE (J x12) ?_
  refine q (J n7) ?_
  refine q (J (W (n7 - 1))) ?_
  obtain ⟨y17,h18,h⟩:=obind h
  refine cP (spec_l00In_ok  h18 hWF) ?_
  intro _ o20 h19
  cases h19
  refine q (bool (!y17))<|nl ?_
  rcases oite h with ⟨hc21,h⟩ | ⟨hc21,h⟩
  ·refine cT hc21<|sr<|q (bool false)<|nl ?_
   cases h
   have hr:=hR1 _ rfl
   subst hr
   exact ret ⟨rfl,_,_,rfl,rfl⟩
  refine cF hc21<|skip<|inBlock<|region<|q (J i10) ?_
  refine q (J (W (i10+1))) ?_
  refine aq (J (W (i10+1)))<|nl ?_
  cases h
  exact res [(0,(sl z2 f3 e4)),(2,(J n7)),(7,(J (W (i10+1))))] [] ⟨rfl,rfl,rfl,tv⟩ tv (hL1 _ rfl () _ _ tv)
 refine cF hc11<|exit rfl ?_
 obtain ⟨r22,hm,hx⟩:=omap h
 clear h
 subst hx
 have hx:=hR1 _ rfl
 rw[hx] at hm
 have h:=hm
 exact res [] [] tv tv (KJ9 () _ _ h)
end Go.Proofs.YtpchecdlbagedaaGreat.law
