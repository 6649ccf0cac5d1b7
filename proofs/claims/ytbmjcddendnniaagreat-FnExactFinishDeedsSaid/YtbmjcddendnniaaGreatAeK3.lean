import Derived.Test.YtbmjcddendnniaaGreatAeD
import Derived.Test.YtbmjcddendnniaaGreatAe4
import Derived.Test.YtbmjcddendnniaaGreatAeK2
set_option linter.unusedVariables false
set_option linter.unusedSimpArgs false
namespace Go.Proofs.YtbmjcddendnniaaGreat.law
open Go Go.Proofs Ae
open Ae.AV (int sl eptr agg ptr bool str)
set_option maxRecDepth 100000
set_option linter.unusedVariables false
theorem impl_ValidStream_ok {v1:Stream} {z2 z6 z10 z14 z18:Nat} {f3 f7 f11 f15 f19:Bool} {e4 e8 e12 e16 e20:List AV} {s:St} (h5:LR rB 1 v1.Checker.Accept z2 e4) (h9:LR (rL rPush 2) 1 v1.Checker.Call z6 e8) (h13:LR (rL (rL rJ 1) 1) 1 v1.Checker.Return z10 e12) (h17:LR (rL rJ 1) 1 v1.Checker.Inner z14 e16) (h21:LR rS 1 v1.Pieces z18 e20) {r:Bool} (h:impl_ValidStream v1=some r) (hs:WF s):ACall Cf 44 [(agg [(J v1.Checker.Stack),(J v1.Checker.Start),(sl z2 f3 e4),(sl z6 f7 e8),(sl z10 f11 e12),(sl z14 f15 e16),(sl z18 f19 e20)])] s fun v _ s'=>(rB) r v∧s'=s:=by
 refine ACall.pure rfl rfl rfl .B ?_
 have hWF:=hs.lo'
 unfold impl_ValidStream at h
 refine sr ?_
 refine AOps.makeR rfl rfl rfl rfl rfl rfl (rfl:_=(eptr [(J v1.Checker.Stack),(J v1.Checker.Start),(sl z2 f3 e4),(sl z6 f7 e8),(sl z10 f11 e12),(sl z14 f15 e16),(sl z18 f19 e20)] 0)) ?_
 refine q (bool false) ?_
 refine ns ?_
 refine q (eptr [(J v1.Checker.Stack),(J v1.Checker.Start),(sl z2 f3 e4),(sl z6 f7 e8),(sl z10 f11 e12),(sl z14 f15 e16),(sl z18 f19 e20)] 0) ?_
 refine lE (agg [(J v1.Checker.Stack),(J v1.Checker.Start),(sl z2 f3 e4),(sl z6 f7 e8),(sl z10 f11 e12),(sl z14 f15 e16)]) ?_
 obtain ⟨y22,h23,h⟩:=obind h
 refine cP (impl_ValidChecker_ok h5 h9 h13 h17 h23 hWF) ?_
 intro _ o25 h24
 cases h24
 refine q (bool y22) ?_
 obtain ⟨b27,hb,h⟩:=obind h
 refine AOps.split 5 (fun f'=>∃ tm' os',f'=⟨updL tm' [(1,(eptr [(J v1.Checker.Stack),(J v1.Checker.Start),(sl z2 f3 e4),(sl z6 f7 e8),(sl z10 f11 e12),(sl z14 f15 e16),(sl z18 f19 e20)] 0)),(11,(bool b27))],updL os' [],{ s with lo:=s.n }⟩) ?_ ?_
 ·rcases oite hb with ⟨hc26,hb⟩ | ⟨hc26,hb⟩
  ·have h:=hb
   refine kn 6 hc26 ?_
   refine q (eptr [(J v1.Checker.Stack),(J v1.Checker.Start),(sl z2 f3 e4),(sl z6 f7 e8),(sl z10 f11 e12),(sl z14 f15 e16),(sl z18 f19 e20)] 6) ?_
   refine lE (sl z18 f19 e20) ?_
   obtain ⟨y28,h29,h⟩:=obind h
   refine cP (impl_size_string_ok h21 h29 hWF) ?_
   intro _ o31 h30
   cases h30
   obtain ⟨y32,h33,h⟩:=obind h
   refine cP (impl_within_ok  h33 hWF) ?_
   intro _ o35 h34
   cases h34
   refine q (bool y32) ?_
   exact rR ⟨rfl,congrArg bool (Option.some.inj h),trivial⟩
  ·refine kn 6 hc26 ?_
   refine sk ?_
   refine sk ?_
   refine sk ?_
   refine sk ?_
   refine q (bool false) ?_
   exact rR ⟨rfl,congrArg bool (Option.some.inj hb),trivial⟩
 rintro _ ⟨tm,os,rfl⟩
 refine q (bool b27) ?_
 obtain ⟨b37,hb,h⟩:=obind h
 refine AOps.split 5 (fun f'=>∃ tm' os',f'=⟨updL tm' [(1,(eptr [(J v1.Checker.Stack),(J v1.Checker.Start),(sl z2 f3 e4),(sl z6 f7 e8),(sl z10 f11 e12),(sl z14 f15 e16),(sl z18 f19 e20)] 0)),(17,(bool b37))],updL os' [],{ s with lo:=s.n }⟩) ?_ ?_
 ·rcases oite hb with ⟨hc36,hb⟩ | ⟨hc36,hb⟩
  ·have h:=hb
   refine kn 12 hc36 ?_
   refine q (eptr [(J v1.Checker.Stack),(J v1.Checker.Start),(sl z2 f3 e4),(sl z6 f7 e8),(sl z10 f11 e12),(sl z14 f15 e16),(sl z18 f19 e20)] 6) ?_
   refine lE (sl z18 f19 e20) ?_
   obtain ⟨y38,h39,h⟩:=obind h
   refine cP (slices_ContainsFunc_sstring_string_ok h21 (by intro x vs y hc hx s hs; obtain ⟨_,_,rfl,hv0,hd0⟩:=Cs_cons hc; cases hv0; cases Cs_nil hd0; exact impl_ValidStream_1_ok  hx hs) h39 hWF) ?_
   intro _ o41 h40
   cases h40
   refine q (bool (!y38)) ?_
   refine q (bool (!y38)) ?_
   exact rR ⟨rfl,congrArg bool (Option.some.inj h),trivial⟩
  ·refine kn 12 hc36 ?_
   refine sk ?_
   refine sk ?_
   refine sk ?_
   refine sk ?_
   refine q (bool false) ?_
   exact rR ⟨rfl,congrArg bool (Option.some.inj hb),trivial⟩
 rintro _ ⟨tm,os,rfl⟩
 refine q (bool b37) ?_
 obtain ⟨b43,hb,h⟩:=obind h
 refine AOps.split 5 (fun f'=>∃ tm' os',f'=⟨updL tm' [(23,(bool b43))],updL os' [],{ s with lo:=s.n }⟩) ?_ ?_
 ·rcases oite hb with ⟨hc42,hb⟩ | ⟨hc42,hb⟩
  ·have h:=hb
   refine kn 18 hc42 ?_
   refine q (eptr [(J v1.Checker.Stack),(J v1.Checker.Start),(sl z2 f3 e4),(sl z6 f7 e8),(sl z10 f11 e12),(sl z14 f15 e16),(sl z18 f19 e20)] 6) ?_
   refine lE (sl z18 f19 e20) ?_
   obtain ⟨y44,h45,h⟩:=obind h
   refine cP (ext_join_ok h21 h45 hWF) ?_
   intro _ o47 h46
   cases h46
   obtain ⟨y48,h49,h⟩:=obind h
   refine cP (impl_ValidWord_ok  h49 hWF) ?_
   intro _ o51 h50
   cases h50
   refine q (bool y48) ?_
   exact rR ⟨congrArg bool (Option.some.inj h),trivial⟩
  ·refine kn 18 hc42 ?_
   refine sk ?_
   refine sk ?_
   refine sk ?_
   refine sk ?_
   refine q (bool false) ?_
   exact rR ⟨congrArg bool (Option.some.inj hb),trivial⟩
 rintro _ ⟨tm,os,rfl⟩
 refine aq (bool b43) ?_
 refine nl ?_
 cases h
 exact AW.ret ⟨rfl,_,_,rfl,rfl⟩
theorem slices_IndexFunc_simpl_Deed_impl_Deed_ok {s1:List Deed} {f6:Deed→Option Bool} {z2 g7:Nat} {f3:Bool} {e4 cap8:List AV} {s:St} (h5:LR rDeed 3 s1 z2 e4) (h9:∀ x vs y,Cs [rDeed x] vs→f6 x=some y→∀ s,WF s→ACall Cf g7 (vs++cap8) s fun v _ s'=>(rB) y v∧s'=s) {r:Int} (h:slices_IndexFunc_simpl_Deed_impl_Deed s1 f6=some r) (hs:WF s):ACall Cf 78 [(sl z2 f3 e4),(AV.fn g7 cap8)] s fun v _ s'=>rJ r v∧s'=s:=by
 refine ACall.pure rfl rfl rfl .I ?_
 have hWF:=hs.lo'
 unfold slices_IndexFunc_simpl_Deed_impl_Deed at h
 refine sr ?_
 refine q (J 0) ?_
 refine nl ?_
 refine AW.seq ?_
 refine sr ?_
 refine q (sl z2 f3 e4) ?_
 refine AOps.p rfl (len_eq h5) ?_
 refine q (J 0) ?_
 refine nl ?_
 refine AW.meet (σ:=Unit) (fun _ tm os=>⟨updL tm [],updL os [],{ s with lo:=s.n }⟩) (fun _=>slices_IndexFunc_simpl_Deed_impl_Deed_J1=some r) ?_ ?_
 ·rintro _ tm os h
  unfold slices_IndexFunc_simpl_Deed_impl_Deed_J1 at h
  refine sr ?_
  refine q (J (-1)) ?_
  refine nl ?_
  cases h
  exact AW.ret ⟨rfl,_,_,rfl,rfl⟩
 intro KJ10
 refine AW.block ?_
 refine AW.res [(0,(sl z2 f3 e4)),(1,(AV.fn g7 cap8)),(7,(J (s1.length:Int))),(8,(J 0))] [] ⟨rfl,rfl,rfl,rfl,trivial⟩ trivial ?_
 refine AW.loopF (σ:=Int) (τ:=Unit) (fun t11 _=>True) (fun t11 _ tm os=>⟨updL tm [(0,(sl z2 f3 e4)),(1,(AV.fn g7 cap8)),(7,(J (s1.length:Int))),(8,(J t11))],updL os [],{ s with lo:=s.n }⟩) ?_ (x:=(0)) (y:=()) h trivial
 clear h
 rintro t11 _ tm os - ee1 h hL1 hR1
 unfold slices_IndexFunc_simpl_Deed_impl_Deed_S1 at h
 refine sr ?_
 refine q (bool (decide ((t11:Int)<(s1.length:Int)))) ?_
 refine nl ?_
 refine AW.seq ?_
 rcases oite h with ⟨hc12,h⟩ | ⟨hc12,h⟩
 ·refine cT hc12 ?_
  refine AW.skip ?_
  refine AW.seq ?_
  refine AW.block ?_
  refine sr ?_
  refine q (J t11) ?_
  refine aq (J t11) ?_
  refine ns ?_
  refine q (AV.fn g7 cap8) ?_
  refine q (sl z2 f3 e4) ?_
  refine q (J t11) ?_
  obtain ⟨x13,h14,h⟩:=obind h
  obtain ⟨v17,h15,h16⟩:=idx_sl h5 h14
  obtain ⟨_,rfl,h18⟩:=h15
  obtain ⟨_,_,rfl,h19,h20⟩:=Cs_cons h18
  cases h19
  obtain ⟨_,_,rfl,h21,h22⟩:=Cs_cons h20
  cases h21
  obtain ⟨_,_,rfl,h23,h24⟩:=Cs_cons h22
  cases h23
  cases Cs_nil h24
  refine AOps.pureR rfl rfl rfl h16 rfl (rfl:_=(eptr [(J x13.Kind),(J x13.A),(J x13.B)] 0)) ?_
  refine lE (agg [(J x13.Kind),(J x13.A),(J x13.B)]) ?_
  obtain ⟨y25,h26,h⟩:=obind h
  refine AOps.callP (g:=g7) (args:=([(agg [(J x13.Kind),(J x13.A),(J x13.B)])]++cap8)) (p:=(rB) y25) rfl rfl rfl (h9 x13 _ _ (.cons ⟨_,rfl,(.cons rfl (.cons rfl (.cons rfl .nil)))⟩ .nil) h26 _ hWF) ?_
  intro _ o28 h27
  cases h27
  refine nl ?_
  rcases oite h with ⟨hc29,h⟩ | ⟨hc29,h⟩
  ·refine cT hc29 ?_
   refine sr ?_
   refine q (J t11) ?_
   refine aq (J t11) ?_
   refine nl ?_
   cases h
   have hr:=hR1 _ rfl
   subst hr
   exact AW.ret ⟨rfl,_,_,rfl,rfl⟩
  refine cF hc29 ?_
  refine AW.skip ?_
  refine AW.inBlock ?_
  refine AW.region ?_
  refine q (J (IntKind.wrap .i64 (t11+1))) ?_
  refine q (J (IntKind.wrap .i64 (t11+1))) ?_
  refine nl ?_
  cases h
  exact AW.res [(0,(sl z2 f3 e4)),(1,(AV.fn g7 cap8)),(7,(J (s1.length:Int))),(8,(J (IntKind.wrap .i64 (t11+1))))] [] ⟨rfl,rfl,rfl,rfl,trivial⟩ trivial (hL1 _ rfl () _ _ trivial)
 refine cF hc12 ?_
 refine AW.exit rfl ?_
 obtain ⟨r30,hm,hx⟩:=omap h
 clear h
 subst hx
 have hx:=hR1 _ rfl
 rw[hx] at hm
 have h:=hm
 exact AW.res [] [] trivial trivial (KJ10 () _ _ h)
theorem slices_ContainsFunc_simpl_Deed_impl_Deed_ok {s1:List Deed} {f6:Deed→Option Bool} {z2 g7:Nat} {f3:Bool} {e4 cap8:List AV} {s:St} (h5:LR rDeed 3 s1 z2 e4) (h9:∀ x vs y,Cs [rDeed x] vs→f6 x=some y→∀ s,WF s→ACall Cf g7 (vs++cap8) s fun v _ s'=>(rB) y v∧s'=s) {r:Bool} (h:slices_ContainsFunc_simpl_Deed_impl_Deed s1 f6=some r) (hs:WF s):ACall Cf 45 [(sl z2 f3 e4),(AV.fn g7 cap8)] s fun v _ s'=>(rB) r v∧s'=s:=by
 refine ACall.pure rfl rfl rfl .B ?_
 have hWF:=hs.lo'
 unfold slices_ContainsFunc_simpl_Deed_impl_Deed at h
 refine sr ?_
 refine q (bool false) ?_
 refine ns ?_
 refine q (sl z2 f3 e4) ?_
 refine q (AV.fn g7 cap8) ?_
 obtain ⟨y10,h11,h⟩:=obind h
 refine cP (slices_IndexFunc_simpl_Deed_impl_Deed_ok h5 h9 h11 hWF) ?_
 intro _ o13 h12
 cases h12
 refine q (bool (decide ((y10:Int)≥0))) ?_
 refine aq (bool (decide ((y10:Int)≥0))) ?_
 refine nl ?_
 cases h
 exact AW.ret ⟨rfl,_,_,rfl,rfl⟩
theorem impl_deedWord_ok {kind1:Int} {s:St} {r:(List UInt8) × Int} (h:impl_deedWord kind1=some r) (hs:WF s):ACall Cf 79 [(J kind1)] s fun v _ s'=>(fun x=>rT [rS x.1,rJ x.2]) r v∧s'=s:=by
 refine ACall.pure rfl rfl rfl (.T (.cons .S (.cons .I .nil))) ?_
 have hWF:=hs.lo'
 unfold impl_deedWord at h
 refine sr ?_
 refine q (str ([]:List UInt8)) ?_
 refine q (J 0) ?_
 refine nl ?_
 refine AW.seq ?_
 refine sr ?_
 refine q (J kind1) ?_
 refine nl ?_
 refine AW.block ?_
 refine sr ?_
 refine q (bool (kind1 == 1)) ?_
 refine aq (bool (kind1 == 1)) ?_
 refine nl ?_
 rcases oite h with ⟨hc2,h⟩ | ⟨hc2,h⟩
 ·refine cT hc2 ?_
  refine sr ?_
  refine q (str ([115,101,110,100]:List UInt8)) ?_
  refine q (J 2) ?_
  refine nl ?_
  cases h
  exact AW.ret ⟨rfl,_,_,rfl,⟨_,rfl,(.cons rfl (.cons rfl .nil))⟩⟩
 refine cF hc2 ?_
 refine sr ?_
 refine q (bool (kind1 == 2)) ?_
 refine aq (bool (kind1 == 2)) ?_
 refine nl ?_
 rcases oite h with ⟨hc3,h⟩ | ⟨hc3,h⟩
 ·refine cT hc3 ?_
  refine sr ?_
  refine q (str ([100,101,108,105,118,101,114]:List UInt8)) ?_
  refine q (J 1) ?_
  refine nl ?_
  cases h
  exact AW.ret ⟨rfl,_,_,rfl,⟨_,rfl,(.cons rfl (.cons rfl .nil))⟩⟩
 refine cF hc3 ?_
 refine sr ?_
 refine q (bool (kind1 == 3)) ?_
 refine aq (bool (kind1 == 3)) ?_
 refine nl ?_
 rcases oite h with ⟨hc4,h⟩ | ⟨hc4,h⟩
 ·refine cT hc4 ?_
  refine sr ?_
  refine q (str ([99,111,112,121]:List UInt8)) ?_
  refine q (J 1) ?_
  refine nl ?_
  cases h
  exact AW.ret ⟨rfl,_,_,rfl,⟨_,rfl,(.cons rfl (.cons rfl .nil))⟩⟩
 refine cF hc4 ?_
 refine sr ?_
 refine q (bool (kind1 == 4)) ?_
 refine aq (bool (kind1 == 4)) ?_
 refine nl ?_
 rcases oite h with ⟨hc5,h⟩ | ⟨hc5,h⟩
 ·refine cT hc5 ?_
  refine sr ?_
  refine q (str ([100,114,111,112]:List UInt8)) ?_
  refine q (J 1) ?_
  refine nl ?_
  cases h
  exact AW.ret ⟨rfl,_,_,rfl,⟨_,rfl,(.cons rfl (.cons rfl .nil))⟩⟩
 refine cF hc5 ?_
 refine sr ?_
 refine q (bool (kind1 == 5)) ?_
 refine aq (bool (kind1 == 5)) ?_
 refine nl ?_
 rcases oite h with ⟨hc6,h⟩ | ⟨hc6,h⟩
 ·refine cT hc6 ?_
  refine sr ?_
  refine q (str ([115,97,118,101]:List UInt8)) ?_
  refine q (J 0) ?_
  refine nl ?_
  cases h
  exact AW.ret ⟨rfl,_,_,rfl,⟨_,rfl,(.cons rfl (.cons rfl .nil))⟩⟩
 refine cF hc6 ?_
 refine sr ?_
 refine q (bool (kind1 == 6)) ?_
 refine aq (bool (kind1 == 6)) ?_
 refine nl ?_
 rcases oite h with ⟨hc7,h⟩ | ⟨hc7,h⟩
 ·refine cT hc7 ?_
  refine sr ?_
  refine q (str ([99,114,97,115,104]:List UInt8)) ?_
  refine q (J 0) ?_
  refine nl ?_
  cases h
  exact AW.ret ⟨rfl,_,_,rfl,⟨_,rfl,(.cons rfl (.cons rfl .nil))⟩⟩
 refine cF hc7 ?_
 refine AW.skip ?_
 refine AW.inBlock ?_
 refine sr ?_
 refine q (str ([]:List UInt8)) ?_
 refine q (J 0) ?_
 refine nl ?_
 cases h
 exact AW.ret ⟨rfl,_,_,rfl,⟨_,rfl,(.cons rfl (.cons rfl .nil))⟩⟩
theorem impl_ValidDeed_ok {d1:Deed} {s:St} {r:Bool} (h:impl_ValidDeed d1=some r) (hs:WF s):ACall Cf 47 [(agg [(J d1.Kind),(J d1.A),(J d1.B)])] s fun v _ s'=>(rB) r v∧s'=s:=by
 refine ACall.pure rfl rfl rfl .B ?_
 have hWF:=hs.lo'
 unfold impl_ValidDeed at h
 refine sr ?_
 refine AOps.makeR rfl rfl rfl rfl rfl rfl (rfl:_=(eptr [(J d1.Kind),(J d1.A),(J d1.B)] 0)) ?_
 refine q (bool false) ?_
 refine ns ?_
 refine q (eptr [(J d1.Kind),(J d1.A),(J d1.B)] 0) ?_
 refine lE (J d1.Kind) ?_
 obtain ⟨y2,h3,h⟩:=obind h
 refine cP (impl_deedWord_ok  h3 hWF) ?_
 intro _ o10 h4
 obtain ⟨_,rfl,h5⟩:=h4
 obtain ⟨_,_,rfl,h6,h7⟩:=Cs_cons h5
 cases h6
 obtain ⟨_,_,rfl,h8,h9⟩:=Cs_cons h7
 cases h8
 cases Cs_nil h9
 refine q (AV.tup [(str y2.1),(J y2.2)]) ?_
 refine q (str y2.1) ?_
 refine q (J y2.2) ?_
 refine aq (str y2.1) ?_
 refine aq (J y2.2) ?_
 refine ns ?_
 refine q (str y2.1) ?_
 refine q (bool (!(y2.1 == ([]:List UInt8)))) ?_
 refine q (bool (!(y2.1 == ([]:List UInt8)))) ?_
 obtain ⟨b12,hb,h⟩:=obind h
 refine AOps.split 4 (fun f'=>∃ tm' os',f'=⟨updL tm' [(1,(eptr [(J d1.Kind),(J d1.A),(J d1.B)] 0)),(4,(J y2.2)),(17,(bool b12))],updL os' [],{ s with lo:=s.n }⟩) ?_ ?_
 ·rcases oite hb with ⟨hc11,hb⟩ | ⟨hc11,hb⟩
  ·have h:=hb
   refine kn 13 hc11 ?_
   refine q (eptr [(J d1.Kind),(J d1.A),(J d1.B)] 1) ?_
   refine lE (J d1.A) ?_
   obtain ⟨y13,h14,h⟩:=obind h
   refine cP (impl_within_ok  h14 hWF) ?_
   intro _ o16 h15
   cases h15
   refine q (bool y13) ?_
   exact rR ⟨rfl,rfl,congrArg bool (Option.some.inj h),trivial⟩
  ·refine kn 13 hc11 ?_
   refine sk ?_
   refine sk ?_
   refine sk ?_
   refine q (bool false) ?_
   exact rR ⟨rfl,rfl,congrArg bool (Option.some.inj hb),trivial⟩
 rintro _ ⟨tm,os,rfl⟩
 refine q (bool b12) ?_
 obtain ⟨b18,hb,h⟩:=obind h
 refine AOps.split 4 (fun f'=>∃ tm' os',f'=⟨updL tm' [(1,(eptr [(J d1.Kind),(J d1.A),(J d1.B)] 0)),(4,(J y2.2)),(22,(bool b18))],updL os' [],{ s with lo:=s.n }⟩) ?_ ?_
 ·rcases oite hb with ⟨hc17,hb⟩ | ⟨hc17,hb⟩
  ·have h:=hb
   refine kn 18 hc17 ?_
   refine q (eptr [(J d1.Kind),(J d1.A),(J d1.B)] 2) ?_
   refine lE (J d1.B) ?_
   obtain ⟨y19,h20,h⟩:=obind h
   refine cP (impl_within_ok  h20 hWF) ?_
   intro _ o22 h21
   cases h21
   refine q (bool y19) ?_
   exact rR ⟨rfl,rfl,congrArg bool (Option.some.inj h),trivial⟩
  ·refine kn 18 hc17 ?_
   refine sk ?_
   refine sk ?_
   refine sk ?_
   refine q (bool false) ?_
   exact rR ⟨rfl,rfl,congrArg bool (Option.some.inj hb),trivial⟩
 rintro _ ⟨tm,os,rfl⟩
 refine q (bool b18) ?_
 refine AOps.split 8 (fun f'=>∃ tm' os',f'=⟨updL tm' [(1,(eptr [(J d1.Kind),(J d1.A),(J d1.B)] 0)),(4,(J y2.2)),(31,(bool (b18&&((decide ((y2.2:Int)>0))||(d1.A == 0)))))],updL os' [],{ s with lo:=s.n }⟩) ?_ ?_
 ·rcases Bool.eq_false_or_eq_true b18 with hc23 | hc23
  ·refine kn 23 hc23 ?_
   refine q (J y2.2) ?_
   refine q (bool (decide ((y2.2:Int)>0))) ?_
   refine q (bool (decide ((y2.2:Int)>0))) ?_
   refine AOps.split 4 (fun f'=>∃ tm' os',f'=⟨updL tm' [(1,(eptr [(J d1.Kind),(J d1.A),(J d1.B)] 0)),(4,(J y2.2)),(23,(bool true)),(30,(bool ((decide ((y2.2:Int)>0))||(d1.A == 0))))],updL os' [],{ s with lo:=s.n }⟩) ?_ ?_
   ·rcases Bool.eq_false_or_eq_true (decide ((y2.2:Int)>0)) with hc24 | hc24
    ·refine kn 26 hc24 ?_
     refine sk ?_
     refine sk ?_
     refine sk ?_
     refine q (bool true) ?_
     exact rR ⟨rfl,rfl,rfl,congrArg bool (or_t hc24),trivial⟩
    ·refine kn 26 hc24 ?_
     refine q (eptr [(J d1.Kind),(J d1.A),(J d1.B)] 1) ?_
     refine lE (J d1.A) ?_
     refine q (bool (d1.A == 0)) ?_
     refine q (bool (d1.A == 0)) ?_
     exact rR ⟨rfl,rfl,rfl,congrArg bool (or_f hc24),trivial⟩
   rintro _ ⟨tm,os,rfl⟩
   refine q (bool ((decide ((y2.2:Int)>0))||(d1.A == 0))) ?_
   exact rR ⟨rfl,rfl,congrArg bool (and_t hc23),trivial⟩
  ·refine kn 23 hc23 ?_
   refine sk ?_
   refine sk ?_
   refine sk ?_
   refine sk ?_
   refine sk ?_
   refine sk ?_
   refine sk ?_
   refine q (bool false) ?_
   exact rR ⟨rfl,rfl,congrArg bool (and_f hc23),trivial⟩
 rintro _ ⟨tm,os,rfl⟩
 refine q (bool (b18&&((decide ((y2.2:Int)>0))||(d1.A == 0)))) ?_
 refine AOps.split 8 (fun f'=>∃ tm' os',f'=⟨updL tm' [(40,(bool ((b18&&((decide ((y2.2:Int)>0))||(d1.A == 0)))&&((decide ((y2.2:Int)>1))||(d1.B == 0)))))],updL os' [],{ s with lo:=s.n }⟩) ?_ ?_
 ·rcases Bool.eq_false_or_eq_true (b18&&((decide ((y2.2:Int)>0))||(d1.A == 0))) with hc25 | hc25
  ·refine kn 32 hc25 ?_
   refine q (J y2.2) ?_
   refine q (bool (decide ((y2.2:Int)>1))) ?_
   refine q (bool (decide ((y2.2:Int)>1))) ?_
   refine AOps.split 4 (fun f'=>∃ tm' os',f'=⟨updL tm' [(32,(bool true)),(39,(bool ((decide ((y2.2:Int)>1))||(d1.B == 0))))],updL os' [],{ s with lo:=s.n }⟩) ?_ ?_
   ·rcases Bool.eq_false_or_eq_true (decide ((y2.2:Int)>1)) with hc26 | hc26
    ·refine kn 35 hc26 ?_
     refine sk ?_
     refine sk ?_
     refine sk ?_
     refine q (bool true) ?_
     exact rR ⟨rfl,congrArg bool (or_t hc26),trivial⟩
    ·refine kn 35 hc26 ?_
     refine q (eptr [(J d1.Kind),(J d1.A),(J d1.B)] 2) ?_
     refine lE (J d1.B) ?_
     refine q (bool (d1.B == 0)) ?_
     refine q (bool (d1.B == 0)) ?_
     exact rR ⟨rfl,congrArg bool (or_f hc26),trivial⟩
   rintro _ ⟨tm,os,rfl⟩
   refine q (bool ((decide ((y2.2:Int)>1))||(d1.B == 0))) ?_
   exact rR ⟨congrArg bool (and_t hc25),trivial⟩
  ·refine kn 32 hc25 ?_
   refine sk ?_
   refine sk ?_
   refine sk ?_
   refine sk ?_
   refine sk ?_
   refine sk ?_
   refine sk ?_
   refine q (bool false) ?_
   exact rR ⟨congrArg bool (and_f hc25),trivial⟩
 rintro _ ⟨tm,os,rfl⟩
 refine aq (bool ((b18&&((decide ((y2.2:Int)>0))||(d1.A == 0)))&&((decide ((y2.2:Int)>1))||(d1.B == 0)))) ?_
 refine nl ?_
 cases h
 exact AW.ret ⟨rfl,_,_,rfl,rfl⟩
theorem impl_deedsCode_1_ok {x1:Deed} {s:St} {r:Bool} (h:impl_deedsCode_1 x1=some r) (hs:WF s):ACall Cf 46 [(agg [(J x1.Kind),(J x1.A),(J x1.B)])] s fun v _ s'=>(rB) r v∧s'=s:=by
 refine ACall.pure rfl rfl rfl .B ?_
 have hWF:=hs.lo'
 unfold impl_deedsCode_1 at h
 refine sr ?_
 refine AOps.makeR rfl rfl rfl rfl rfl rfl (rfl:_=(eptr [(J x1.Kind),(J x1.A),(J x1.B)] 0)) ?_
 refine q (bool false) ?_
 refine ns ?_
 refine lE (agg [(J x1.Kind),(J x1.A),(J x1.B)]) ?_
 obtain ⟨y2,h3,h⟩:=obind h
 refine cP (impl_ValidDeed_ok  h3 hWF) ?_
 intro _ o5 h4
 cases h4
 refine q (bool (!y2)) ?_
 refine aq (bool (!y2)) ?_
 refine nl ?_
 cases h
 exact AW.ret ⟨rfl,_,_,rfl,rfl⟩
theorem impl_deedsCode_ok {v1:Stream} {deeds22:List Deed} {z2 z6 z10 z14 z18 z23:Nat} {f3 f7 f11 f15 f19 f24:Bool} {e4 e8 e12 e16 e20 e25:List AV} {s:St} (h5:LR rB 1 v1.Checker.Accept z2 e4) (h9:LR (rL rPush 2) 1 v1.Checker.Call z6 e8) (h13:LR (rL (rL rJ 1) 1) 1 v1.Checker.Return z10 e12) (h17:LR (rL rJ 1) 1 v1.Checker.Inner z14 e16) (h21:LR rS 1 v1.Pieces z18 e20) (h26:LR rDeed 3 deeds22 z23 e25) {r:Int} (h:impl_deedsCode v1 deeds22=some r) (hs:WF s):ACall Cf 23 [(agg [(J v1.Checker.Stack),(J v1.Checker.Start),(sl z2 f3 e4),(sl z6 f7 e8),(sl z10 f11 e12),(sl z14 f15 e16),(sl z18 f19 e20)]),(sl z23 f24 e25)] s fun v _ s'=>rJ r v∧s'=s:=by
 refine ACall.pure rfl rfl rfl .I ?_
 have hWF:=hs.lo'
 unfold impl_deedsCode at h
 refine sr ?_
 refine AOps.makeR rfl rfl rfl rfl rfl rfl (rfl:_=(eptr [(J v1.Checker.Stack),(J v1.Checker.Start),(sl z2 f3 e4),(sl z6 f7 e8),(sl z10 f11 e12),(sl z14 f15 e16),(sl z18 f19 e20)] 0)) ?_
 refine q (J 0) ?_
 refine nl ?_
 refine AW.seq ?_
 refine AW.block ?_
 refine sr ?_
 refine lE (agg [(J v1.Checker.Stack),(J v1.Checker.Start),(sl z2 f3 e4),(sl z6 f7 e8),(sl z10 f11 e12),(sl z14 f15 e16),(sl z18 f19 e20)]) ?_
 obtain ⟨y27,h28,h⟩:=obind h
 refine cP (impl_ValidStream_ok h5 h9 h13 h17 h21 h28 hWF) ?_
 intro _ o30 h29
 cases h29
 refine q (bool (!y27)) ?_
 refine q (bool (!y27)) ?_
 obtain ⟨b32,hb,h⟩:=obind h
 refine AOps.split 3 (fun f'=>∃ tm' os',f'=⟨updL tm' [(1,(sl z23 f24 e25)),(12,(bool b32))],updL os' [],{ s with lo:=s.n }⟩) ?_ ?_
 ·rcases oite hb with ⟨hc31,hb⟩ | ⟨hc31,hb⟩
  ·refine kn 9 hc31 ?_
   refine sk ?_
   refine sk ?_
   refine q (bool true) ?_
   exact rR ⟨rfl,congrArg bool (Option.some.inj hb),trivial⟩
  ·have h:=hb
   refine kn 9 hc31 ?_
   refine q (sl z23 f24 e25) ?_
   obtain ⟨y40,h41,h⟩:=obind h
   refine cP (slices_ContainsFunc_simpl_Deed_impl_Deed_ok h26 (by intro x vs y hc hx s hs; obtain ⟨_,_,rfl,hv0,hd0⟩:=Cs_cons hc; obtain ⟨_,rfl,h33⟩:=hv0; obtain ⟨_,_,rfl,h34,h35⟩:=Cs_cons h33; cases h34; obtain ⟨_,_,rfl,h36,h37⟩:=Cs_cons h35; cases h36; obtain ⟨_,_,rfl,h38,h39⟩:=Cs_cons h37; cases h38; cases Cs_nil h39; cases Cs_nil hd0; exact impl_deedsCode_1_ok  hx hs) h41 hWF) ?_
   intro _ o43 h42
   cases h42
   refine q (bool y40) ?_
   exact rR ⟨rfl,congrArg bool (Option.some.inj h),trivial⟩
 rintro _ ⟨tm,os,rfl⟩
 refine aq (bool b32) ?_
 refine nl ?_
 rcases oite h with ⟨hc44,h⟩ | ⟨hc44,h⟩
 ·refine cT hc44 ?_
  refine sr ?_
  refine q (J 1) ?_
  refine nl ?_
  cases h
  exact AW.ret ⟨rfl,_,_,rfl,rfl⟩
 refine cF hc44 ?_
 refine sr ?_
 refine q (sl z23 f24 e25) ?_
 refine AOps.p rfl (len_eq h26) ?_
 refine q (bool (decide (((deeds22.length:Int):Int)>300))) ?_
 refine aq (bool (decide (((deeds22.length:Int):Int)>300))) ?_
 refine nl ?_
 rcases oite h with ⟨hc45,h⟩ | ⟨hc45,h⟩
 ·refine cT hc45 ?_
  refine sr ?_
  refine q (J 2) ?_
  refine nl ?_
  cases h
  exact AW.ret ⟨rfl,_,_,rfl,rfl⟩
 refine cF hc45 ?_
 refine AW.skip ?_
 refine AW.inBlock ?_
 refine sr ?_
 refine q (J 0) ?_
 refine nl ?_
 cases h
 exact AW.ret ⟨rfl,_,_,rfl,rfl⟩
theorem impl_newWorks_K0_ok {v1:Stream} {z2 z6 z10 z14 z18:Nat} {f3 f7 f11 f15 f19:Bool} {e4 e8 e12 e16 e20:List AV} {s:St} (h5:LR rB 1 v1.Checker.Accept z2 e4) (h9:LR (rL rPush 2) 1 v1.Checker.Call z6 e8) (h13:LR (rL (rL rJ 1) 1) 1 v1.Checker.Return z10 e12) (h17:LR (rL rJ 1) 1 v1.Checker.Inner z14 e16) (h21:LR rS 1 v1.Pieces z18 e20) {r:Works} (h:impl_newWorks_K0 v1=some r) (hs:WF s):ACall Cf 48 [(agg [(J v1.Checker.Stack),(J v1.Checker.Start),(sl z2 f3 e4),(sl z6 f7 e8),(sl z10 f11 e12),(sl z14 f15 e16),(sl z18 f19 e20)])] s (fun v _ s'=>∃ (b1':Nat) (w2':Nat→Bool) (z3':Nat) (f4':Bool) (e5':List AV) (h7':AV) (k8':KT) (z10':Nat) (f11':Bool) (e12':List AV) (h14':AV) (k15':KT) (h17':AV) (k18':KT) (z20':Nat) (f21':Bool) (e22':List AV) (z24':Nat) (f25':Bool) (e26':List AV) (z28':Nat) (f29':Bool) (e30':List AV) (z32':Nat) (f33':Bool) (e34':List AV) (z36':Nat) (f37':Bool) (e38':List AV) (Ls':List (List BX)),v=(ptr b1' 0)∧HS [] true s s' (([⟨some b1',[(J r.Plant_.Desk_.Read),(J r.Plant_.Desk_.State),(sl z3' f4' e5'),h7',(J r.Plant_.Saved.Read),(J r.Plant_.Saved.State),(sl z10' f11' e12'),h14',h17',(J r.stream.Checker.Stack),(J r.stream.Checker.Start),(sl z20' f21' e22'),(sl z24' f25' e26'),(sl z28' f29' e30'),(sl z32' f33' e34'),(sl z36' f37' e38')],w2'⟩]:List BX)++Ls'.flatten)∧AllG [OS oE2 h7' k8' r.Plant_.Desk_.Waiting,OS oE2 h14' k15' r.Plant_.Saved.Waiting,OS oE116 h17' k18' r.Plant_.Wire] Ls'∧LR rJ 1 r.Plant_.Desk_.Stack z3' e5'∧h7'.one=true∧LR rJ 1 r.Plant_.Saved.Stack z10' e12'∧h14'.one=true∧h17'.one=true∧LR rB 1 r.stream.Checker.Accept z20' e22'∧LR (rL rPush 2) 1 r.stream.Checker.Call z24' e26'∧LR (rL (rL rJ 1) 1) 1 r.stream.Checker.Return z28' e30'∧LR (rL rJ 1) 1 r.stream.Checker.Inner z32' e34'∧LR rS 1 r.stream.Pieces z36' e38') true:=by
 refine ACall.keepR rfl rfl rfl ?_
 have hH0:=HS.g0 (HS.initK hs)
 have hG0:=AllG.nil
 have hl:LoOK [] true s:=LoOK.nil
 unfold impl_newWorks_K0 at h
 refine sr ?_
 refine AOps.makeR rfl rfl rfl rfl rfl rfl (rfl:_=(eptr [(J v1.Checker.Stack),(J v1.Checker.Start),(sl z2 f3 e4),(sl z6 f7 e8),(sl z10 f11 e12),(sl z14 f15 e16),(sl z18 f19 e20)] 0)) ?_
 refine q AV.nilp ?_
 refine ns ?_
 refine q (eptr [(J v1.Checker.Stack),(J v1.Checker.Start),(sl z2 f3 e4),(sl z6 f7 e8),(sl z10 f11 e12),(sl z14 f15 e16),(sl z18 f19 e20)] 0) ?_
 refine q (eptr [(J v1.Checker.Stack),(J v1.Checker.Start),(sl z2 f3 e4),(sl z6 f7 e8),(sl z10 f11 e12),(sl z14 f15 e16),(sl z18 f19 e20)] 1) ?_
 refine lE (J v1.Checker.Start) ?_
 refine q (agg [(J 0),(J v1.Checker.Start),(sl 0 true []),(sl 0 true [])]) ?_
 refine AOps.allocP rfl rfl rfl rfl ⟨rfl,rfl⟩ rfl ?_
 refine AOps.stP (v:=(agg [(J 0),(J v1.Checker.Start),(sl 0 true []),(sl 0 true [])])) rfl rfl rfl rfl rfl rfl rfl rfl rfl (lt_b rfl) rfl ?_
 refine ns ?_
 refine lE (agg [(J 0),(J v1.Checker.Start),(sl 0 true []),(sl 0 true [])]) ?_
 refine lE (agg [(J 0),(J v1.Checker.Start),(sl 0 true []),(sl 0 true [])]) ?_
 refine q (agg [(J 0),(J v1.Checker.Start),(sl 0 true []),(sl 0 true []),(J 0),(J v1.Checker.Start),(sl 0 true []),(sl 0 true []),(sl 0 true [])]) ?_
 refine lE (agg [(J v1.Checker.Stack),(J v1.Checker.Start),(sl z2 f3 e4),(sl z6 f7 e8),(sl z10 f11 e12),(sl z14 f15 e16),(sl z18 f19 e20)]) ?_
 refine q (agg [(J 0),(J v1.Checker.Start),(sl 0 true []),(sl 0 true []),(J 0),(J v1.Checker.Start),(sl 0 true []),(sl 0 true []),(sl 0 true []),(J v1.Checker.Stack),(J v1.Checker.Start),(sl z2 f3 e4),(sl z6 f7 e8),(sl z10 f11 e12),(sl z14 f15 e16),(sl z18 f19 e20)]) ?_
 refine AOps.box1 (v:=(agg [(J 0),(J v1.Checker.Start),(sl 0 true []),(sl 0 true []),(J 0),(J v1.Checker.Start),(sl 0 true []),(sl 0 true []),(sl 0 true []),(J v1.Checker.Stack),(J v1.Checker.Start),(sl z2 f3 e4),(sl z6 f7 e8),(sl z10 f11 e12),(sl z14 f15 e16),(sl z18 f19 e20)])) hH0 rfl rfl rfl rfl rfl rfl rfl rfl ?_
 intro b22 s23 hH24
 change HS [] true s s23 (([⟨some b22,[(J 0),(J v1.Checker.Start),(sl 0 true []),(sl 0 true []),(J 0),(J v1.Checker.Start),(sl 0 true []),(sl 0 true []),(sl 0 true []),(J v1.Checker.Stack),(J v1.Checker.Start),(sl z2 f3 e4),(sl z6 f7 e8),(sl z10 f11 e12),(sl z14 f15 e16),(sl z18 f19 e20)],(fun _=>false)⟩]:List BX)++List.flatten ([]:List (List BX))) at hH24
 refine aq (ptr b22 0) ?_
 refine nl ?_
 cases h
 have hG25:=AllG.cons (OS.nil (e:=oE2) (k:=fun _=>AV.undef) (z:=0) (Or.inr rfl)) hG0
 have hH26:=HS.addNil hH24
 change HS [] true s s23 (([⟨some b22,[(J 0),(J v1.Checker.Start),(sl 0 true []),(sl 0 true []),(J 0),(J v1.Checker.Start),(sl 0 true []),(sl 0 true []),(sl 0 true []),(J v1.Checker.Stack),(J v1.Checker.Start),(sl z2 f3 e4),(sl z6 f7 e8),(sl z10 f11 e12),(sl z14 f15 e16),(sl z18 f19 e20)],(fun _=>false)⟩]:List BX)++List.flatten ([]::([]:List (List BX)))) at hH26
 change AllG [OS oE2 (sl 0 true []) (fun _=>AV.undef) ([]:List Int)] ([]::([]:List (List BX))) at hG25
 have hG27:=AllG.cons (OS.nil (e:=oE2) (k:=fun _=>AV.undef) (z:=0) (Or.inr rfl)) hG25
 have hH28:=HS.addNil hH26
 change HS [] true s s23 (([⟨some b22,[(J 0),(J v1.Checker.Start),(sl 0 true []),(sl 0 true []),(J 0),(J v1.Checker.Start),(sl 0 true []),(sl 0 true []),(sl 0 true []),(J v1.Checker.Stack),(J v1.Checker.Start),(sl z2 f3 e4),(sl z6 f7 e8),(sl z10 f11 e12),(sl z14 f15 e16),(sl z18 f19 e20)],(fun _=>false)⟩]:List BX)++List.flatten ([]::([]::([]:List (List BX))))) at hH28
 change AllG [OS oE2 (sl 0 true []) (fun _=>AV.undef) ([]:List Int),OS oE2 (sl 0 true []) (fun _=>AV.undef) ([]:List Int)] ([]::([]::([]:List (List BX)))) at hG27
 have hG29:=AllG.cons (OS.nil (e:=oE116) (k:=fun _=>AV.undef) (z:=0) (Or.inr rfl)) hG27
 have hH30:=HS.addNil hH28
 change HS [] true s s23 (([⟨some b22,[(J 0),(J v1.Checker.Start),(sl 0 true []),(sl 0 true []),(J 0),(J v1.Checker.Start),(sl 0 true []),(sl 0 true []),(sl 0 true []),(J v1.Checker.Stack),(J v1.Checker.Start),(sl z2 f3 e4),(sl z6 f7 e8),(sl z10 f11 e12),(sl z14 f15 e16),(sl z18 f19 e20)],(fun _=>false)⟩]:List BX)++List.flatten ([]::([]::([]::([]:List (List BX)))))) at hH30
 change AllG [OS oE116 (sl 0 true []) (fun _=>AV.undef) ([]:List Parcel),OS oE2 (sl 0 true []) (fun _=>AV.undef) ([]:List Int),OS oE2 (sl 0 true []) (fun _=>AV.undef) ([]:List Int)] ([]::([]::([]::([]:List (List BX))))) at hG29
 obtain ⟨Ls31,hG32,hH33⟩:=HS.selEG hH30 hG29 [some 0] [some 2,some 1,some 0]
 exact AW.ret ⟨_,_,rfl,⟨b22,(fun _=>false),0,true,[],(sl 0 true []),(fun _=>AV.undef),0,true,[],(sl 0 true []),(fun _=>AV.undef),(sl 0 true []),(fun _=>AV.undef),z2,f3,e4,z6,f7,e8,z10,f11,e12,z14,f15,e16,z18,f19,e20,Ls31,rfl,hH33,hG32,(⟨.inr ⟨rfl,rfl⟩,.nil⟩),rfl,(⟨.inr ⟨rfl,rfl⟩,.nil⟩),rfl,rfl,h5,h9,h13,h17,h21⟩⟩
theorem impl_Desk_copied_K1_ok {d1:Desk} {z2:Nat} {f3:Bool} {e4:List AV} {h6:AV} {k7:KT} {s:St} (h5:LR rJ 1 d1.Stack z2 e4) (ho8:h6.one=true) {ex:List Nat} {Ls0:List (List BX)} (hH0:HS ex true s s (([]:List BX)++Ls0.flatten)) (hG0:AllG [OS oE2 h6 k7 d1.Waiting] Ls0) (hl:LoOK ex true s) {r:Desk} (h:impl_Desk_copied_K1 d1=some r) (hs:WF s):ACall Cf 80 [(agg [(J d1.Read),(J d1.State),(sl z2 f3 e4),h6])] s (fun v _ s'=>∃ (z1':Nat) (f2':Bool) (e3':List AV) (h5':AV) (k6':KT) (Ls':List (List BX)),v=(agg [(J r.Read),(J r.State),(sl z1' f2' e3'),h5'])∧HS ex true s s' (([]:List BX)++Ls'.flatten)∧AllG [OS oE2 h6 k7 d1.Waiting,OS oE2 h5' k6' r.Waiting] Ls'∧LR rJ 1 r.Stack z1' e3'∧h5'.one=true) true:=by
 refine ACall.keepR rfl rfl rfl ?_
 unfold impl_Desk_copied_K1 at h
 refine sr ?_
 refine AOps.boxR (v:=(agg [(J d1.Read),(J d1.State),(sl z2 f3 e4),h6])) rfl rfl rfl rfl rfl (lay_cons rfl (lay_cons rfl (lay_cons rfl (lay_cons ho8 lay_nil)))) rfl rfl ?_
 refine AOps.allocP rfl rfl rfl rfl ⟨rfl,rfl⟩ rfl ?_
 refine ns ?_
 refine q (eptr [(J d1.Read),(J d1.State),(sl z2 f3 e4),h6] 0) ?_
 refine lE (J d1.Read) ?_
 refine q (eptr [(J d1.Read),(J d1.State),(sl z2 f3 e4),h6] 1) ?_
 refine lE (J d1.State) ?_
 refine q (eptr [(J d1.Read),(J d1.State),(sl z2 f3 e4),h6] 2) ?_
 refine lE (sl z2 f3 e4) ?_
 obtain ⟨y9,h10,h⟩:=obind h
 refine AOps.callDPO (g:=109) (args:=[(sl z2 f3 e4)]) (p:=(rL rJ 1) y9) rfl rfl rfl (ext_clone109_ok h5 h10 ((HS.wf' hH0).still)) (fun v hv=>Nice.pure (k:=FINK) (p:=(rL rJ 1) y9) (.L fun _=>.I) _ v hv) ?_
 intro _ h11
 obtain ⟨z12,f13,e14,rfl,h15⟩:=h11
 refine q (eptr [(J d1.Read),(J d1.State),(sl z2 f3 e4),h6] 3) ?_
 refine lE h6 ?_
 obtain ⟨y17,h18,h⟩:=obind h
 refine AOps.cloneOE (j:=0) (g:=109) own_int rfl rfl rfl hH0 hG0 rfl Sub.here rfl rfl rfl h18 ?_
 intro h19 k21 Ls22 s23 ho20 hG24 hH25
 refine AOps.pureR rfl rfl rfl (build_of rfl rfl rfl rfl (fillA_step rfl rfl rfl rfl (le_b rfl) (fillA_step rfl rfl rfl rfl (le_b rfl) (fillA_step rfl rfl rfl rfl (le_b rfl) (fillA_step rfl (one_lay ho20) (AV.cells_one ho20) rfl (le_b rfl) (rfl:fillA _ _ []=_)))))) rfl (rfl:_=(agg [(J d1.Read),(J d1.State),(sl z12 f13 e14),h19])) ?_
 refine AOps.stP (v:=(agg [(J d1.Read),(J d1.State),(sl z12 f13 e14),h19])) rfl rfl rfl rfl rfl rfl rfl (lay_cons rfl (lay_cons rfl (lay_cons rfl (lay_cons ho20 lay_nil)))) rfl (lt_b rfl) rfl ?_
 refine nl ?_
 cases h
 obtain ⟨Ls26,hG27,hH28⟩:=HS.selEG hH25 hG24 [] [some 1,some 0]
 exact AW.ret ⟨_,_,rfl,⟨z12,f13,e14,h19,k21,Ls26,rfl,hH28,hG27,h15,ho20⟩⟩
theorem impl_size_impl_Parcel_okN {list1:List Parcel} {z2:Nat} {f3:Bool} {e4:List AV} {s:St} (h5:LR rParcel 2 list1 z2 e4) {r:Int} (h:impl_size_impl_Parcel list1=some r) (hs:WF s):ACallN Cf 81 [(sl z2 f3 e4)] s fun v _ s'=>rJ r v∧s'=s:=by
 refine ACallN.pure rfl rfl rfl .I ?_
 have hWF:=hs.lo'
 unfold impl_size_impl_Parcel at h
 refine sr ?_
 refine q (J 0) ?_
 refine ns ?_
 refine q (sl z2 f3 e4) ?_
 refine AOps.p rfl (len_eq h5) ?_
 refine aq (J (list1.length:Int)) ?_
 refine nl ?_
 cases h
 exact AW.ret ⟨rfl,_,_,rfl,rfl⟩
theorem slices_Index_sint64_int64_ok {s1:List Int} {v6:Int} {z2:Nat} {f3:Bool} {e4:List AV} {s:St} (h5:LR rJ 1 s1 z2 e4) {r:Int} (h:slices_Index_sint64_int64 s1 v6=some r) (hs:WF s):ACall Cf 84 [(sl z2 f3 e4),(J v6)] s fun v _ s'=>rJ r v∧s'=s:=by
 refine ACall.pure rfl rfl rfl .I ?_
 have hWF:=hs.lo'
 unfold slices_Index_sint64_int64 at h
 refine sr ?_
 refine q (J 0) ?_
 refine nl ?_
 refine AW.seq ?_
 refine sr ?_
 refine q (sl z2 f3 e4) ?_
 refine AOps.p rfl (len_eq h5) ?_
 refine q (J 0) ?_
 refine nl ?_
 refine AW.meet (σ:=Unit) (fun _ tm os=>⟨updL tm [],updL os [],{ s with lo:=s.n }⟩) (fun _=>slices_Index_sint64_int64_J1=some r) ?_ ?_
 ·rintro _ tm os h
  unfold slices_Index_sint64_int64_J1 at h
  refine sr ?_
  refine q (J (-1)) ?_
  refine nl ?_
  cases h
  exact AW.ret ⟨rfl,_,_,rfl,rfl⟩
 intro KJ7
 refine AW.block ?_
 refine AW.res [(0,(sl z2 f3 e4)),(1,(J v6)),(7,(J (s1.length:Int))),(8,(J 0))] [] ⟨rfl,rfl,rfl,rfl,trivial⟩ trivial ?_
 refine AW.loopF (σ:=Int) (τ:=Unit) (fun t8 _=>True) (fun t8 _ tm os=>⟨updL tm [(0,(sl z2 f3 e4)),(1,(J v6)),(7,(J (s1.length:Int))),(8,(J t8))],updL os [],{ s with lo:=s.n }⟩) ?_ (x:=(0)) (y:=()) h trivial
 clear h
 rintro t8 _ tm os - ee1 h hL1 hR1
 unfold slices_Index_sint64_int64_S1 at h
 refine sr ?_
 refine q (bool (decide ((t8:Int)<(s1.length:Int)))) ?_
 refine nl ?_
 refine AW.seq ?_
 rcases oite h with ⟨hc9,h⟩ | ⟨hc9,h⟩
 ·refine cT hc9 ?_
  refine AW.skip ?_
  refine AW.seq ?_
  refine AW.block ?_
  refine sr ?_
  refine q (J t8) ?_
  refine aq (J t8) ?_
  refine ns ?_
  refine q (J v6) ?_
  refine q (sl z2 f3 e4) ?_
  refine q (J t8) ?_
  obtain ⟨x10,h11,h⟩:=obind h
  obtain ⟨v14,h12,h13⟩:=idx_sl h5 h11
  cases h12
  refine AOps.pureR rfl rfl rfl h13 rfl (rfl:_=(eptr [(J x10)] 0)) ?_
  refine lE (J x10) ?_
  refine q (bool (v6 == x10)) ?_
  refine nl ?_
  rcases oite h with ⟨hc15,h⟩ | ⟨hc15,h⟩
  ·refine cT hc15 ?_
   refine sr ?_
   refine q (J t8) ?_
   refine aq (J t8) ?_
   refine nl ?_
   cases h
   have hr:=hR1 _ rfl
   subst hr
   exact AW.ret ⟨rfl,_,_,rfl,rfl⟩
  refine cF hc15 ?_
  refine AW.skip ?_
  refine AW.inBlock ?_
  refine AW.region ?_
  refine q (J (IntKind.wrap .i64 (t8+1))) ?_
  refine q (J (IntKind.wrap .i64 (t8+1))) ?_
  refine nl ?_
  cases h
  exact AW.res [(0,(sl z2 f3 e4)),(1,(J v6)),(7,(J (s1.length:Int))),(8,(J (IntKind.wrap .i64 (t8+1))))] [] ⟨rfl,rfl,rfl,rfl,trivial⟩ trivial (hL1 _ rfl () _ _ trivial)
 refine cF hc9 ?_
 refine AW.exit rfl ?_
 obtain ⟨r16,hm,hx⟩:=omap h
 clear h
 subst hx
 have hx:=hR1 _ rfl
 rw[hx] at hm
 have h:=hm
 exact AW.res [] [] trivial trivial (KJ7 () _ _ h)
theorem slices_Contains_sint64_int64_okN {s1:List Int} {v6:Int} {z2:Nat} {f3:Bool} {e4:List AV} {s:St} (h5:LR rJ 1 s1 z2 e4) {r:Bool} (h:slices_Contains_sint64_int64 s1 v6=some r) (hs:WF s):ACallN Cf 51 [(sl z2 f3 e4),(J v6)] s fun v _ s'=>(rB) r v∧s'=s:=by
 refine ACallN.pure rfl rfl rfl .B ?_
 have hWF:=hs.lo'
 unfold slices_Contains_sint64_int64 at h
 refine sr ?_
 refine q (bool false) ?_
 refine ns ?_
 refine q (sl z2 f3 e4) ?_
 refine q (J v6) ?_
 obtain ⟨y7,h8,h⟩:=obind h
 refine cP (slices_Index_sint64_int64_ok h5 h8 hWF) ?_
 intro _ o10 h9
 cases h9
 refine q (bool (decide ((y7:Int)≥0))) ?_
 refine aq (bool (decide ((y7:Int)≥0))) ?_
 refine nl ?_
 cases h
 exact AW.ret ⟨rfl,_,_,rfl,rfl⟩
theorem impl_Checker_end_1_F1_ok {s1 c710:Int} {rest2 c1114:List Int} {z3 b8 b12 z15:Nat} {f4 f16:Bool} {e5 e17:List AV} {w9 w13:Nat→Bool} {s:St} (h6:LR rJ 1 rest2 z3 e5) (h18:LR rJ 1 c1114 z15 e17) (hE:HS [b8,b12] false s { s with lo:=s.n } [⟨some b8,[(J c710)],w9⟩,⟨some b12,[(sl z15 f16 e17)],w13⟩]) {r:Unit × Int × (List Int)} (h:impl_Checker_end_1_F1 s1 rest2 c710 c1114=some r) (hs:WF s):ACall Cf 122 [(J s1),(sl z3 f4 e5),(ptr b8 0),(ptr b12 0)] s fun v _ s'=>(fun (_:Unit)=>rT []) r.1 v∧∃ (w0':Nat→Bool) (w1':Nat→Bool) (z1':Nat) (f1':Bool) (e1':List AV),Fx [b8,b12] s s' [⟨some b8,[(J r.2.1)],w0'⟩,⟨some b12,[(sl z1' f1' e1')],w1'⟩]∧LR rJ 1 r.2.2 z1' e1':=by
 refine ACall.foreign rfl rfl rfl ?_
 unfold impl_Checker_end_1_F1 at h
 refine AW.region ?_
 refine q (J s1) ?_
 refine q (sl z3 f4 e5) ?_
 refine AOps.stX (i:=0) (v:=(J s1)) hE rfl rfl rfl rfl rfl rfl rfl rfl rfl (lt_b rfl) (le_b rfl) rfl rfl ?_
 intro w19 s20 h21 h22 hH23
 refine AOps.stX (i:=1) (v:=(sl z3 f4 e5)) hH23 rfl rfl rfl rfl rfl rfl rfl rfl rfl (lt_b rfl) (le_b rfl) rfl (Nice.pure (k:=FINK) (p:=(rL rJ 1) rest2) (.L fun _=>.I) 0 _ ⟨_,_,_,rfl,h6⟩) ?_
 intro w24 s25 h26 h27 hH28
 refine nl ?_
 cases h
 exact AW.nil ⟨_,_,rfl,finF (p:=(fun (_:Unit)=>rT []) ()) (Fin.T .nil) ⟨w19,w24,z3,f4,e5,HS.leaveP hH28 [0,1] rfl,h6⟩⟩
theorem impl_kindOf_ok {c1 r:Int} {s:St} (h:impl_kindOf c1=some r) (hs:WF s):ACall Cf 145 [(int .u8 c1)] s fun v _ s'=>rJ r v∧s'=s:=by
 refine ACall.pure rfl rfl rfl .I ?_
 have hWF:=hs.lo'
 unfold impl_kindOf at h
 refine sr ?_
 refine q (J 0) ?_
 refine ns ?_
 refine q (int .u8 c1) ?_
 obtain ⟨y2,h3,h⟩:=obind h
 refine cP (strings_IndexByte_ok  h3 hWF) ?_
 intro _ o5 h4
 cases h4
 obtain ⟨q6,h7,h⟩:=obind h
 refine AOps.pureR rfl rfl rfl (rem_ok h7) rfl (rfl:_=(J q6)) ?_
 refine aq (J q6) ?_
 refine nl ?_
 cases h
 exact AW.ret ⟨rfl,_,_,rfl,rfl⟩
theorem impl_isCall_ok {c1:Int} {s:St} {r:Bool} (h:impl_isCall c1=some r) (hs:WF s):ACall Cf 146 [(int .u8 c1)] s fun v _ s'=>(rB) r v∧s'=s:=by
 refine ACall.pure rfl rfl rfl .B ?_
 have hWF:=hs.lo'
 unfold impl_isCall at h
 refine sr ?_
 refine q (bool false) ?_
 refine ns ?_
 refine q (int .u8 c1) ?_
 refine q (bool (c1 == 40)) ?_
 refine q (bool (c1 == 40)) ?_
 refine AOps.split 3 (fun f'=>∃ tm' os',f'=⟨updL tm' [(8,(bool ((c1 == 40)||(c1 == 91))))],updL os' [],{ s with lo:=s.n }⟩) ?_ ?_
 ·rcases Bool.eq_false_or_eq_true (c1 == 40) with hc2 | hc2
  ·refine kn 5 hc2 ?_
   refine sk ?_
   refine sk ?_
   refine q (bool true) ?_
   exact rR ⟨congrArg bool (or_t hc2),trivial⟩
  ·refine kn 5 hc2 ?_
   refine q (int .u8 c1) ?_
   refine q (bool (c1 == 91)) ?_
   refine q (bool (c1 == 91)) ?_
   exact rR ⟨congrArg bool (or_f hc2),trivial⟩
 rintro _ ⟨tm,os,rfl⟩
 refine aq (bool ((c1 == 40)||(c1 == 91))) ?_
 refine nl ?_
 cases h
 exact AW.ret ⟨rfl,_,_,rfl,rfl⟩
theorem impl_isInner_ok {c1:Int} {s:St} {r:Bool} (h:impl_isInner c1=some r) (hs:WF s):ACall Cf 147 [(int .u8 c1)] s fun v _ s'=>(rB) r v∧s'=s:=by
 refine ACall.pure rfl rfl rfl .B ?_
 have hWF:=hs.lo'
 unfold impl_isInner at h
 refine sr ?_
 refine q (bool false) ?_
 refine ns ?_
 refine q (int .u8 c1) ?_
 refine q (bool (c1 == 97)) ?_
 refine q (bool (c1 == 97)) ?_
 refine AOps.split 3 (fun f'=>∃ tm' os',f'=⟨updL tm' [(8,(bool ((c1 == 97)||(c1 == 98))))],updL os' [],{ s with lo:=s.n }⟩) ?_ ?_
 ·rcases Bool.eq_false_or_eq_true (c1 == 97) with hc2 | hc2
  ·refine kn 5 hc2 ?_
   refine sk ?_
   refine sk ?_
   refine q (bool true) ?_
   exact rR ⟨congrArg bool (or_t hc2),trivial⟩
  ·refine kn 5 hc2 ?_
   refine q (int .u8 c1) ?_
   refine q (bool (c1 == 98)) ?_
   refine q (bool (c1 == 98)) ?_
   exact rR ⟨congrArg bool (or_f hc2),trivial⟩
 rintro _ ⟨tm,os,rfl⟩
 refine aq (bool ((c1 == 97)||(c1 == 98))) ?_
 refine nl ?_
 cases h
 exact AW.ret ⟨rfl,_,_,rfl,rfl⟩
theorem impl_Checker_step_ok {p1:Checker} {p1_18 p3_24:Int} {p2_19:List Int} {z2 z6 z10 z14 z20:Nat} {f3 f7 f11 f15 f21:Bool} {e4 e8 e12 e16 e22:List AV} {s:St} (h5:LR rB 1 p1.Accept z2 e4) (h9:LR (rL rPush 2) 1 p1.Call z6 e8) (h13:LR (rL (rL rJ 1) 1) 1 p1.Return z10 e12) (h17:LR (rL rJ 1) 1 p1.Inner z14 e16) (h23:LR rJ 1 p2_19 z20 e22) {r:Int × (List Int)} (h:impl_Checker_step p1 p1_18 p2_19 p3_24=some r) (hs:WF s):ACall Cf 138 [(agg [(J p1.Stack),(J p1.Start),(sl z2 f3 e4),(sl z6 f7 e8),(sl z10 f11 e12),(sl z14 f15 e16)]),(J p1_18),(sl z20 f21 e22),(int .u8 p3_24)] s fun v _ s'=>(fun x=>rT [rJ x.1,(rL rJ 1) x.2]) r v∧s'=s:=by
 refine ACall.pure rfl rfl rfl (.T (.cons .I (.cons (.L fun _=>.I) .nil))) ?_
 have hWF:=hs.lo'
 unfold impl_Checker_step at h
 refine sr ?_
 refine AOps.makeR rfl rfl rfl rfl rfl rfl (rfl:_=(eptr [(J p1.Stack),(J p1.Start),(sl z2 f3 e4),(sl z6 f7 e8),(sl z10 f11 e12),(sl z14 f15 e16)] 0)) ?_
 refine q (J 0) ?_
 refine q (sl 0 true []) ?_
 refine ns ?_
 refine q (int .u8 p3_24) ?_
 obtain ⟨y25,h26,h⟩:=obind h
 refine cP (impl_kindOf_ok  h26 hWF) ?_
 intro _ o28 h27
 cases h27
 refine aq (J y25) ?_
 refine nl ?_
 refine AW.seq ?_
 refine AW.block ?_
 refine sr ?_
 refine q (int .u8 p3_24) ?_
 obtain ⟨y29,h30,h⟩:=obind h
 refine cP (impl_isCall_ok  h30 hWF) ?_
 intro _ o32 h31
 cases h31
 refine aq (bool y29) ?_
 refine nl ?_
 rcases oite h with ⟨hc33,h⟩ | ⟨hc33,h⟩
 ·refine cT hc33 ?_
  refine sr ?_
  refine q (eptr [(J p1.Stack),(J p1.Start),(sl z2 f3 e4),(sl z6 f7 e8),(sl z10 f11 e12),(sl z14 f15 e16)] 3) ?_
  refine lE (sl z6 f7 e8) ?_
  refine q (J p1_18) ?_
  obtain ⟨x34,h35,h⟩:=obind h
  obtain ⟨v38,h36,h37⟩:=idx_sl h9 h35
  obtain ⟨z39,f40,e41,rfl,h42⟩:=h36
  refine AOps.pureR rfl rfl rfl h37 rfl (rfl:_=(eptr [(sl z39 f40 e41)] 0)) ?_
  refine lE (sl z39 f40 e41) ?_
  refine q (J y25) ?_
  obtain ⟨x43,h44,h⟩:=obind h
  obtain ⟨v47,h45,h46⟩:=idx_sl h42 h44
  obtain ⟨_,rfl,h48⟩:=h45
  obtain ⟨_,_,rfl,h49,h50⟩:=Cs_cons h48
  cases h49
  obtain ⟨_,_,rfl,h51,h52⟩:=Cs_cons h50
  cases h51
  cases Cs_nil h52
  refine AOps.pureR rfl rfl rfl h46 rfl (rfl:_=(eptr [(J x43.To),(J x43.Put)] 0)) ?_
  refine lE (agg [(J x43.To),(J x43.Put)]) ?_
  refine AOps.allocP rfl rfl rfl rfl ⟨rfl,rfl⟩ rfl ?_
  refine AOps.stP (v:=(agg [(J x43.To),(J x43.Put)])) rfl rfl rfl rfl rfl rfl rfl rfl rfl (lt_b rfl) rfl ?_
  refine ns ?_
  refine q (eptr [(J x43.To),(J x43.Put)] 0) ?_
  refine lE (J x43.To) ?_
  refine q (sl z20 f21 e22) ?_
  obtain ⟨y53,h54,h⟩:=obind h
  refine AOps.callDPO (g:=109) (args:=[(sl z20 f21 e22)]) (p:=(rL rJ 1) y53) rfl rfl rfl (ext_clone109_ok h23 h54 hWF.still) (fun v hv=>Nice.pure (k:=FINK) (p:=(rL rJ 1) y53) (.L fun _=>.I) _ v hv) ?_
  intro _ h55
  obtain ⟨z56,f57,e58,rfl,h59⟩:=h55
  refine q (eptr [(J x43.To),(J x43.Put)] 1) ?_
  refine lE (J x43.Put) ?_
  refine AOps.makeR rfl rfl rfl rfl rfl rfl (rfl:_=(sl 1 true [(J x43.Put)])) ?_
  obtain ⟨l61,h62,h⟩:=obind h
  obtain ⟨h63,h64⟩:=app_LR h59 (LR.lit (r:=rI .i64) (sz:=1) (.cons rfl .nil)) h62
  refine AOps.appL (z:=z56) (f:=f57) (e:=e58) (z':=1) (f':=true) (e':=[(J x43.Put)]) rfl rfl rfl rfl rfl rfl rfl (appSrc_sl (LR.z (LR.lit (r:=rI .i64) (sz:=1) (.cons rfl .nil))) rfl) (LR.z h59) ⟨by decide,by decide,rfl,rfl⟩ rfl rfl h64 (Or.inr ⟨30,rfl,rfl⟩) ?_
  refine aq (J x43.To) ?_
  refine aq (sl 1 false (e58++[(J x43.Put)])) ?_
  refine nl ?_
  cases h
  exact AW.ret ⟨rfl,_,_,rfl,⟨_,rfl,(.cons rfl (.cons ⟨_,_,_,rfl,h63⟩ .nil))⟩⟩
 refine cF hc33 ?_
 refine sr ?_
 refine q (int .u8 p3_24) ?_
 obtain ⟨y65,h66,h⟩:=obind h
 refine cP (impl_isInner_ok  h66 hWF) ?_
 intro _ o68 h67
 cases h67
 refine aq (bool y65) ?_
 refine nl ?_
 rcases oite h with ⟨hc69,h⟩ | ⟨hc69,h⟩
 ·refine cT hc69 ?_
  refine sr ?_
  refine q (eptr [(J p1.Stack),(J p1.Start),(sl z2 f3 e4),(sl z6 f7 e8),(sl z10 f11 e12),(sl z14 f15 e16)] 5) ?_
  refine lE (sl z14 f15 e16) ?_
  refine q (J p1_18) ?_
  obtain ⟨x70,h71,h⟩:=obind h
  obtain ⟨v74,h72,h73⟩:=idx_sl h17 h71
  obtain ⟨z75,f76,e77,rfl,h78⟩:=h72
  refine AOps.pureR rfl rfl rfl h73 rfl (rfl:_=(eptr [(sl z75 f76 e77)] 0)) ?_
  refine lE (sl z75 f76 e77) ?_
  refine q (J y25) ?_
  obtain ⟨x79,h80,h⟩:=obind h
  obtain ⟨v83,h81,h82⟩:=idx_sl h78 h80
  cases h81
  refine AOps.pureR rfl rfl rfl h82 rfl (rfl:_=(eptr [(J x79)] 0)) ?_
  refine lE (J x79) ?_
  refine q (sl z20 f21 e22) ?_
  refine aq (J x79) ?_
  refine aq (sl z20 f21 e22) ?_
  refine nl ?_
  cases h
  exact AW.ret ⟨rfl,_,_,rfl,⟨_,rfl,(.cons rfl (.cons ⟨_,_,_,rfl,h23⟩ .nil))⟩⟩
 refine cF hc69 ?_
 refine AW.skip ?_
 refine AW.inBlock ?_
 refine sr ?_
 refine q (eptr [(J p1.Stack),(J p1.Start),(sl z2 f3 e4),(sl z6 f7 e8),(sl z10 f11 e12),(sl z14 f15 e16)] 0) ?_
 refine lE (J p1.Stack) ?_
 refine aq (J p1.Stack) ?_
 refine nl ?_
 refine AW.seq ?_
 refine sr ?_
 refine q (sl z20 f21 e22) ?_
 refine AOps.p rfl (len_eq h23) ?_
 refine aq (J (p2_19.length:Int)) ?_
 refine ns ?_
 refine q (J (p2_19.length:Int)) ?_
 refine q (bool (decide (((p2_19.length:Int):Int)>0))) ?_
 refine nl ?_
 refine AW.meet (σ:=(List Int) × Int × Nat × Bool × (List AV)) (fun (t84,t89,z85,f86,e87) tm os=>⟨updL tm [(1,(J p1_18)),(2,(sl z85 f86 e87)),(4,(eptr [(J p1.Stack),(J p1.Start),(sl z2 f3 e4),(sl z6 f7 e8),(sl z10 f11 e12),(sl z14 f15 e16)] 0)),(10,(J y25)),(12,(J t89))],updL os [],{ s with lo:=s.n }⟩) (fun (t84,t89,z85,f86,e87)=>(LR rJ 1 t84 z85 e87)∧impl_Checker_step_J1 p1 p1_18 y25 t84 t89=some r) ?_ ?_
 ·rintro ⟨t84,t89,z85,f86,e87⟩ tm os ⟨h88,h⟩
  unfold impl_Checker_step_J1 at h
  refine sr ?_
  refine q (eptr [(J p1.Stack),(J p1.Start),(sl z2 f3 e4),(sl z6 f7 e8),(sl z10 f11 e12),(sl z14 f15 e16)] 4) ?_
  refine lE (sl z10 f11 e12) ?_
  refine q (J p1_18) ?_
  obtain ⟨x91,h92,h⟩:=obind h
  obtain ⟨v95,h93,h94⟩:=idx_sl h13 h92
  obtain ⟨z96,f97,e98,rfl,h99⟩:=h93
  refine AOps.pureR rfl rfl rfl h94 rfl (rfl:_=(eptr [(sl z96 f97 e98)] 0)) ?_
  refine lE (sl z96 f97 e98) ?_
  refine q (J y25) ?_
  obtain ⟨x100,h101,h⟩:=obind h
  obtain ⟨v104,h102,h103⟩:=idx_sl h99 h101
  obtain ⟨z105,f106,e107,rfl,h108⟩:=h102
  refine AOps.pureR rfl rfl rfl h103 rfl (rfl:_=(eptr [(sl z105 f106 e107)] 0)) ?_
  refine lE (sl z105 f106 e107) ?_
  refine q (J t89) ?_
  obtain ⟨x109,h110,h⟩:=obind h
  obtain ⟨v113,h111,h112⟩:=idx_sl h108 h110
  cases h111
  refine AOps.pureR rfl rfl rfl h112 rfl (rfl:_=(eptr [(J x109)] 0)) ?_
  refine lE (J x109) ?_
  refine q (sl z85 f86 e87) ?_
  refine aq (J x109) ?_
  refine aq (sl z85 f86 e87) ?_
  refine nl ?_
  cases h
  exact AW.ret ⟨rfl,_,_,rfl,⟨_,rfl,(.cons rfl (.cons ⟨_,_,_,rfl,h88⟩ .nil))⟩⟩
 intro KJ90
 rcases oite h with ⟨hc114,h⟩ | ⟨hc114,h⟩
 ·refine cT hc114 ?_
  refine AW.region ?_
  refine q (sl z20 f21 e22) ?_
  refine q (J (p2_19.length:Int)) ?_
  refine q (J (IntKind.wrap .i64 ((p2_19.length:Int) - 1))) ?_
  obtain ⟨x115,h116,h⟩:=obind h
  obtain ⟨v119,h117,h118⟩:=idx_sl h23 h116
  cases h117
  refine AOps.pureR rfl rfl rfl h118 rfl (rfl:_=(eptr [(J x115)] 0)) ?_
  refine lE (J x115) ?_
  refine q (sl z20 f21 e22) ?_
  refine q (J (p2_19.length:Int)) ?_
  refine q (J (IntKind.wrap .i64 ((p2_19.length:Int) - 1))) ?_
  obtain ⟨l120,h121,h⟩:=obind h
  obtain ⟨f122,e123,h124,h125⟩:=cut_slH f21 h23 h121
  refine AOps.pureR rfl rfl rfl h125 rfl (rfl:_=(sl z20 f122 e123)) ?_
  refine aq (J x115) ?_
  refine aq (sl z20 f122 e123) ?_
  refine nl ?_
  exact AW.res [(1,(J p1_18)),(2,(sl z20 f122 e123)),(4,(eptr [(J p1.Stack),(J p1.Start),(sl z2 f3 e4),(sl z6 f7 e8),(sl z10 f11 e12),(sl z14 f15 e16)] 0)),(10,(J y25)),(12,(J x115))] [] ⟨rfl,rfl,rfl,rfl,rfl,trivial⟩ trivial (KJ90 (l120,x115,z20,f122,e123) _ _ ⟨h124,h⟩)
 refine cF hc114 ?_
 refine AW.skip ?_
 exact AW.res [(1,(J p1_18)),(2,(sl z20 f21 e22)),(4,(eptr [(J p1.Stack),(J p1.Start),(sl z2 f3 e4),(sl z6 f7 e8),(sl z10 f11 e12),(sl z14 f15 e16)] 0)),(10,(J y25)),(12,(J p1.Stack))] [] ⟨rfl,rfl,rfl,rfl,rfl,trivial⟩ trivial (KJ90 (p2_19,p1.Stack,z20,f21,e22) _ _ ⟨h23,h⟩)
theorem impl_Checker_run_F1_ok {c1:Checker} {state18 c2629:Int} {stack19 c3033:List Int} {w24:List UInt8} {z2 z6 z10 z14 z20 b27 b31 z34:Nat} {f3 f7 f11 f15 f21 f35:Bool} {e4 e8 e12 e16 e22 e36:List AV} {w28 w32:Nat→Bool} {s:St} (h5:LR rB 1 c1.Accept z2 e4) (h9:LR (rL rPush 2) 1 c1.Call z6 e8) (h13:LR (rL (rL rJ 1) 1) 1 c1.Return z10 e12) (h17:LR (rL rJ 1) 1 c1.Inner z14 e16) (h23:LR rJ 1 stack19 z20 e22) (h37:LR rJ 1 c3033 z34 e36) (hE:HS [b27,b31] false s { s with lo:=s.n } [⟨some b27,[(J c2629)],w28⟩,⟨some b31,[(sl z34 f35 e36)],w32⟩]) {r:Unit × Int × (List Int)} (h:impl_Checker_run_F1 c1 state18 stack19 w24 c2629 c3033=some r) (hs:WF s):ACall Cf 121 [(agg [(J c1.Stack),(J c1.Start),(sl z2 f3 e4),(sl z6 f7 e8),(sl z10 f11 e12),(sl z14 f15 e16)]),(J state18),(sl z20 f21 e22),(str w24),(AV.fn 122 [(ptr b27 0),(ptr b31 0)])] s fun v _ s'=>(fun (_:Unit)=>rT []) r.1 v∧∃ (w0':Nat→Bool) (w1':Nat→Bool) (z1':Nat) (f1':Bool) (e1':List AV),Fx [b27,b31] s s' [⟨some b27,[(J r.2.1)],w0'⟩,⟨some b31,[(sl z1' f1' e1')],w1'⟩]∧LR rJ 1 r.2.2 z1' e1':=by
 refine ACall.foreign rfl rfl rfl ?_
 unfold impl_Checker_run_F1 at h
 refine sr ?_
 refine AOps.makeR rfl rfl rfl rfl rfl rfl (rfl:_=(eptr [(J c1.Stack),(J c1.Start),(sl z2 f3 e4),(sl z6 f7 e8),(sl z10 f11 e12),(sl z14 f15 e16)] 0)) ?_
 refine ns ?_
 refine q (AV.fn 122 [(ptr b27 0),(ptr b31 0)]) ?_
 refine q (J state18) ?_
 refine q (sl z20 f21 e22) ?_
 obtain ⟨y38,h39,h⟩:=obind h
 refine AOps.callF (g:=122) (args:=[(J state18),(sl z20 f21 e22),(ptr b27 0),(ptr b31 0)]) rfl rfl rfl (impl_Checker_end_1_F1_ok h23 h37 (HS.enterP hE [0,1] [b27,b31] rfl (by decide)) h39 (HS.wf' hE)) ?_
 intro _ o45 s42 h44
 obtain ⟨h40,w46,w47,z48,f49,e50,h41,h51⟩:=h44
 have hH43:=HS.callP hE [0,1] h41 rfl rfl
 cases h40
 refine ns ?_
 refine q (str w24) ?_
 refine q (J (w24.length:Int)) ?_
 refine q (J 0) ?_
 refine nl ?_
 refine AW.meet (σ:=Int × (List Int) × (Nat→Bool) × (Nat→Bool) × Nat × Bool × (List AV) × St) (fun (m53,m55,w52,w54,z56,f57,e58,s60) tm os=>⟨updL tm [],updL os [],s60⟩) (fun (m53,m55,w52,w54,z56,f57,e58,s60)=>(LR rJ 1 m55 z56 e58)∧(HS [b27,b31] false s s60 [⟨some b27,[(J m53)],w52⟩,⟨some b31,[(sl z56 f57 e58)],w54⟩])∧impl_Checker_run_F1_J1 m53 m55=some r) ?_ ?_
 ·rintro ⟨m53,m55,w52,w54,z56,f57,e58,s60⟩ tm os ⟨h59,hH61,h⟩
  unfold impl_Checker_run_F1_J1 at h
  cases h
  exact AW.nil ⟨_,_,rfl,finF (p:=(fun (_:Unit)=>rT []) ()) (Fin.T .nil) ⟨w52,w54,z56,f57,e58,HS.leaveP hH61 [0,1] rfl,h59⟩⟩
 intro KJ62
 refine AW.block ?_
 refine AW.res [(1,(J state18)),(2,(sl z20 f21 e22)),(3,(str w24)),(4,(AV.fn 122 [(ptr b27 0),(ptr b31 0)])),(5,(eptr [(J c1.Stack),(J c1.Start),(sl z2 f3 e4),(sl z6 f7 e8),(sl z10 f11 e12),(sl z14 f15 e16)] 0)),(16,(J (w24.length:Int))),(17,(J 0))] [] ⟨rfl,rfl,rfl,rfl,rfl,rfl,rfl,trivial⟩ trivial ?_
 refine AW.loopF (σ:=Int × (List Int) × Int × (List Int) × Int) (τ:=Nat × Bool × (List AV) × (Nat→Bool) × (Nat→Bool) × Nat × Bool × (List AV) × St) (fun (state63,stack64,m70,m72,t77) (z65,f66,e67,w69,w71,z73,f74,e75,s78)=>(LR rJ 1 stack64 z65 e67)∧(LR rJ 1 m72 z73 e75)∧(HS [b27,b31] false s s78 [⟨some b27,[(J m70)],w69⟩,⟨some b31,[(sl z73 f74 e75)],w71⟩])) (fun (state63,stack64,m70,m72,t77) (z65,f66,e67,w69,w71,z73,f74,e75,s78) tm os=>⟨updL tm [(1,(J state63)),(2,(sl z65 f66 e67)),(3,(str w24)),(4,(AV.fn 122 [(ptr b27 0),(ptr b31 0)])),(5,(eptr [(J c1.Stack),(J c1.Start),(sl z2 f3 e4),(sl z6 f7 e8),(sl z10 f11 e12),(sl z14 f15 e16)] 0)),(16,(J (w24.length:Int))),(17,(J t77))],updL os [],s78⟩) ?_ (x:=(state18,stack19,y38.2.1,y38.2.2,0)) (y:=(z20,f21,e22,w46,w47,z48,f49,e50,s42)) h ⟨h23,h51,(HS.sel hH43 [some 0,some 1] (by decide))⟩
 clear h
 rintro ⟨state63,stack64,m70,m72,t77⟩ ⟨z65,f66,e67,w69,w71,z73,f74,e75,s78⟩ tm os ⟨h68,h76,hH79⟩ ee1 h hL1 hR1
 unfold impl_Checker_run_F1_S1 at h
 dsimp only at h
 refine sr ?_
 refine q (bool (decide ((t77:Int)<(w24.length:Int)))) ?_
 refine nl ?_
 refine AW.seq ?_
 rcases oite h with ⟨hc80,h⟩ | ⟨hc80,h⟩
 ·refine cT hc80 ?_
  refine AW.skip ?_
  refine AW.seq ?_
  refine AW.block ?_
  refine sr ?_
  refine q (J t77) ?_
  refine aq (J t77) ?_
  refine ns ?_
  refine lE (agg [(J c1.Stack),(J c1.Start),(sl z2 f3 e4),(sl z6 f7 e8),(sl z10 f11 e12),(sl z14 f15 e16)]) ?_
  refine q (J state63) ?_
  refine q (sl z65 f66 e67) ?_
  refine q (str w24) ?_
  refine q (J t77) ?_
  obtain ⟨c81,h82,h⟩:=obind h
  refine AOps.pureR rfl rfl rfl (chr_str h82) rfl (rfl:_=(int .u8 c81)) ?_
  obtain ⟨y83,h84,h⟩:=obind h
  refine AOps.callDP (g:=138) (args:=[(agg [(J c1.Stack),(J c1.Start),(sl z2 f3 e4),(sl z6 f7 e8),(sl z10 f11 e12),(sl z14 f15 e16)]),(J state63),(sl z65 f66 e67),(int .u8 c81)]) (p:=(fun x=>rT [rJ x.1,(rL rJ 1) x.2]) y83) rfl rfl rfl (impl_Checker_step_ok h5 h9 h13 h17 h68 h84 ((HS.wf' hH79).still)) (fun v hv=>Nice.pure (k:=FINK) (p:=(fun x=>rT [rJ x.1,(rL rJ 1) x.2]) y83) (.T (.cons .I (.cons (.L fun _=>.I) .nil))) _ v hv) ?_
  intro _ o95 h85
  obtain ⟨_,rfl,h86⟩:=h85
  obtain ⟨_,_,rfl,h87,h88⟩:=Cs_cons h86
  cases h87
  obtain ⟨_,_,rfl,h89,h90⟩:=Cs_cons h88
  obtain ⟨z91,f92,e93,rfl,h94⟩:=h89
  cases Cs_nil h90
  refine q (AV.tup [(J y83.1),(sl z91 f92 e93)]) ?_
  refine q (J y83.1) ?_
  refine q (sl z91 f92 e93) ?_
  refine aq (J y83.1) ?_
  refine aq (sl z91 f92 e93) ?_
  refine nl ?_
  refine AW.region ?_
  refine q (AV.fn 122 [(ptr b27 0),(ptr b31 0)]) ?_
  refine q (J y83.1) ?_
  refine q (sl z91 f92 e93) ?_
  obtain ⟨y96,h97,h⟩:=obind h
  refine AOps.callF (g:=122) (args:=[(J y83.1),(sl z91 f92 e93),(ptr b27 0),(ptr b31 0)]) rfl rfl rfl (impl_Checker_end_1_F1_ok h94 h76 (HS.enterP hH79 [0,1] [b27,b31] rfl (by decide)) h97 (HS.wf' hH79)) ?_
  intro _ o103 s100 h102
  obtain ⟨h98,w104,w105,z106,f107,e108,h99,h109⟩:=h102
  have hH101:=HS.callP hH79 [0,1] h99 rfl rfl
  cases h98
  refine nl ?_
  refine AW.inBlock ?_
  refine AW.region ?_
  refine q (J (IntKind.wrap .i64 (t77+1))) ?_
  refine q (J (IntKind.wrap .i64 (t77+1))) ?_
  refine nl ?_
  cases h
  exact AW.res [(1,(J y83.1)),(2,(sl z91 f92 e93)),(3,(str w24)),(4,(AV.fn 122 [(ptr b27 0),(ptr b31 0)])),(5,(eptr [(J c1.Stack),(J c1.Start),(sl z2 f3 e4),(sl z6 f7 e8),(sl z10 f11 e12),(sl z14 f15 e16)] 0)),(16,(J (w24.length:Int))),(17,(J (IntKind.wrap .i64 (t77+1))))] [] ⟨rfl,rfl,rfl,rfl,rfl,rfl,rfl,trivial⟩ trivial (hL1 _ rfl (z91,f92,e93,w104,w105,z106,f107,e108,s100) _ _ ⟨h94,h109,(HS.sel hH101 [some 0,some 1] (by decide))⟩)
 refine cF hc80 ?_
 refine AW.exit rfl ?_
 obtain ⟨r110,hm,hx⟩:=omap h
 clear h
 subst hx
 have hx:=hR1 _ rfl
 rw[hx] at hm
 have h:=hm
 exact AW.res [] [] trivial trivial (KJ62 (m70,m72,w69,w71,z73,f74,e75,s78) _ _ ⟨h76,(HS.sel hH79 [some 0,some 1] (by decide)),h⟩)
theorem impl_Checker_end_ok {c1:Checker} {state18:Int} {stack19:List Int} {w24:List UInt8} {z2 z6 z10 z14 z20:Nat} {f3 f7 f11 f15 f21:Bool} {e4 e8 e12 e16 e22:List AV} {s:St} (h5:LR rB 1 c1.Accept z2 e4) (h9:LR (rL rPush 2) 1 c1.Call z6 e8) (h13:LR (rL (rL rJ 1) 1) 1 c1.Return z10 e12) (h17:LR (rL rJ 1) 1 c1.Inner z14 e16) (h23:LR rJ 1 stack19 z20 e22) {r:Int × (List Int)} (h:impl_Checker_end c1 state18 stack19 w24=some r) (hs:WF s):ACall Cf 111 [(agg [(J c1.Stack),(J c1.Start),(sl z2 f3 e4),(sl z6 f7 e8),(sl z10 f11 e12),(sl z14 f15 e16)]),(J state18),(sl z20 f21 e22),(str w24)] s fun v _ s'=>(fun x=>rT [rJ x.1,(rL rJ 1) x.2]) r v∧s'=s:=by
 refine ACall.boxes rfl rfl rfl ?_
 have hH0:=HS.init hs
 unfold impl_Checker_end at h
 refine sr ?_
 refine AOps.makeR rfl rfl rfl rfl rfl rfl (rfl:_=(eptr [(J c1.Stack),(J c1.Start),(sl z2 f3 e4),(sl z6 f7 e8),(sl z10 f11 e12),(sl z14 f15 e16)] 0)) ?_
 refine AOps.box1 (v:=(J state18)) hH0 rfl rfl rfl rfl rfl rfl rfl rfl ?_
 intro b25 s26 hH27
 refine AOps.box1 (v:=(sl z20 f21 e22)) hH27 rfl rfl rfl rfl rfl rfl rfl rfl ?_
 intro b28 s29 hH30
 refine q (J 0) ?_
 refine q (sl 0 true []) ?_
 refine ns ?_
 refine lE (agg [(J c1.Stack),(J c1.Start),(sl z2 f3 e4),(sl z6 f7 e8),(sl z10 f11 e12),(sl z14 f15 e16)]) ?_
 refine AOps.ldB (i:=1) (v:=(J state18)) hH30 rfl rfl rfl rfl rfl rfl rfl rfl rfl ?_
 refine AOps.ldB (i:=0) (v:=(sl z20 f21 e22)) hH30 rfl rfl rfl rfl rfl rfl rfl rfl rfl ?_
 refine q (str w24) ?_
 refine q (AV.fn 122 [(ptr b25 0),(ptr b28 0)]) ?_
 obtain ⟨y31,h32,h⟩:=obind h
 refine AOps.callF (g:=121) (args:=[(agg [(J c1.Stack),(J c1.Start),(sl z2 f3 e4),(sl z6 f7 e8),(sl z10 f11 e12),(sl z14 f15 e16)]),(J state18),(sl z20 f21 e22),(str w24),(AV.fn 122 [(ptr b25 0),(ptr b28 0)])]) rfl rfl rfl (impl_Checker_run_F1_ok h5 h9 h13 h17 h23 h23 (HS.enterP hH30 [1,0] [b25,b28] rfl (by decide)) h32 (HS.wf' hH30)) ?_
 intro _ o38 s35 h37
 obtain ⟨h33,w39,w40,z41,f42,e43,h34,h44⟩:=h37
 have hH36:=HS.callP hH30 [1,0] h34 rfl rfl
 cases h33
 refine ns ?_
 refine AOps.ldB (i:=1) (v:=(J y31.2.1)) hH36 rfl rfl rfl rfl rfl rfl rfl rfl rfl ?_
 refine AOps.ldB (i:=0) (v:=(sl z41 f42 e43)) hH36 rfl rfl rfl rfl rfl rfl rfl rfl rfl ?_
 refine aq (J y31.2.1) ?_
 refine aq (sl z41 f42 e43) ?_
 refine nl ?_
 cases h
 exact AW.ret ⟨⟨_,hH36⟩,_,_,rfl,(Fin.T (.cons (Fin.of (p:=rJ y31.2.1) .I rfl) (.cons (Fin.of (p:=(rL rJ 1) y31.2.2) (.L fun _=>.I) (⟨_,_,_,rfl,h44⟩)) .nil))).2⟩
theorem impl_works_comeIn_K10_ok {p3 p4 p14 p15 p29 p30:Int} {p5 p13 p16 p24:List Int} {p28:List Parcel} {p31:List Bool} {p36:List (List Push)} {p41:List (List (List Int))} {p46:List (List Int)} {p51:List (List UInt8)} {p1_56:Parcel} {b1 z6 z17 z32 z37 z42 z47 z52 z57:Nat} {w2:Nat→Bool} {f7 f18 f33 f38 f43 f48 f53 f58:Bool} {e8 e19 e34 e39 e44 e49 e54 e59:List AV} {h10 h21 h25:AV} {k11 k22 k26:KT} {s:St} (h9:LR rJ 1 p5 z6 e8) (ho12:h10.one=true) (h20:LR rJ 1 p16 z17 e19) (ho23:h21.one=true) (ho27:h25.one=true) (h35:LR rB 1 p31 z32 e34) (h40:LR (rL rPush 2) 1 p36 z37 e39) (h45:LR (rL (rL rJ 1) 1) 1 p41 z42 e44) (h50:LR (rL rJ 1) 1 p46 z47 e49) (h55:LR rS 1 p51 z52 e54) (h60:LR rS 1 p1_56.Texts z57 e59) {ex:List Nat} {Ls0:List (List BX)} (hH0:HS ex true s s (([⟨some b1,[(J p3),(J p4),(sl z6 f7 e8),h10,(J p14),(J p15),(sl z17 f18 e19),h21,h25,(J p29),(J p30),(sl z32 f33 e34),(sl z37 f38 e39),(sl z42 f43 e44),(sl z47 f48 e49),(sl z52 f53 e54)],w2⟩]:List BX)++Ls0.flatten)) (hG0:AllG [OS oE2 h10 k11 p13,OS oE2 h21 k22 p24,OS oE116 h25 k26 p28] Ls0) (hl:LoOK ex true s) {r:Unit × (List Int) × Int × Int × (List Int)} (h:impl_works_comeIn_K10 p3 p4 p5 p13 p14 p15 p16 p24 p28 p29 p30 p31 p36 p41 p46 p51 p1_56=some r) (hs:WF s):ACall Cf 83 [(ptr b1 0),(agg [(J p1_56.First),(sl z57 f58 e59)])] s (fun v _ s'=>∃ (h1':AV) (k2':KT) (w4':Nat→Bool) (z5':Nat) (f6':Bool) (e7':List AV) (Ls':List (List BX)),v=(AV.tup [])∧HS ex true s s' (([⟨some b1,[(J r.2.2.1),(J r.2.2.2.1),(sl z5' f6' e7'),h1',(J p14),(J p15),(sl z17 f18 e19),h21,h25,(J p29),(J p30),(sl z32 f33 e34),(sl z37 f38 e39),(sl z42 f43 e44),(sl z47 f48 e49),(sl z52 f53 e54)],w4'⟩]:List BX)++Ls'.flatten)∧AllG [OS oE2 h1' k2' r.2.1,OS oE2 h21 k22 p24,OS oE116 h25 k26 p28] Ls'∧h1'.one=true∧LR rJ 1 r.2.2.2.2 z5' e7') true:=by
 refine ACall.keepR rfl rfl rfl ?_
 unfold impl_works_comeIn_K10 at h
 refine sr ?_
 refine AOps.makeR rfl rfl rfl rfl rfl rfl (rfl:_=(eptr [(J p1_56.First),(sl z57 f58 e59)] 0)) ?_
 refine ns ?_
 refine q (ptr b1 0) ?_
 refine q (ptr b1 0) ?_
 refine q (ptr b1 0) ?_
 refine q (ptr b1 0) ?_
 refine aq (ptr b1 0) ?_
 refine nl ?_
 refine AW.seq ?_
 refine sr ?_
 refine q (eptr [(J p1_56.First),(sl z57 f58 e59)] 1) ?_
 refine lE (sl z57 f58 e59) ?_
 obtain ⟨y61,h62,h⟩:=obind h
 refine cP (impl_size_string_ok h60 h62 (HS.wf' hH0)) ?_
 intro _ o64 h63
 cases h63
 refine q (J 0) ?_
 refine nl ?_
 refine AW.meet (σ:=(List Int) × (Nat→Bool) × AV × KT × St × (List (List BX))) (fun (m66,w65,h67,k68,s70,Ls71) tm os=>⟨updL tm [(0,(ptr b1 0)),(4,(ptr b1 0))],updL os [],s70⟩) (fun (m66,w65,h67,k68,s70,Ls71)=>(h67.one=true)∧(HS ex true s s70 (([⟨some b1,[(J p3),(J p4),(sl z6 f7 e8),h67,(J p14),(J p15),(sl z17 f18 e19),h21,h25,(J p29),(J p30),(sl z32 f33 e34),(sl z37 f38 e39),(sl z42 f43 e44),(sl z47 f48 e49),(sl z52 f53 e54)],w65⟩]:List BX)++Ls71.flatten))∧(AllG [OS oE2 h67 k68 m66,OS oE2 h21 k22 p24,OS oE116 h25 k26 p28] Ls71)∧impl_works_comeIn_K10_J1 p3 p4 p5 p29 p30 p31 p36 p41 p46 p51 m66=some r) ?_ ?_
 ·rintro ⟨m66,w65,h67,k68,s70,Ls71⟩ tm os ⟨ho69,hH72,hG73,h⟩
  unfold impl_works_comeIn_K10_J1 at h
  refine sr ?_
  refine q (ptr b1 0) ?_
  refine q (ptr b1 0) ?_
  refine q (ptr b1 3) ?_
  refine AOps.ldB (i:=0) (v:=h67) hH72 rfl rfl rfl rfl rfl rfl rfl rfl rfl ?_
  obtain ⟨y75,h76,h⟩:=obind h
  have hP77:=HS.pop0 hH72
  have hF0:AllG ([]:List (List BX→Prop)) []:=AllG.nil
  obtain ⟨Ls79,Lf80,hG81,hF82,hP78⟩:=HS.popG hP77 hG73 hF0 (j:=0) rfl
  refine AOps.callF (al:=false) (g:=110) (args:=[h67]) rfl rfl rfl (sortK (e:=oE2) own_int rfl rfl rfl (HS.enterK hP78) hF82 (HS.enterLo hP78 hl) h76) ?_
  rintro _ _ s83 ⟨Ls84,rfl,hH85,hG86⟩
  have hJ87:=HS.joinK hP78 hH85
  obtain ⟨Ls88,Lf89,hG90,hF91,hP92⟩:=HS.putG hJ87 hG81 hG86 (j:=0) rfl
  cases hF91
  have hH93:=HS.push0 hP92
  refine nl ?_
  refine AW.meet (σ:=Int × Int × (List Int) × (List Int) × (Nat→Bool) × Nat × Bool × (List AV) × AV × KT × St × (List (List BX))) (fun (m95,m96,m97,m102,w94,z98,f99,e100,h103,k104,s106,Ls107) tm os=>⟨updL tm [],updL os [],s106⟩) (fun (m95,m96,m97,m102,w94,z98,f99,e100,h103,k104,s106,Ls107)=>(LR rJ 1 m97 z98 e100)∧(h103.one=true)∧(HS ex true s s106 (([⟨some b1,[(J m95),(J m96),(sl z98 f99 e100),h103,(J p14),(J p15),(sl z17 f18 e19),h21,h25,(J p29),(J p30),(sl z32 f33 e34),(sl z37 f38 e39),(sl z42 f43 e44),(sl z47 f48 e49),(sl z52 f53 e54)],w94⟩]:List BX)++Ls107.flatten))∧(AllG [OS oE2 h103 k104 m102,OS oE2 h21 k22 p24,OS oE116 h25 k26 p28] Ls107)∧impl_works_comeIn_K10_J2 m95 m96 m97 m102=some r) ?_ ?_
  ·rintro ⟨m95,m96,m97,m102,w94,z98,f99,e100,h103,k104,s106,Ls107⟩ tm os ⟨h101,ho105,hH108,hG109,h⟩
   unfold impl_works_comeIn_K10_J2 at h
   cases h
   exact AW.nil ⟨_,_,rfl,⟨h103,k104,w94,z98,f99,e100,Ls107,rfl,hH108,hG109,ho105,h101⟩⟩
  intro KJ110
  refine AW.block ?_
  refine AW.res [(0,(ptr b1 0)),(4,(ptr b1 0))] [] ⟨rfl,rfl,trivial⟩ trivial ?_
  refine AW.loopF (σ:=Int × Int × (List Int) × (List Int)) (τ:=(Nat→Bool) × Nat × Bool × (List AV) × AV × KT × St × (List (List BX))) (fun (m112,m113,m114,m119) (w111,z115,f116,e117,h120,k121,s123,Ls124)=>(LR rJ 1 m114 z115 e117)∧(h120.one=true)∧(HS ex true s s123 (([⟨some b1,[(J m112),(J m113),(sl z115 f116 e117),h120,(J p14),(J p15),(sl z17 f18 e19),h21,h25,(J p29),(J p30),(sl z32 f33 e34),(sl z37 f38 e39),(sl z42 f43 e44),(sl z47 f48 e49),(sl z52 f53 e54)],w111⟩]:List BX)++Ls124.flatten))∧(AllG [OS oE2 h120 k121 m119,OS oE2 h21 k22 p24,OS oE116 h25 k26 p28] Ls124)) (fun (m112,m113,m114,m119) (w111,z115,f116,e117,h120,k121,s123,Ls124) tm os=>⟨updL tm [(0,(ptr b1 0)),(4,(ptr b1 0))],updL os [],s123⟩) ?_ (x:=(p3,p4,p5,y75)) (y:=(w65,z6,f7,e8,h67,k68,s83,Ls88)) h ⟨h9,ho69,hH93,hG90⟩
  clear h
  rintro ⟨m112,m113,m114,m119⟩ ⟨w111,z115,f116,e117,h120,k121,s123,Ls124⟩ tm os ⟨h118,ho122,hH125,hG126⟩ ee1 h hL1 hR1
  unfold impl_works_comeIn_K10_S1 at h
  dsimp only at h
  refine AW.seq ?_
  refine sr ?_
  refine q (ptr b1 0) ?_
  refine q (ptr b1 0) ?_
  refine q (ptr b1 3) ?_
  refine AOps.ldB (i:=0) (v:=h120) hH125 rfl rfl rfl rfl rfl rfl rfl rfl rfl ?_
  refine AOps.lenO (j:=0) hG126 rfl Sub.here rfl rfl rfl rfl rfl ?_
  refine q (bool (decide (((m119.length:Int):Int)>0))) ?_
  refine q (bool (decide (((m119.length:Int):Int)>0))) ?_
  obtain ⟨b128,hb,h⟩:=obind h
  refine AOps.split 12 (fun f'=>∃ tm' os',f'=⟨updL tm' [(0,(ptr b1 0)),(4,(ptr b1 0)),(70,(bool b128))],updL os' [],s123⟩) ?_ ?_
  ·rcases oite hb with ⟨hc127,hb⟩ | ⟨hc127,hb⟩
   ·have h:=hb
    refine kn 58 hc127 ?_
    refine q (ptr b1 0) ?_
    refine q (ptr b1 0) ?_
    refine q (ptr b1 3) ?_
    refine AOps.ldB (i:=0) (v:=h120) hH125 rfl rfl rfl rfl rfl rfl rfl rfl rfl ?_
    obtain ⟨x131,h132,h⟩:=obind h
    refine AOps.idxO (j:=0) hG126 rfl Sub.here h132 rfl rfl rfl rfl rfl rfl rfl rfl rfl ?_
    intro b129 hb130
    refine AOps.ldO (j:=0) (q:=0) hH125 hG126 rfl Sub.here h132 hb130 rfl rfl rfl rfl rfl (lt_b rfl) (le_b rfl) rfl rfl ?_ (fun c B hc=>by obtain ⟨⟨_,hr,rfl⟩,rfl⟩:=hc; cases hr; exact ⟨_,rfl⟩)
    intro c133 B134 v135 h136 h137
    obtain ⟨⟨_,h138,rfl⟩,rfl⟩:=h136
    cases h138
    cases h137
    refine q (ptr b1 0) ?_
    refine q (ptr b1 0) ?_
    refine q (ptr b1 0) ?_
    refine AOps.ldB (i:=0) (v:=(J m112)) hH125 rfl rfl rfl rfl rfl rfl rfl rfl rfl ?_
    refine q (bool (x131 == m112)) ?_
    refine q (bool (x131 == m112)) ?_
    exact rR ⟨rfl,rfl,congrArg bool (Option.some.inj h),trivial⟩
   ·refine kn 58 hc127 ?_
    refine sk ?_
    refine sk ?_
    refine sk ?_
    refine sk ?_
    refine sk ?_
    refine sk ?_
    refine sk ?_
    refine sk ?_
    refine sk ?_
    refine sk ?_
    refine sk ?_
    refine q (bool false) ?_
    exact rR ⟨rfl,rfl,congrArg bool (Option.some.inj hb),trivial⟩
  rintro _ ⟨tm,os,rfl⟩
  refine nl ?_
  rcases oite h with ⟨hc139,h⟩ | ⟨hc139,h⟩
  ·refine cT hc139 ?_
   refine AW.skip ?_
   refine AW.block ?_
   refine sr ?_
   refine q (ptr b1 0) ?_
   refine q (ptr b1 0) ?_
   refine q (ptr b1 0) ?_
   refine q (ptr b1 0) ?_
   refine q (ptr b1 9) ?_
   refine q (ptr b1 9) ?_
   refine AOps.ldB (i:=0) (v:=(agg [(J p29),(J p30),(sl z32 f33 e34),(sl z37 f38 e39),(sl z42 f43 e44),(sl z47 f48 e49)])) hH125 rfl rfl rfl rfl rfl rfl rfl rfl rfl ?_
   refine q (ptr b1 0) ?_
   refine q (ptr b1 0) ?_
   refine q (ptr b1 1) ?_
   refine AOps.ldB (i:=0) (v:=(J m113)) hH125 rfl rfl rfl rfl rfl rfl rfl rfl rfl ?_
   refine q (ptr b1 0) ?_
   refine q (ptr b1 0) ?_
   refine q (ptr b1 2) ?_
   refine AOps.ldB (i:=0) (v:=(sl z115 f116 e117)) hH125 rfl rfl rfl rfl rfl rfl rfl rfl rfl ?_
   refine q (ptr b1 0) ?_
   refine q (ptr b1 0) ?_
   refine q (ptr b1 9) ?_
   refine q (ptr b1 15) ?_
   refine AOps.ldB (i:=0) (v:=(sl z52 f53 e54)) hH125 rfl rfl rfl rfl rfl rfl rfl rfl rfl ?_
   refine q (ptr b1 0) ?_
   refine q (ptr b1 0) ?_
   refine q (ptr b1 0) ?_
   refine AOps.ldB (i:=0) (v:=(J m112)) hH125 rfl rfl rfl rfl rfl rfl rfl rfl rfl ?_
   obtain ⟨x140,h141,h⟩:=obind h
   obtain ⟨v144,h142,h143⟩:=idx_sl h55 h141
   cases h142
   refine AOps.pureR rfl rfl rfl h143 rfl (rfl:_=(eptr [(str x140)] 0)) ?_
   refine lE (str x140) ?_
   obtain ⟨y145,h146,h⟩:=obind h
   refine AOps.callDP (g:=111) (args:=[(agg [(J p29),(J p30),(sl z32 f33 e34),(sl z37 f38 e39),(sl z42 f43 e44),(sl z47 f48 e49)]),(J m113),(sl z115 f116 e117),(str x140)]) (p:=(fun x=>rT [rJ x.1,(rL rJ 1) x.2]) y145) rfl rfl rfl (impl_Checker_end_ok h35 h40 h45 h50 h118 h146 ((HS.wf' hH125).still)) (fun v hv=>Nice.pure (k:=FINK) (p:=(fun x=>rT [rJ x.1,(rL rJ 1) x.2]) y145) (.T (.cons .I (.cons (.L fun _=>.I) .nil))) _ v hv) ?_
   intro _ o157 h147
   obtain ⟨_,rfl,h148⟩:=h147
   obtain ⟨_,_,rfl,h149,h150⟩:=Cs_cons h148
   cases h149
   obtain ⟨_,_,rfl,h151,h152⟩:=Cs_cons h150
   obtain ⟨z153,f154,e155,rfl,h156⟩:=h151
   cases Cs_nil h152
   refine q (AV.tup [(J y145.1),(sl z153 f154 e155)]) ?_
   refine q (J y145.1) ?_
   refine q (sl z153 f154 e155) ?_
   refine q (ptr b1 0) ?_
   refine q (ptr b1 1) ?_
   refine AOps.stE (i:=0) (v:=(J y145.1)) hH125 hl rfl rfl rfl rfl rfl rfl rfl rfl rfl (lt_b rfl) (le_b rfl) rfl ?_
   intro w158 s159 h160 h161 hH162
   refine q (ptr b1 0) ?_
   refine q (ptr b1 2) ?_
   refine AOps.stE (i:=0) (v:=(sl z153 f154 e155)) hH162 hl rfl rfl rfl rfl rfl rfl rfl rfl rfl (lt_b rfl) (le_b rfl) rfl ?_
   intro w163 s164 h165 h166 hH167
   refine ns ?_
   refine q (ptr b1 0) ?_
   refine q (ptr b1 0) ?_
   refine q (ptr b1 0) ?_
   refine q (ptr b1 3) ?_
   refine AOps.ldB (i:=0) (v:=h120) hH167 rfl rfl rfl rfl rfl rfl rfl rfl rfl ?_
   obtain ⟨l168,h169,h⟩:=obind h
   refine AOps.cutO (j:=0) hH167 hG126 hl rfl rfl rfl rfl rfl rfl rfl ⟨_,rfl⟩ rfl h169 rfl rfl rfl rfl ?_
   intro h170 k172 Ls173 s174 ho171 hG175 hH176
   refine q (ptr b1 0) ?_
   refine q (ptr b1 3) ?_
   refine AOps.stE (i:=0) (v:=h170) hH176 hl rfl rfl rfl rfl rfl rfl rfl (one_lay ho171) (one_len ho171) (lt_b rfl) (le_b rfl) rfl ?_
   intro w177 s178 h179 h180 hH181
   rw[AV.cells_one ho171] at hH181
   refine nl ?_
   refine AW.region ?_
   refine q (ptr b1 0) ?_
   refine q (ptr b1 0) ?_
   refine q (ptr b1 0) ?_
   refine AOps.ldB (i:=0) (v:=(J m112)) hH181 rfl rfl rfl rfl rfl rfl rfl rfl rfl ?_
   refine q (J (IntKind.wrap .i64 (m112+1))) ?_
   refine q (ptr b1 0) ?_
   refine q (ptr b1 0) ?_
   refine AOps.stE (i:=0) (v:=(J (IntKind.wrap .i64 (m112+1)))) hH181 hl rfl rfl rfl rfl rfl rfl rfl rfl rfl (lt_b rfl) (le_b rfl) rfl ?_
   intro w182 s183 h184 h185 hH186
   refine nl ?_
   refine AW.inBlock ?_
   cases h
   exact AW.res [(0,(ptr b1 0)),(4,(ptr b1 0))] [] ⟨rfl,rfl,trivial⟩ trivial (hL1 _ rfl (w182,z153,f154,e155,h170,k172,s183,Ls173) _ _ ⟨h156,ho171,hH186,hG175⟩)
  refine cF hc139 ?_
  refine AW.exit rfl ?_
  obtain ⟨r187,hm,hx⟩:=omap h
  clear h
  subst hx
  have hx:=hR1 _ rfl
  rw[hx] at hm
  have h:=hm
  exact AW.res [] [] trivial trivial (KJ110 (m112,m113,m114,m119,w111,z115,f116,e117,h120,k121,s123,Ls124) _ _ ⟨h118,ho122,hH125,hG126,h⟩)
 intro KJ74
 refine AW.block ?_
 refine AW.res [(0,(ptr b1 0)),(3,(eptr [(J p1_56.First),(sl z57 f58 e59)] 0)),(4,(ptr b1 0)),(13,(J y61)),(14,(J 0))] [] ⟨rfl,rfl,rfl,rfl,rfl,trivial⟩ trivial ?_
 refine AW.loopF (σ:=(List Int) × Int) (τ:=(Nat→Bool) × AV × KT × St × (List (List BX))) (fun (m189,t193) (w188,h190,k191,s194,Ls195)=>(h190.one=true)∧(HS ex true s s194 (([⟨some b1,[(J p3),(J p4),(sl z6 f7 e8),h190,(J p14),(J p15),(sl z17 f18 e19),h21,h25,(J p29),(J p30),(sl z32 f33 e34),(sl z37 f38 e39),(sl z42 f43 e44),(sl z47 f48 e49),(sl z52 f53 e54)],w188⟩]:List BX)++Ls195.flatten))∧(AllG [OS oE2 h190 k191 m189,OS oE2 h21 k22 p24,OS oE116 h25 k26 p28] Ls195)) (fun (m189,t193) (w188,h190,k191,s194,Ls195) tm os=>⟨updL tm [(0,(ptr b1 0)),(3,(eptr [(J p1_56.First),(sl z57 f58 e59)] 0)),(4,(ptr b1 0)),(13,(J y61)),(14,(J t193))],updL os [],s194⟩) ?_ (x:=(p13,0)) (y:=(w2,h10,k11,s,Ls0)) h ⟨ho12,hH0,hG0⟩
 clear h
 rintro ⟨m189,t193⟩ ⟨w188,h190,k191,s194,Ls195⟩ tm os ⟨ho192,hH196,hG197⟩ ee1 h hL1 hR1
 unfold impl_works_comeIn_K10_S2 at h
 dsimp only at h
 refine sr ?_
 refine q (bool (decide ((t193:Int)<y61))) ?_
 refine nl ?_
 refine AW.seq ?_
 rcases oite h with ⟨hc198,h⟩ | ⟨hc198,h⟩
 ·refine cT hc198 ?_
  refine AW.skip ?_
  refine AW.seq ?_
  refine AW.block ?_
  refine sr ?_
  refine q (J t193) ?_
  refine aq (J t193) ?_
  refine ns ?_
  refine q (eptr [(J p1_56.First),(sl z57 f58 e59)] 0) ?_
  refine lE (J p1_56.First) ?_
  refine q (J t193) ?_
  refine q (J (IntKind.wrap .i64 (p1_56.First+t193))) ?_
  refine aq (J (IntKind.wrap .i64 (p1_56.First+t193))) ?_
  refine ns ?_
  refine q (J (IntKind.wrap .i64 (p1_56.First+t193))) ?_
  refine q (ptr b1 0) ?_
  refine q (ptr b1 0) ?_
  refine q (ptr b1 0) ?_
  refine AOps.ldB (i:=0) (v:=(J p3)) hH196 rfl rfl rfl rfl rfl rfl rfl rfl rfl ?_
  refine q (bool (decide ((IntKind.wrap .i64 (p1_56.First+t193):Int)≥p3))) ?_
  refine q (bool (decide ((IntKind.wrap .i64 (p1_56.First+t193):Int)≥p3))) ?_
  obtain ⟨b200,hb,h⟩:=obind h
  refine AOps.split 8 (fun f'=>∃ tm' os',f'=⟨updL tm' [(0,(ptr b1 0)),(3,(eptr [(J p1_56.First),(sl z57 f58 e59)] 0)),(4,(ptr b1 0)),(6,(J (IntKind.wrap .i64 (p1_56.First+t193)))),(13,(J y61)),(14,(J t193)),(35,(bool b200))],updL os' [],s194⟩) ?_ ?_
  ·rcases oite hb with ⟨hc199,hb⟩ | ⟨hc199,hb⟩
   ·have h:=hb
    refine kn 27 hc199 ?_
    refine q (ptr b1 0) ?_
    refine q (ptr b1 0) ?_
    refine q (ptr b1 3) ?_
    refine AOps.ldB (i:=0) (v:=h190) hH196 rfl rfl rfl rfl rfl rfl rfl rfl rfl ?_
    refine q (J (IntKind.wrap .i64 (p1_56.First+t193))) ?_
    obtain ⟨y201,h202,h⟩:=obind h
    refine AOps.lendP (g:=51) (args:=[h190,(J (IntKind.wrap .i64 (p1_56.First+t193)))]) (ps:=[(rL rJ 1) m189,rJ (IntKind.wrap .i64 (p1_56.First+t193))]) (p:=(rB) y201) rfl rfl rfl rfl rfl rfl rfl (.cons (Fin.up (by decide) (HS.finS hH196 hG197 (j:=0) rfl Sub.here (Or.inl rfl))) (.cons (Fin.of (p:=rJ (IntKind.wrap .i64 (p1_56.First+t193))) .I rfl) .nil)) (fun args' hc=>by obtain ⟨_,_,rfl,hv0,hd0⟩:=Cs_cons hc; obtain ⟨z203,f204,e205,rfl,h206⟩:=hv0; obtain ⟨_,_,rfl,hv1,hd1⟩:=Cs_cons hd0; cases hv1; cases Cs_nil hd1; exact slices_Contains_sint64_int64_okN h206 h202 WF.blind) (fun v n hv=>by cases hv; rfl) ?_
    intro _ h207
    cases h207
    refine q (bool (!y201)) ?_
    refine q (bool (!y201)) ?_
    exact rR ⟨rfl,rfl,rfl,rfl,rfl,rfl,congrArg bool (Option.some.inj h),trivial⟩
   ·refine kn 27 hc199 ?_
    refine sk ?_
    refine sk ?_
    refine sk ?_
    refine sk ?_
    refine sk ?_
    refine sk ?_
    refine sk ?_
    refine q (bool false) ?_
    exact rR ⟨rfl,rfl,rfl,rfl,rfl,rfl,congrArg bool (Option.some.inj hb),trivial⟩
  rintro _ ⟨tm,os,rfl⟩
  refine nl ?_
  refine AW.meet (σ:=(List Int) × (Nat→Bool) × AV × KT × St × (List (List BX))) (fun (m209,w208,h210,k211,s213,Ls214) tm os=>⟨updL tm [(0,(ptr b1 0)),(3,(eptr [(J p1_56.First),(sl z57 f58 e59)] 0)),(4,(ptr b1 0)),(13,(J y61)),(14,(J t193))],updL os [],s213⟩) (fun (m209,w208,h210,k211,s213,Ls214)=>(h210.one=true)∧(HS ex true s s213 (([⟨some b1,[(J p3),(J p4),(sl z6 f7 e8),h210,(J p14),(J p15),(sl z17 f18 e19),h21,h25,(J p29),(J p30),(sl z32 f33 e34),(sl z37 f38 e39),(sl z42 f43 e44),(sl z47 f48 e49),(sl z52 f53 e54)],w208⟩]:List BX)++Ls214.flatten))∧(AllG [OS oE2 h210 k211 m209,OS oE2 h21 k22 p24,OS oE116 h25 k26 p28] Ls214)∧impl_works_comeIn_K10_J3 t193 m209=some ee1) ?_ ?_
  ·rintro ⟨m209,w208,h210,k211,s213,Ls214⟩ tm os ⟨ho212,hH215,hG216,h⟩
   unfold impl_works_comeIn_K10_J3 at h
   refine AW.inBlock ?_
   refine AW.region ?_
   refine q (J (IntKind.wrap .i64 (t193+1))) ?_
   refine q (J (IntKind.wrap .i64 (t193+1))) ?_
   refine nl ?_
   cases h
   exact AW.res [(0,(ptr b1 0)),(3,(eptr [(J p1_56.First),(sl z57 f58 e59)] 0)),(4,(ptr b1 0)),(13,(J y61)),(14,(J (IntKind.wrap .i64 (t193+1))))] [] ⟨rfl,rfl,rfl,rfl,rfl,trivial⟩ trivial (hL1 _ rfl (w208,h210,k211,s213,Ls214) _ _ ⟨ho212,hH215,hG216⟩)
  intro KJ217
  rcases oite h with ⟨hc218,h⟩ | ⟨hc218,h⟩
  ·refine cT hc218 ?_
   refine AW.region ?_
   refine q (ptr b1 0) ?_
   refine q (ptr b1 0) ?_
   refine q (ptr b1 0) ?_
   refine q (ptr b1 3) ?_
   refine AOps.ldB (i:=0) (v:=h190) hH196 rfl rfl rfl rfl rfl rfl rfl rfl rfl ?_
   refine q (J (IntKind.wrap .i64 (p1_56.First+t193))) ?_
   refine AOps.makeR rfl rfl rfl rfl rfl rfl (rfl:_=(sl 1 true [(J (IntKind.wrap .i64 (p1_56.First+t193)))])) ?_
   obtain ⟨l219,h220,h⟩:=obind h
   refine AOps.appLf (j:=0) (z':=1) (f':=true) (e':=[(J (IntKind.wrap .i64 (p1_56.First+t193)))]) hH196 hG197 rfl rfl rfl rfl rfl rfl rfl rfl (appSrc_sl (LR.z (LR.lit (r:=rI .i64) (sz:=1) (.cons rfl .nil))) rfl) ⟨by decide,by decide,rfl,rfl⟩ ⟨rfl,rfl⟩ rfl rfl h220 (LR.el (LR.lit (r:=rI .i64) (sz:=1) (.cons rfl .nil))).len (fun i=>OL.leaf (LR.el (LR.lit (r:=rI .i64) (sz:=1) (.cons rfl .nil))) i) ?_
   intro h221 k223 Ls224 s225 ho222 hG226 hH227
   refine q (ptr b1 0) ?_
   refine q (ptr b1 3) ?_
   refine AOps.stE (i:=0) (v:=h221) hH227 hl rfl rfl rfl rfl rfl rfl rfl (one_lay ho222) (one_len ho222) (lt_b rfl) (le_b rfl) rfl ?_
   intro w228 s229 h230 h231 hH232
   rw[AV.cells_one ho222] at hH232
   refine nl ?_
   exact AW.res [(0,(ptr b1 0)),(3,(eptr [(J p1_56.First),(sl z57 f58 e59)] 0)),(4,(ptr b1 0)),(13,(J y61)),(14,(J t193))] [] ⟨rfl,rfl,rfl,rfl,rfl,trivial⟩ trivial (KJ217 (l219,w228,h221,k223,s229,Ls224) _ _ ⟨ho222,hH232,hG226,h⟩)
  refine cF hc218 ?_
  refine AW.skip ?_
  exact AW.res [(0,(ptr b1 0)),(3,(eptr [(J p1_56.First),(sl z57 f58 e59)] 0)),(4,(ptr b1 0)),(13,(J y61)),(14,(J t193))] [] ⟨rfl,rfl,rfl,rfl,rfl,trivial⟩ trivial (KJ217 (m189,w188,h190,k191,s194,Ls195) _ _ ⟨ho192,hH196,hG197,h⟩)
 refine cF hc198 ?_
 refine AW.exit rfl ?_
 obtain ⟨r233,hm,hx⟩:=omap h
 clear h
 subst hx
 have hx:=hR1 _ rfl
 rw[hx] at hm
 have h:=hm
 exact AW.res [(0,(ptr b1 0)),(4,(ptr b1 0))] [] ⟨rfl,rfl,trivial⟩ trivial (KJ74 (m189,w188,h190,k191,s194,Ls195) _ _ ⟨ho192,hH196,hG197,h⟩)
theorem impl_works_do_K10_ok {p3 p4 p14 p15 p29 p30:Int} {p5 p13 p16 p24:List Int} {p28:List Parcel} {p31:List Bool} {p36:List (List Push)} {p41:List (List (List Int))} {p46:List (List Int)} {p51:List (List UInt8)} {p1_56:Deed} {b1 z6 z17 z32 z37 z42 z47 z52:Nat} {w2:Nat→Bool} {f7 f18 f33 f38 f43 f48 f53:Bool} {e8 e19 e34 e39 e44 e49 e54:List AV} {h10 h21 h25:AV} {k11 k22 k26:KT} {s:St} (h9:LR rJ 1 p5 z6 e8) (ho12:h10.one=true) (h20:LR rJ 1 p16 z17 e19) (ho23:h21.one=true) (ho27:h25.one=true) (h35:LR rB 1 p31 z32 e34) (h40:LR (rL rPush 2) 1 p36 z37 e39) (h45:LR (rL (rL rJ 1) 1) 1 p41 z42 e44) (h50:LR (rL rJ 1) 1 p46 z47 e49) (h55:LR rS 1 p51 z52 e54) {ex:List Nat} {Ls0:List (List BX)} (hH0:HS ex true s s (([⟨some b1,[(J p3),(J p4),(sl z6 f7 e8),h10,(J p14),(J p15),(sl z17 f18 e19),h21,h25,(J p29),(J p30),(sl z32 f33 e34),(sl z37 f38 e39),(sl z42 f43 e44),(sl z47 f48 e49),(sl z52 f53 e54)],w2⟩]:List BX)++Ls0.flatten)) (hG0:AllG [OS oE2 h10 k11 p13,OS oE2 h21 k22 p24,OS oE116 h25 k26 p28] Ls0) (hl:LoOK ex true s) {r:Int × (List Int) × (List Int) × (List Parcel) × Int × Int × (List Int) × Int × Int × (List Int)} (h:impl_works_do_K10 p3 p4 p5 p13 p14 p15 p16 p24 p28 p29 p30 p31 p36 p41 p46 p51 p1_56=some r) (hs:WF s):ACall Cf 49 [(ptr b1 0),(agg [(J p1_56.Kind),(J p1_56.A),(J p1_56.B)])] s (fun v _ s'=>∃ (h1':AV) (k2':KT) (h4':AV) (k5':KT) (h7':AV) (k8':KT) (w10':Nat→Bool) (z11':Nat) (f12':Bool) (e13':List AV) (z15':Nat) (f16':Bool) (e17':List AV) (Ls':List (List BX)),v=(J r.1)∧HS ex true s s' (([⟨some b1,[(J r.2.2.2.2.1),(J r.2.2.2.2.2.1),(sl z11' f12' e13'),h1',(J r.2.2.2.2.2.2.2.1),(J r.2.2.2.2.2.2.2.2.1),(sl z15' f16' e17'),h4',h7',(J p29),(J p30),(sl z32 f33 e34),(sl z37 f38 e39),(sl z42 f43 e44),(sl z47 f48 e49),(sl z52 f53 e54)],w10'⟩]:List BX)++Ls'.flatten)∧AllG [OS oE2 h1' k2' r.2.1,OS oE2 h4' k5' r.2.2.1,OS oE116 h7' k8' r.2.2.2.1] Ls'∧h1'.one=true∧h4'.one=true∧h7'.one=true∧LR rJ 1 r.2.2.2.2.2.2.1 z11' e13'∧LR rJ 1 r.2.2.2.2.2.2.2.2.2 z15' e17') true:=by
 refine ACall.keepR rfl rfl rfl ?_
 unfold impl_works_do_K10 at h
 refine sr ?_
 refine AOps.makeR rfl rfl rfl rfl rfl rfl (rfl:_=(eptr [(J p1_56.Kind),(J p1_56.A),(J p1_56.B)] 0)) ?_
 refine q (J 0) ?_
 refine nl ?_
 refine AW.seq ?_
 refine sr ?_
 refine q (eptr [(J p1_56.Kind),(J p1_56.A),(J p1_56.B)] 0) ?_
 refine lE (J p1_56.Kind) ?_
 refine nl ?_
 refine AW.block ?_
 refine sr ?_
 refine q (bool (p1_56.Kind == 1)) ?_
 refine aq (bool (p1_56.Kind == 1)) ?_
 refine nl ?_
 refine AW.meet (σ:=Int × Int × (List Int) × (List Int) × Int × Int × (List Int) × (List Int) × (List Parcel) × (Nat→Bool) × Nat × Bool × (List AV) × AV × KT × Nat × Bool × (List AV) × AV × KT × AV × KT × St × (List (List BX))) (fun (m58,m59,m60,m65,m69,m70,m71,m76,m80,w57,z61,f62,e63,h66,k67,z72,f73,e74,h77,k78,h81,k82,s84,Ls85) tm os=>⟨updL tm [],updL os [],s84⟩) (fun (m58,m59,m60,m65,m69,m70,m71,m76,m80,w57,z61,f62,e63,h66,k67,z72,f73,e74,h77,k78,h81,k82,s84,Ls85)=>(LR rJ 1 m60 z61 e63)∧(h66.one=true)∧(LR rJ 1 m71 z72 e74)∧(h77.one=true)∧(h81.one=true)∧(HS ex true s s84 (([⟨some b1,[(J m58),(J m59),(sl z61 f62 e63),h66,(J m69),(J m70),(sl z72 f73 e74),h77,h81,(J p29),(J p30),(sl z32 f33 e34),(sl z37 f38 e39),(sl z42 f43 e44),(sl z47 f48 e49),(sl z52 f53 e54)],w57⟩]:List BX)++Ls85.flatten))∧(AllG [OS oE2 h66 k67 m65,OS oE2 h77 k78 m76,OS oE116 h81 k82 m80] Ls85)∧impl_works_do_K10_J1 m58 m59 m60 m65 m69 m70 m71 m76 m80=some r) ?_ ?_
 ·rintro ⟨m58,m59,m60,m65,m69,m70,m71,m76,m80,w57,z61,f62,e63,h66,k67,z72,f73,e74,h77,k78,h81,k82,s84,Ls85⟩ tm os ⟨h64,ho68,h75,ho79,ho83,hH86,hG87,h⟩
  unfold impl_works_do_K10_J1 at h
  refine AW.inBlock ?_
  refine sr ?_
  refine q (J 0) ?_
  refine nl ?_
  cases h
  exact AW.ret ⟨_,_,rfl,⟨h66,k67,h77,k78,h81,k82,w57,z61,f62,e63,z72,f73,e74,Ls85,rfl,hH86,hG87,ho68,ho79,ho83,h64,h75⟩⟩
 intro KJ88
 rcases oite h with ⟨hc89,h⟩ | ⟨hc89,h⟩
 ·refine cT hc89 ?_
  refine AW.seq ?_
  refine AW.block ?_
  refine sr ?_
  refine q (eptr [(J p1_56.Kind),(J p1_56.A),(J p1_56.B)] 1) ?_
  refine lE (J p1_56.A) ?_
  refine q (eptr [(J p1_56.Kind),(J p1_56.A),(J p1_56.B)] 2) ?_
  refine lE (J p1_56.B) ?_
  refine q (bool (decide ((p1_56.A:Int)>p1_56.B))) ?_
  refine q (bool (decide ((p1_56.A:Int)>p1_56.B))) ?_
  obtain ⟨b91,hb,h⟩:=obind h
  refine AOps.split 10 (fun f'=>∃ tm' os',f'=⟨updL tm' [(0,(ptr b1 0)),(3,(eptr [(J p1_56.Kind),(J p1_56.A),(J p1_56.B)] 0)),(68,(bool b91))],updL os' [],s⟩) ?_ ?_
  ·rcases oite hb with ⟨hc90,hb⟩ | ⟨hc90,hb⟩
   ·refine kn 58 hc90 ?_
    refine sk ?_
    refine sk ?_
    refine sk ?_
    refine sk ?_
    refine sk ?_
    refine sk ?_
    refine sk ?_
    refine sk ?_
    refine sk ?_
    refine q (bool true) ?_
    exact rR ⟨rfl,rfl,congrArg bool (Option.some.inj hb),trivial⟩
   ·have h:=hb
    refine kn 58 hc90 ?_
    refine q (eptr [(J p1_56.Kind),(J p1_56.A),(J p1_56.B)] 2) ?_
    refine lE (J p1_56.B) ?_
    refine q (ptr b1 0) ?_
    refine q (ptr b1 0) ?_
    refine q (ptr b1 9) ?_
    refine q (ptr b1 15) ?_
    refine AOps.ldB (i:=0) (v:=(sl z52 f53 e54)) hH0 rfl rfl rfl rfl rfl rfl rfl rfl rfl ?_
    obtain ⟨y92,h93,h⟩:=obind h
    refine AOps.callDP (g:=50) (args:=[(sl z52 f53 e54)]) (p:=rJ y92) rfl rfl rfl (impl_size_string_ok h55 h93 ((HS.wf' hH0).still)) (fun v hv=>Nice.pure (k:=FINK) (p:=rJ y92) .I _ v hv) ?_
    intro _ o95 h94
    cases h94
    refine q (bool (decide ((p1_56.B:Int)≥y92))) ?_
    refine q (bool (decide ((p1_56.B:Int)≥y92))) ?_
    exact rR ⟨rfl,rfl,congrArg bool (Option.some.inj h),trivial⟩
  rintro _ ⟨tm,os,rfl⟩
  refine aq (bool b91) ?_
  refine nl ?_
  rcases oite h with ⟨hc96,h⟩ | ⟨hc96,h⟩
  ·refine cT hc96 ?_
   refine sr ?_
   refine q (J 2) ?_
   refine nl ?_
   cases h
   exact AW.ret ⟨_,_,rfl,⟨h10,k11,h21,k22,h25,k26,w2,z6,f7,e8,z17,f18,e19,Ls0,rfl,hH0,hG0,ho12,ho23,ho27,h9,h20⟩⟩
  refine cF hc96 ?_
  refine sr ?_
  refine q (ptr b1 0) ?_
  refine q (ptr b1 0) ?_
  refine q (ptr b1 0) ?_
  refine q (ptr b1 8) ?_
  refine AOps.ldB (i:=0) (v:=h25) hH0 rfl rfl rfl rfl rfl rfl rfl rfl rfl ?_
  refine AOps.lenO (j:=2) hG0 rfl Sub.here rfl rfl rfl rfl rfl ?_
  refine q (bool ((p28.length:Int) == 12)) ?_
  refine aq (bool ((p28.length:Int) == 12)) ?_
  refine nl ?_
  rcases oite h with ⟨hc97,h⟩ | ⟨hc97,h⟩
  ·refine cT hc97 ?_
   refine sr ?_
   refine q (J 3) ?_
   refine nl ?_
   cases h
   exact AW.ret ⟨_,_,rfl,⟨h10,k11,h21,k22,h25,k26,w2,z6,f7,e8,z17,f18,e19,Ls0,rfl,hH0,hG0,ho12,ho23,ho27,h9,h20⟩⟩
  refine cF hc97 ?_
  refine AW.skip ?_
  refine AW.inBlock ?_
  refine AW.region ?_
  refine q (ptr b1 0) ?_
  refine q (ptr b1 0) ?_
  refine q (ptr b1 0) ?_
  refine q (ptr b1 0) ?_
  refine q (ptr b1 8) ?_
  refine AOps.ldB (i:=0) (v:=h25) hH0 rfl rfl rfl rfl rfl rfl rfl rfl rfl ?_
  refine q (eptr [(J p1_56.Kind),(J p1_56.A),(J p1_56.B)] 1) ?_
  refine lE (J p1_56.A) ?_
  refine q (ptr b1 0) ?_
  refine q (ptr b1 0) ?_
  refine q (ptr b1 9) ?_
  refine q (ptr b1 15) ?_
  refine AOps.ldB (i:=0) (v:=(sl z52 f53 e54)) hH0 rfl rfl rfl rfl rfl rfl rfl rfl rfl ?_
  refine q (eptr [(J p1_56.Kind),(J p1_56.A),(J p1_56.B)] 1) ?_
  refine lE (J p1_56.A) ?_
  refine q (eptr [(J p1_56.Kind),(J p1_56.A),(J p1_56.B)] 2) ?_
  refine lE (J p1_56.B) ?_
  refine q (J (IntKind.wrap .i64 (p1_56.B+1))) ?_
  obtain ⟨l98,h99,h⟩:=obind h
  obtain ⟨f100,e101,h102,h103⟩:=cut_slLH f53 h55 h99
  refine AOps.pureR rfl rfl rfl h103 rfl (rfl:_=(sl z52 f100 e101)) ?_
  refine q (agg [(J p1_56.A),(sl z52 f100 e101)]) ?_
  refine AOps.makeR rfl rfl rfl rfl rfl rfl (rfl:_=(sl 2 true [(agg [(J p1_56.A),(sl z52 f100 e101)])])) ?_
  obtain ⟨l104,h105,h⟩:=obind h
  refine AOps.appLf (j:=2) (z':=2) (f':=true) (e':=[(agg [(J p1_56.A),(sl z52 f100 e101)])]) hH0 hG0 rfl rfl rfl rfl rfl rfl rfl rfl (appSrc_sl (LR.z (show LR rParcel 2 (([(⟨p1_56.A,l98⟩:Parcel)]:List Parcel):List Parcel) 2 [(agg [(J p1_56.A),(sl z52 f100 e101)])] from LR.lit (r:=rParcel) (sz:=2) (.cons ⟨_,rfl,(.cons rfl (.cons ⟨_,_,_,rfl,h102⟩ .nil))⟩ .nil))) rfl) ⟨by decide,by decide,rfl,rfl⟩ ⟨rfl,rfl⟩ rfl rfl h105 (LR.el (show LR rParcel 2 (([(⟨p1_56.A,l98⟩:Parcel)]:List Parcel):List Parcel) 2 [(agg [(J p1_56.A),(sl z52 f100 e101)])] from LR.lit (r:=rParcel) (sz:=2) (.cons ⟨_,rfl,(.cons rfl (.cons ⟨_,_,_,rfl,h102⟩ .nil))⟩ .nil))).len (fun i=>OL.leaf (LR.el (show LR rParcel 2 (([(⟨p1_56.A,l98⟩:Parcel)]:List Parcel):List Parcel) 2 [(agg [(J p1_56.A),(sl z52 f100 e101)])] from LR.lit (r:=rParcel) (sz:=2) (.cons ⟨_,rfl,(.cons rfl (.cons ⟨_,_,_,rfl,h102⟩ .nil))⟩ .nil))) i) ?_
  intro h106 k108 Ls109 s110 ho107 hG111 hH112
  refine q (ptr b1 0) ?_
  refine q (ptr b1 0) ?_
  refine q (ptr b1 8) ?_
  refine AOps.stE (i:=0) (v:=h106) hH112 hl rfl rfl rfl rfl rfl rfl rfl (one_lay ho107) (one_len ho107) (lt_b rfl) (le_b rfl) rfl ?_
  intro w113 s114 h115 h116 hH117
  rw[AV.cells_one ho107] at hH117
  refine nl ?_
  exact AW.res [] [] trivial trivial (KJ88 (p3,p4,p5,p13,p14,p15,p16,p24,l104,w113,z6,f7,e8,h10,k11,z17,f18,e19,h21,k22,h106,k108,s114,Ls109) _ _ ⟨h9,ho12,h20,ho23,ho107,hH117,hG111,h⟩)
 refine cF hc89 ?_
 refine sr ?_
 refine q (bool (p1_56.Kind == 5)) ?_
 refine aq (bool (p1_56.Kind == 5)) ?_
 refine nl ?_
 rcases oite h with ⟨hc118,h⟩ | ⟨hc118,h⟩
 ·refine cT hc118 ?_
  refine AW.region ?_
  refine q (ptr b1 0) ?_
  refine q (ptr b1 0) ?_
  refine q (ptr b1 0) ?_
  refine q (ptr b1 0) ?_
  refine q (ptr b1 0) ?_
  refine AOps.ldB (i:=0) (v:=(agg [(J p3),(J p4),(sl z6 f7 e8),h10])) hH0 rfl rfl rfl rfl rfl rfl rfl rfl rfl ?_
  obtain ⟨y119,h120,h⟩:=obind h
  have hP128:=HS.pop0 hH0
  have hF0:AllG ([]:List (List BX→Prop)) []:=AllG.nil
  obtain ⟨Ls129,Lf130,hG131,hF132,hP133⟩:=HS.popG hP128 hG0 hF0 (j:=0) rfl
  refine AOps.callF (al:=true) (g:=80) (args:=[(agg [(J p3),(J p4),(sl z6 f7 e8),h10])]) rfl rfl rfl (impl_Desk_copied_K1_ok (d1:=(⟨p3,p4,p5,p13⟩:Desk)) h9 ho12 (HS.enterK hP133) hF132 (HS.enterLo hP133 hl) h120 (HS.wf' hH0)) ?_
  rintro _ _ s134 ⟨z121,f122,e123,h125,k126,Ls136,rfl,hH137,hG138,hl124,ho127⟩
  have hJ139:=HS.joinK hP133 hH137
  obtain ⟨Ls140,Lf141,hG142,hF143,hP144⟩:=HS.putG hJ139 hG131 hG138 (j:=0) rfl
  obtain ⟨Ls145,Lf146,hG147,hF148,hP149⟩:=HS.pushN hP144 hG142 hF143
  cases hF148
  have hH150:=HS.push0 hP149
  refine q (ptr b1 0) ?_
  refine q (ptr b1 0) ?_
  refine q (ptr b1 4) ?_
  refine AOps.stE (i:=0) (v:=(agg [(J y119.Read),(J y119.State),(sl z121 f122 e123),h125])) hH150 hl rfl rfl rfl rfl rfl rfl rfl (lay_cons rfl (lay_cons rfl (lay_cons rfl (lay_cons ho127 lay_nil)))) rfl (lt_b rfl) (le_b rfl) rfl ?_
  intro w151 s152 h153 h154 hH155
  refine nl ?_
  obtain ⟨Ls156,hG157,hH158⟩:=HS.selEG hH155 hG147 [some 0] [some 1,some 0,some 3]
  exact AW.res [] [] trivial trivial (KJ88 (p3,p4,p5,p13,y119.Read,y119.State,y119.Stack,y119.Waiting,p28,w151,z6,f7,e8,h10,k11,z121,f122,e123,h125,k126,h25,k26,s152,Ls156) _ _ ⟨h9,ho12,hl124,ho127,ho27,hH158,hG157,h⟩)
 refine cF hc118 ?_
 refine sr ?_
 refine q (bool (p1_56.Kind == 6)) ?_
 refine aq (bool (p1_56.Kind == 6)) ?_
 refine nl ?_
 rcases oite h with ⟨hc159,h⟩ | ⟨hc159,h⟩
 ·refine cT hc159 ?_
  refine AW.region ?_
  refine q (ptr b1 0) ?_
  refine q (ptr b1 0) ?_
  refine q (ptr b1 0) ?_
  refine q (ptr b1 0) ?_
  refine q (ptr b1 4) ?_
  refine AOps.ldB (i:=0) (v:=(agg [(J p14),(J p15),(sl z17 f18 e19),h21])) hH0 rfl rfl rfl rfl rfl rfl rfl rfl rfl ?_
  obtain ⟨y160,h161,h⟩:=obind h
  have hP169:=HS.pop0 hH0
  have hF0:AllG ([]:List (List BX→Prop)) []:=AllG.nil
  obtain ⟨Ls170,Lf171,hG172,hF173,hP174⟩:=HS.popG hP169 hG0 hF0 (j:=1) rfl
  refine AOps.callF (al:=true) (g:=80) (args:=[(agg [(J p14),(J p15),(sl z17 f18 e19),h21])]) rfl rfl rfl (impl_Desk_copied_K1_ok (d1:=(⟨p14,p15,p16,p24⟩:Desk)) h20 ho23 (HS.enterK hP174) hF173 (HS.enterLo hP174 hl) h161 (HS.wf' hH0)) ?_
  rintro _ _ s175 ⟨z162,f163,e164,h166,k167,Ls177,rfl,hH178,hG179,hl165,ho168⟩
  have hJ180:=HS.joinK hP174 hH178
  obtain ⟨Ls181,Lf182,hG183,hF184,hP185⟩:=HS.putG hJ180 hG172 hG179 (j:=1) rfl
  obtain ⟨Ls186,Lf187,hG188,hF189,hP190⟩:=HS.pushN hP185 hG183 hF184
  cases hF189
  have hH191:=HS.push0 hP190
  refine q (ptr b1 0) ?_
  refine q (ptr b1 0) ?_
  refine q (ptr b1 0) ?_
  refine AOps.stE (i:=0) (v:=(agg [(J y160.Read),(J y160.State),(sl z162 f163 e164),h166])) hH191 hl rfl rfl rfl rfl rfl rfl rfl (lay_cons rfl (lay_cons rfl (lay_cons rfl (lay_cons ho168 lay_nil)))) rfl (lt_b rfl) (le_b rfl) rfl ?_
  intro w192 s193 h194 h195 hH196
  refine nl ?_
  obtain ⟨Ls197,hG198,hH199⟩:=HS.selEG hH196 hG188 [some 0] [some 0,some 2,some 3]
  exact AW.res [] [] trivial trivial (KJ88 (y160.Read,y160.State,y160.Stack,y160.Waiting,p14,p15,p16,p24,p28,w192,z162,f163,e164,h166,k167,z17,f18,e19,h21,k22,h25,k26,s193,Ls197) _ _ ⟨hl165,ho168,h20,ho23,ho27,hH199,hG198,h⟩)
 refine cF hc159 ?_
 refine AW.seq ?_
 refine sr ?_
 refine q (eptr [(J p1_56.Kind),(J p1_56.A),(J p1_56.B)] 1) ?_
 refine lE (J p1_56.A) ?_
 refine q (ptr b1 0) ?_
 refine q (ptr b1 0) ?_
 refine q (ptr b1 0) ?_
 refine q (ptr b1 8) ?_
 refine AOps.ldB (i:=0) (v:=h25) hH0 rfl rfl rfl rfl rfl rfl rfl rfl rfl ?_
 obtain ⟨y200,h201,h⟩:=obind h
 refine AOps.lendD (g:=81) (args:=[h25]) (ps:=[(rL rParcel 2) p28]) (p:=rJ y200) rfl rfl rfl rfl rfl rfl rfl (.cons (Fin.up (by decide) (HS.finSt hH0 hG0 (j:=2) rfl Sub.here)) .nil) (fun args' hc=>by obtain ⟨_,_,rfl,hv0,hd0⟩:=Cs_cons hc; obtain ⟨z202,f203,e204,rfl,h205⟩:=hv0; cases Cs_nil hd0; exact impl_size_impl_Parcel_okN h205 h201 WF.blind) (fun v n hv=>by cases hv; rfl) (fun v hv=>Nice.pure (k:=FINK) (p:=rJ y200) .I _ v hv) ?_
 intro _ h206
 cases h206
 refine q (bool (decide ((p1_56.A:Int)≥y200))) ?_
 refine nl ?_
 rcases oite h with ⟨hc207,h⟩ | ⟨hc207,h⟩
 ·refine cT hc207 ?_
  refine sr ?_
  refine q (J 2) ?_
  refine nl ?_
  cases h
  exact AW.ret ⟨_,_,rfl,⟨h10,k11,h21,k22,h25,k26,w2,z6,f7,e8,z17,f18,e19,Ls0,rfl,hH0,hG0,ho12,ho23,ho27,h9,h20⟩⟩
 refine cF hc207 ?_
 refine AW.skip ?_
 refine sr ?_
 refine q (ptr b1 0) ?_
 refine q (ptr b1 0) ?_
 refine q (ptr b1 0) ?_
 refine q (ptr b1 8) ?_
 refine AOps.ldB (i:=0) (v:=h25) hH0 rfl rfl rfl rfl rfl rfl rfl rfl rfl ?_
 refine q (eptr [(J p1_56.Kind),(J p1_56.A),(J p1_56.B)] 1) ?_
 refine lE (J p1_56.A) ?_
 obtain ⟨x210,h211,h⟩:=obind h
 refine AOps.idxO (j:=2) hG0 rfl Sub.here h211 rfl rfl rfl rfl rfl rfl rfl rfl rfl ?_
 intro b208 hb209
 refine AOps.ldO (j:=2) (q:=0) hH0 hG0 rfl Sub.here h211 hb209 rfl rfl rfl rfl rfl (lt_b rfl) (le_b rfl) rfl rfl ?_ (fun c B hc=>by obtain ⟨⟨_,hr,rfl⟩,rfl⟩:=hc; obtain ⟨_,rfl,h227⟩:=hr; obtain ⟨_,_,rfl,h228,h229⟩:=Cs_cons h227; cases h228; obtain ⟨_,_,rfl,h230,h231⟩:=Cs_cons h229; obtain ⟨z232,f233,e234,rfl,h235⟩:=h230; cases Cs_nil h231; exact ⟨_,rfl⟩)
 intro c212 B213 v214 h215 h216
 obtain ⟨⟨_,h217,rfl⟩,rfl⟩:=h215
 obtain ⟨_,rfl,h218⟩:=h217
 obtain ⟨_,_,rfl,h219,h220⟩:=Cs_cons h218
 cases h219
 obtain ⟨_,_,rfl,h221,h222⟩:=Cs_cons h220
 obtain ⟨z223,f224,e225,rfl,h226⟩:=h221
 cases Cs_nil h222
 cases h216
 refine AOps.allocP rfl rfl rfl rfl ⟨rfl,rfl⟩ rfl ?_
 refine AOps.stP (v:=(agg [(J x210.First),(sl z223 f224 e225)])) rfl rfl rfl rfl rfl rfl rfl rfl rfl (lt_b rfl) rfl ?_
 refine nl ?_
 refine AW.seq ?_
 refine sr ?_
 refine q (eptr [(J p1_56.Kind),(J p1_56.A),(J p1_56.B)] 0) ?_
 refine lE (J p1_56.Kind) ?_
 refine q (bool (p1_56.Kind != 3)) ?_
 refine nl ?_
 refine AW.meet (σ:=(List Parcel) × (Nat→Bool) × AV × KT × St × (List (List BX))) (fun (m237,w236,h238,k239,s241,Ls242) tm os=>⟨updL tm [(0,(ptr b1 0)),(3,(eptr [(J p1_56.Kind),(J p1_56.A),(J p1_56.B)] 0)),(5,(eptr [(J x210.First),(sl z223 f224 e225)] 0))],updL os [],s241⟩) (fun (m237,w236,h238,k239,s241,Ls242)=>(h238.one=true)∧(HS ex true s s241 (([⟨some b1,[(J p3),(J p4),(sl z6 f7 e8),h10,(J p14),(J p15),(sl z17 f18 e19),h21,h238,(J p29),(J p30),(sl z32 f33 e34),(sl z37 f38 e39),(sl z42 f43 e44),(sl z47 f48 e49),(sl z52 f53 e54)],w236⟩]:List BX)++Ls242.flatten))∧(AllG [OS oE2 h10 k11 p13,OS oE2 h21 k22 p24,OS oE116 h238 k239 m237] Ls242)∧impl_works_do_K10_J2 p3 p4 p5 p13 p14 p15 p16 p24 p29 p30 p31 p36 p41 p46 p51 p1_56 x210 m237=some r) ?_ ?_
 ·rintro ⟨m237,w236,h238,k239,s241,Ls242⟩ tm os ⟨ho240,hH243,hG244,h⟩
  unfold impl_works_do_K10_J2 at h
  refine sr ?_
  refine q (eptr [(J p1_56.Kind),(J p1_56.A),(J p1_56.B)] 0) ?_
  refine lE (J p1_56.Kind) ?_
  refine q (bool (p1_56.Kind != 4)) ?_
  refine nl ?_
  rcases oite h with ⟨hc246,h⟩ | ⟨hc246,h⟩
  ·refine cT hc246 ?_
   refine AW.region ?_
   refine q (ptr b1 0) ?_
   refine lE (agg [(J x210.First),(sl z223 f224 e225)]) ?_
   obtain ⟨y247,h248,h⟩:=obind h
   have hP257:=HS.pop0 hH243
   have hP258:=HS.popE hP257 (i:=0) (x:=⟨some b1,[(J p3),(J p4),(sl z6 f7 e8),h10,(J p14),(J p15),(sl z17 f18 e19),h21,h238,(J p29),(J p30),(sl z32 f33 e34),(sl z37 f38 e39),(sl z42 f43 e44),(sl z47 f48 e49),(sl z52 f53 e54)],w236⟩) rfl
   have hF0:AllG ([]:List (List BX→Prop)) []:=AllG.nil
   obtain ⟨Ls259,Lf260,hG261,hF262,hP263⟩:=HS.popG hP258 hG244 hF0 (j:=0) rfl
   obtain ⟨Ls264,Lf265,hG266,hF267,hP268⟩:=HS.popG hP263 hG261 hF262 (j:=1) rfl
   obtain ⟨Ls269,Lf270,hG271,hF272,hP273⟩:=HS.popG hP268 hG266 hF267 (j:=2) rfl
   refine AOps.callF (al:=true) (g:=83) (args:=[(ptr b1 0),(agg [(J x210.First),(sl z223 f224 e225)])]) rfl rfl rfl (impl_works_comeIn_K10_ok h9 ho12 h20 ho23 ho240 h35 h40 h45 h50 h55 h226 (HS.enterK hP273) hF272 (HS.enterLo hP273 hl) h248 (HS.wf' hH243)) ?_
   rintro _ _ s274 ⟨h249,k250,w252,z253,f254,e255,Ls276,rfl,hH277,hG278,ho251,h256⟩
   have hJ279:=HS.joinK hP273 hH277
   have hJ280:=HS.pushE hJ279 (i:=0) rfl
   obtain ⟨Ls281,Lf282,hG283,hF284,hP285⟩:=HS.putG hJ280 hG271 hG278 (j:=0) rfl
   obtain ⟨Ls286,Lf287,hG288,hF289,hP290⟩:=HS.putG hP285 hG283 hF284 (j:=1) rfl
   obtain ⟨Ls291,Lf292,hG293,hF294,hP295⟩:=HS.putG hP290 hG288 hF289 (j:=2) rfl
   cases hF294
   have hH296:=HS.push0 hP295
   refine nl ?_
   exact AW.res [] [] trivial trivial (KJ88 (y247.2.2.1,y247.2.2.2.1,y247.2.2.2.2,y247.2.1,p14,p15,p16,p24,m237,w252,z253,f254,e255,h249,k250,z17,f18,e19,h21,k22,h238,k239,s274,Ls291) _ _ ⟨h256,ho251,h20,ho23,ho240,hH296,hG293,h⟩)
  refine cF hc246 ?_
  refine AW.skip ?_
  exact AW.res [] [] trivial trivial (KJ88 (p3,p4,p5,p13,p14,p15,p16,p24,m237,w236,z6,f7,e8,h10,k11,z17,f18,e19,h21,k22,h238,k239,s241,Ls242) _ _ ⟨h9,ho12,h20,ho23,ho240,hH243,hG244,h⟩)
 intro KJ245
 rcases oite h with ⟨hc297,h⟩ | ⟨hc297,h⟩
 ·refine cT hc297 ?_
  refine AW.region ?_
  refine q (ptr b1 0) ?_
  refine q (ptr b1 0) ?_
  refine q (ptr b1 0) ?_
  refine q (ptr b1 0) ?_
  refine q (ptr b1 8) ?_
  refine AOps.ldB (i:=0) (v:=h25) hH0 rfl rfl rfl rfl rfl rfl rfl rfl rfl ?_
  refine q (eptr [(J p1_56.Kind),(J p1_56.A),(J p1_56.B)] 1) ?_
  refine lE (J p1_56.A) ?_
  refine q (eptr [(J p1_56.Kind),(J p1_56.A),(J p1_56.B)] 1) ?_
  refine lE (J p1_56.A) ?_
  refine q (J (IntKind.wrap .i64 (p1_56.A+1))) ?_
  obtain ⟨l298,h299,h⟩:=obind h
  refine AOps.delOE (j:=2) (g:=82) own_leaf116 rfl rfl hH0 hG0 hl rfl h299 rfl rfl rfl ?_
  intro h300 k302 Ls303 s304 ho301 hG305 hH306
  refine q (ptr b1 0) ?_
  refine q (ptr b1 0) ?_
  refine q (ptr b1 8) ?_
  refine AOps.stE (i:=0) (v:=h300) hH306 hl rfl rfl rfl rfl rfl rfl rfl (one_lay ho301) (one_len ho301) (lt_b rfl) (le_b rfl) rfl ?_
  intro w307 s308 h309 h310 hH311
  rw[AV.cells_one ho301] at hH311
  refine nl ?_
  exact AW.res [(0,(ptr b1 0)),(3,(eptr [(J p1_56.Kind),(J p1_56.A),(J p1_56.B)] 0)),(5,(eptr [(J x210.First),(sl z223 f224 e225)] 0))] [] ⟨rfl,rfl,rfl,trivial⟩ trivial (KJ245 (l298,w307,h300,k302,s308,Ls303) _ _ ⟨ho301,hH311,hG305,h⟩)
 refine cF hc297 ?_
 refine AW.skip ?_
 exact AW.res [(0,(ptr b1 0)),(3,(eptr [(J p1_56.Kind),(J p1_56.A),(J p1_56.B)] 0)),(5,(eptr [(J x210.First),(sl z223 f224 e225)] 0))] [] ⟨rfl,rfl,rfl,trivial⟩ trivial (KJ245 (p28,w2,h25,k26,s,Ls0) _ _ ⟨ho27,hH0,hG0,h⟩)
theorem impl_after_K00_ok {v1:Stream} {deeds22:List Deed} {z2 z6 z10 z14 z18 z23:Nat} {f3 f7 f11 f15 f19 f24:Bool} {e4 e8 e12 e16 e20 e25:List AV} {s:St} (h5:LR rB 1 v1.Checker.Accept z2 e4) (h9:LR (rL rPush 2) 1 v1.Checker.Call z6 e8) (h13:LR (rL (rL rJ 1) 1) 1 v1.Checker.Return z10 e12) (h17:LR (rL rJ 1) 1 v1.Checker.Inner z14 e16) (h21:LR rS 1 v1.Pieces z18 e20) (h26:LR rDeed 3 deeds22 z23 e25) {r:Works × Int} (h:impl_after_K00 v1 deeds22=some r) (hs:WF s):ACall Cf 24 [(agg [(J v1.Checker.Stack),(J v1.Checker.Start),(sl z2 f3 e4),(sl z6 f7 e8),(sl z10 f11 e12),(sl z14 f15 e16),(sl z18 f19 e20)]),(sl z23 f24 e25)] s (fun v _ s'=>∃ (b1':Nat) (w2':Nat→Bool) (z3':Nat) (f4':Bool) (e5':List AV) (h7':AV) (k8':KT) (z10':Nat) (f11':Bool) (e12':List AV) (h14':AV) (k15':KT) (h17':AV) (k18':KT) (z20':Nat) (f21':Bool) (e22':List AV) (z24':Nat) (f25':Bool) (e26':List AV) (z28':Nat) (f29':Bool) (e30':List AV) (z32':Nat) (f33':Bool) (e34':List AV) (z36':Nat) (f37':Bool) (e38':List AV) (Ls':List (List BX)),v=(AV.tup [(ptr b1' 0),(J r.2)])∧HS [] true s s' (([⟨some b1',[(J r.1.Plant_.Desk_.Read),(J r.1.Plant_.Desk_.State),(sl z3' f4' e5'),h7',(J r.1.Plant_.Saved.Read),(J r.1.Plant_.Saved.State),(sl z10' f11' e12'),h14',h17',(J r.1.stream.Checker.Stack),(J r.1.stream.Checker.Start),(sl z20' f21' e22'),(sl z24' f25' e26'),(sl z28' f29' e30'),(sl z32' f33' e34'),(sl z36' f37' e38')],w2'⟩]:List BX)++Ls'.flatten)∧AllG [OS oE2 h7' k8' r.1.Plant_.Desk_.Waiting,OS oE2 h14' k15' r.1.Plant_.Saved.Waiting,OS oE116 h17' k18' r.1.Plant_.Wire] Ls'∧LR rJ 1 r.1.Plant_.Desk_.Stack z3' e5'∧h7'.one=true∧LR rJ 1 r.1.Plant_.Saved.Stack z10' e12'∧h14'.one=true∧h17'.one=true∧LR rB 1 r.1.stream.Checker.Accept z20' e22'∧LR (rL rPush 2) 1 r.1.stream.Checker.Call z24' e26'∧LR (rL (rL rJ 1) 1) 1 r.1.stream.Checker.Return z28' e30'∧LR (rL rJ 1) 1 r.1.stream.Checker.Inner z32' e34'∧LR rS 1 r.1.stream.Pieces z36' e38') true:=by
 refine ACall.keepR rfl rfl rfl ?_
 have hH0:=HS.g0 (HS.initK hs)
 have hG0:=AllG.nil
 have hl:LoOK [] true s:=LoOK.nil
 unfold impl_after_K00 at h
 refine sr ?_
 refine AOps.makeR rfl rfl rfl rfl rfl rfl (rfl:_=(eptr [(J v1.Checker.Stack),(J v1.Checker.Start),(sl z2 f3 e4),(sl z6 f7 e8),(sl z10 f11 e12),(sl z14 f15 e16),(sl z18 f19 e20)] 0)) ?_
 refine q AV.nilp ?_
 refine q (J 0) ?_
 refine ns ?_
 refine lE (agg [(J v1.Checker.Stack),(J v1.Checker.Start),(sl z2 f3 e4),(sl z6 f7 e8),(sl z10 f11 e12),(sl z14 f15 e16),(sl z18 f19 e20)]) ?_
 obtain ⟨y27,h28,h⟩:=obind h
 have hP68:=HS.pop0 hH0
 refine AOps.callF (al:=true) (g:=48) (args:=[(agg [(J v1.Checker.Stack),(J v1.Checker.Start),(sl z2 f3 e4),(sl z6 f7 e8),(sl z10 f11 e12),(sl z14 f15 e16),(sl z18 f19 e20)])]) rfl rfl rfl (impl_newWorks_K0_ok h5 h9 h13 h17 h21  h28 (HS.wf' hH0)) ?_
 rintro _ _ s69 ⟨b29,w30,z31,f32,e33,h35,k36,z38,f39,e40,h42,k43,h45,k46,z48,f49,e50,z52,f53,e54,z56,f57,e58,z60,f61,e62,z64,f65,e66,Ls71,rfl,hH72,hG73,hl34,ho37,hl41,ho44,ho47,hl51,hl55,hl59,hl63,hl67⟩
 have hJ74:=HS.joinK1 hP68 hH72
 have hJ75:=HS.pushNE (x:=⟨some b29,[(J y27.Plant_.Desk_.Read),(J y27.Plant_.Desk_.State),(sl z31 f32 e33),h35,(J y27.Plant_.Saved.Read),(J y27.Plant_.Saved.State),(sl z38 f39 e40),h42,h45,(J y27.stream.Checker.Stack),(J y27.stream.Checker.Start),(sl z48 f49 e50),(sl z52 f53 e54),(sl z56 f57 e58),(sl z60 f61 e62),(sl z64 f65 e66)],w30⟩) hJ74
 obtain ⟨Ls76,Lf77,hG78,hF79,hP80⟩:=HS.pushN hJ75 hG0 hG73
 obtain ⟨Ls81,Lf82,hG83,hF84,hP85⟩:=HS.pushN hP80 hG78 hF79
 obtain ⟨Ls86,Lf87,hG88,hF89,hP90⟩:=HS.pushN hP85 hG83 hF84
 cases hF89
 have hH91:=HS.push0 hP90
 refine aq (ptr b29 0) ?_
 refine q (J 0) ?_
 refine nl ?_
 refine AW.seq ?_
 refine sr ?_
 refine q (sl z23 f24 e25) ?_
 refine AOps.p rfl (len_eq h26) ?_
 refine q (J 0) ?_
 refine nl ?_
 refine AW.meet (σ:=Int × Int × (List Int) × (List Int) × Int × Int × (List Int) × (List Int) × (List Parcel) × Int × (Nat→Bool) × Nat × Bool × (List AV) × AV × KT × Nat × Bool × (List AV) × AV × KT × AV × KT × St × (List (List BX))) (fun (m93,m94,m95,m100,m104,m105,m106,m111,m115,done119,w92,z96,f97,e98,h101,k102,z107,f108,e109,h112,k113,h116,k117,s120,Ls121) tm os=>⟨updL tm [(6,(ptr b29 0)),(7,(J done119))],updL os [],s120⟩) (fun (m93,m94,m95,m100,m104,m105,m106,m111,m115,done119,w92,z96,f97,e98,h101,k102,z107,f108,e109,h112,k113,h116,k117,s120,Ls121)=>(LR rJ 1 m95 z96 e98)∧(h101.one=true)∧(LR rJ 1 m106 z107 e109)∧(h112.one=true)∧(h116.one=true)∧(HS [] true s s120 (([⟨some b29,[(J m93),(J m94),(sl z96 f97 e98),h101,(J m104),(J m105),(sl z107 f108 e109),h112,h116,(J y27.stream.Checker.Stack),(J y27.stream.Checker.Start),(sl z48 f49 e50),(sl z52 f53 e54),(sl z56 f57 e58),(sl z60 f61 e62),(sl z64 f65 e66)],w92⟩]:List BX)++Ls121.flatten))∧(AllG [OS oE2 h101 k102 m100,OS oE2 h112 k113 m111,OS oE116 h116 k117 m115] Ls121)∧impl_after_K00_J1 y27 m93 m94 m95 m100 m104 m105 m106 m111 m115 done119=some r) ?_ ?_
 ·rintro ⟨m93,m94,m95,m100,m104,m105,m106,m111,m115,done119,w92,z96,f97,e98,h101,k102,z107,f108,e109,h112,k113,h116,k117,s120,Ls121⟩ tm os ⟨h99,ho103,h110,ho114,ho118,hH122,hG123,h⟩
  unfold impl_after_K00_J1 at h
  refine sr ?_
  refine q (ptr b29 0) ?_
  refine q (J done119) ?_
  refine aq (ptr b29 0) ?_
  refine aq (J done119) ?_
  refine nl ?_
  cases h
  exact AW.ret ⟨_,_,rfl,⟨b29,w92,z96,f97,e98,h101,k102,z107,f108,e109,h112,k113,h116,k117,z48,f49,e50,z52,f53,e54,z56,f57,e58,z60,f61,e62,z64,f65,e66,Ls121,rfl,hH122,hG123,h99,ho103,h110,ho114,ho118,hl51,hl55,hl59,hl63,hl67⟩⟩
 intro KJ124
 refine AW.block ?_
 obtain ⟨Ls239,hG240,hH241⟩:=HS.selEG hH91 hG88 [some 0] [some 2,some 1,some 0]
 refine AW.res [(6,(ptr b29 0)),(7,(J 0)),(12,(sl z23 f24 e25)),(13,(J (deeds22.length:Int))),(14,(J 0))] [] ⟨rfl,rfl,rfl,rfl,rfl,trivial⟩ trivial ?_
 refine AW.loopF (σ:=Int × Int × (List Int) × (List Int) × Int × Int × (List Int) × (List Int) × (List Parcel) × Int × Int) (τ:=(Nat→Bool) × Nat × Bool × (List AV) × AV × KT × Nat × Bool × (List AV) × AV × KT × AV × KT × St × (List (List BX))) (fun (m126,m127,m128,m133,m137,m138,m139,m144,m148,done152,t153) (w125,z129,f130,e131,h134,k135,z140,f141,e142,h145,k146,h149,k150,s154,Ls155)=>(LR rJ 1 m128 z129 e131)∧(h134.one=true)∧(LR rJ 1 m139 z140 e142)∧(h145.one=true)∧(h149.one=true)∧(HS [] true s s154 (([⟨some b29,[(J m126),(J m127),(sl z129 f130 e131),h134,(J m137),(J m138),(sl z140 f141 e142),h145,h149,(J y27.stream.Checker.Stack),(J y27.stream.Checker.Start),(sl z48 f49 e50),(sl z52 f53 e54),(sl z56 f57 e58),(sl z60 f61 e62),(sl z64 f65 e66)],w125⟩]:List BX)++Ls155.flatten))∧(AllG [OS oE2 h134 k135 m133,OS oE2 h145 k146 m144,OS oE116 h149 k150 m148] Ls155)) (fun (m126,m127,m128,m133,m137,m138,m139,m144,m148,done152,t153) (w125,z129,f130,e131,h134,k135,z140,f141,e142,h145,k146,h149,k150,s154,Ls155) tm os=>⟨updL tm [(6,(ptr b29 0)),(7,(J done152)),(12,(sl z23 f24 e25)),(13,(J (deeds22.length:Int))),(14,(J t153))],updL os [],s154⟩) ?_ (x:=(y27.Plant_.Desk_.Read,y27.Plant_.Desk_.State,y27.Plant_.Desk_.Stack,y27.Plant_.Desk_.Waiting,y27.Plant_.Saved.Read,y27.Plant_.Saved.State,y27.Plant_.Saved.Stack,y27.Plant_.Saved.Waiting,y27.Plant_.Wire,0,0)) (y:=(w30,z31,f32,e33,h35,k36,z38,f39,e40,h42,k43,h45,k46,s69,Ls239)) h ⟨hl34,ho37,hl41,ho44,ho47,hH241,hG240⟩
 clear h
 rintro ⟨m126,m127,m128,m133,m137,m138,m139,m144,m148,done152,t153⟩ ⟨w125,z129,f130,e131,h134,k135,z140,f141,e142,h145,k146,h149,k150,s154,Ls155⟩ tm os ⟨h132,ho136,h143,ho147,ho151,hH156,hG157⟩ ee1 h hL1 hR1
 unfold impl_after_K00_S1 at h
 dsimp only at h
 refine sr ?_
 refine q (bool (decide ((t153:Int)<(deeds22.length:Int)))) ?_
 refine nl ?_
 refine AW.seq ?_
 rcases oite h with ⟨hc158,h⟩ | ⟨hc158,h⟩
 ·refine cT hc158 ?_
  refine AW.skip ?_
  refine AW.seq ?_
  refine AW.block ?_
  refine sr ?_
  obtain ⟨x159,h160,h⟩:=obind h
  obtain ⟨v163,h161,h162⟩:=idx_sl h26 h160
  obtain ⟨_,rfl,h164⟩:=h161
  obtain ⟨_,_,rfl,h165,h166⟩:=Cs_cons h164
  cases h165
  obtain ⟨_,_,rfl,h167,h168⟩:=Cs_cons h166
  cases h167
  obtain ⟨_,_,rfl,h169,h170⟩:=Cs_cons h168
  cases h169
  cases Cs_nil h170
  refine AOps.pureR rfl rfl rfl h162 rfl (rfl:_=(eptr [(J x159.Kind),(J x159.A),(J x159.B)] 0)) ?_
  refine lE (agg [(J x159.Kind),(J x159.A),(J x159.B)]) ?_
  refine AOps.allocP rfl rfl rfl rfl ⟨rfl,rfl⟩ rfl ?_
  refine AOps.stP (v:=(agg [(J x159.Kind),(J x159.A),(J x159.B)])) rfl rfl rfl rfl rfl rfl rfl rfl rfl (lt_b rfl) rfl ?_
  refine ns ?_
  refine q (ptr b29 0) ?_
  refine lE (agg [(J x159.Kind),(J x159.A),(J x159.B)]) ?_
  obtain ⟨y171,h172,h⟩:=obind h
  have hP191:=HS.pop0 hH156
  have hP192:=HS.popE hP191 (i:=0) (x:=⟨some b29,[(J m126),(J m127),(sl z129 f130 e131),h134,(J m137),(J m138),(sl z140 f141 e142),h145,h149,(J y27.stream.Checker.Stack),(J y27.stream.Checker.Start),(sl z48 f49 e50),(sl z52 f53 e54),(sl z56 f57 e58),(sl z60 f61 e62),(sl z64 f65 e66)],w125⟩) rfl
  have hF0:AllG ([]:List (List BX→Prop)) []:=AllG.nil
  obtain ⟨Ls193,Lf194,hG195,hF196,hP197⟩:=HS.popG hP192 hG157 hF0 (j:=0) rfl
  obtain ⟨Ls198,Lf199,hG200,hF201,hP202⟩:=HS.popG hP197 hG195 hF196 (j:=1) rfl
  obtain ⟨Ls203,Lf204,hG205,hF206,hP207⟩:=HS.popG hP202 hG200 hF201 (j:=2) rfl
  refine AOps.callF (al:=true) (g:=49) (args:=[(ptr b29 0),(agg [(J x159.Kind),(J x159.A),(J x159.B)])]) rfl rfl rfl (impl_works_do_K10_ok h132 ho136 h143 ho147 ho151 hl51 hl55 hl59 hl63 hl67 (HS.enterK hP207) hF206 (HS.enterLo hP207 hl) h172 (HS.wf' hH156)) ?_
  rintro _ _ s208 ⟨h173,k174,h176,k177,h179,k180,w182,z183,f184,e185,z187,f188,e189,Ls210,rfl,hH211,hG212,ho175,ho178,ho181,h186,h190⟩
  have hJ213:=HS.joinK hP207 hH211
  have hJ214:=HS.pushE hJ213 (i:=0) rfl
  obtain ⟨Ls215,Lf216,hG217,hF218,hP219⟩:=HS.putG hJ214 hG205 hG212 (j:=0) rfl
  obtain ⟨Ls220,Lf221,hG222,hF223,hP224⟩:=HS.putG hP219 hG217 hF218 (j:=1) rfl
  obtain ⟨Ls225,Lf226,hG227,hF228,hP229⟩:=HS.putG hP224 hG222 hF223 (j:=2) rfl
  cases hF228
  have hH230:=HS.push0 hP229
  refine q (bool (y171.1 == 0)) ?_
  refine nl ?_
  refine AW.meet (σ:=Int × St × (List (List BX))) (fun (done231,s232,Ls233) tm os=>⟨updL tm [(6,(ptr b29 0)),(7,(J done231)),(12,(sl z23 f24 e25)),(13,(J (deeds22.length:Int))),(14,(J t153))],updL os [],s232⟩) (fun (done231,s232,Ls233)=>(HS [] true s s232 (([⟨some b29,[(J y171.2.2.2.2.1),(J y171.2.2.2.2.2.1),(sl z183 f184 e185),h173,(J y171.2.2.2.2.2.2.2.1),(J y171.2.2.2.2.2.2.2.2.1),(sl z187 f188 e189),h176,h179,(J y27.stream.Checker.Stack),(J y27.stream.Checker.Start),(sl z48 f49 e50),(sl z52 f53 e54),(sl z56 f57 e58),(sl z60 f61 e62),(sl z64 f65 e66)],w182⟩]:List BX)++Ls233.flatten))∧(AllG [OS oE2 h173 k174 y171.2.1,OS oE2 h176 k177 y171.2.2.1,OS oE116 h179 k180 y171.2.2.2.1] Ls233)∧impl_after_K00_J2 t153 y171 done231=some ee1) ?_ ?_
  ·rintro ⟨done231,s232,Ls233⟩ tm os ⟨hH234,hG235,h⟩
   unfold impl_after_K00_J2 at h
   refine AW.inBlock ?_
   refine AW.region ?_
   refine q (J (IntKind.wrap .i64 (t153+1))) ?_
   refine q (J (IntKind.wrap .i64 (t153+1))) ?_
   refine nl ?_
   cases h
   exact AW.res [(6,(ptr b29 0)),(7,(J done231)),(12,(sl z23 f24 e25)),(13,(J (deeds22.length:Int))),(14,(J (IntKind.wrap .i64 (t153+1))))] [] ⟨rfl,rfl,rfl,rfl,rfl,trivial⟩ trivial (hL1 _ rfl (w182,z183,f184,e185,h173,k174,z187,f188,e189,h176,k177,h179,k180,s232,Ls233) _ _ ⟨h186,ho175,h190,ho178,ho181,hH234,hG235⟩)
  intro KJ236
  rcases oite h with ⟨hc237,h⟩ | ⟨hc237,h⟩
  ·refine cT hc237 ?_
   refine AW.region ?_
   refine q (J done152) ?_
   refine q (J (IntKind.wrap .i64 (done152+1))) ?_
   refine aq (J (IntKind.wrap .i64 (done152+1))) ?_
   refine nl ?_
   exact AW.res [(6,(ptr b29 0)),(7,(J (IntKind.wrap .i64 (done152+1)))),(12,(sl z23 f24 e25)),(13,(J (deeds22.length:Int))),(14,(J t153))] [] ⟨rfl,rfl,rfl,rfl,rfl,trivial⟩ trivial (KJ236 (IntKind.wrap .i64 (done152+1),s208,Ls225) _ _ ⟨hH230,hG227,h⟩)
  refine cF hc237 ?_
  refine AW.skip ?_
  exact AW.res [(6,(ptr b29 0)),(7,(J done152)),(12,(sl z23 f24 e25)),(13,(J (deeds22.length:Int))),(14,(J t153))] [] ⟨rfl,rfl,rfl,rfl,rfl,trivial⟩ trivial (KJ236 (done152,s208,Ls225) _ _ ⟨hH230,hG227,h⟩)
 refine cF hc158 ?_
 refine AW.exit rfl ?_
 obtain ⟨r238,hm,hx⟩:=omap h
 clear h
 subst hx
 have hx:=hR1 _ rfl
 rw[hx] at hm
 have h:=hm
 exact AW.res [(6,(ptr b29 0)),(7,(J done152))] [] ⟨rfl,rfl,trivial⟩ trivial (KJ124 (m126,m127,m128,m133,m137,m138,m139,m144,m148,done152,w125,z129,f130,e131,h134,k135,z140,f141,e142,h145,k146,h149,k150,s154,Ls155) _ _ ⟨h132,ho136,h143,ho147,ho151,hH156,hG157,h⟩)
theorem impl_works_missing_K1_ok {w3 w4 w14 w15 w29 w30:Int} {w5 w13 w16 w24:List Int} {w28:List Parcel} {w31:List Bool} {w36:List (List Push)} {w41:List (List (List Int))} {w46:List (List Int)} {w51:List (List UInt8)} {b1 z6 z17 z32 z37 z42 z47 z52:Nat} {w2:Nat→Bool} {f7 f18 f33 f38 f43 f48 f53:Bool} {e8 e19 e34 e39 e44 e49 e54:List AV} {h10 h21 h25:AV} {k11 k22 k26:KT} {s:St} (h9:LR rJ 1 w5 z6 e8) (ho12:h10.one=true) (h20:LR rJ 1 w16 z17 e19) (ho23:h21.one=true) (ho27:h25.one=true) (h35:LR rB 1 w31 z32 e34) (h40:LR (rL rPush 2) 1 w36 z37 e39) (h45:LR (rL (rL rJ 1) 1) 1 w41 z42 e44) (h50:LR (rL rJ 1) 1 w46 z47 e49) (h55:LR rS 1 w51 z52 e54) {ex:List Nat} {Ls0:List (List BX)} (hH0:HS ex true s s (([⟨some b1,[(J w3),(J w4),(sl z6 f7 e8),h10,(J w14),(J w15),(sl z17 f18 e19),h21,h25,(J w29),(J w30),(sl z32 f33 e34),(sl z37 f38 e39),(sl z42 f43 e44),(sl z47 f48 e49),(sl z52 f53 e54)],w2⟩]:List BX)++Ls0.flatten)) (hG0:AllG [OS oE2 h10 k11 w13,OS oE2 h21 k22 w24,OS oE116 h25 k26 w28] Ls0) (hl:LoOK ex true s) {r:(List Int)} (h:impl_works_missing_K1 w3 w4 w5 w13 w14 w15 w16 w24 w28 w29 w30 w31 w36 w41 w46 w51=some r) (hs:WF s):ACall Cf 25 [(ptr b1 0)] s (fun v _ s'=>∃ (w1':Nat→Bool) (h2':AV) (k3':KT) (Ls':List (List BX)),v=h2'∧HS ex true s s' (([⟨some b1,[(J w3),(J w4),(sl z6 f7 e8),h10,(J w14),(J w15),(sl z17 f18 e19),h21,h25,(J w29),(J w30),(sl z32 f33 e34),(sl z37 f38 e39),(sl z42 f43 e44),(sl z47 f48 e49),(sl z52 f53 e54)],w1'⟩]:List BX)++Ls'.flatten)∧AllG [OS oE2 h10 k11 w13,OS oE2 h21 k22 w24,OS oE116 h25 k26 w28,OS oE2 h2' k3' r] Ls'∧h2'.one=true) true:=by
 refine ACall.keepR rfl rfl rfl ?_
 unfold impl_works_missing_K1 at h
 refine sr ?_
 refine q (sl 0 true []) ?_
 refine ns ?_
 refine AOps.makeR rfl rfl rfl rfl rfl rfl (rfl:_=(sl 1 true [])) ?_
 refine aq (sl 1 true []) ?_
 refine nl ?_
 refine AW.seq ?_
 refine sr ?_
 refine q (ptr b1 0) ?_
 refine q (ptr b1 0) ?_
 refine q (ptr b1 0) ?_
 refine q (ptr b1 0) ?_
 refine q (ptr b1 0) ?_
 refine AOps.ldB (i:=0) (v:=(J w3)) hH0 rfl rfl rfl rfl rfl rfl rfl rfl rfl ?_
 refine aq (J w3) ?_
 refine nl ?_
 refine AW.meet (σ:=(List Int) × AV × KT × St × (List (List BX))) (fun (out56,h57,k58,s60,Ls61) tm os=>⟨updL tm [(3,h57)],updL os [],s60⟩) (fun (out56,h57,k58,s60,Ls61)=>(h57.one=true)∧(HS ex true s s60 (([⟨some b1,[(J w3),(J w4),(sl z6 f7 e8),h10,(J w14),(J w15),(sl z17 f18 e19),h21,h25,(J w29),(J w30),(sl z32 f33 e34),(sl z37 f38 e39),(sl z42 f43 e44),(sl z47 f48 e49),(sl z52 f53 e54)],w2⟩]:List BX)++Ls61.flatten))∧(AllG [OS oE2 h10 k11 w13,OS oE2 h21 k22 w24,OS oE116 h25 k26 w28,OS oE2 h57 k58 out56] Ls61)∧impl_works_missing_K1_J1 out56=some r) ?_ ?_
 ·rintro ⟨out56,h57,k58,s60,Ls61⟩ tm os ⟨ho59,hH62,hG63,h⟩
  unfold impl_works_missing_K1_J1 at h
  refine sr ?_
  refine q h57 ?_
  refine aq h57 ?_
  refine nl ?_
  cases h
  exact AW.ret ⟨_,_,rfl,⟨w2,h57,k58,Ls61,rfl,hH62,hG63,ho59⟩⟩
 intro KJ64
 refine AW.block ?_
 obtain ⟨Ls106,hG107,hH108⟩:=HS.selEG hH0 hG0 [some 0] [some 0,some 1,some 2,none]
 have hG109:=AllG.imp hG107 3 rfl (P':=OS oE2 (sl 1 true []) (fun _=>AV.undef) []) (fun L hL=>by cases hL; exact OS.nil (Or.inl rfl))
 refine AW.res [(0,(ptr b1 0)),(3,(sl 1 true [])),(4,(J w3))] [] ⟨rfl,rfl,rfl,trivial⟩ trivial ?_
 refine AW.loopF (σ:=(List Int) × Int) (τ:=AV × KT × St × (List (List BX))) (fun (out65,i69) (h66,k67,s70,Ls71)=>(h66.one=true)∧(HS ex true s s70 (([⟨some b1,[(J w3),(J w4),(sl z6 f7 e8),h10,(J w14),(J w15),(sl z17 f18 e19),h21,h25,(J w29),(J w30),(sl z32 f33 e34),(sl z37 f38 e39),(sl z42 f43 e44),(sl z47 f48 e49),(sl z52 f53 e54)],w2⟩]:List BX)++Ls71.flatten))∧(AllG [OS oE2 h10 k11 w13,OS oE2 h21 k22 w24,OS oE116 h25 k26 w28,OS oE2 h66 k67 out65] Ls71)) (fun (out65,i69) (h66,k67,s70,Ls71) tm os=>⟨updL tm [(0,(ptr b1 0)),(3,h66),(4,(J i69))],updL os [],s70⟩) ?_ (x:=(([]:List Int),w3)) (y:=((sl 1 true []),(fun _=>AV.undef),s,Ls106)) h ⟨rfl,hH108,hG109⟩
 clear h
 rintro ⟨out65,i69⟩ ⟨h66,k67,s70,Ls71⟩ tm os ⟨ho68,hH72,hG73⟩ ee1 h hL1 hR1
 unfold impl_works_missing_K1_S1 at h
 dsimp only at h
 refine AW.seq ?_
 refine sr ?_
 refine q (J i69) ?_
 refine q (ptr b1 0) ?_
 refine q (ptr b1 0) ?_
 refine q (ptr b1 9) ?_
 refine q (ptr b1 15) ?_
 refine AOps.ldB (i:=0) (v:=(sl z52 f53 e54)) hH72 rfl rfl rfl rfl rfl rfl rfl rfl rfl ?_
 obtain ⟨y74,h75,h⟩:=obind h
 refine cP (impl_size_string_ok h55 h75 (HS.wf' hH72)) ?_
 intro _ o77 h76
 cases h76
 refine q (bool (decide ((i69:Int)<y74))) ?_
 refine nl ?_
 rcases oite h with ⟨hc78,h⟩ | ⟨hc78,h⟩
 ·refine cT hc78 ?_
  refine AW.skip ?_
  refine AW.seq ?_
  refine AW.block ?_
  refine sr ?_
  refine q (ptr b1 0) ?_
  refine q (ptr b1 0) ?_
  refine q (ptr b1 0) ?_
  refine q (ptr b1 0) ?_
  refine q (ptr b1 3) ?_
  refine AOps.ldB (i:=0) (v:=h10) hH72 rfl rfl rfl rfl rfl rfl rfl rfl rfl ?_
  refine q (J i69) ?_
  obtain ⟨y79,h80,h⟩:=obind h
  refine AOps.lendP (g:=51) (args:=[h10,(J i69)]) (ps:=[(rL rJ 1) w13,rJ i69]) (p:=(rB) y79) rfl rfl rfl rfl rfl rfl rfl (.cons (Fin.up (by decide) (HS.finS hH72 hG73 (j:=0) rfl Sub.here (Or.inl rfl))) (.cons (Fin.of (p:=rJ i69) .I rfl) .nil)) (fun args' hc=>by obtain ⟨_,_,rfl,hv0,hd0⟩:=Cs_cons hc; obtain ⟨z81,f82,e83,rfl,h84⟩:=hv0; obtain ⟨_,_,rfl,hv1,hd1⟩:=Cs_cons hd0; cases hv1; cases Cs_nil hd1; exact slices_Contains_sint64_int64_okN h84 h80 WF.blind) (fun v n hv=>by cases hv; rfl) ?_
  intro _ h85
  cases h85
  refine q (bool (!y79)) ?_
  refine nl ?_
  refine AW.meet (σ:=(List Int) × AV × KT × St × (List (List BX))) (fun (out86,h87,k88,s90,Ls91) tm os=>⟨updL tm [(0,(ptr b1 0)),(3,h87),(4,(J i69))],updL os [],s90⟩) (fun (out86,h87,k88,s90,Ls91)=>(h87.one=true)∧(HS ex true s s90 (([⟨some b1,[(J w3),(J w4),(sl z6 f7 e8),h10,(J w14),(J w15),(sl z17 f18 e19),h21,h25,(J w29),(J w30),(sl z32 f33 e34),(sl z37 f38 e39),(sl z42 f43 e44),(sl z47 f48 e49),(sl z52 f53 e54)],w2⟩]:List BX)++Ls91.flatten))∧(AllG [OS oE2 h10 k11 w13,OS oE2 h21 k22 w24,OS oE116 h25 k26 w28,OS oE2 h87 k88 out86] Ls91)∧impl_works_missing_K1_J2 i69 out86=some ee1) ?_ ?_
  ·rintro ⟨out86,h87,k88,s90,Ls91⟩ tm os ⟨ho89,hH92,hG93,h⟩
   unfold impl_works_missing_K1_J2 at h
   refine AW.inBlock ?_
   refine AW.region ?_
   refine q (J i69) ?_
   refine q (J (IntKind.wrap .i64 (i69+1))) ?_
   refine aq (J (IntKind.wrap .i64 (i69+1))) ?_
   refine nl ?_
   cases h
   exact AW.res [(0,(ptr b1 0)),(3,h87),(4,(J (IntKind.wrap .i64 (i69+1))))] [] ⟨rfl,rfl,rfl,trivial⟩ trivial (hL1 _ rfl (h87,k88,s90,Ls91) _ _ ⟨ho89,hH92,hG93⟩)
  intro KJ94
  rcases oite h with ⟨hc95,h⟩ | ⟨hc95,h⟩
  ·refine cT hc95 ?_
   refine AW.region ?_
   refine q h66 ?_
   refine q (J i69) ?_
   refine AOps.makeR rfl rfl rfl rfl rfl rfl (rfl:_=(sl 1 true [(J i69)])) ?_
   obtain ⟨l96,h97,h⟩:=obind h
   refine AOps.appLf (j:=3) (z':=1) (f':=true) (e':=[(J i69)]) hH72 hG73 rfl rfl rfl rfl rfl rfl rfl rfl (appSrc_sl (LR.z (LR.lit (r:=rI .i64) (sz:=1) (.cons rfl .nil))) rfl) ⟨by decide,by decide,rfl,rfl⟩ ⟨rfl,rfl⟩ rfl rfl h97 (LR.el (LR.lit (r:=rI .i64) (sz:=1) (.cons rfl .nil))).len (fun i=>OL.leaf (LR.el (LR.lit (r:=rI .i64) (sz:=1) (.cons rfl .nil))) i) ?_
   intro h98 k100 Ls101 s102 ho99 hG103 hH104
   refine aq h98 ?_
   refine nl ?_
   exact AW.res [(0,(ptr b1 0)),(3,h98),(4,(J i69))] [] ⟨rfl,rfl,rfl,trivial⟩ trivial (KJ94 (l96,h98,k100,s102,Ls101) _ _ ⟨ho99,hH104,hG103,h⟩)
  refine cF hc95 ?_
  refine AW.skip ?_
  exact AW.res [(0,(ptr b1 0)),(3,h66),(4,(J i69))] [] ⟨rfl,rfl,rfl,trivial⟩ trivial (KJ94 (out65,h66,k67,s70,Ls71) _ _ ⟨ho68,hH72,hG73,h⟩)
 refine cF hc78 ?_
 refine AW.exit rfl ?_
 obtain ⟨r105,hm,hx⟩:=omap h
 clear h
 subst hx
 have hx:=hR1 _ rfl
 rw[hx] at hm
 have h:=hm
 exact AW.res [(3,h66)] [] ⟨rfl,trivial⟩ trivial (KJ64 (out65,h66,k67,s70,Ls71) _ _ ⟨ho68,hH72,hG73,h⟩)
theorem impl_FinishDeeds_K00_okN {v1:Stream} {deeds22:List Deed} {z2 z6 z10 z14 z18 z23:Nat} {f3 f7 f11 f15 f19 f24:Bool} {e4 e8 e12 e16 e20 e25:List AV} {s:St} (h5:LR rB 1 v1.Checker.Accept z2 e4) (h9:LR (rL rPush 2) 1 v1.Checker.Call z6 e8) (h13:LR (rL (rL rJ 1) 1) 1 v1.Checker.Return z10 e12) (h17:LR (rL rJ 1) 1 v1.Checker.Inner z14 e16) (h21:LR rS 1 v1.Pieces z18 e20) (h26:LR rDeed 3 deeds22 z23 e25) {r:(List Deed) × Int} (h:impl_FinishDeeds_K00 v1 deeds22=some r) (hs:WF s):ACallN Cf 9 [(agg [(J v1.Checker.Stack),(J v1.Checker.Start),(sl z2 f3 e4),(sl z6 f7 e8),(sl z10 f11 e12),(sl z14 f15 e16),(sl z18 f19 e20)]),(sl z23 f24 e25)] s (fun v _ s'=>∃ (h1':AV) (k2':KT) (Ls':List (List BX)),v=(AV.tup [h1',(J r.2)])∧HS [] true s s' (([]:List BX)++Ls'.flatten)∧AllG [OS oE65 h1' k2' r.1] Ls'∧h1'.one=true) true:=by
 refine ACallN.keepR rfl rfl rfl ?_
 have hH0:=HS.g0 (HS.initK hs)
 have hG0:=AllG.nil
 have hl:LoOK [] true s:=LoOK.nil
 unfold impl_FinishDeeds_K00 at h
 refine sr ?_
 refine AOps.makeR rfl rfl rfl rfl rfl rfl (rfl:_=(eptr [(J v1.Checker.Stack),(J v1.Checker.Start),(sl z2 f3 e4),(sl z6 f7 e8),(sl z10 f11 e12),(sl z14 f15 e16),(sl z18 f19 e20)] 0)) ?_
 refine q (sl 0 true []) ?_
 refine q (J 0) ?_
 refine nl ?_
 refine AW.seq ?_
 refine sr ?_
 refine lE (agg [(J v1.Checker.Stack),(J v1.Checker.Start),(sl z2 f3 e4),(sl z6 f7 e8),(sl z10 f11 e12),(sl z14 f15 e16),(sl z18 f19 e20)]) ?_
 refine q (sl z23 f24 e25) ?_
 obtain ⟨y27,h28,h⟩:=obind h
 refine cP (impl_deedsCode_ok h5 h9 h13 h17 h21 h26 h28 (HS.wf' hH0)) ?_
 intro _ o30 h29
 cases h29
 refine aq (J y27) ?_
 refine ns ?_
 refine q (J y27) ?_
 refine q (bool (y27 != 0)) ?_
 refine nl ?_
 rcases oite h with ⟨hc31,h⟩ | ⟨hc31,h⟩
 ·refine cT hc31 ?_
  refine sr ?_
  refine q (J y27) ?_
  refine q (sl 0 true []) ?_
  refine aq (J y27) ?_
  refine nl ?_
  cases h
  have hG32:=AllG.cons (OS.nil (e:=oE65) (k:=fun _=>AV.undef) (z:=0) (Or.inr rfl)) hG0
  have hH33:=HS.addNil hH0
  exact AW.ret ⟨_,_,rfl,⟨(sl 0 true []),(fun _=>AV.undef),([]::([]:List (List BX))),rfl,hH33,hG32,rfl⟩⟩
 refine cF hc31 ?_
 refine AW.skip ?_
 refine sr ?_
 refine lE (agg [(J v1.Checker.Stack),(J v1.Checker.Start),(sl z2 f3 e4),(sl z6 f7 e8),(sl z10 f11 e12),(sl z14 f15 e16),(sl z18 f19 e20)]) ?_
 refine q (sl z23 f24 e25) ?_
 obtain ⟨y34,h35,h⟩:=obind h
 have hP75:=HS.pop0 hH0
 refine AOps.callF (al:=true) (g:=24) (args:=[(agg [(J v1.Checker.Stack),(J v1.Checker.Start),(sl z2 f3 e4),(sl z6 f7 e8),(sl z10 f11 e12),(sl z14 f15 e16),(sl z18 f19 e20)]),(sl z23 f24 e25)]) rfl rfl rfl (impl_after_K00_ok h5 h9 h13 h17 h21 h26  h35 (HS.wf' hH0)) ?_
 rintro _ _ s76 ⟨b36,w37,z38,f39,e40,h42,k43,z45,f46,e47,h49,k50,h52,k53,z55,f56,e57,z59,f60,e61,z63,f64,e65,z67,f68,e69,z71,f72,e73,Ls78,rfl,hH79,hG80,hl41,ho44,hl48,ho51,ho54,hl58,hl62,hl66,hl70,hl74⟩
 have hJ81:=HS.joinK1 hP75 hH79
 have hJ82:=HS.pushNE (x:=⟨some b36,[(J y34.1.Plant_.Desk_.Read),(J y34.1.Plant_.Desk_.State),(sl z38 f39 e40),h42,(J y34.1.Plant_.Saved.Read),(J y34.1.Plant_.Saved.State),(sl z45 f46 e47),h49,h52,(J y34.1.stream.Checker.Stack),(J y34.1.stream.Checker.Start),(sl z55 f56 e57),(sl z59 f60 e61),(sl z63 f64 e65),(sl z67 f68 e69),(sl z71 f72 e73)],w37⟩) hJ81
 obtain ⟨Ls83,Lf84,hG85,hF86,hP87⟩:=HS.pushN hJ82 hG0 hG80
 obtain ⟨Ls88,Lf89,hG90,hF91,hP92⟩:=HS.pushN hP87 hG85 hF86
 obtain ⟨Ls93,Lf94,hG95,hF96,hP97⟩:=HS.pushN hP92 hG90 hF91
 cases hF96
 have hH98:=HS.push0 hP97
 refine q (AV.tup [(ptr b36 0),(J y34.2)]) ?_
 refine q (ptr b36 0) ?_
 refine q (J y34.2) ?_
 refine aq (ptr b36 0) ?_
 refine aq (J y34.2) ?_
 refine ns ?_
 refine AOps.makeR rfl rfl rfl rfl rfl rfl (rfl:_=(sl 3 true [])) ?_
 refine aq (sl 3 true []) ?_
 refine nl ?_
 refine AW.seq ?_
 refine sr ?_
 refine q (ptr b36 0) ?_
 refine q (ptr b36 0) ?_
 refine q (ptr b36 0) ?_
 refine q (ptr b36 8) ?_
 refine AOps.ldB (i:=0) (v:=h52) hH98 rfl rfl rfl rfl rfl rfl rfl rfl rfl ?_
 refine AOps.lenO (j:=0) hG95 rfl Sub.here rfl rfl rfl rfl rfl ?_
 refine q (J 0) ?_
 refine nl ?_
 refine AW.meet (σ:=(List Deed) × AV × KT × St × (List (List BX))) (fun (out99,h100,k101,s103,Ls104) tm os=>⟨updL tm [(1,(sl z23 f24 e25)),(7,(ptr b36 0)),(9,h100)],updL os [],s103⟩) (fun (out99,h100,k101,s103,Ls104)=>(h100.one=true)∧(HS [] true s s103 (([⟨some b36,[(J y34.1.Plant_.Desk_.Read),(J y34.1.Plant_.Desk_.State),(sl z38 f39 e40),h42,(J y34.1.Plant_.Saved.Read),(J y34.1.Plant_.Saved.State),(sl z45 f46 e47),h49,h52,(J y34.1.stream.Checker.Stack),(J y34.1.stream.Checker.Start),(sl z55 f56 e57),(sl z59 f60 e61),(sl z63 f64 e65),(sl z67 f68 e69),(sl z71 f72 e73)],w37⟩]:List BX)++Ls104.flatten))∧(AllG [OS oE2 h42 k43 y34.1.Plant_.Desk_.Waiting,OS oE2 h49 k50 y34.1.Plant_.Saved.Waiting,OS oE116 h52 k53 y34.1.Plant_.Wire,OS oE65 h100 k101 out99] Ls104)∧impl_FinishDeeds_K00_J1 deeds22 y34 out99=some r) ?_ ?_
 ·rintro ⟨out99,h100,k101,s103,Ls104⟩ tm os ⟨ho102,hH105,hG106,h⟩
  unfold impl_FinishDeeds_K00_J1 at h
  refine AW.seq ?_
  refine sr ?_
  refine q (ptr b36 0) ?_
  obtain ⟨y108,h109,h⟩:=obind h
  have hP114:=HS.pop0 hH105
  have hP115:=HS.popE hP114 (i:=0) (x:=⟨some b36,[(J y34.1.Plant_.Desk_.Read),(J y34.1.Plant_.Desk_.State),(sl z38 f39 e40),h42,(J y34.1.Plant_.Saved.Read),(J y34.1.Plant_.Saved.State),(sl z45 f46 e47),h49,h52,(J y34.1.stream.Checker.Stack),(J y34.1.stream.Checker.Start),(sl z55 f56 e57),(sl z59 f60 e61),(sl z63 f64 e65),(sl z67 f68 e69),(sl z71 f72 e73)],w37⟩) rfl
  have hF0:AllG ([]:List (List BX→Prop)) []:=AllG.nil
  obtain ⟨Ls116,Lf117,hG118,hF119,hP120⟩:=HS.popG hP115 hG106 hF0 (j:=0) rfl
  obtain ⟨Ls121,Lf122,hG123,hF124,hP125⟩:=HS.popG hP120 hG118 hF119 (j:=1) rfl
  obtain ⟨Ls126,Lf127,hG128,hF129,hP130⟩:=HS.popG hP125 hG123 hF124 (j:=2) rfl
  refine AOps.callF (al:=true) (g:=25) (args:=[(ptr b36 0)]) rfl rfl rfl (impl_works_missing_K1_ok hl41 ho44 hl48 ho51 ho54 hl58 hl62 hl66 hl70 hl74 (HS.enterK hP130) hF129 (HS.enterLo hP130 hl) h109 (HS.wf' hH105)) ?_
  rintro h111 _ s131 ⟨w110,_,k112,Ls133,rfl,hH134,hG135,ho113⟩
  have hJ136:=HS.joinK hP130 hH134
  have hJ137:=HS.pushE hJ136 (i:=0) rfl
  obtain ⟨Ls138,Lf139,hG140,hF141,hP142⟩:=HS.putG hJ137 hG128 hG135 (j:=0) rfl
  obtain ⟨Ls143,Lf144,hG145,hF146,hP147⟩:=HS.putG hP142 hG140 hF141 (j:=1) rfl
  obtain ⟨Ls148,Lf149,hG150,hF151,hP152⟩:=HS.putG hP147 hG145 hF146 (j:=2) rfl
  obtain ⟨Ls153,Lf154,hG155,hF156,hP157⟩:=HS.pushN hP152 hG150 hF151
  cases hF156
  have hH158:=HS.push0 hP157
  refine AOps.lenO (j:=0) hG155 rfl Sub.here rfl rfl rfl rfl rfl ?_
  refine q (J 0) ?_
  refine nl ?_
  refine AW.meet (σ:=(List Deed) × AV × KT × St × (List (List BX))) (fun (out159,h160,k161,s163,Ls164) tm os=>⟨updL tm [(1,(sl z23 f24 e25)),(9,h160)],updL os [],s163⟩) (fun (out159,h160,k161,s163,Ls164)=>(h160.one=true)∧(HS [] true s s163 (([]:List BX)++Ls164.flatten))∧(AllG [OS oE65 h160 k161 out159] Ls164)∧impl_FinishDeeds_K00_J2 deeds22 out159=some r) ?_ ?_
  ·rintro ⟨out159,h160,k161,s163,Ls164⟩ tm os ⟨ho162,hH165,hG166,h⟩
   unfold impl_FinishDeeds_K00_J2 at h
   refine sr ?_
   refine q h160 ?_
   refine q (agg [(J 5),(J 0),(J 0)]) ?_
   refine AOps.makeR rfl rfl rfl rfl rfl rfl (rfl:_=(sl 3 true [(agg [(J 5),(J 0),(J 0)])])) ?_
   obtain ⟨l168,h169,h⟩:=obind h
   refine AOps.appLf (j:=0) (z':=3) (f':=true) (e':=[(agg [(J 5),(J 0),(J 0)])]) hH165 hG166 rfl rfl rfl rfl rfl rfl rfl rfl (appSrc_sl (LR.z (show LR rDeed 3 (([(⟨5,0,0⟩:Deed)]:List Deed):List Deed) 3 [(agg [(J 5),(J 0),(J 0)])] from LR.lit (r:=rDeed) (sz:=3) (.cons ⟨_,rfl,(.cons rfl (.cons rfl (.cons rfl .nil)))⟩ .nil))) rfl) ⟨by decide,by decide,rfl,rfl⟩ ⟨rfl,rfl⟩ rfl rfl h169 (LR.el (show LR rDeed 3 (([(⟨5,0,0⟩:Deed)]:List Deed):List Deed) 3 [(agg [(J 5),(J 0),(J 0)])] from LR.lit (r:=rDeed) (sz:=3) (.cons ⟨_,rfl,(.cons rfl (.cons rfl (.cons rfl .nil)))⟩ .nil))).len (fun i=>OL.leaf (LR.el (show LR rDeed 3 (([(⟨5,0,0⟩:Deed)]:List Deed):List Deed) 3 [(agg [(J 5),(J 0),(J 0)])] from LR.lit (r:=rDeed) (sz:=3) (.cons ⟨_,rfl,(.cons rfl (.cons rfl (.cons rfl .nil)))⟩ .nil))) i) ?_
   intro h170 k172 Ls173 s174 ho171 hG175 hH176
   refine aq h170 ?_
   refine nl ?_
   refine AW.seq ?_
   refine sr ?_
   refine q (sl z23 f24 e25) ?_
   refine AOps.p rfl (len_eq h26) ?_
   refine q h170 ?_
   refine AOps.lenO (j:=0) hG175 rfl Sub.here rfl rfl rfl rfl rfl ?_
   refine q (J (IntKind.wrap .i64 ((deeds22.length:Int)+(l168.length:Int)))) ?_
   refine q (bool (decide ((IntKind.wrap .i64 ((deeds22.length:Int)+(l168.length:Int)):Int)>300))) ?_
   refine nl ?_
   rcases oite h with ⟨hc177,h⟩ | ⟨hc177,h⟩
   ·refine cT hc177 ?_
    refine sr ?_
    refine q (sl 0 true []) ?_
    refine q (J 3) ?_
    refine nl ?_
    cases h
    have hG178:=AllG.cons (OS.nil (e:=oE65) (k:=fun _=>AV.undef) (z:=0) (Or.inr rfl)) hG175
    have hH179:=HS.addNil hH176
    obtain ⟨Ls180,hG181,hH182⟩:=HS.selEG hH179 hG178 [] [some 0]
    exact AW.ret ⟨_,_,rfl,⟨(sl 0 true []),(fun _=>AV.undef),Ls180,rfl,hH182,hG181,rfl⟩⟩
   refine cF hc177 ?_
   refine AW.skip ?_
   refine sr ?_
   refine q h170 ?_
   refine aq h170 ?_
   refine q (J 0) ?_
   refine nl ?_
   cases h
   exact AW.ret ⟨_,_,rfl,⟨h170,k172,Ls173,rfl,hH176,hG175,ho171⟩⟩
  intro KJ167
  refine AW.block ?_
  obtain ⟨Ls216,hG217,hH218⟩:=HS.selEG hH158 hG155 [] [some 4,some 0]
  refine AW.res [(1,(sl z23 f24 e25)),(9,h100),(39,h111),(40,(J (y108.length:Int))),(41,(J 0))] [] ⟨rfl,rfl,rfl,rfl,rfl,trivial⟩ trivial ?_
  refine AW.loopF (σ:=(List Deed) × Int) (τ:=AV × KT × St × (List (List BX))) (fun (out183,t187) (h184,k185,s188,Ls189)=>(h184.one=true)∧(HS [] true s s188 (([]:List BX)++Ls189.flatten))∧(AllG [OS oE65 h184 k185 out183,OS oE2 h111 k112 y108] Ls189)) (fun (out183,t187) (h184,k185,s188,Ls189) tm os=>⟨updL tm [(1,(sl z23 f24 e25)),(9,h184),(39,h111),(40,(J (y108.length:Int))),(41,(J t187))],updL os [],s188⟩) ?_ (x:=(out99,0)) (y:=(h100,k101,s131,Ls216)) h ⟨ho102,hH218,hG217⟩
  clear h
  rintro ⟨out183,t187⟩ ⟨h184,k185,s188,Ls189⟩ tm os ⟨ho186,hH190,hG191⟩ ee1 h hL1 hR1
  unfold impl_FinishDeeds_K00_S1 at h
  dsimp only at h
  refine sr ?_
  refine q (bool (decide ((t187:Int)<(y108.length:Int)))) ?_
  refine nl ?_
  refine AW.seq ?_
  rcases oite h with ⟨hc192,h⟩ | ⟨hc192,h⟩
  ·refine cT hc192 ?_
   refine AW.skip ?_
   refine AW.seq ?_
   refine AW.block ?_
   refine sr ?_
   obtain ⟨x195,h196,h⟩:=obind h
   refine AOps.idxO (j:=1) hG191 rfl Sub.here h196 rfl rfl rfl rfl rfl rfl rfl rfl rfl ?_
   intro b193 hb194
   refine AOps.ldO (j:=1) (q:=0) hH190 hG191 rfl Sub.here h196 hb194 rfl rfl rfl rfl rfl (lt_b rfl) (le_b rfl) rfl rfl ?_ (fun c B hc=>by obtain ⟨⟨_,hr,rfl⟩,rfl⟩:=hc; cases hr; exact ⟨_,rfl⟩)
   intro c197 B198 v199 h200 h201
   obtain ⟨⟨_,h202,rfl⟩,rfl⟩:=h200
   cases h202
   cases h201
   refine aq (J x195) ?_
   refine nl ?_
   refine AW.region ?_
   refine q h184 ?_
   refine q (J x195) ?_
   refine q (J x195) ?_
   refine q (agg [(J 1),(J x195),(J x195)]) ?_
   refine q (agg [(J 2),(J 0),(J 0)]) ?_
   refine AOps.makeR rfl rfl rfl rfl rfl rfl (rfl:_=(sl 3 true [(agg [(J 1),(J x195),(J x195)]),(agg [(J 2),(J 0),(J 0)])])) ?_
   obtain ⟨l203,h204,h⟩:=obind h
   refine AOps.appLf (j:=0) (z':=3) (f':=true) (e':=[(agg [(J 1),(J x195),(J x195)]),(agg [(J 2),(J 0),(J 0)])]) hH190 hG191 rfl rfl rfl rfl rfl rfl rfl rfl (appSrc_sl (LR.z (show LR rDeed 3 (([(⟨1,x195,x195⟩:Deed),(⟨2,0,0⟩:Deed)]:List Deed):List Deed) 3 [(agg [(J 1),(J x195),(J x195)]),(agg [(J 2),(J 0),(J 0)])] from LR.lit (r:=rDeed) (sz:=3) (.cons ⟨_,rfl,(.cons rfl (.cons rfl (.cons rfl .nil)))⟩ (.cons ⟨_,rfl,(.cons rfl (.cons rfl (.cons rfl .nil)))⟩ .nil)))) rfl) ⟨by decide,by decide,rfl,rfl⟩ ⟨rfl,rfl⟩ rfl rfl h204 (LR.el (show LR rDeed 3 (([(⟨1,x195,x195⟩:Deed),(⟨2,0,0⟩:Deed)]:List Deed):List Deed) 3 [(agg [(J 1),(J x195),(J x195)]),(agg [(J 2),(J 0),(J 0)])] from LR.lit (r:=rDeed) (sz:=3) (.cons ⟨_,rfl,(.cons rfl (.cons rfl (.cons rfl .nil)))⟩ (.cons ⟨_,rfl,(.cons rfl (.cons rfl (.cons rfl .nil)))⟩ .nil)))).len (fun i=>OL.leaf (LR.el (show LR rDeed 3 (([(⟨1,x195,x195⟩:Deed),(⟨2,0,0⟩:Deed)]:List Deed):List Deed) 3 [(agg [(J 1),(J x195),(J x195)]),(agg [(J 2),(J 0),(J 0)])] from LR.lit (r:=rDeed) (sz:=3) (.cons ⟨_,rfl,(.cons rfl (.cons rfl (.cons rfl .nil)))⟩ (.cons ⟨_,rfl,(.cons rfl (.cons rfl (.cons rfl .nil)))⟩ .nil)))) i) ?_
   intro h205 k207 Ls208 s209 ho206 hG210 hH211
   refine aq h205 ?_
   refine nl ?_
   refine AW.inBlock ?_
   refine AW.region ?_
   refine q (J (IntKind.wrap .i64 (t187+1))) ?_
   refine q (J (IntKind.wrap .i64 (t187+1))) ?_
   refine nl ?_
   cases h
   exact AW.res [(1,(sl z23 f24 e25)),(9,h205),(39,h111),(40,(J (y108.length:Int))),(41,(J (IntKind.wrap .i64 (t187+1))))] [] ⟨rfl,rfl,rfl,rfl,rfl,trivial⟩ trivial (hL1 _ rfl (h205,k207,s209,Ls208) _ _ ⟨ho206,hH211,hG210⟩)
  refine cF hc192 ?_
  refine AW.exit rfl ?_
  obtain ⟨Ls212,hG213,hH214⟩:=HS.selEG hH190 hG191 [] [some 0]
  obtain ⟨r215,hm,hx⟩:=omap h
  clear h
  subst hx
  have hx:=hR1 _ rfl
  rw[hx] at hm
  have h:=hm
  exact AW.res [(1,(sl z23 f24 e25)),(9,h184)] [] ⟨rfl,rfl,trivial⟩ trivial (KJ167 (out183,h184,k185,s188,Ls212) _ _ ⟨ho186,hH214,hG213,h⟩)
 intro KJ107
 refine AW.block ?_
 obtain ⟨Ls239,hG240,hH241⟩:=HS.selEG hH98 hG95 [some 0] [some 2,some 1,some 0,none]
 have hG242:=AllG.imp hG240 3 rfl (P':=OS oE65 (sl 3 true []) (fun _=>AV.undef) []) (fun L hL=>by cases hL; exact OS.nil (Or.inl rfl))
 refine AW.res [(1,(sl z23 f24 e25)),(7,(ptr b36 0)),(9,(sl 3 true [])),(30,(J (y34.1.Plant_.Wire.length:Int))),(31,(J 0))] [] ⟨rfl,rfl,rfl,rfl,rfl,trivial⟩ trivial ?_
 refine AW.loopF (σ:=(List Deed) × Int) (τ:=AV × KT × St × (List (List BX))) (fun (out219,t223) (h220,k221,s224,Ls225)=>(h220.one=true)∧(HS [] true s s224 (([⟨some b36,[(J y34.1.Plant_.Desk_.Read),(J y34.1.Plant_.Desk_.State),(sl z38 f39 e40),h42,(J y34.1.Plant_.Saved.Read),(J y34.1.Plant_.Saved.State),(sl z45 f46 e47),h49,h52,(J y34.1.stream.Checker.Stack),(J y34.1.stream.Checker.Start),(sl z55 f56 e57),(sl z59 f60 e61),(sl z63 f64 e65),(sl z67 f68 e69),(sl z71 f72 e73)],w37⟩]:List BX)++Ls225.flatten))∧(AllG [OS oE2 h42 k43 y34.1.Plant_.Desk_.Waiting,OS oE2 h49 k50 y34.1.Plant_.Saved.Waiting,OS oE116 h52 k53 y34.1.Plant_.Wire,OS oE65 h220 k221 out219] Ls225)) (fun (out219,t223) (h220,k221,s224,Ls225) tm os=>⟨updL tm [(1,(sl z23 f24 e25)),(7,(ptr b36 0)),(9,h220),(30,(J (y34.1.Plant_.Wire.length:Int))),(31,(J t223))],updL os [],s224⟩) ?_ (x:=(([]:List Deed),0)) (y:=((sl 3 true []),(fun _=>AV.undef),s76,Ls239)) h ⟨rfl,hH241,hG242⟩
 clear h
 rintro ⟨out219,t223⟩ ⟨h220,k221,s224,Ls225⟩ tm os ⟨ho222,hH226,hG227⟩ ee1 h hL1 hR1
 unfold impl_FinishDeeds_K00_S2 at h
 dsimp only at h
 refine sr ?_
 refine q (bool (decide ((t223:Int)<(y34.1.Plant_.Wire.length:Int)))) ?_
 refine nl ?_
 refine AW.seq ?_
 rcases oite h with ⟨hc228,h⟩ | ⟨hc228,h⟩
 ·refine cT hc228 ?_
  refine AW.skip ?_
  refine AW.seq ?_
  refine AW.block ?_
  refine AW.region ?_
  refine q h220 ?_
  refine q (agg [(J 4),(J 0),(J 0)]) ?_
  refine AOps.makeR rfl rfl rfl rfl rfl rfl (rfl:_=(sl 3 true [(agg [(J 4),(J 0),(J 0)])])) ?_
  obtain ⟨l229,h230,h⟩:=obind h
  refine AOps.appLf (j:=3) (z':=3) (f':=true) (e':=[(agg [(J 4),(J 0),(J 0)])]) hH226 hG227 rfl rfl rfl rfl rfl rfl rfl rfl (appSrc_sl (LR.z (show LR rDeed 3 (([(⟨4,0,0⟩:Deed)]:List Deed):List Deed) 3 [(agg [(J 4),(J 0),(J 0)])] from LR.lit (r:=rDeed) (sz:=3) (.cons ⟨_,rfl,(.cons rfl (.cons rfl (.cons rfl .nil)))⟩ .nil))) rfl) ⟨by decide,by decide,rfl,rfl⟩ ⟨rfl,rfl⟩ rfl rfl h230 (LR.el (show LR rDeed 3 (([(⟨4,0,0⟩:Deed)]:List Deed):List Deed) 3 [(agg [(J 4),(J 0),(J 0)])] from LR.lit (r:=rDeed) (sz:=3) (.cons ⟨_,rfl,(.cons rfl (.cons rfl (.cons rfl .nil)))⟩ .nil))).len (fun i=>OL.leaf (LR.el (show LR rDeed 3 (([(⟨4,0,0⟩:Deed)]:List Deed):List Deed) 3 [(agg [(J 4),(J 0),(J 0)])] from LR.lit (r:=rDeed) (sz:=3) (.cons ⟨_,rfl,(.cons rfl (.cons rfl (.cons rfl .nil)))⟩ .nil))) i) ?_
  intro h231 k233 Ls234 s235 ho232 hG236 hH237
  refine aq h231 ?_
  refine nl ?_
  refine AW.inBlock ?_
  refine AW.region ?_
  refine q (J (IntKind.wrap .i64 (t223+1))) ?_
  refine q (J (IntKind.wrap .i64 (t223+1))) ?_
  refine nl ?_
  cases h
  exact AW.res [(1,(sl z23 f24 e25)),(7,(ptr b36 0)),(9,h231),(30,(J (y34.1.Plant_.Wire.length:Int))),(31,(J (IntKind.wrap .i64 (t223+1))))] [] ⟨rfl,rfl,rfl,rfl,rfl,trivial⟩ trivial (hL1 _ rfl (h231,k233,s235,Ls234) _ _ ⟨ho232,hH237,hG236⟩)
 refine cF hc228 ?_
 refine AW.exit rfl ?_
 obtain ⟨r238,hm,hx⟩:=omap h
 clear h
 subst hx
 have hx:=hR1 _ rfl
 rw[hx] at hm
 have h:=hm
 exact AW.res [(1,(sl z23 f24 e25)),(7,(ptr b36 0)),(9,h220)] [] ⟨rfl,rfl,rfl,trivial⟩ trivial (KJ107 (out219,h220,k221,s224,Ls225) _ _ ⟨ho222,hH226,hG227,h⟩)
theorem laws_eqDeed_ok {a1 b2:Deed} {s:St} {r:Bool} (h:laws_eqDeed a1 b2=some r) (hs:WF s):ACall Cf 26 [(agg [(J a1.Kind),(J a1.A),(J a1.B)]),(agg [(J b2.Kind),(J b2.A),(J b2.B)])] s fun v _ s'=>(rB) r v∧s'=s:=by
 refine ACall.pure rfl rfl rfl .B ?_
 have hWF:=hs.lo'
 unfold laws_eqDeed at h
 refine sr ?_
 refine AOps.makeR rfl rfl rfl rfl rfl rfl (rfl:_=(eptr [(J a1.Kind),(J a1.A),(J a1.B)] 0)) ?_
 refine AOps.makeR rfl rfl rfl rfl rfl rfl (rfl:_=(eptr [(J b2.Kind),(J b2.A),(J b2.B)] 0)) ?_
 refine q (bool false) ?_
 refine nl ?_
 refine AW.seq ?_
 refine sr ?_
 refine q (eptr [(J a1.Kind),(J a1.A),(J a1.B)] 0) ?_
 refine lE (J a1.Kind) ?_
 refine q (eptr [(J b2.Kind),(J b2.A),(J b2.B)] 0) ?_
 refine lE (J b2.Kind) ?_
 refine q (bool (a1.Kind != b2.Kind)) ?_
 refine nl ?_
 rcases oite h with ⟨hc3,h⟩ | ⟨hc3,h⟩
 ·refine cT hc3 ?_
  refine sr ?_
  refine q (bool false) ?_
  refine nl ?_
  cases h
  exact AW.ret ⟨rfl,_,_,rfl,rfl⟩
 refine cF hc3 ?_
 refine AW.skip ?_
 refine AW.seq ?_
 refine sr ?_
 refine q (eptr [(J a1.Kind),(J a1.A),(J a1.B)] 1) ?_
 refine lE (J a1.A) ?_
 refine q (eptr [(J b2.Kind),(J b2.A),(J b2.B)] 1) ?_
 refine lE (J b2.A) ?_
 refine q (bool (a1.A != b2.A)) ?_
 refine nl ?_
 rcases oite h with ⟨hc4,h⟩ | ⟨hc4,h⟩
 ·refine cT hc4 ?_
  refine sr ?_
  refine q (bool false) ?_
  refine nl ?_
  cases h
  exact AW.ret ⟨rfl,_,_,rfl,rfl⟩
 refine cF hc4 ?_
 refine AW.skip ?_
 refine AW.seq ?_
 refine sr ?_
 refine q (eptr [(J a1.Kind),(J a1.A),(J a1.B)] 2) ?_
 refine lE (J a1.B) ?_
 refine q (eptr [(J b2.Kind),(J b2.A),(J b2.B)] 2) ?_
 refine lE (J b2.B) ?_
 refine q (bool (a1.B != b2.B)) ?_
 refine nl ?_
 rcases oite h with ⟨hc5,h⟩ | ⟨hc5,h⟩
 ·refine cT hc5 ?_
  refine sr ?_
  refine q (bool false) ?_
  refine nl ?_
  cases h
  exact AW.ret ⟨rfl,_,_,rfl,rfl⟩
 refine cF hc5 ?_
 refine AW.skip ?_
 refine sr ?_
 refine q (bool true) ?_
 refine nl ?_
 cases h
 exact AW.ret ⟨rfl,_,_,rfl,rfl⟩
theorem laws_eqDeedS_okN {a1 b6:List Deed} {z2 z7:Nat} {f3 f8:Bool} {e4 e9:List AV} {s:St} (h5:LR rDeed 3 a1 z2 e4) (h10:LR rDeed 3 b6 z7 e9) {r:Bool} (h:laws_eqDeedS a1 b6=some r) (hs:WF s):ACallN Cf 10 [(sl z2 f3 e4),(sl z7 f8 e9)] s fun v _ s'=>(rB) r v∧s'=s:=by
 refine ACallN.pure rfl rfl rfl .B ?_
 have hWF:=hs.lo'
 unfold laws_eqDeedS at h
 refine sr ?_
 refine q (bool false) ?_
 refine nl ?_
 refine AW.seq ?_
 refine sr ?_
 refine q (sl z2 f3 e4) ?_
 refine AOps.p rfl (len_eq h5) ?_
 refine q (sl z7 f8 e9) ?_
 refine AOps.p rfl (len_eq h10) ?_
 refine q (bool ((a1.length:Int) != (b6.length:Int))) ?_
 refine nl ?_
 rcases oite h with ⟨hc11,h⟩ | ⟨hc11,h⟩
 ·refine cT hc11 ?_
  refine sr ?_
  refine q (bool false) ?_
  refine nl ?_
  cases h
  exact AW.ret ⟨rfl,_,_,rfl,rfl⟩
 refine cF hc11 ?_
 refine AW.skip ?_
 refine AW.seq ?_
 refine sr ?_
 refine q (J 0) ?_
 refine nl ?_
 refine AW.meet (σ:=Unit) (fun _ tm os=>⟨updL tm [],updL os [],{ s with lo:=s.n }⟩) (fun _=>laws_eqDeedS_J1=some r) ?_ ?_
 ·rintro _ tm os h
  unfold laws_eqDeedS_J1 at h
  refine sr ?_
  refine q (bool true) ?_
  refine nl ?_
  cases h
  exact AW.ret ⟨rfl,_,_,rfl,rfl⟩
 intro KJ12
 refine AW.block ?_
 refine AW.res [(0,(sl z2 f3 e4)),(1,(sl z7 f8 e9)),(5,(J 0))] [] ⟨rfl,rfl,rfl,trivial⟩ trivial ?_
 refine AW.loopF (σ:=Int) (τ:=Unit) (fun i13 _=>True) (fun i13 _ tm os=>⟨updL tm [(0,(sl z2 f3 e4)),(1,(sl z7 f8 e9)),(5,(J i13))],updL os [],{ s with lo:=s.n }⟩) ?_ (x:=(0)) (y:=()) h trivial
 clear h
 rintro i13 _ tm os - ee1 h hL1 hR1
 unfold laws_eqDeedS_S1 at h
 refine AW.seq ?_
 refine sr ?_
 refine q (J i13) ?_
 refine q (sl z2 f3 e4) ?_
 refine AOps.p rfl (len_eq h5) ?_
 refine q (bool (decide ((i13:Int)<(a1.length:Int)))) ?_
 refine nl ?_
 rcases oite h with ⟨hc14,h⟩ | ⟨hc14,h⟩
 ·refine cT hc14 ?_
  refine AW.skip ?_
  refine AW.seq ?_
  refine AW.block ?_
  refine sr ?_
  refine q (sl z2 f3 e4) ?_
  refine q (J i13) ?_
  obtain ⟨x15,h16,h⟩:=obind h
  obtain ⟨v19,h17,h18⟩:=idx_sl h5 h16
  obtain ⟨_,rfl,h20⟩:=h17
  obtain ⟨_,_,rfl,h21,h22⟩:=Cs_cons h20
  cases h21
  obtain ⟨_,_,rfl,h23,h24⟩:=Cs_cons h22
  cases h23
  obtain ⟨_,_,rfl,h25,h26⟩:=Cs_cons h24
  cases h25
  cases Cs_nil h26
  refine AOps.pureR rfl rfl rfl h18 rfl (rfl:_=(eptr [(J x15.Kind),(J x15.A),(J x15.B)] 0)) ?_
  refine lE (agg [(J x15.Kind),(J x15.A),(J x15.B)]) ?_
  refine q (sl z7 f8 e9) ?_
  refine q (J i13) ?_
  obtain ⟨x27,h28,h⟩:=obind h
  obtain ⟨v31,h29,h30⟩:=idx_sl h10 h28
  obtain ⟨_,rfl,h32⟩:=h29
  obtain ⟨_,_,rfl,h33,h34⟩:=Cs_cons h32
  cases h33
  obtain ⟨_,_,rfl,h35,h36⟩:=Cs_cons h34
  cases h35
  obtain ⟨_,_,rfl,h37,h38⟩:=Cs_cons h36
  cases h37
  cases Cs_nil h38
  refine AOps.pureR rfl rfl rfl h30 rfl (rfl:_=(eptr [(J x27.Kind),(J x27.A),(J x27.B)] 0)) ?_
  refine lE (agg [(J x27.Kind),(J x27.A),(J x27.B)]) ?_
  obtain ⟨y39,h40,h⟩:=obind h
  refine AOps.callDP (g:=26) (args:=[(agg [(J x15.Kind),(J x15.A),(J x15.B)]),(agg [(J x27.Kind),(J x27.A),(J x27.B)])]) (p:=(rB) y39) rfl rfl rfl (laws_eqDeed_ok  h40 hWF.still) (fun v hv=>Nice.pure (k:=FINK) (p:=(rB) y39) .B _ v hv) ?_
  intro _ o42 h41
  cases h41
  refine q (bool (!y39)) ?_
  refine nl ?_
  rcases oite h with ⟨hc43,h⟩ | ⟨hc43,h⟩
  ·refine cT hc43 ?_
   refine sr ?_
   refine q (bool false) ?_
   refine nl ?_
   cases h
   have hr:=hR1 _ rfl
   subst hr
   exact AW.ret ⟨rfl,_,_,rfl,rfl⟩
  refine cF hc43 ?_
  refine AW.skip ?_
  refine AW.inBlock ?_
  refine AW.region ?_
  refine q (J i13) ?_
  refine q (J (IntKind.wrap .i64 (i13+1))) ?_
  refine aq (J (IntKind.wrap .i64 (i13+1))) ?_
  refine nl ?_
  cases h
  exact AW.res [(0,(sl z2 f3 e4)),(1,(sl z7 f8 e9)),(5,(J (IntKind.wrap .i64 (i13+1))))] [] ⟨rfl,rfl,rfl,trivial⟩ trivial (hL1 _ rfl () _ _ trivial)
 refine cF hc14 ?_
 refine AW.exit rfl ?_
 obtain ⟨r44,hm,hx⟩:=omap h
 clear h
 subst hx
 have hx:=hR1 _ rfl
 rw[hx] at hm
 have h:=hm
 exact AW.res [] [] trivial trivial (KJ12 () _ _ h)
theorem laws_eqBoolS_okN {a1 b6:List Bool} {z2 z7:Nat} {f3 f8:Bool} {e4 e9:List AV} {s:St} (h5:LR rB 1 a1 z2 e4) (h10:LR rB 1 b6 z7 e9) {r:Bool} (h:laws_eqBoolS a1 b6=some r) (hs:WF s):ACallN Cf 52 [(sl z2 f3 e4),(sl z7 f8 e9)] s fun v _ s'=>(rB) r v∧s'=s:=by
 refine ACallN.pure rfl rfl rfl .B ?_
 have hWF:=hs.lo'
 unfold laws_eqBoolS at h
 refine sr ?_
 refine q (bool false) ?_
 refine nl ?_
 refine AW.seq ?_
 refine sr ?_
 refine q (sl z2 f3 e4) ?_
 refine AOps.p rfl (len_eq h5) ?_
 refine q (sl z7 f8 e9) ?_
 refine AOps.p rfl (len_eq h10) ?_
 refine q (bool ((a1.length:Int) != (b6.length:Int))) ?_
 refine nl ?_
 rcases oite h with ⟨hc11,h⟩ | ⟨hc11,h⟩
 ·refine cT hc11 ?_
  refine sr ?_
  refine q (bool false) ?_
  refine nl ?_
  cases h
  exact AW.ret ⟨rfl,_,_,rfl,rfl⟩
 refine cF hc11 ?_
 refine AW.skip ?_
 refine AW.seq ?_
 refine sr ?_
 refine q (J 0) ?_
 refine nl ?_
 refine AW.meet (σ:=Unit) (fun _ tm os=>⟨updL tm [],updL os [],{ s with lo:=s.n }⟩) (fun _=>laws_eqBoolS_J1=some r) ?_ ?_
 ·rintro _ tm os h
  unfold laws_eqBoolS_J1 at h
  refine sr ?_
  refine q (bool true) ?_
  refine nl ?_
  cases h
  exact AW.ret ⟨rfl,_,_,rfl,rfl⟩
 intro KJ12
 refine AW.block ?_
 refine AW.res [(0,(sl z2 f3 e4)),(1,(sl z7 f8 e9)),(5,(J 0))] [] ⟨rfl,rfl,rfl,trivial⟩ trivial ?_
 refine AW.loopF (σ:=Int) (τ:=Unit) (fun i13 _=>True) (fun i13 _ tm os=>⟨updL tm [(0,(sl z2 f3 e4)),(1,(sl z7 f8 e9)),(5,(J i13))],updL os [],{ s with lo:=s.n }⟩) ?_ (x:=(0)) (y:=()) h trivial
 clear h
 rintro i13 _ tm os - ee1 h hL1 hR1
 unfold laws_eqBoolS_S1 at h
 refine AW.seq ?_
 refine sr ?_
 refine q (J i13) ?_
 refine q (sl z2 f3 e4) ?_
 refine AOps.p rfl (len_eq h5) ?_
 refine q (bool (decide ((i13:Int)<(a1.length:Int)))) ?_
 refine nl ?_
 rcases oite h with ⟨hc14,h⟩ | ⟨hc14,h⟩
 ·refine cT hc14 ?_
  refine AW.skip ?_
  refine AW.seq ?_
  refine AW.block ?_
  refine sr ?_
  refine q (sl z2 f3 e4) ?_
  refine q (J i13) ?_
  obtain ⟨x15,h16,h⟩:=obind h
  obtain ⟨v19,h17,h18⟩:=idx_sl h5 h16
  cases h17
  refine AOps.pureR rfl rfl rfl h18 rfl (rfl:_=(eptr [(bool x15)] 0)) ?_
  refine lE (bool x15) ?_
  refine q (sl z7 f8 e9) ?_
  refine q (J i13) ?_
  obtain ⟨x20,h21,h⟩:=obind h
  obtain ⟨v24,h22,h23⟩:=idx_sl h10 h21
  cases h22
  refine AOps.pureR rfl rfl rfl h23 rfl (rfl:_=(eptr [(bool x20)] 0)) ?_
  refine lE (bool x20) ?_
  refine q (bool (!(x15 == x20))) ?_
  refine nl ?_
  rcases oite h with ⟨hc25,h⟩ | ⟨hc25,h⟩
  ·refine cT hc25 ?_
   refine sr ?_
   refine q (bool false) ?_
   refine nl ?_
   cases h
   have hr:=hR1 _ rfl
   subst hr
   exact AW.ret ⟨rfl,_,_,rfl,rfl⟩
  refine cF hc25 ?_
  refine AW.skip ?_
  refine AW.inBlock ?_
  refine AW.region ?_
  refine q (J i13) ?_
  refine q (J (IntKind.wrap .i64 (i13+1))) ?_
  refine aq (J (IntKind.wrap .i64 (i13+1))) ?_
  refine nl ?_
  cases h
  exact AW.res [(0,(sl z2 f3 e4)),(1,(sl z7 f8 e9)),(5,(J (IntKind.wrap .i64 (i13+1))))] [] ⟨rfl,rfl,rfl,trivial⟩ trivial (hL1 _ rfl () _ _ trivial)
 refine cF hc14 ?_
 refine AW.exit rfl ?_
 obtain ⟨r26,hm,hx⟩:=omap h
 clear h
 subst hx
 have hx:=hR1 _ rfl
 rw[hx] at hm
 have h:=hm
 exact AW.res [] [] trivial trivial (KJ12 () _ _ h)
theorem laws_eqPush_ok {a1 b2:Push} {s:St} {r:Bool} (h:laws_eqPush a1 b2=some r) (hs:WF s):ACall Cf 112 [(agg [(J a1.To),(J a1.Put)]),(agg [(J b2.To),(J b2.Put)])] s fun v _ s'=>(rB) r v∧s'=s:=by
 refine ACall.pure rfl rfl rfl .B ?_
 have hWF:=hs.lo'
 unfold laws_eqPush at h
 refine sr ?_
 refine AOps.makeR rfl rfl rfl rfl rfl rfl (rfl:_=(eptr [(J a1.To),(J a1.Put)] 0)) ?_
 refine AOps.makeR rfl rfl rfl rfl rfl rfl (rfl:_=(eptr [(J b2.To),(J b2.Put)] 0)) ?_
 refine q (bool false) ?_
 refine nl ?_
 refine AW.seq ?_
 refine sr ?_
 refine q (eptr [(J a1.To),(J a1.Put)] 0) ?_
 refine lE (J a1.To) ?_
 refine q (eptr [(J b2.To),(J b2.Put)] 0) ?_
 refine lE (J b2.To) ?_
 refine q (bool (a1.To != b2.To)) ?_
 refine nl ?_
 rcases oite h with ⟨hc3,h⟩ | ⟨hc3,h⟩
 ·refine cT hc3 ?_
  refine sr ?_
  refine q (bool false) ?_
  refine nl ?_
  cases h
  exact AW.ret ⟨rfl,_,_,rfl,rfl⟩
 refine cF hc3 ?_
 refine AW.skip ?_
 refine AW.seq ?_
 refine sr ?_
 refine q (eptr [(J a1.To),(J a1.Put)] 1) ?_
 refine lE (J a1.Put) ?_
 refine q (eptr [(J b2.To),(J b2.Put)] 1) ?_
 refine lE (J b2.Put) ?_
 refine q (bool (a1.Put != b2.Put)) ?_
 refine nl ?_
 rcases oite h with ⟨hc4,h⟩ | ⟨hc4,h⟩
 ·refine cT hc4 ?_
  refine sr ?_
  refine q (bool false) ?_
  refine nl ?_
  cases h
  exact AW.ret ⟨rfl,_,_,rfl,rfl⟩
 refine cF hc4 ?_
 refine AW.skip ?_
 refine sr ?_
 refine q (bool true) ?_
 refine nl ?_
 cases h
 exact AW.ret ⟨rfl,_,_,rfl,rfl⟩
theorem laws_eqPushS_okN {a1 b6:List Push} {z2 z7:Nat} {f3 f8:Bool} {e4 e9:List AV} {s:St} (h5:LR rPush 2 a1 z2 e4) (h10:LR rPush 2 b6 z7 e9) {r:Bool} (h:laws_eqPushS a1 b6=some r) (hs:WF s):ACallN Cf 85 [(sl z2 f3 e4),(sl z7 f8 e9)] s fun v _ s'=>(rB) r v∧s'=s:=by
 refine ACallN.pure rfl rfl rfl .B ?_
 have hWF:=hs.lo'
 unfold laws_eqPushS at h
 refine sr ?_
 refine q (bool false) ?_
 refine nl ?_
 refine AW.seq ?_
 refine sr ?_
 refine q (sl z2 f3 e4) ?_
 refine AOps.p rfl (len_eq h5) ?_
 refine q (sl z7 f8 e9) ?_
 refine AOps.p rfl (len_eq h10) ?_
 refine q (bool ((a1.length:Int) != (b6.length:Int))) ?_
 refine nl ?_
 rcases oite h with ⟨hc11,h⟩ | ⟨hc11,h⟩
 ·refine cT hc11 ?_
  refine sr ?_
  refine q (bool false) ?_
  refine nl ?_
  cases h
  exact AW.ret ⟨rfl,_,_,rfl,rfl⟩
 refine cF hc11 ?_
 refine AW.skip ?_
 refine AW.seq ?_
 refine sr ?_
 refine q (J 0) ?_
 refine nl ?_
 refine AW.meet (σ:=Unit) (fun _ tm os=>⟨updL tm [],updL os [],{ s with lo:=s.n }⟩) (fun _=>laws_eqPushS_J1=some r) ?_ ?_
 ·rintro _ tm os h
  unfold laws_eqPushS_J1 at h
  refine sr ?_
  refine q (bool true) ?_
  refine nl ?_
  cases h
  exact AW.ret ⟨rfl,_,_,rfl,rfl⟩
 intro KJ12
 refine AW.block ?_
 refine AW.res [(0,(sl z2 f3 e4)),(1,(sl z7 f8 e9)),(5,(J 0))] [] ⟨rfl,rfl,rfl,trivial⟩ trivial ?_
 refine AW.loopF (σ:=Int) (τ:=Unit) (fun i13 _=>True) (fun i13 _ tm os=>⟨updL tm [(0,(sl z2 f3 e4)),(1,(sl z7 f8 e9)),(5,(J i13))],updL os [],{ s with lo:=s.n }⟩) ?_ (x:=(0)) (y:=()) h trivial
 clear h
 rintro i13 _ tm os - ee1 h hL1 hR1
 unfold laws_eqPushS_S1 at h
 refine AW.seq ?_
 refine sr ?_
 refine q (J i13) ?_
 refine q (sl z2 f3 e4) ?_
 refine AOps.p rfl (len_eq h5) ?_
 refine q (bool (decide ((i13:Int)<(a1.length:Int)))) ?_
 refine nl ?_
 rcases oite h with ⟨hc14,h⟩ | ⟨hc14,h⟩
 ·refine cT hc14 ?_
  refine AW.skip ?_
  refine AW.seq ?_
  refine AW.block ?_
  refine sr ?_
  refine q (sl z2 f3 e4) ?_
  refine q (J i13) ?_
  obtain ⟨x15,h16,h⟩:=obind h
  obtain ⟨v19,h17,h18⟩:=idx_sl h5 h16
  obtain ⟨_,rfl,h20⟩:=h17
  obtain ⟨_,_,rfl,h21,h22⟩:=Cs_cons h20
  cases h21
  obtain ⟨_,_,rfl,h23,h24⟩:=Cs_cons h22
  cases h23
  cases Cs_nil h24
  refine AOps.pureR rfl rfl rfl h18 rfl (rfl:_=(eptr [(J x15.To),(J x15.Put)] 0)) ?_
  refine lE (agg [(J x15.To),(J x15.Put)]) ?_
  refine q (sl z7 f8 e9) ?_
  refine q (J i13) ?_
  obtain ⟨x25,h26,h⟩:=obind h
  obtain ⟨v29,h27,h28⟩:=idx_sl h10 h26
  obtain ⟨_,rfl,h30⟩:=h27
  obtain ⟨_,_,rfl,h31,h32⟩:=Cs_cons h30
  cases h31
  obtain ⟨_,_,rfl,h33,h34⟩:=Cs_cons h32
  cases h33
  cases Cs_nil h34
  refine AOps.pureR rfl rfl rfl h28 rfl (rfl:_=(eptr [(J x25.To),(J x25.Put)] 0)) ?_
  refine lE (agg [(J x25.To),(J x25.Put)]) ?_
  obtain ⟨y35,h36,h⟩:=obind h
  refine AOps.callDP (g:=112) (args:=[(agg [(J x15.To),(J x15.Put)]),(agg [(J x25.To),(J x25.Put)])]) (p:=(rB) y35) rfl rfl rfl (laws_eqPush_ok  h36 hWF.still) (fun v hv=>Nice.pure (k:=FINK) (p:=(rB) y35) .B _ v hv) ?_
  intro _ o38 h37
  cases h37
  refine q (bool (!y35)) ?_
  refine nl ?_
  rcases oite h with ⟨hc39,h⟩ | ⟨hc39,h⟩
  ·refine cT hc39 ?_
   refine sr ?_
   refine q (bool false) ?_
   refine nl ?_
   cases h
   have hr:=hR1 _ rfl
   subst hr
   exact AW.ret ⟨rfl,_,_,rfl,rfl⟩
  refine cF hc39 ?_
  refine AW.skip ?_
  refine AW.inBlock ?_
  refine AW.region ?_
  refine q (J i13) ?_
  refine q (J (IntKind.wrap .i64 (i13+1))) ?_
  refine aq (J (IntKind.wrap .i64 (i13+1))) ?_
  refine nl ?_
  cases h
  exact AW.res [(0,(sl z2 f3 e4)),(1,(sl z7 f8 e9)),(5,(J (IntKind.wrap .i64 (i13+1))))] [] ⟨rfl,rfl,rfl,trivial⟩ trivial (hL1 _ rfl () _ _ trivial)
 refine cF hc14 ?_
 refine AW.exit rfl ?_
 obtain ⟨r40,hm,hx⟩:=omap h
 clear h
 subst hx
 have hx:=hR1 _ rfl
 rw[hx] at hm
 have h:=hm
 exact AW.res [] [] trivial trivial (KJ12 () _ _ h)
theorem laws_eqPushSS_okN {a1 b6:List (List Push)} {z2 z7:Nat} {f3 f8:Bool} {e4 e9:List AV} {s:St} (h5:LR (rL rPush 2) 1 a1 z2 e4) (h10:LR (rL rPush 2) 1 b6 z7 e9) {r:Bool} (h:laws_eqPushSS a1 b6=some r) (hs:WF s):ACallN Cf 53 [(sl z2 f3 e4),(sl z7 f8 e9)] s fun v _ s'=>(rB) r v∧s'=s:=by
 refine ACallN.pure rfl rfl rfl .B ?_
 have hWF:=hs.lo'
 unfold laws_eqPushSS at h
 refine sr ?_
 refine q (bool false) ?_
 refine nl ?_
 refine AW.seq ?_
 refine sr ?_
 refine q (sl z2 f3 e4) ?_
 refine AOps.p rfl (len_eq h5) ?_
 refine q (sl z7 f8 e9) ?_
 refine AOps.p rfl (len_eq h10) ?_
 refine q (bool ((a1.length:Int) != (b6.length:Int))) ?_
 refine nl ?_
 rcases oite h with ⟨hc11,h⟩ | ⟨hc11,h⟩
 ·refine cT hc11 ?_
  refine sr ?_
  refine q (bool false) ?_
  refine nl ?_
  cases h
  exact AW.ret ⟨rfl,_,_,rfl,rfl⟩
 refine cF hc11 ?_
 refine AW.skip ?_
 refine AW.seq ?_
 refine sr ?_
 refine q (J 0) ?_
 refine nl ?_
 refine AW.meet (σ:=Unit) (fun _ tm os=>⟨updL tm [],updL os [],{ s with lo:=s.n }⟩) (fun _=>laws_eqPushSS_J1=some r) ?_ ?_
 ·rintro _ tm os h
  unfold laws_eqPushSS_J1 at h
  refine sr ?_
  refine q (bool true) ?_
  refine nl ?_
  cases h
  exact AW.ret ⟨rfl,_,_,rfl,rfl⟩
 intro KJ12
 refine AW.block ?_
 refine AW.res [(0,(sl z2 f3 e4)),(1,(sl z7 f8 e9)),(5,(J 0))] [] ⟨rfl,rfl,rfl,trivial⟩ trivial ?_
 refine AW.loopF (σ:=Int) (τ:=Unit) (fun i13 _=>True) (fun i13 _ tm os=>⟨updL tm [(0,(sl z2 f3 e4)),(1,(sl z7 f8 e9)),(5,(J i13))],updL os [],{ s with lo:=s.n }⟩) ?_ (x:=(0)) (y:=()) h trivial
 clear h
 rintro i13 _ tm os - ee1 h hL1 hR1
 unfold laws_eqPushSS_S1 at h
 refine AW.seq ?_
 refine sr ?_
 refine q (J i13) ?_
 refine q (sl z2 f3 e4) ?_
 refine AOps.p rfl (len_eq h5) ?_
 refine q (bool (decide ((i13:Int)<(a1.length:Int)))) ?_
 refine nl ?_
 rcases oite h with ⟨hc14,h⟩ | ⟨hc14,h⟩
 ·refine cT hc14 ?_
  refine AW.skip ?_
  refine AW.seq ?_
  refine AW.block ?_
  refine sr ?_
  refine q (sl z2 f3 e4) ?_
  refine q (J i13) ?_
  obtain ⟨x15,h16,h⟩:=obind h
  obtain ⟨v19,h17,h18⟩:=idx_sl h5 h16
  obtain ⟨z20,f21,e22,rfl,h23⟩:=h17
  refine AOps.pureR rfl rfl rfl h18 rfl (rfl:_=(eptr [(sl z20 f21 e22)] 0)) ?_
  refine lE (sl z20 f21 e22) ?_
  refine q (sl z7 f8 e9) ?_
  refine q (J i13) ?_
  obtain ⟨x24,h25,h⟩:=obind h
  obtain ⟨v28,h26,h27⟩:=idx_sl h10 h25
  obtain ⟨z29,f30,e31,rfl,h32⟩:=h26
  refine AOps.pureR rfl rfl rfl h27 rfl (rfl:_=(eptr [(sl z29 f30 e31)] 0)) ?_
  refine lE (sl z29 f30 e31) ?_
  obtain ⟨y33,h34,h⟩:=obind h
  refine AOps.lendD (g:=85) (args:=[(sl z20 f21 e22),(sl z29 f30 e31)]) (ps:=[(rL rPush 2) x15,(rL rPush 2) x24]) (p:=(rB) y33) rfl rfl rfl rfl rfl rfl rfl (.cons (Fin.of (p:=(rL rPush 2) x15) (.L fun _=>(.A (.cons .I (.cons .I .nil)))) (⟨_,_,_,rfl,h23⟩)) (.cons (Fin.of (p:=(rL rPush 2) x24) (.L fun _=>(.A (.cons .I (.cons .I .nil)))) (⟨_,_,_,rfl,h32⟩)) .nil)) (fun args' hc=>by obtain ⟨_,_,rfl,hv0,hd0⟩:=Cs_cons hc; obtain ⟨z35,f36,e37,rfl,h38⟩:=hv0; obtain ⟨_,_,rfl,hv1,hd1⟩:=Cs_cons hd0; obtain ⟨z39,f40,e41,rfl,h42⟩:=hv1; cases Cs_nil hd1; exact laws_eqPushS_okN h38 h42 h34 WF.blind) (fun v n hv=>by cases hv; rfl) (fun v hv=>Nice.pure (k:=FINK) (p:=(rB) y33) .B _ v hv) ?_
  intro _ h43
  cases h43
  refine q (bool (!y33)) ?_
  refine nl ?_
  rcases oite h with ⟨hc44,h⟩ | ⟨hc44,h⟩
  ·refine cT hc44 ?_
   refine sr ?_
   refine q (bool false) ?_
   refine nl ?_
   cases h
   have hr:=hR1 _ rfl
   subst hr
   exact AW.ret ⟨rfl,_,_,rfl,rfl⟩
  refine cF hc44 ?_
  refine AW.skip ?_
  refine AW.inBlock ?_
  refine AW.region ?_
  refine q (J i13) ?_
  refine q (J (IntKind.wrap .i64 (i13+1))) ?_
  refine aq (J (IntKind.wrap .i64 (i13+1))) ?_
  refine nl ?_
  cases h
  exact AW.res [(0,(sl z2 f3 e4)),(1,(sl z7 f8 e9)),(5,(J (IntKind.wrap .i64 (i13+1))))] [] ⟨rfl,rfl,rfl,trivial⟩ trivial (hL1 _ rfl () _ _ trivial)
 refine cF hc14 ?_
 refine AW.exit rfl ?_
 obtain ⟨r45,hm,hx⟩:=omap h
 clear h
 subst hx
 have hx:=hR1 _ rfl
 rw[hx] at hm
 have h:=hm
 exact AW.res [] [] trivial trivial (KJ12 () _ _ h)
theorem laws_eqInt64S_okN {a1 b6:List Int} {z2 z7:Nat} {f3 f8:Bool} {e4 e9:List AV} {s:St} (h5:LR rJ 1 a1 z2 e4) (h10:LR rJ 1 b6 z7 e9) {r:Bool} (h:laws_eqInt64S a1 b6=some r) (hs:WF s):ACallN Cf 86 [(sl z2 f3 e4),(sl z7 f8 e9)] s fun v _ s'=>(rB) r v∧s'=s:=by
 refine ACallN.pure rfl rfl rfl .B ?_
 have hWF:=hs.lo'
 unfold laws_eqInt64S at h
 refine sr ?_
 refine q (bool false) ?_
 refine nl ?_
 refine AW.seq ?_
 refine sr ?_
 refine q (sl z2 f3 e4) ?_
 refine AOps.p rfl (len_eq h5) ?_
 refine q (sl z7 f8 e9) ?_
 refine AOps.p rfl (len_eq h10) ?_
 refine q (bool ((a1.length:Int) != (b6.length:Int))) ?_
 refine nl ?_
 rcases oite h with ⟨hc11,h⟩ | ⟨hc11,h⟩
 ·refine cT hc11 ?_
  refine sr ?_
  refine q (bool false) ?_
  refine nl ?_
  cases h
  exact AW.ret ⟨rfl,_,_,rfl,rfl⟩
 refine cF hc11 ?_
 refine AW.skip ?_
 refine AW.seq ?_
 refine sr ?_
 refine q (J 0) ?_
 refine nl ?_
 refine AW.meet (σ:=Unit) (fun _ tm os=>⟨updL tm [],updL os [],{ s with lo:=s.n }⟩) (fun _=>laws_eqInt64S_J1=some r) ?_ ?_
 ·rintro _ tm os h
  unfold laws_eqInt64S_J1 at h
  refine sr ?_
  refine q (bool true) ?_
  refine nl ?_
  cases h
  exact AW.ret ⟨rfl,_,_,rfl,rfl⟩
 intro KJ12
 refine AW.block ?_
 refine AW.res [(0,(sl z2 f3 e4)),(1,(sl z7 f8 e9)),(5,(J 0))] [] ⟨rfl,rfl,rfl,trivial⟩ trivial ?_
 refine AW.loopF (σ:=Int) (τ:=Unit) (fun i13 _=>True) (fun i13 _ tm os=>⟨updL tm [(0,(sl z2 f3 e4)),(1,(sl z7 f8 e9)),(5,(J i13))],updL os [],{ s with lo:=s.n }⟩) ?_ (x:=(0)) (y:=()) h trivial
 clear h
 rintro i13 _ tm os - ee1 h hL1 hR1
 unfold laws_eqInt64S_S1 at h
 refine AW.seq ?_
 refine sr ?_
 refine q (J i13) ?_
 refine q (sl z2 f3 e4) ?_
 refine AOps.p rfl (len_eq h5) ?_
 refine q (bool (decide ((i13:Int)<(a1.length:Int)))) ?_
 refine nl ?_
 rcases oite h with ⟨hc14,h⟩ | ⟨hc14,h⟩
 ·refine cT hc14 ?_
  refine AW.skip ?_
  refine AW.seq ?_
  refine AW.block ?_
  refine sr ?_
  refine q (sl z2 f3 e4) ?_
  refine q (J i13) ?_
  obtain ⟨x15,h16,h⟩:=obind h
  obtain ⟨v19,h17,h18⟩:=idx_sl h5 h16
  cases h17
  refine AOps.pureR rfl rfl rfl h18 rfl (rfl:_=(eptr [(J x15)] 0)) ?_
  refine lE (J x15) ?_
  refine q (sl z7 f8 e9) ?_
  refine q (J i13) ?_
  obtain ⟨x20,h21,h⟩:=obind h
  obtain ⟨v24,h22,h23⟩:=idx_sl h10 h21
  cases h22
  refine AOps.pureR rfl rfl rfl h23 rfl (rfl:_=(eptr [(J x20)] 0)) ?_
  refine lE (J x20) ?_
  refine q (bool (x15 != x20)) ?_
  refine nl ?_
  rcases oite h with ⟨hc25,h⟩ | ⟨hc25,h⟩
  ·refine cT hc25 ?_
   refine sr ?_
   refine q (bool false) ?_
   refine nl ?_
   cases h
   have hr:=hR1 _ rfl
   subst hr
   exact AW.ret ⟨rfl,_,_,rfl,rfl⟩
  refine cF hc25 ?_
  refine AW.skip ?_
  refine AW.inBlock ?_
  refine AW.region ?_
  refine q (J i13) ?_
  refine q (J (IntKind.wrap .i64 (i13+1))) ?_
  refine aq (J (IntKind.wrap .i64 (i13+1))) ?_
  refine nl ?_
  cases h
  exact AW.res [(0,(sl z2 f3 e4)),(1,(sl z7 f8 e9)),(5,(J (IntKind.wrap .i64 (i13+1))))] [] ⟨rfl,rfl,rfl,trivial⟩ trivial (hL1 _ rfl () _ _ trivial)
 refine cF hc14 ?_
 refine AW.exit rfl ?_
 obtain ⟨r26,hm,hx⟩:=omap h
 clear h
 subst hx
 have hx:=hR1 _ rfl
 rw[hx] at hm
 have h:=hm
 exact AW.res [] [] trivial trivial (KJ12 () _ _ h)
theorem laws_eqInt64SS_okN {a1 b6:List (List Int)} {z2 z7:Nat} {f3 f8:Bool} {e4 e9:List AV} {s:St} (h5:LR (rL rJ 1) 1 a1 z2 e4) (h10:LR (rL rJ 1) 1 b6 z7 e9) {r:Bool} (h:laws_eqInt64SS a1 b6=some r) (hs:WF s):ACallN Cf 55 [(sl z2 f3 e4),(sl z7 f8 e9)] s fun v _ s'=>(rB) r v∧s'=s:=by
 refine ACallN.pure rfl rfl rfl .B ?_
 have hWF:=hs.lo'
 unfold laws_eqInt64SS at h
 refine sr ?_
 refine q (bool false) ?_
 refine nl ?_
 refine AW.seq ?_
 refine sr ?_
 refine q (sl z2 f3 e4) ?_
 refine AOps.p rfl (len_eq h5) ?_
 refine q (sl z7 f8 e9) ?_
 refine AOps.p rfl (len_eq h10) ?_
 refine q (bool ((a1.length:Int) != (b6.length:Int))) ?_
 refine nl ?_
 rcases oite h with ⟨hc11,h⟩ | ⟨hc11,h⟩
 ·refine cT hc11 ?_
  refine sr ?_
  refine q (bool false) ?_
  refine nl ?_
  cases h
  exact AW.ret ⟨rfl,_,_,rfl,rfl⟩
 refine cF hc11 ?_
 refine AW.skip ?_
 refine AW.seq ?_
 refine sr ?_
 refine q (J 0) ?_
 refine nl ?_
 refine AW.meet (σ:=Unit) (fun _ tm os=>⟨updL tm [],updL os [],{ s with lo:=s.n }⟩) (fun _=>laws_eqInt64SS_J1=some r) ?_ ?_
 ·rintro _ tm os h
  unfold laws_eqInt64SS_J1 at h
  refine sr ?_
  refine q (bool true) ?_
  refine nl ?_
  cases h
  exact AW.ret ⟨rfl,_,_,rfl,rfl⟩
 intro KJ12
 refine AW.block ?_
 refine AW.res [(0,(sl z2 f3 e4)),(1,(sl z7 f8 e9)),(5,(J 0))] [] ⟨rfl,rfl,rfl,trivial⟩ trivial ?_
 refine AW.loopF (σ:=Int) (τ:=Unit) (fun i13 _=>True) (fun i13 _ tm os=>⟨updL tm [(0,(sl z2 f3 e4)),(1,(sl z7 f8 e9)),(5,(J i13))],updL os [],{ s with lo:=s.n }⟩) ?_ (x:=(0)) (y:=()) h trivial
 clear h
 rintro i13 _ tm os - ee1 h hL1 hR1
 unfold laws_eqInt64SS_S1 at h
 refine AW.seq ?_
 refine sr ?_
 refine q (J i13) ?_
 refine q (sl z2 f3 e4) ?_
 refine AOps.p rfl (len_eq h5) ?_
 refine q (bool (decide ((i13:Int)<(a1.length:Int)))) ?_
 refine nl ?_
 rcases oite h with ⟨hc14,h⟩ | ⟨hc14,h⟩
 ·refine cT hc14 ?_
  refine AW.skip ?_
  refine AW.seq ?_
  refine AW.block ?_
  refine sr ?_
  refine q (sl z2 f3 e4) ?_
  refine q (J i13) ?_
  obtain ⟨x15,h16,h⟩:=obind h
  obtain ⟨v19,h17,h18⟩:=idx_sl h5 h16
  obtain ⟨z20,f21,e22,rfl,h23⟩:=h17
  refine AOps.pureR rfl rfl rfl h18 rfl (rfl:_=(eptr [(sl z20 f21 e22)] 0)) ?_
  refine lE (sl z20 f21 e22) ?_
  refine q (sl z7 f8 e9) ?_
  refine q (J i13) ?_
  obtain ⟨x24,h25,h⟩:=obind h
  obtain ⟨v28,h26,h27⟩:=idx_sl h10 h25
  obtain ⟨z29,f30,e31,rfl,h32⟩:=h26
  refine AOps.pureR rfl rfl rfl h27 rfl (rfl:_=(eptr [(sl z29 f30 e31)] 0)) ?_
  refine lE (sl z29 f30 e31) ?_
  obtain ⟨y33,h34,h⟩:=obind h
  refine AOps.lendD (g:=86) (args:=[(sl z20 f21 e22),(sl z29 f30 e31)]) (ps:=[(rL rJ 1) x15,(rL rJ 1) x24]) (p:=(rB) y33) rfl rfl rfl rfl rfl rfl rfl (.cons (Fin.of (p:=(rL rJ 1) x15) (.L fun _=>.I) (⟨_,_,_,rfl,h23⟩)) (.cons (Fin.of (p:=(rL rJ 1) x24) (.L fun _=>.I) (⟨_,_,_,rfl,h32⟩)) .nil)) (fun args' hc=>by obtain ⟨_,_,rfl,hv0,hd0⟩:=Cs_cons hc; obtain ⟨z35,f36,e37,rfl,h38⟩:=hv0; obtain ⟨_,_,rfl,hv1,hd1⟩:=Cs_cons hd0; obtain ⟨z39,f40,e41,rfl,h42⟩:=hv1; cases Cs_nil hd1; exact laws_eqInt64S_okN h38 h42 h34 WF.blind) (fun v n hv=>by cases hv; rfl) (fun v hv=>Nice.pure (k:=FINK) (p:=(rB) y33) .B _ v hv) ?_
  intro _ h43
  cases h43
  refine q (bool (!y33)) ?_
  refine nl ?_
  rcases oite h with ⟨hc44,h⟩ | ⟨hc44,h⟩
  ·refine cT hc44 ?_
   refine sr ?_
   refine q (bool false) ?_
   refine nl ?_
   cases h
   have hr:=hR1 _ rfl
   subst hr
   exact AW.ret ⟨rfl,_,_,rfl,rfl⟩
  refine cF hc44 ?_
  refine AW.skip ?_
  refine AW.inBlock ?_
  refine AW.region ?_
  refine q (J i13) ?_
  refine q (J (IntKind.wrap .i64 (i13+1))) ?_
  refine aq (J (IntKind.wrap .i64 (i13+1))) ?_
  refine nl ?_
  cases h
  exact AW.res [(0,(sl z2 f3 e4)),(1,(sl z7 f8 e9)),(5,(J (IntKind.wrap .i64 (i13+1))))] [] ⟨rfl,rfl,rfl,trivial⟩ trivial (hL1 _ rfl () _ _ trivial)
 refine cF hc14 ?_
 refine AW.exit rfl ?_
 obtain ⟨r45,hm,hx⟩:=omap h
 clear h
 subst hx
 have hx:=hR1 _ rfl
 rw[hx] at hm
 have h:=hm
 exact AW.res [] [] trivial trivial (KJ12 () _ _ h)
theorem laws_eqInt64SSS_okN {a1 b6:List (List (List Int))} {z2 z7:Nat} {f3 f8:Bool} {e4 e9:List AV} {s:St} (h5:LR (rL (rL rJ 1) 1) 1 a1 z2 e4) (h10:LR (rL (rL rJ 1) 1) 1 b6 z7 e9) {r:Bool} (h:laws_eqInt64SSS a1 b6=some r) (hs:WF s):ACallN Cf 54 [(sl z2 f3 e4),(sl z7 f8 e9)] s fun v _ s'=>(rB) r v∧s'=s:=by
 refine ACallN.pure rfl rfl rfl .B ?_
 have hWF:=hs.lo'
 unfold laws_eqInt64SSS at h
 refine sr ?_
 refine q (bool false) ?_
 refine nl ?_
 refine AW.seq ?_
 refine sr ?_
 refine q (sl z2 f3 e4) ?_
 refine AOps.p rfl (len_eq h5) ?_
 refine q (sl z7 f8 e9) ?_
 refine AOps.p rfl (len_eq h10) ?_
 refine q (bool ((a1.length:Int) != (b6.length:Int))) ?_
 refine nl ?_
 rcases oite h with ⟨hc11,h⟩ | ⟨hc11,h⟩
 ·refine cT hc11 ?_
  refine sr ?_
  refine q (bool false) ?_
  refine nl ?_
  cases h
  exact AW.ret ⟨rfl,_,_,rfl,rfl⟩
 refine cF hc11 ?_
 refine AW.skip ?_
 refine AW.seq ?_
 refine sr ?_
 refine q (J 0) ?_
 refine nl ?_
 refine AW.meet (σ:=Unit) (fun _ tm os=>⟨updL tm [],updL os [],{ s with lo:=s.n }⟩) (fun _=>laws_eqInt64SSS_J1=some r) ?_ ?_
 ·rintro _ tm os h
  unfold laws_eqInt64SSS_J1 at h
  refine sr ?_
  refine q (bool true) ?_
  refine nl ?_
  cases h
  exact AW.ret ⟨rfl,_,_,rfl,rfl⟩
 intro KJ12
 refine AW.block ?_
 refine AW.res [(0,(sl z2 f3 e4)),(1,(sl z7 f8 e9)),(5,(J 0))] [] ⟨rfl,rfl,rfl,trivial⟩ trivial ?_
 refine AW.loopF (σ:=Int) (τ:=Unit) (fun i13 _=>True) (fun i13 _ tm os=>⟨updL tm [(0,(sl z2 f3 e4)),(1,(sl z7 f8 e9)),(5,(J i13))],updL os [],{ s with lo:=s.n }⟩) ?_ (x:=(0)) (y:=()) h trivial
 clear h
 rintro i13 _ tm os - ee1 h hL1 hR1
 unfold laws_eqInt64SSS_S1 at h
 refine AW.seq ?_
 refine sr ?_
 refine q (J i13) ?_
 refine q (sl z2 f3 e4) ?_
 refine AOps.p rfl (len_eq h5) ?_
 refine q (bool (decide ((i13:Int)<(a1.length:Int)))) ?_
 refine nl ?_
 rcases oite h with ⟨hc14,h⟩ | ⟨hc14,h⟩
 ·refine cT hc14 ?_
  refine AW.skip ?_
  refine AW.seq ?_
  refine AW.block ?_
  refine sr ?_
  refine q (sl z2 f3 e4) ?_
  refine q (J i13) ?_
  obtain ⟨x15,h16,h⟩:=obind h
  obtain ⟨v19,h17,h18⟩:=idx_sl h5 h16
  obtain ⟨z20,f21,e22,rfl,h23⟩:=h17
  refine AOps.pureR rfl rfl rfl h18 rfl (rfl:_=(eptr [(sl z20 f21 e22)] 0)) ?_
  refine lE (sl z20 f21 e22) ?_
  refine q (sl z7 f8 e9) ?_
  refine q (J i13) ?_
  obtain ⟨x24,h25,h⟩:=obind h
  obtain ⟨v28,h26,h27⟩:=idx_sl h10 h25
  obtain ⟨z29,f30,e31,rfl,h32⟩:=h26
  refine AOps.pureR rfl rfl rfl h27 rfl (rfl:_=(eptr [(sl z29 f30 e31)] 0)) ?_
  refine lE (sl z29 f30 e31) ?_
  obtain ⟨y33,h34,h⟩:=obind h
  refine AOps.lendD (g:=55) (args:=[(sl z20 f21 e22),(sl z29 f30 e31)]) (ps:=[(rL (rL rJ 1) 1) x15,(rL (rL rJ 1) 1) x24]) (p:=(rB) y33) rfl rfl rfl rfl rfl rfl rfl (.cons (Fin.of (p:=(rL (rL rJ 1) 1) x15) (.L fun _=>(.L fun _=>.I)) (⟨_,_,_,rfl,h23⟩)) (.cons (Fin.of (p:=(rL (rL rJ 1) 1) x24) (.L fun _=>(.L fun _=>.I)) (⟨_,_,_,rfl,h32⟩)) .nil)) (fun args' hc=>by obtain ⟨_,_,rfl,hv0,hd0⟩:=Cs_cons hc; obtain ⟨z35,f36,e37,rfl,h38⟩:=hv0; obtain ⟨_,_,rfl,hv1,hd1⟩:=Cs_cons hd0; obtain ⟨z39,f40,e41,rfl,h42⟩:=hv1; cases Cs_nil hd1; exact laws_eqInt64SS_okN h38 h42 h34 WF.blind) (fun v n hv=>by cases hv; rfl) (fun v hv=>Nice.pure (k:=FINK) (p:=(rB) y33) .B _ v hv) ?_
  intro _ h43
  cases h43
  refine q (bool (!y33)) ?_
  refine nl ?_
  rcases oite h with ⟨hc44,h⟩ | ⟨hc44,h⟩
  ·refine cT hc44 ?_
   refine sr ?_
   refine q (bool false) ?_
   refine nl ?_
   cases h
   have hr:=hR1 _ rfl
   subst hr
   exact AW.ret ⟨rfl,_,_,rfl,rfl⟩
  refine cF hc44 ?_
  refine AW.skip ?_
  refine AW.inBlock ?_
  refine AW.region ?_
  refine q (J i13) ?_
  refine q (J (IntKind.wrap .i64 (i13+1))) ?_
  refine aq (J (IntKind.wrap .i64 (i13+1))) ?_
  refine nl ?_
  cases h
  exact AW.res [(0,(sl z2 f3 e4)),(1,(sl z7 f8 e9)),(5,(J (IntKind.wrap .i64 (i13+1))))] [] ⟨rfl,rfl,rfl,trivial⟩ trivial (hL1 _ rfl () _ _ trivial)
 refine cF hc14 ?_
 refine AW.exit rfl ?_
 obtain ⟨r45,hm,hx⟩:=omap h
 clear h
 subst hx
 have hx:=hR1 _ rfl
 rw[hx] at hm
 have h:=hm
 exact AW.res [] [] trivial trivial (KJ12 () _ _ h)
end Go.Proofs.YtbmjcddendnniaaGreat.law
