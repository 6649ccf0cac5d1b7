import Derived.Test.YtpchecdlbagedaaGreatAeD
import Derived.Test.YtpchecdlbagedaaGreatAe4
import Derived.Test.YtpchecdlbagedaaGreatAeK2
set_option linter.unusedVariables false
set_option linter.unusedSimpArgs false
namespace Go.Proofs.YtpchecdlbagedaaGreat.law
open Go Go.Proofs Ae
open Ae.AV (int sl eptr agg ptr bool str)
open Ae.AW (seq ret res skip block region meet inBlock loopF exit)
open Ae.AOps (pureR makeR split callF stE ldB stP allocP callDP alloc1 stB lit1 callP appO appLf)
open Ae.HS (wf' selEG initK)
set_option maxRecDepth 100000
set_option linter.unusedVariables false
theorem impl_ValidRewriter_ok {p1:Rewriter} {z2 z6 z10:Nat} {f3 f7 f11:Bool} {e4 e8 e12:List AV} {s:St} (h5:LR (rL rOutPush 3) 1 p1.Call z2 e4) (h9:LR (rL (rL rOutMove 2) 1) 1 p1.Return z6 e8) (h13:LR (rL rOutMove 2) 1 p1.Inner z10 e12) {r:Bool} (h:impl_ValidRewriter p1=some r) (hs:WF s):ACall Cf 34 [(agg [(J p1.Stack),(J p1.Start),(sl z2 f3 e4),(sl z6 f7 e8),(sl z10 f11 e12)])] s fun v _ s'=>(rB) r v∧s'=s:=by
 refine ACall.pure rfl rfl rfl .B ?_
 have hWF:=hs.lo'
 unfold impl_ValidRewriter at h
 refine sr ?_
 refine makeR rfl rfl rfl rfl rfl rfl (rfl:_=(eptr [(J p1.Stack),(J p1.Start),(sl z2 f3 e4),(sl z6 f7 e8),(sl z10 f11 e12)] 0)) ?_
 refine q (bool false) ?_
 refine ns ?_
 refine q (eptr [(J p1.Stack),(J p1.Start),(sl z2 f3 e4),(sl z6 f7 e8),(sl z10 f11 e12)] 2) ?_
 refine lE (sl z2 f3 e4) ?_
 obtain ⟨y14,h15,h⟩:=obind h
 refine cP (impl_size_simpl_OutPush_ok h5 h15 hWF) ?_
 intro _ o17 h16
 cases h16
 refine allocP rfl rfl rfl rfl ⟨rfl,rfl⟩ rfl ?_
 refine stP (v:=(J y14)) rfl rfl rfl rfl rfl rfl rfl rfl rfl (lt_b rfl) rfl ?_
 refine ns ?_
 refine q (AV.fn 77 [(eptr [(J y14)] 0)]) ?_
 refine allocP rfl rfl rfl rfl ⟨rfl,rfl⟩ rfl ?_
 refine stP (v:=(AV.fn 77 [(eptr [(J y14)] 0)])) rfl rfl rfl rfl rfl rfl rfl rfl rfl (lt_b rfl) rfl ?_
 refine ns ?_
 refine q (AV.fn 80 [(eptr [(AV.fn 77 [(eptr [(J y14)] 0)])] 0)]) ?_
 refine aq (AV.fn 80 [(eptr [(AV.fn 77 [(eptr [(J y14)] 0)])] 0)]) ?_
 refine nl ?_
 refine seq ?_
 refine sr ?_
 refine lE (J y14) ?_
 obtain ⟨y18,h19,h⟩:=obind h
 refine callDP (g:=78) (args:=[(J y14),(J 1),(J 8)]) (p:=(rB) y18) rfl rfl rfl (impl_within_ok  h19 hWF.still) (fun v hv=>Nice.pure (k:=FINK) (p:=(rB) y18) .B _ v hv) ?_
 intro _ o21 h20
 cases h20
 refine q (bool (!y18)) ?_
 refine q (bool (!y18)) ?_
 obtain ⟨b23,hb,h⟩:=obind h
 refine split 5 (fun f'=>∃ tm' os',f'=⟨updL tm' [(1,(eptr [(J p1.Stack),(J p1.Start),(sl z2 f3 e4),(sl z6 f7 e8),(sl z10 f11 e12)] 0)),(3,(eptr [(J y14)] 0)),(4,(eptr [(AV.fn 77 [(eptr [(J y14)] 0)])] 0)),(5,(AV.fn 80 [(eptr [(AV.fn 77 [(eptr [(J y14)] 0)])] 0)])),(22,(bool b23))],updL os' [],s.M⟩) ?_ ?_
 ·rcases oite hb with ⟨hc22,hb⟩ | ⟨hc22,hb⟩
  ·refine kn 17 hc22 ?_
   refine sk ?_
   refine sk ?_
   refine sk ?_
   refine sk ?_
   refine q (bool true) ?_
   exact rR ⟨rfl,rfl,rfl,rfl,bJ hb,tv⟩
  ·have h:=hb
   refine kn 17 hc22 ?_
   refine q (eptr [(J p1.Stack),(J p1.Start),(sl z2 f3 e4),(sl z6 f7 e8),(sl z10 f11 e12)] 0) ?_
   refine lE (J p1.Stack) ?_
   obtain ⟨y24,h25,h⟩:=obind h
   refine callDP (g:=78) (args:=[(J p1.Stack),(J 1),(J 8)]) (p:=(rB) y24) rfl rfl rfl (impl_within_ok  h25 hWF.still) (fun v hv=>Nice.pure (k:=FINK) (p:=(rB) y24) .B _ v hv) ?_
   intro _ o27 h26
   cases h26
   refine q (bool (!y24)) ?_
   refine q (bool (!y24)) ?_
   exact rR ⟨rfl,rfl,rfl,rfl,bJ h,tv⟩
 rintro _ ⟨tm,os,rfl⟩
 refine q (bool b23) ?_
 obtain ⟨b29,hb,h⟩:=obind h
 refine split 7 (fun f'=>∃ tm' os',f'=⟨updL tm' [(1,(eptr [(J p1.Stack),(J p1.Start),(sl z2 f3 e4),(sl z6 f7 e8),(sl z10 f11 e12)] 0)),(3,(eptr [(J y14)] 0)),(4,(eptr [(AV.fn 77 [(eptr [(J y14)] 0)])] 0)),(5,(AV.fn 80 [(eptr [(AV.fn 77 [(eptr [(J y14)] 0)])] 0)])),(30,(bool b29))],updL os' [],s.M⟩) ?_ ?_
 ·rcases oite hb with ⟨hc28,hb⟩ | ⟨hc28,hb⟩
  ·refine kn 23 hc28 ?_
   refine sk ?_
   refine sk ?_
   refine sk ?_
   refine sk ?_
   refine sk ?_
   refine sk ?_
   refine q (bool true) ?_
   exact rR ⟨rfl,rfl,rfl,rfl,bJ hb,tv⟩
  ·have h:=hb
   refine kn 23 hc28 ?_
   refine q (eptr [(J p1.Stack),(J p1.Start),(sl z2 f3 e4),(sl z6 f7 e8),(sl z10 f11 e12)] 1) ?_
   refine lE (J p1.Start) ?_
   refine lE (J y14) ?_
   refine q (J (W (y14 - 1))) ?_
   obtain ⟨y30,h31,h⟩:=obind h
   refine callDP (g:=78) (args:=[(J p1.Start),(J 0),(J (W (y14 - 1)))]) (p:=(rB) y30) rfl rfl rfl (impl_within_ok  h31 hWF.still) (fun v hv=>Nice.pure (k:=FINK) (p:=(rB) y30) .B _ v hv) ?_
   intro _ o33 h32
   cases h32
   refine q (bool (!y30)) ?_
   refine q (bool (!y30)) ?_
   exact rR ⟨rfl,rfl,rfl,rfl,bJ h,tv⟩
 rintro _ ⟨tm,os,rfl⟩
 refine q (bool b29) ?_
 obtain ⟨b35,hb,h⟩:=obind h
 refine split 6 (fun f'=>∃ tm' os',f'=⟨updL tm' [(1,(eptr [(J p1.Stack),(J p1.Start),(sl z2 f3 e4),(sl z6 f7 e8),(sl z10 f11 e12)] 0)),(3,(eptr [(J y14)] 0)),(4,(eptr [(AV.fn 77 [(eptr [(J y14)] 0)])] 0)),(5,(AV.fn 80 [(eptr [(AV.fn 77 [(eptr [(J y14)] 0)])] 0)])),(37,(bool b35))],updL os' [],s.M⟩) ?_ ?_
 ·rcases oite hb with ⟨hc34,hb⟩ | ⟨hc34,hb⟩
  ·refine kn 31 hc34 ?_
   refine sk ?_
   refine sk ?_
   refine sk ?_
   refine sk ?_
   refine sk ?_
   refine q (bool true) ?_
   exact rR ⟨rfl,rfl,rfl,rfl,bJ hb,tv⟩
  ·have h:=hb
   refine kn 31 hc34 ?_
   refine q (eptr [(J p1.Stack),(J p1.Start),(sl z2 f3 e4),(sl z6 f7 e8),(sl z10 f11 e12)] 3) ?_
   refine lE (sl z6 f7 e8) ?_
   obtain ⟨y36,h37,h⟩:=obind h
   refine callDP (g:=84) (args:=[(sl z6 f7 e8)]) (p:=rJ y36) rfl rfl rfl (impl_size_s_impl_OutMove_ok h9 h37 hWF.still) (fun v hv=>Nice.pure (k:=FINK) (p:=rJ y36) .I _ v hv) ?_
   intro _ o39 h38
   cases h38
   refine lE (J y14) ?_
   refine q (bool (y36 != y14)) ?_
   refine q (bool (y36 != y14)) ?_
   exact rR ⟨rfl,rfl,rfl,rfl,bJ h,tv⟩
 rintro _ ⟨tm,os,rfl⟩
 refine q (bool b35) ?_
 obtain ⟨b41,hb,h⟩:=obind h
 refine split 6 (fun f'=>∃ tm' os',f'=⟨updL tm' [(1,(eptr [(J p1.Stack),(J p1.Start),(sl z2 f3 e4),(sl z6 f7 e8),(sl z10 f11 e12)] 0)),(3,(eptr [(J y14)] 0)),(4,(eptr [(AV.fn 77 [(eptr [(J y14)] 0)])] 0)),(5,(AV.fn 80 [(eptr [(AV.fn 77 [(eptr [(J y14)] 0)])] 0)])),(44,(bool b41))],updL os' [],s.M⟩) ?_ ?_
 ·rcases oite hb with ⟨hc40,hb⟩ | ⟨hc40,hb⟩
  ·refine kn 38 hc40 ?_
   refine sk ?_
   refine sk ?_
   refine sk ?_
   refine sk ?_
   refine sk ?_
   refine q (bool true) ?_
   exact rR ⟨rfl,rfl,rfl,rfl,bJ hb,tv⟩
  ·have h:=hb
   refine kn 38 hc40 ?_
   refine q (eptr [(J p1.Stack),(J p1.Start),(sl z2 f3 e4),(sl z6 f7 e8),(sl z10 f11 e12)] 4) ?_
   refine lE (sl z10 f11 e12) ?_
   obtain ⟨y42,h43,h⟩:=obind h
   refine callDP (g:=85) (args:=[(sl z10 f11 e12)]) (p:=rJ y42) rfl rfl rfl (impl_size_simpl_OutMove_ok h13 h43 hWF.still) (fun v hv=>Nice.pure (k:=FINK) (p:=rJ y42) .I _ v hv) ?_
   intro _ o45 h44
   cases h44
   refine lE (J y14) ?_
   refine q (bool (y42 != y14)) ?_
   refine q (bool (y42 != y14)) ?_
   exact rR ⟨rfl,rfl,rfl,rfl,bJ h,tv⟩
 rintro _ ⟨tm,os,rfl⟩
 refine nl ?_
 rcases oite h with ⟨hc46,h⟩ | ⟨hc46,h⟩
 ·refine cT hc46 ?_
  refine sr ?_
  refine q (bool false) ?_
  refine nl ?_
  cases h
  exact ret ⟨rfl,_,_,rfl,rfl⟩
 refine cF hc46 ?_
 refine skip ?_
 refine seq ?_
 refine sr ?_
 refine lE (J y14) ?_
 refine q (J 0) ?_
 refine nl ?_
 refine meet (σ:=Unit) (fun _ tm os=>⟨updL tm [],updL os [],s.M⟩) (fun _=>impl_ValidRewriter_J1=some r) ?_ ?_
 ·rintro _ tm os h
  unfold impl_ValidRewriter_J1 at h
  refine sr ?_
  refine q (bool true) ?_
  refine nl ?_
  cases h
  exact ret ⟨rfl,_,_,rfl,rfl⟩
 intro KJ47
 refine block ?_
 refine res [(1,(eptr [(J p1.Stack),(J p1.Start),(sl z2 f3 e4),(sl z6 f7 e8),(sl z10 f11 e12)] 0)),(4,(eptr [(AV.fn 77 [(eptr [(J y14)] 0)])] 0)),(5,(AV.fn 80 [(eptr [(AV.fn 77 [(eptr [(J y14)] 0)])] 0)])),(45,(J y14)),(46,(J 0))] [] ⟨rfl,rfl,rfl,rfl,rfl,tv⟩ tv ?_
 refine loopF (σ:=Int) (τ:=Unit) (fun t48 _=>True) (fun t48 _ tm os=>⟨updL tm [(1,(eptr [(J p1.Stack),(J p1.Start),(sl z2 f3 e4),(sl z6 f7 e8),(sl z10 f11 e12)] 0)),(4,(eptr [(AV.fn 77 [(eptr [(J y14)] 0)])] 0)),(5,(AV.fn 80 [(eptr [(AV.fn 77 [(eptr [(J y14)] 0)])] 0)])),(45,(J y14)),(46,(J t48))],updL os [],s.M⟩) ?_ (x:=(0)) (y:=()) h tv
 clear h
 rintro t48 _ tm os - ee1 h hL1 hR1
 unfold impl_ValidRewriter_S1 at h
 refine sr ?_
 refine q (bool (decide ((t48:Int)<y14))) ?_
 refine nl ?_
 refine seq ?_
 rcases oite h with ⟨hc49,h⟩ | ⟨hc49,h⟩
 ·refine cT hc49 ?_
  refine skip ?_
  refine seq ?_
  refine block ?_
  refine sr ?_
  refine q (J t48) ?_
  refine aq (J t48) ?_
  refine nl ?_
  refine seq ?_
  refine sr ?_
  refine q (eptr [(J p1.Stack),(J p1.Start),(sl z2 f3 e4),(sl z6 f7 e8),(sl z10 f11 e12)] 2) ?_
  refine lE (sl z2 f3 e4) ?_
  refine q (J t48) ?_
  obtain ⟨x50,h51,h⟩:=obind h
  obtain ⟨v54,h52,h53⟩:=idx_sl h5 h51
  obtain ⟨z55,f56,e57,rfl,h58⟩:=h52
  refine pureR rfl rfl rfl h53 rfl (rfl:_=(eptr [(sl z55 f56 e57)] 0)) ?_
  refine lE (sl z55 f56 e57) ?_
  refine AOps.p rfl (len_eq h58) ?_
  refine q (bool ((x50.length:Int) != 2)) ?_
  refine q (bool ((x50.length:Int) != 2)) ?_
  obtain ⟨b60,hb,h⟩:=obind h
  refine split 8 (fun f'=>∃ tm' os',f'=⟨updL tm' [(1,(eptr [(J p1.Stack),(J p1.Start),(sl z2 f3 e4),(sl z6 f7 e8),(sl z10 f11 e12)] 0)),(4,(eptr [(AV.fn 77 [(eptr [(J y14)] 0)])] 0)),(5,(AV.fn 80 [(eptr [(AV.fn 77 [(eptr [(J y14)] 0)])] 0)])),(6,(J t48)),(45,(J y14)),(46,(J t48)),(64,(bool b60))],updL os' [],s.M⟩) ?_ ?_
  ·rcases oite hb with ⟨hc59,hb⟩ | ⟨hc59,hb⟩
   ·refine kn 56 hc59 ?_
    refine sk ?_
    refine sk ?_
    refine sk ?_
    refine sk ?_
    refine sk ?_
    refine sk ?_
    refine sk ?_
    refine q (bool true) ?_
    exact rR ⟨rfl,rfl,rfl,rfl,rfl,rfl,bJ hb,tv⟩
   ·have h:=hb
    refine kn 56 hc59 ?_
    refine q (eptr [(J p1.Stack),(J p1.Start),(sl z2 f3 e4),(sl z6 f7 e8),(sl z10 f11 e12)] 3) ?_
    refine lE (sl z6 f7 e8) ?_
    refine q (J t48) ?_
    obtain ⟨x61,h62,h⟩:=obind h
    obtain ⟨v65,h63,h64⟩:=idx_sl h9 h62
    obtain ⟨z66,f67,e68,rfl,h69⟩:=h63
    refine pureR rfl rfl rfl h64 rfl (rfl:_=(eptr [(sl z66 f67 e68)] 0)) ?_
    refine lE (sl z66 f67 e68) ?_
    refine AOps.p rfl (len_eq h69) ?_
    refine q (bool ((x61.length:Int) != 2)) ?_
    refine q (bool ((x61.length:Int) != 2)) ?_
    exact rR ⟨rfl,rfl,rfl,rfl,rfl,rfl,bJ h,tv⟩
  rintro _ ⟨tm,os,rfl⟩
  refine q (bool b60) ?_
  obtain ⟨b71,hb,h⟩:=obind h
  refine split 9 (fun f'=>∃ tm' os',f'=⟨updL tm' [(1,(eptr [(J p1.Stack),(J p1.Start),(sl z2 f3 e4),(sl z6 f7 e8),(sl z10 f11 e12)] 0)),(4,(eptr [(AV.fn 77 [(eptr [(J y14)] 0)])] 0)),(5,(AV.fn 80 [(eptr [(AV.fn 77 [(eptr [(J y14)] 0)])] 0)])),(6,(J t48)),(45,(J y14)),(46,(J t48)),(74,(bool b71))],updL os' [],s.M⟩) ?_ ?_
  ·rcases oite hb with ⟨hc70,hb⟩ | ⟨hc70,hb⟩
   ·refine kn 65 hc70 ?_
    refine sk ?_
    refine sk ?_
    refine sk ?_
    refine sk ?_
    refine sk ?_
    refine sk ?_
    refine sk ?_
    refine sk ?_
    refine q (bool true) ?_
    exact rR ⟨rfl,rfl,rfl,rfl,rfl,rfl,bJ hb,tv⟩
   ·have h:=hb
    refine kn 65 hc70 ?_
    refine q (AV.fn 80 [(eptr [(AV.fn 77 [(eptr [(J y14)] 0)])] 0)]) ?_
    refine q (eptr [(J p1.Stack),(J p1.Start),(sl z2 f3 e4),(sl z6 f7 e8),(sl z10 f11 e12)] 4) ?_
    refine lE (sl z10 f11 e12) ?_
    refine q (J t48) ?_
    obtain ⟨x72,h73,h⟩:=obind h
    obtain ⟨v76,h74,h75⟩:=idx_sl h13 h73
    obtain ⟨z77,f78,e79,rfl,h80⟩:=h74
    refine pureR rfl rfl rfl h75 rfl (rfl:_=(eptr [(sl z77 f78 e79)] 0)) ?_
    refine lE (sl z77 f78 e79) ?_
    obtain ⟨y86,h87,h⟩:=obind h
    refine cP (impl_ValidRewriter_2_ok h80 (by intro x vs y hc hx s hs; obtain ⟨_,_,rfl,hv0,hd0⟩:=Cs_cons hc; obtain ⟨_,rfl,h81⟩:=hv0; obtain ⟨_,_,rfl,h82,h83⟩:=Cs_cons h81; cases h82; obtain ⟨_,_,rfl,h84,h85⟩:=Cs_cons h83; cases h84; cases Cs_nil h85; cases Cs_nil hd0; exact impl_ValidRewriter_1_ok  hx hs) h87 hWF) ?_
    intro _ o89 h88
    cases h88
    refine q (bool (!y86)) ?_
    refine q (bool (!y86)) ?_
    exact rR ⟨rfl,rfl,rfl,rfl,rfl,rfl,bJ h,tv⟩
  rintro _ ⟨tm,os,rfl⟩
  refine nl ?_
  rcases oite h with ⟨hc90,h⟩ | ⟨hc90,h⟩
  ·refine cT hc90 ?_
   refine sr ?_
   refine q (bool false) ?_
   refine nl ?_
   cases h
   have hr:=hR1 _ rfl
   subst hr
   exact ret ⟨rfl,_,_,rfl,rfl⟩
  refine cF hc90 ?_
  refine skip ?_
  refine sr ?_
  refine q (J 0) ?_
  refine nl ?_
  refine meet (σ:=Unit) (fun _ tm os=>⟨updL tm [(1,(eptr [(J p1.Stack),(J p1.Start),(sl z2 f3 e4),(sl z6 f7 e8),(sl z10 f11 e12)] 0)),(4,(eptr [(AV.fn 77 [(eptr [(J y14)] 0)])] 0)),(5,(AV.fn 80 [(eptr [(AV.fn 77 [(eptr [(J y14)] 0)])] 0)])),(45,(J y14)),(46,(J t48))],updL os [],s.M⟩) (fun _=>impl_ValidRewriter_J2 t48=some ee1) ?_ ?_
  ·rintro _ tm os h
   unfold impl_ValidRewriter_J2 at h
   refine inBlock ?_
   refine region ?_
   refine q (J (W (t48+1))) ?_
   refine q (J (W (t48+1))) ?_
   refine nl ?_
   cases h
   exact res [(1,(eptr [(J p1.Stack),(J p1.Start),(sl z2 f3 e4),(sl z6 f7 e8),(sl z10 f11 e12)] 0)),(4,(eptr [(AV.fn 77 [(eptr [(J y14)] 0)])] 0)),(5,(AV.fn 80 [(eptr [(AV.fn 77 [(eptr [(J y14)] 0)])] 0)])),(45,(J y14)),(46,(J (W (t48+1))))] [] ⟨rfl,rfl,rfl,rfl,rfl,tv⟩ tv (hL1 _ rfl () _ _ tv)
  intro KJ91
  refine block ?_
  refine res [(1,(eptr [(J p1.Stack),(J p1.Start),(sl z2 f3 e4),(sl z6 f7 e8),(sl z10 f11 e12)] 0)),(4,(eptr [(AV.fn 77 [(eptr [(J y14)] 0)])] 0)),(5,(AV.fn 80 [(eptr [(AV.fn 77 [(eptr [(J y14)] 0)])] 0)])),(6,(J t48)),(45,(J y14)),(46,(J t48)),(75,(J 0))] [] ⟨rfl,rfl,rfl,rfl,rfl,rfl,rfl,tv⟩ tv ?_
  refine loopF (σ:=Int) (τ:=Unit) (fun t92 _=>True) (fun t92 _ tm os=>⟨updL tm [(1,(eptr [(J p1.Stack),(J p1.Start),(sl z2 f3 e4),(sl z6 f7 e8),(sl z10 f11 e12)] 0)),(4,(eptr [(AV.fn 77 [(eptr [(J y14)] 0)])] 0)),(5,(AV.fn 80 [(eptr [(AV.fn 77 [(eptr [(J y14)] 0)])] 0)])),(6,(J t48)),(45,(J y14)),(46,(J t48)),(75,(J t92))],updL os [],s.M⟩) ?_ (x:=(0)) (y:=()) h tv
  clear h
  rintro t92 _ tm os - ee2 h hL2 hR2
  unfold impl_ValidRewriter_S2 at h
  refine sr ?_
  refine q (bool (decide ((t92:Int)<2))) ?_
  refine nl ?_
  refine seq ?_
  rcases oite h with ⟨hc93,h⟩ | ⟨hc93,h⟩
  ·refine cT hc93 ?_
   refine skip ?_
   refine seq ?_
   refine block ?_
   refine sr ?_
   refine q (J t92) ?_
   refine aq (J t92) ?_
   refine ns ?_
   refine q (eptr [(J p1.Stack),(J p1.Start),(sl z2 f3 e4),(sl z6 f7 e8),(sl z10 f11 e12)] 2) ?_
   refine lE (sl z2 f3 e4) ?_
   refine q (J t48) ?_
   obtain ⟨x94,h95,h⟩:=obind h
   obtain ⟨v98,h96,h97⟩:=idx_sl h5 h95
   obtain ⟨z99,f100,e101,rfl,h102⟩:=h96
   refine pureR rfl rfl rfl h97 rfl (rfl:_=(eptr [(sl z99 f100 e101)] 0)) ?_
   refine lE (sl z99 f100 e101) ?_
   refine q (J t92) ?_
   obtain ⟨x103,h104,h⟩:=obind h
   obtain ⟨v107,h105,h106⟩:=idx_sl h102 h104
   obtain ⟨_,rfl,h108⟩:=h105
   obtain ⟨_,_,rfl,h109,h110⟩:=Cs_cons h108
   cases h109
   obtain ⟨_,_,rfl,h111,h112⟩:=Cs_cons h110
   cases h111
   obtain ⟨_,_,rfl,h113,h114⟩:=Cs_cons h112
   cases h113
   cases Cs_nil h114
   refine pureR rfl rfl rfl h106 rfl (rfl:_=(eptr [(J x103.To),(J x103.Put),(str x103.Out)] 0)) ?_
   refine lE (agg [(J x103.To),(J x103.Put),(str x103.Out)]) ?_
   refine allocP rfl rfl rfl rfl ⟨rfl,rfl⟩ rfl ?_
   refine stP (v:=(agg [(J x103.To),(J x103.Put),(str x103.Out)])) rfl rfl rfl rfl rfl rfl rfl rfl rfl (lt_b rfl) rfl ?_
   refine ns ?_
   refine lE (AV.fn 77 [(eptr [(J y14)] 0)]) ?_
   refine q (eptr [(J x103.To),(J x103.Put),(str x103.Out)] 0) ?_
   refine lE (J x103.To) ?_
   refine q (eptr [(J x103.To),(J x103.Put),(str x103.Out)] 2) ?_
   refine lE (str x103.Out) ?_
   refine q (agg [(J x103.To),(str x103.Out)]) ?_
   obtain ⟨y115,h116,h⟩:=obind h
   refine callDP (g:=77) (args:=[(agg [(J x103.To),(str x103.Out)]),(eptr [(J y14)] 0)]) (p:=(rB) y115) rfl rfl rfl (impl_ValidRewriter_1_ok  h116 hWF.still) (fun v hv=>Nice.pure (k:=FINK) (p:=(rB) y115) .B _ v hv) ?_
   intro _ o118 h117
   cases h117
   refine q (bool (!y115)) ?_
   refine q (bool (!y115)) ?_
   obtain ⟨b120,hb,h⟩:=obind h
   refine split 8 (fun f'=>∃ tm' os',f'=⟨updL tm' [(1,(eptr [(J p1.Stack),(J p1.Start),(sl z2 f3 e4),(sl z6 f7 e8),(sl z10 f11 e12)] 0)),(4,(eptr [(AV.fn 77 [(eptr [(J y14)] 0)])] 0)),(5,(AV.fn 80 [(eptr [(AV.fn 77 [(eptr [(J y14)] 0)])] 0)])),(6,(J t48)),(7,(J t92)),(45,(J y14)),(46,(J t48)),(75,(J t92)),(102,(bool b120))],updL os' [],s.M⟩) ?_ ?_
   ·rcases oite hb with ⟨hc119,hb⟩ | ⟨hc119,hb⟩
    ·refine kn 94 hc119 ?_
     refine sk ?_
     refine sk ?_
     refine sk ?_
     refine sk ?_
     refine sk ?_
     refine sk ?_
     refine sk ?_
     refine q (bool true) ?_
     exact rR ⟨rfl,rfl,rfl,rfl,rfl,rfl,rfl,rfl,bJ hb,tv⟩
    ·have h:=hb
     refine kn 94 hc119 ?_
     refine q (eptr [(J x103.To),(J x103.Put),(str x103.Out)] 1) ?_
     refine lE (J x103.Put) ?_
     refine q (eptr [(J p1.Stack),(J p1.Start),(sl z2 f3 e4),(sl z6 f7 e8),(sl z10 f11 e12)] 0) ?_
     refine lE (J p1.Stack) ?_
     refine q (J (W (p1.Stack - 1))) ?_
     obtain ⟨y121,h122,h⟩:=obind h
     refine callDP (g:=78) (args:=[(J x103.Put),(J 0),(J (W (p1.Stack - 1)))]) (p:=(rB) y121) rfl rfl rfl (impl_within_ok  h122 hWF.still) (fun v hv=>Nice.pure (k:=FINK) (p:=(rB) y121) .B _ v hv) ?_
     intro _ o124 h123
     cases h123
     refine q (bool (!y121)) ?_
     refine q (bool (!y121)) ?_
     exact rR ⟨rfl,rfl,rfl,rfl,rfl,rfl,rfl,rfl,bJ h,tv⟩
   rintro _ ⟨tm,os,rfl⟩
   refine q (bool b120) ?_
   obtain ⟨b126,hb,h⟩:=obind h
   refine split 15 (fun f'=>∃ tm' os',f'=⟨updL tm' [(1,(eptr [(J p1.Stack),(J p1.Start),(sl z2 f3 e4),(sl z6 f7 e8),(sl z10 f11 e12)] 0)),(4,(eptr [(AV.fn 77 [(eptr [(J y14)] 0)])] 0)),(5,(AV.fn 80 [(eptr [(AV.fn 77 [(eptr [(J y14)] 0)])] 0)])),(6,(J t48)),(45,(J y14)),(46,(J t48)),(75,(J t92)),(118,(bool b126))],updL os' [],s.M⟩) ?_ ?_
   ·rcases oite hb with ⟨hc125,hb⟩ | ⟨hc125,hb⟩
    ·refine kn 103 hc125 ?_
     refine sk ?_
     refine sk ?_
     refine sk ?_
     refine sk ?_
     refine sk ?_
     refine sk ?_
     refine sk ?_
     refine sk ?_
     refine sk ?_
     refine sk ?_
     refine sk ?_
     refine sk ?_
     refine sk ?_
     refine sk ?_
     refine q (bool true) ?_
     exact rR ⟨rfl,rfl,rfl,rfl,rfl,rfl,rfl,bJ hb,tv⟩
    ·have h:=hb
     refine kn 103 hc125 ?_
     refine q (AV.fn 80 [(eptr [(AV.fn 77 [(eptr [(J y14)] 0)])] 0)]) ?_
     refine q (eptr [(J p1.Stack),(J p1.Start),(sl z2 f3 e4),(sl z6 f7 e8),(sl z10 f11 e12)] 3) ?_
     refine lE (sl z6 f7 e8) ?_
     refine q (J t48) ?_
     obtain ⟨x127,h128,h⟩:=obind h
     obtain ⟨v131,h129,h130⟩:=idx_sl h9 h128
     obtain ⟨z132,f133,e134,rfl,h135⟩:=h129
     refine pureR rfl rfl rfl h130 rfl (rfl:_=(eptr [(sl z132 f133 e134)] 0)) ?_
     refine lE (sl z132 f133 e134) ?_
     refine q (J t92) ?_
     obtain ⟨x136,h137,h⟩:=obind h
     obtain ⟨v140,h138,h139⟩:=idx_sl h135 h137
     obtain ⟨z141,f142,e143,rfl,h144⟩:=h138
     refine pureR rfl rfl rfl h139 rfl (rfl:_=(eptr [(sl z141 f142 e143)] 0)) ?_
     refine lE (sl z141 f142 e143) ?_
     refine q (eptr [(J p1.Stack),(J p1.Start),(sl z2 f3 e4),(sl z6 f7 e8),(sl z10 f11 e12)] 0) ?_
     refine lE (J p1.Stack) ?_
     refine q (J (W (p1.Stack+1))) ?_
     obtain ⟨y150,h151,h⟩:=obind h
     refine callDP (g:=80) (args:=[(sl z141 f142 e143),(J (W (p1.Stack+1))),(eptr [(AV.fn 77 [(eptr [(J y14)] 0)])] 0)]) (p:=(rB) y150) rfl rfl rfl (impl_ValidRewriter_2_ok h144 (by intro x vs y hc hx s hs; obtain ⟨_,_,rfl,hv0,hd0⟩:=Cs_cons hc; obtain ⟨_,rfl,h145⟩:=hv0; obtain ⟨_,_,rfl,h146,h147⟩:=Cs_cons h145; cases h146; obtain ⟨_,_,rfl,h148,h149⟩:=Cs_cons h147; cases h148; cases Cs_nil h149; cases Cs_nil hd0; exact impl_ValidRewriter_1_ok  hx hs) h151 hWF.still) (fun v hv=>Nice.pure (k:=FINK) (p:=(rB) y150) .B _ v hv) ?_
     intro _ o153 h152
     cases h152
     refine q (bool (!y150)) ?_
     refine q (bool (!y150)) ?_
     exact rR ⟨rfl,rfl,rfl,rfl,rfl,rfl,rfl,bJ h,tv⟩
   rintro _ ⟨tm,os,rfl⟩
   refine nl ?_
   rcases oite h with ⟨hc154,h⟩ | ⟨hc154,h⟩
   ·refine cT hc154 ?_
    refine sr ?_
    refine q (bool false) ?_
    refine nl ?_
    cases h
    have hr:=hR2 _ rfl
    cases hr
    have hr:=hR1 _ rfl
    subst hr
    exact ret ⟨rfl,_,_,rfl,rfl⟩
   refine cF hc154 ?_
   refine skip ?_
   refine inBlock ?_
   refine region ?_
   refine q (J (W (t92+1))) ?_
   refine q (J (W (t92+1))) ?_
   refine nl ?_
   cases h
   exact res [(1,(eptr [(J p1.Stack),(J p1.Start),(sl z2 f3 e4),(sl z6 f7 e8),(sl z10 f11 e12)] 0)),(4,(eptr [(AV.fn 77 [(eptr [(J y14)] 0)])] 0)),(5,(AV.fn 80 [(eptr [(AV.fn 77 [(eptr [(J y14)] 0)])] 0)])),(6,(J t48)),(45,(J y14)),(46,(J t48)),(75,(J (W (t92+1))))] [] ⟨rfl,rfl,rfl,rfl,rfl,rfl,rfl,tv⟩ tv (hL2 _ rfl () _ _ tv)
  refine cF hc93 ?_
  refine exit rfl ?_
  obtain ⟨r155,hm,hx⟩:=omap h
  clear h
  subst hx
  have hx:=hR2 _ rfl
  rw[hx] at hm
  have h:=hm
  exact res [(1,(eptr [(J p1.Stack),(J p1.Start),(sl z2 f3 e4),(sl z6 f7 e8),(sl z10 f11 e12)] 0)),(4,(eptr [(AV.fn 77 [(eptr [(J y14)] 0)])] 0)),(5,(AV.fn 80 [(eptr [(AV.fn 77 [(eptr [(J y14)] 0)])] 0)])),(45,(J y14)),(46,(J t48))] [] ⟨rfl,rfl,rfl,rfl,rfl,tv⟩ tv (KJ91 () _ _ h)
 refine cF hc49 ?_
 refine exit rfl ?_
 obtain ⟨r156,hm,hx⟩:=omap h
 clear h
 subst hx
 have hx:=hR1 _ rfl
 rw[hx] at hm
 have h:=hm
 exact res [] [] tv tv (KJ47 () _ _ h)
theorem impl_Checker_isState_ok {c1:Checker} {s18:Int} {z2 z6 z10 z14:Nat} {f3 f7 f11 f15:Bool} {e4 e8 e12 e16:List AV} {s:St} (h5:LR rB 1 c1.Accept z2 e4) (h9:LR (rL rPush 2) 1 c1.Call z6 e8) (h13:LR (rL (rL rJ 1) 1) 1 c1.Return z10 e12) (h17:LR (rL rJ 1) 1 c1.Inner z14 e16) {r:Bool} (h:impl_Checker_isState c1 s18=some r) (hs:WF s):ACall Cf 86 [(agg [(J c1.Stack),(J c1.Start),(sl z2 f3 e4),(sl z6 f7 e8),(sl z10 f11 e12),(sl z14 f15 e16)]),(J s18)] s fun v _ s'=>(rB) r v∧s'=s:=by
 refine ACall.pure rfl rfl rfl .B ?_
 have hWF:=hs.lo'
 unfold impl_Checker_isState at h
 refine sr<|makeR rfl rfl rfl rfl rfl rfl (rfl:_=(eptr [(J c1.Stack),(J c1.Start),(sl z2 f3 e4),(sl z6 f7 e8),(sl z10 f11 e12),(sl z14 f15 e16)] 0))<|q (bool false)<|ns ?_
 refine q (J s18) ?_
 refine q (eptr [(J c1.Stack),(J c1.Start),(sl z2 f3 e4),(sl z6 f7 e8),(sl z10 f11 e12),(sl z14 f15 e16)] 2) ?_
 refine lE (sl z2 f3 e4) ?_
 obtain ⟨y19,h20,h⟩:=obind h
 refine cP (impl_size_bool_ok h5 h20 hWF) ?_
 intro _ o22 h21
 cases h21
 refine q (J (W (y19 - 1))) ?_
 obtain ⟨y23,h24,h⟩:=obind h
 refine cP (impl_within_ok  h24 hWF) ?_
 intro _ o26 h25
 cases h25
 refine aq (bool y23)<|nl ?_
 cases h
 exact ret ⟨rfl,_,_,rfl,rfl⟩
theorem impl_size_simpl_Push_ok {list1:List (List Push)} {z2:Nat} {f3:Bool} {e4:List AV} {s:St} (h5:LR (rL rPush 2) 1 list1 z2 e4) {r:Int} (h:impl_size_simpl_Push list1=some r) (hs:WF s):ACall Cf 87 [(sl z2 f3 e4)] s fun v _ s'=>rJ r v∧s'=s:=by
 refine ACall.pure rfl rfl rfl .I ?_
 have hWF:=hs.lo'
 unfold impl_size_simpl_Push at h
 refine sr<|q (J 0)<|ns ?_
 refine q (sl z2 f3 e4)<|AOps.p rfl (len_eq h5) ?_
 refine aq (J (list1.length:Int))<|nl ?_
 cases h
 exact ret ⟨rfl,_,_,rfl,rfl⟩
theorem impl_size_s_int64_ok {list1:List (List (List Int))} {z2:Nat} {f3:Bool} {e4:List AV} {s:St} (h5:LR (rL (rL rJ 1) 1) 1 list1 z2 e4) {r:Int} (h:impl_size_s_int64 list1=some r) (hs:WF s):ACall Cf 88 [(sl z2 f3 e4)] s fun v _ s'=>rJ r v∧s'=s:=by
 refine ACall.pure rfl rfl rfl .I ?_
 have hWF:=hs.lo'
 unfold impl_size_s_int64 at h
 refine sr<|q (J 0)<|ns ?_
 refine q (sl z2 f3 e4)<|AOps.p rfl (len_eq h5) ?_
 refine aq (J (list1.length:Int))<|nl ?_
 cases h
 exact ret ⟨rfl,_,_,rfl,rfl⟩
theorem impl_size_sint64_ok {list1:List (List Int)} {z2:Nat} {f3:Bool} {e4:List AV} {s:St} (h5:LR (rL rJ 1) 1 list1 z2 e4) {r:Int} (h:impl_size_sint64 list1=some r) (hs:WF s):ACall Cf 89 [(sl z2 f3 e4)] s fun v _ s'=>rJ r v∧s'=s:=by
 refine ACall.pure rfl rfl rfl .I ?_
 have hWF:=hs.lo'
 unfold impl_size_sint64 at h
 refine sr<|q (J 0)<|ns ?_
 refine q (sl z2 f3 e4)<|AOps.p rfl (len_eq h5) ?_
 refine aq (J (list1.length:Int))<|nl ?_
 cases h
 exact ret ⟨rfl,_,_,rfl,rfl⟩
theorem impl_size_int64_ok {list1:List Int} {z2:Nat} {f3:Bool} {e4:List AV} {s:St} (h5:LR rJ 1 list1 z2 e4) {r:Int} (h:impl_size_int64 list1=some r) (hs:WF s):ACall Cf 91 [(sl z2 f3 e4)] s fun v _ s'=>rJ r v∧s'=s:=by
 refine ACall.pure rfl rfl rfl .I ?_
 have hWF:=hs.lo'
 unfold impl_size_int64 at h
 refine sr<|q (J 0)<|ns ?_
 refine q (sl z2 f3 e4)<|AOps.p rfl (len_eq h5) ?_
 refine aq (J (list1.length:Int))<|nl ?_
 cases h
 exact ret ⟨rfl,_,_,rfl,rfl⟩
theorem slices_IndexFunc_sint64_int64_ok {s1:List Int} {f6:Int→Option Bool} {z2 g7:Nat} {f3:Bool} {e4 cap8:List AV} {s:St} (h5:LR rJ 1 s1 z2 e4) (h9:∀ x vs y,Cs [rJ x] vs→f6 x=some y→∀ s,WF s→ACall Cf g7 (vs++cap8) s fun v _ s'=>(rB) y v∧s'=s) {r:Int} (h:slices_IndexFunc_sint64_int64 s1 f6=some r) (hs:WF s):ACall Cf 120 [(sl z2 f3 e4),(AV.fn g7 cap8)] s fun v _ s'=>rJ r v∧s'=s:=by
 refine ACall.pure rfl rfl rfl .I ?_
 have hWF:=hs.lo'
 unfold slices_IndexFunc_sint64_int64 at h
 refine sr<|q (J 0)<|nl ?_
 refine seq<|sr<|q (sl z2 f3 e4)<|AOps.p rfl (len_eq h5)<|q (J 0)<|nl ?_
 refine meet (σ:=Unit) (fun _ tm os=>⟨updL tm [],updL os [],s.M⟩) (fun _=>slices_IndexFunc_sint64_int64_J1=some r) ?_ ?_
 ·rintro _ tm os h
  unfold slices_IndexFunc_sint64_int64_J1 at h
  refine sr<|q (J (-1))<|nl ?_
  cases h
  exact ret ⟨rfl,_,_,rfl,rfl⟩
 intro KJ10
 refine block<|res [(0,(sl z2 f3 e4)),(1,(AV.fn g7 cap8)),(7,(J (s1.length:Int))),(8,(J 0))] [] ⟨rfl,rfl,rfl,rfl,tv⟩ tv ?_
 refine loopF (σ:=Int) (τ:=Unit) (fun t11 _=>True) (fun t11 _ tm os=>⟨updL tm [(0,(sl z2 f3 e4)),(1,(AV.fn g7 cap8)),(7,(J (s1.length:Int))),(8,(J t11))],updL os [],s.M⟩) ?_ (x:=(0)) (y:=()) h tv
 clear h
 rintro t11 _ tm os - ee1 h hL1 hR1
 unfold slices_IndexFunc_sint64_int64_S1 at h
 refine sr<|q (bool (decide ((t11:Int)<(s1.length:Int))))<|nl ?_
 refine seq ?_
 rcases oite h with ⟨hc12,h⟩ | ⟨hc12,h⟩
 ·refine cT hc12<|skip<|seq<|block<|sr<|q (J t11) ?_
  refine aq (J t11)<|ns ?_
  refine q (AV.fn g7 cap8) ?_
  refine q (sl z2 f3 e4) ?_
  refine q (J t11) ?_
  obtain ⟨x13,h14,h⟩:=obind h
  obtain ⟨v17,h15,h16⟩:=idx_sl h5 h14
  cases h15
  refine pureR rfl rfl rfl h16 rfl (rfl:_=(eptr [(J x13)] 0))<|lE (J x13) ?_
  obtain ⟨y18,h19,h⟩:=obind h
  refine callP (g:=g7) (args:=([(J x13)]++cap8)) (p:=(rB) y18) rfl rfl rfl (h9 x13 _ _ (.cons rfl .nil) h19 _ hWF) ?_
  intro _ o21 h20
  cases h20
  refine nl ?_
  rcases oite h with ⟨hc22,h⟩ | ⟨hc22,h⟩
  ·refine cT hc22<|sr<|q (J t11) ?_
   refine aq (J t11)<|nl ?_
   cases h
   have hr:=hR1 _ rfl
   subst hr
   exact ret ⟨rfl,_,_,rfl,rfl⟩
  refine cF hc22<|skip<|inBlock<|region<|q (J (W (t11+1))) ?_
  refine q (J (W (t11+1)))<|nl ?_
  cases h
  exact res [(0,(sl z2 f3 e4)),(1,(AV.fn g7 cap8)),(7,(J (s1.length:Int))),(8,(J (W (t11+1))))] [] ⟨rfl,rfl,rfl,rfl,tv⟩ tv (hL1 _ rfl () _ _ tv)
 refine cF hc12<|exit rfl ?_
 obtain ⟨r23,hm,hx⟩:=omap h
 clear h
 subst hx
 have hx:=hR1 _ rfl
 rw[hx] at hm
 have h:=hm
 exact res [] [] tv tv (KJ10 () _ _ h)
theorem slices_ContainsFunc_sint64_int64_ok {s1:List Int} {f6:Int→Option Bool} {z2 g7:Nat} {f3:Bool} {e4 cap8:List AV} {s:St} (h5:LR rJ 1 s1 z2 e4) (h9:∀ x vs y,Cs [rJ x] vs→f6 x=some y→∀ s,WF s→ACall Cf g7 (vs++cap8) s fun v _ s'=>(rB) y v∧s'=s) {r:Bool} (h:slices_ContainsFunc_sint64_int64 s1 f6=some r) (hs:WF s):ACall Cf 92 [(sl z2 f3 e4),(AV.fn g7 cap8)] s fun v _ s'=>(rB) r v∧s'=s:=by
 refine ACall.pure rfl rfl rfl .B ?_
 have hWF:=hs.lo'
 unfold slices_ContainsFunc_sint64_int64 at h
 refine sr<|q (bool false)<|ns ?_
 refine q (sl z2 f3 e4) ?_
 refine q (AV.fn g7 cap8) ?_
 obtain ⟨y10,h11,h⟩:=obind h
 refine cP (slices_IndexFunc_sint64_int64_ok h5 h9 h11 hWF) ?_
 intro _ o13 h12
 cases h12
 refine q (bool (decide ((y10:Int)≥0))) ?_
 refine aq (bool (decide ((y10:Int)≥0)))<|nl ?_
 cases h
 exact ret ⟨rfl,_,_,rfl,rfl⟩
theorem impl_ValidChecker_1_1_ok {s1:Int} {c2:Checker} {z3 z7 z11 z15:Nat} {f4 f8 f12 f16:Bool} {e5 e9 e13 e17:List AV} {s:St} (h6:LR rB 1 c2.Accept z3 e5) (h10:LR (rL rPush 2) 1 c2.Call z7 e9) (h14:LR (rL (rL rJ 1) 1) 1 c2.Return z11 e13) (h18:LR (rL rJ 1) 1 c2.Inner z15 e17) {r:Bool} (h:impl_ValidChecker_1_1 s1 c2=some r) (hs:WF s):ACall Cf 93 [(J s1),(eptr [(J c2.Stack),(J c2.Start),(sl z3 f4 e5),(sl z7 f8 e9),(sl z11 f12 e13),(sl z15 f16 e17)] 0)] s fun v _ s'=>(rB) r v∧s'=s:=by
 refine ACall.pure rfl rfl rfl .B ?_
 have hWF:=hs.lo'
 unfold impl_ValidChecker_1_1 at h
 refine sr<|q (bool false)<|ns ?_
 refine lE (agg [(J c2.Stack),(J c2.Start),(sl z3 f4 e5),(sl z7 f8 e9),(sl z11 f12 e13),(sl z15 f16 e17)]) ?_
 refine q (J s1) ?_
 obtain ⟨y19,h20,h⟩:=obind h
 refine cP (impl_Checker_isState_ok h6 h10 h14 h18 h20 hWF) ?_
 intro _ o22 h21
 cases h21
 refine q (bool (!y19)) ?_
 refine aq (bool (!y19))<|nl ?_
 cases h
 exact ret ⟨rfl,_,_,rfl,rfl⟩
theorem impl_ValidChecker_1_ok {list1:List Int} {many6:Int} {c7:Checker} {z2 z8 z12 z16 z20:Nat} {f3 f9 f13 f17 f21:Bool} {e4 e10 e14 e18 e22:List AV} {s:St} (h5:LR rJ 1 list1 z2 e4) (h11:LR rB 1 c7.Accept z8 e10) (h15:LR (rL rPush 2) 1 c7.Call z12 e14) (h19:LR (rL (rL rJ 1) 1) 1 c7.Return z16 e18) (h23:LR (rL rJ 1) 1 c7.Inner z20 e22) {r:Bool} (h:impl_ValidChecker_1 list1 many6 c7=some r) (hs:WF s):ACall Cf 90 [(sl z2 f3 e4),(J many6),(eptr [(J c7.Stack),(J c7.Start),(sl z8 f9 e10),(sl z12 f13 e14),(sl z16 f17 e18),(sl z20 f21 e22)] 0)] s fun v _ s'=>(rB) r v∧s'=s:=by
 refine ACall.pure rfl rfl rfl .B ?_
 have hWF:=hs.lo'
 unfold impl_ValidChecker_1 at h
 refine sr<|q (bool false)<|ns ?_
 refine q (sl z2 f3 e4) ?_
 obtain ⟨y24,h25,h⟩:=obind h
 refine callP (g:=91) (args:=[(sl z2 f3 e4)]) (p:=rJ y24) rfl rfl rfl (impl_size_int64_ok h5 h25 hWF) ?_
 intro _ o27 h26
 cases h26
 refine q (J many6) ?_
 refine q (bool (y24 == many6)) ?_
 refine q (bool (y24 == many6)) ?_
 obtain ⟨b29,hb,h⟩:=obind h
 refine split 5 (fun f'=>∃ tm' os',f'=⟨updL tm' [(15,(bool b29))],updL os' [],s.M⟩) ?_ ?_
 ·rcases oite hb with ⟨hc28,hb⟩ | ⟨hc28,hb⟩
  ·have h:=hb
   refine AOps.know (d:=10) rfl hc28<|q (sl z2 f3 e4) ?_
   refine q (AV.fn 93 [(eptr [(J c7.Stack),(J c7.Start),(sl z8 f9 e10),(sl z12 f13 e14),(sl z16 f17 e18),(sl z20 f21 e22)] 0)]) ?_
   obtain ⟨y30,h31,h⟩:=obind h
   refine callP (g:=92) (args:=[(sl z2 f3 e4),(AV.fn 93 [(eptr [(J c7.Stack),(J c7.Start),(sl z8 f9 e10),(sl z12 f13 e14),(sl z16 f17 e18),(sl z20 f21 e22)] 0)])]) (p:=(rB) y30) rfl rfl rfl (slices_ContainsFunc_sint64_int64_ok h5 (by intro x vs y hc hx s hs; obtain ⟨_,_,rfl,hv0,hd0⟩:=Cs_cons hc; cases hv0; cases Cs_nil hd0; exact impl_ValidChecker_1_1_ok h11 h15 h19 h23 hx hs) h31 hWF) ?_
   intro _ o33 h32
   cases h32
   refine q (bool (!y30)) ?_
   refine q (bool (!y30)) ?_
   refine AOps.resR [(15,(bool b29))] [] ?_ ?_ _ ⟨_,_,rfl⟩
   ·exact ⟨bJ h,tv⟩
   exact tv
  ·refine AOps.know (d:=10) rfl hc28<|sk ?_
   refine sk ?_
   refine sk ?_
   refine sk ?_
   refine q (bool false) ?_
   refine AOps.resR [(15,(bool b29))] [] ?_ ?_ _ ⟨_,_,rfl⟩
   ·exact ⟨bJ hb,tv⟩
   exact tv
 rintro _ ⟨tm,os,rfl⟩
 refine aq (bool b29)<|nl ?_
 cases h
 exact ret ⟨rfl,_,_,rfl,rfl⟩
theorem impl_Checker_isMark_ok {c1:Checker} {x18:Int} {z2 z6 z10 z14:Nat} {f3 f7 f11 f15:Bool} {e4 e8 e12 e16:List AV} {s:St} (h5:LR rB 1 c1.Accept z2 e4) (h9:LR (rL rPush 2) 1 c1.Call z6 e8) (h13:LR (rL (rL rJ 1) 1) 1 c1.Return z10 e12) (h17:LR (rL rJ 1) 1 c1.Inner z14 e16) {r:Bool} (h:impl_Checker_isMark c1 x18=some r) (hs:WF s):ACall Cf 94 [(agg [(J c1.Stack),(J c1.Start),(sl z2 f3 e4),(sl z6 f7 e8),(sl z10 f11 e12),(sl z14 f15 e16)]),(J x18)] s fun v _ s'=>(rB) r v∧s'=s:=by
 refine ACall.pure rfl rfl rfl .B ?_
 have hWF:=hs.lo'
 unfold impl_Checker_isMark at h
 refine sr<|makeR rfl rfl rfl rfl rfl rfl (rfl:_=(eptr [(J c1.Stack),(J c1.Start),(sl z2 f3 e4),(sl z6 f7 e8),(sl z10 f11 e12),(sl z14 f15 e16)] 0))<|q (bool false)<|ns ?_
 refine q (J x18) ?_
 refine q (eptr [(J c1.Stack),(J c1.Start),(sl z2 f3 e4),(sl z6 f7 e8),(sl z10 f11 e12),(sl z14 f15 e16)] 0) ?_
 refine lE (J c1.Stack) ?_
 refine q (J (W (c1.Stack - 1))) ?_
 obtain ⟨y19,h20,h⟩:=obind h
 refine cP (impl_within_ok  h20 hWF) ?_
 intro _ o22 h21
 cases h21
 refine aq (bool y19)<|nl ?_
 cases h
 exact ret ⟨rfl,_,_,rfl,rfl⟩
theorem impl_ValidChecker_ok {p1:Checker} {z2 z6 z10 z14:Nat} {f3 f7 f11 f15:Bool} {e4 e8 e12 e16:List AV} {s:St} (h5:LR rB 1 p1.Accept z2 e4) (h9:LR (rL rPush 2) 1 p1.Call z6 e8) (h13:LR (rL (rL rJ 1) 1) 1 p1.Return z10 e12) (h17:LR (rL rJ 1) 1 p1.Inner z14 e16) {r:Bool} (h:impl_ValidChecker p1=some r) (hs:WF s):ACall Cf 35 [(agg [(J p1.Stack),(J p1.Start),(sl z2 f3 e4),(sl z6 f7 e8),(sl z10 f11 e12),(sl z14 f15 e16)])] s fun v _ s'=>(rB) r v∧s'=s:=by
 refine ACall.pure rfl rfl rfl .B ?_
 have hWF:=hs.lo'
 unfold impl_ValidChecker at h
 refine sr ?_
 refine makeR rfl rfl rfl rfl rfl rfl (rfl:_=(eptr [(J p1.Stack),(J p1.Start),(sl z2 f3 e4),(sl z6 f7 e8),(sl z10 f11 e12),(sl z14 f15 e16)] 0)) ?_
 refine q (bool false) ?_
 refine ns ?_
 refine q (eptr [(J p1.Stack),(J p1.Start),(sl z2 f3 e4),(sl z6 f7 e8),(sl z10 f11 e12),(sl z14 f15 e16)] 2) ?_
 refine lE (sl z2 f3 e4) ?_
 obtain ⟨y18,h19,h⟩:=obind h
 refine cP (impl_size_bool_ok h5 h19 hWF) ?_
 intro _ o21 h20
 cases h20
 refine aq (J y18) ?_
 refine nl ?_
 refine seq ?_
 refine sr ?_
 refine q (J y18) ?_
 obtain ⟨y22,h23,h⟩:=obind h
 refine cP (impl_within_ok  h23 hWF) ?_
 intro _ o25 h24
 cases h24
 refine q (bool (!y22)) ?_
 refine q (bool (!y22)) ?_
 obtain ⟨b27,hb,h⟩:=obind h
 refine split 5 (fun f'=>∃ tm' os',f'=⟨updL tm' [(1,(eptr [(J p1.Stack),(J p1.Start),(sl z2 f3 e4),(sl z6 f7 e8),(sl z10 f11 e12),(sl z14 f15 e16)] 0)),(3,(J y18)),(19,(bool b27))],updL os' [],s.M⟩) ?_ ?_
 ·rcases oite hb with ⟨hc26,hb⟩ | ⟨hc26,hb⟩
  ·refine kn 14 hc26 ?_
   refine sk ?_
   refine sk ?_
   refine sk ?_
   refine sk ?_
   refine q (bool true) ?_
   exact rR ⟨rfl,rfl,bJ hb,tv⟩
  ·have h:=hb
   refine kn 14 hc26 ?_
   refine q (eptr [(J p1.Stack),(J p1.Start),(sl z2 f3 e4),(sl z6 f7 e8),(sl z10 f11 e12),(sl z14 f15 e16)] 0) ?_
   refine lE (J p1.Stack) ?_
   obtain ⟨y28,h29,h⟩:=obind h
   refine cP (impl_within_ok  h29 hWF) ?_
   intro _ o31 h30
   cases h30
   refine q (bool (!y28)) ?_
   refine q (bool (!y28)) ?_
   exact rR ⟨rfl,rfl,bJ h,tv⟩
 rintro _ ⟨tm,os,rfl⟩
 refine q (bool b27) ?_
 obtain ⟨b33,hb,h⟩:=obind h
 refine split 6 (fun f'=>∃ tm' os',f'=⟨updL tm' [(1,(eptr [(J p1.Stack),(J p1.Start),(sl z2 f3 e4),(sl z6 f7 e8),(sl z10 f11 e12),(sl z14 f15 e16)] 0)),(3,(J y18)),(26,(bool b33))],updL os' [],s.M⟩) ?_ ?_
 ·rcases oite hb with ⟨hc32,hb⟩ | ⟨hc32,hb⟩
  ·refine kn 20 hc32 ?_
   refine sk ?_
   refine sk ?_
   refine sk ?_
   refine sk ?_
   refine sk ?_
   refine q (bool true) ?_
   exact rR ⟨rfl,rfl,bJ hb,tv⟩
  ·have h:=hb
   refine kn 20 hc32 ?_
   refine lE (agg [(J p1.Stack),(J p1.Start),(sl z2 f3 e4),(sl z6 f7 e8),(sl z10 f11 e12),(sl z14 f15 e16)]) ?_
   refine q (eptr [(J p1.Stack),(J p1.Start),(sl z2 f3 e4),(sl z6 f7 e8),(sl z10 f11 e12),(sl z14 f15 e16)] 1) ?_
   refine lE (J p1.Start) ?_
   obtain ⟨y34,h35,h⟩:=obind h
   refine cP (impl_Checker_isState_ok h5 h9 h13 h17 h35 hWF) ?_
   intro _ o37 h36
   cases h36
   refine q (bool (!y34)) ?_
   refine q (bool (!y34)) ?_
   exact rR ⟨rfl,rfl,bJ h,tv⟩
 rintro _ ⟨tm,os,rfl⟩
 refine q (bool b33) ?_
 obtain ⟨b39,hb,h⟩:=obind h
 refine split 6 (fun f'=>∃ tm' os',f'=⟨updL tm' [(1,(eptr [(J p1.Stack),(J p1.Start),(sl z2 f3 e4),(sl z6 f7 e8),(sl z10 f11 e12),(sl z14 f15 e16)] 0)),(3,(J y18)),(33,(bool b39))],updL os' [],s.M⟩) ?_ ?_
 ·rcases oite hb with ⟨hc38,hb⟩ | ⟨hc38,hb⟩
  ·refine kn 27 hc38 ?_
   refine sk ?_
   refine sk ?_
   refine sk ?_
   refine sk ?_
   refine sk ?_
   refine q (bool true) ?_
   exact rR ⟨rfl,rfl,bJ hb,tv⟩
  ·have h:=hb
   refine kn 27 hc38 ?_
   refine q (eptr [(J p1.Stack),(J p1.Start),(sl z2 f3 e4),(sl z6 f7 e8),(sl z10 f11 e12),(sl z14 f15 e16)] 3) ?_
   refine lE (sl z6 f7 e8) ?_
   obtain ⟨y40,h41,h⟩:=obind h
   refine cP (impl_size_simpl_Push_ok h9 h41 hWF) ?_
   intro _ o43 h42
   cases h42
   refine q (J y18) ?_
   refine q (bool (y40 != y18)) ?_
   refine q (bool (y40 != y18)) ?_
   exact rR ⟨rfl,rfl,bJ h,tv⟩
 rintro _ ⟨tm,os,rfl⟩
 refine q (bool b39) ?_
 obtain ⟨b45,hb,h⟩:=obind h
 refine split 6 (fun f'=>∃ tm' os',f'=⟨updL tm' [(1,(eptr [(J p1.Stack),(J p1.Start),(sl z2 f3 e4),(sl z6 f7 e8),(sl z10 f11 e12),(sl z14 f15 e16)] 0)),(3,(J y18)),(40,(bool b45))],updL os' [],s.M⟩) ?_ ?_
 ·rcases oite hb with ⟨hc44,hb⟩ | ⟨hc44,hb⟩
  ·refine kn 34 hc44 ?_
   refine sk ?_
   refine sk ?_
   refine sk ?_
   refine sk ?_
   refine sk ?_
   refine q (bool true) ?_
   exact rR ⟨rfl,rfl,bJ hb,tv⟩
  ·have h:=hb
   refine kn 34 hc44 ?_
   refine q (eptr [(J p1.Stack),(J p1.Start),(sl z2 f3 e4),(sl z6 f7 e8),(sl z10 f11 e12),(sl z14 f15 e16)] 4) ?_
   refine lE (sl z10 f11 e12) ?_
   obtain ⟨y46,h47,h⟩:=obind h
   refine cP (impl_size_s_int64_ok h13 h47 hWF) ?_
   intro _ o49 h48
   cases h48
   refine q (J y18) ?_
   refine q (bool (y46 != y18)) ?_
   refine q (bool (y46 != y18)) ?_
   exact rR ⟨rfl,rfl,bJ h,tv⟩
 rintro _ ⟨tm,os,rfl⟩
 refine q (bool b45) ?_
 obtain ⟨b51,hb,h⟩:=obind h
 refine split 6 (fun f'=>∃ tm' os',f'=⟨updL tm' [(1,(eptr [(J p1.Stack),(J p1.Start),(sl z2 f3 e4),(sl z6 f7 e8),(sl z10 f11 e12),(sl z14 f15 e16)] 0)),(3,(J y18)),(47,(bool b51))],updL os' [],s.M⟩) ?_ ?_
 ·rcases oite hb with ⟨hc50,hb⟩ | ⟨hc50,hb⟩
  ·refine kn 41 hc50 ?_
   refine sk ?_
   refine sk ?_
   refine sk ?_
   refine sk ?_
   refine sk ?_
   refine q (bool true) ?_
   exact rR ⟨rfl,rfl,bJ hb,tv⟩
  ·have h:=hb
   refine kn 41 hc50 ?_
   refine q (eptr [(J p1.Stack),(J p1.Start),(sl z2 f3 e4),(sl z6 f7 e8),(sl z10 f11 e12),(sl z14 f15 e16)] 5) ?_
   refine lE (sl z14 f15 e16) ?_
   obtain ⟨y52,h53,h⟩:=obind h
   refine cP (impl_size_sint64_ok h17 h53 hWF) ?_
   intro _ o55 h54
   cases h54
   refine q (J y18) ?_
   refine q (bool (y52 != y18)) ?_
   refine q (bool (y52 != y18)) ?_
   exact rR ⟨rfl,rfl,bJ h,tv⟩
 rintro _ ⟨tm,os,rfl⟩
 refine nl ?_
 rcases oite h with ⟨hc56,h⟩ | ⟨hc56,h⟩
 ·refine cT hc56 ?_
  refine sr ?_
  refine q (bool false) ?_
  refine nl ?_
  cases h
  exact ret ⟨rfl,_,_,rfl,rfl⟩
 refine cF hc56 ?_
 refine skip ?_
 refine sr ?_
 refine q (AV.fn 90 [(eptr [(J p1.Stack),(J p1.Start),(sl z2 f3 e4),(sl z6 f7 e8),(sl z10 f11 e12),(sl z14 f15 e16)] 0)]) ?_
 refine aq (AV.fn 90 [(eptr [(J p1.Stack),(J p1.Start),(sl z2 f3 e4),(sl z6 f7 e8),(sl z10 f11 e12),(sl z14 f15 e16)] 0)]) ?_
 refine nl ?_
 refine seq ?_
 refine sr ?_
 refine q (J y18) ?_
 refine q (J 0) ?_
 refine nl ?_
 refine meet (σ:=Unit) (fun _ tm os=>⟨updL tm [],updL os [],s.M⟩) (fun _=>impl_ValidChecker_J1=some r) ?_ ?_
 ·rintro _ tm os h
  unfold impl_ValidChecker_J1 at h
  refine sr ?_
  refine q (bool true) ?_
  refine nl ?_
  cases h
  exact ret ⟨rfl,_,_,rfl,rfl⟩
 intro KJ57
 refine block ?_
 refine res [(1,(eptr [(J p1.Stack),(J p1.Start),(sl z2 f3 e4),(sl z6 f7 e8),(sl z10 f11 e12),(sl z14 f15 e16)] 0)),(4,(AV.fn 90 [(eptr [(J p1.Stack),(J p1.Start),(sl z2 f3 e4),(sl z6 f7 e8),(sl z10 f11 e12),(sl z14 f15 e16)] 0)])),(49,(J y18)),(50,(J 0))] [] ⟨rfl,rfl,rfl,rfl,tv⟩ tv ?_
 refine loopF (σ:=Int) (τ:=Unit) (fun t58 _=>True) (fun t58 _ tm os=>⟨updL tm [(1,(eptr [(J p1.Stack),(J p1.Start),(sl z2 f3 e4),(sl z6 f7 e8),(sl z10 f11 e12),(sl z14 f15 e16)] 0)),(4,(AV.fn 90 [(eptr [(J p1.Stack),(J p1.Start),(sl z2 f3 e4),(sl z6 f7 e8),(sl z10 f11 e12),(sl z14 f15 e16)] 0)])),(49,(J y18)),(50,(J t58))],updL os [],s.M⟩) ?_ (x:=(0)) (y:=()) h tv
 clear h
 rintro t58 _ tm os - ee1 h hL1 hR1
 unfold impl_ValidChecker_S1 at h
 refine sr ?_
 refine q (bool (decide ((t58:Int)<y18))) ?_
 refine nl ?_
 refine seq ?_
 rcases oite h with ⟨hc59,h⟩ | ⟨hc59,h⟩
 ·refine cT hc59 ?_
  refine skip ?_
  refine seq ?_
  refine block ?_
  refine sr ?_
  refine q (J t58) ?_
  refine aq (J t58) ?_
  refine nl ?_
  refine seq ?_
  refine sr ?_
  refine q (eptr [(J p1.Stack),(J p1.Start),(sl z2 f3 e4),(sl z6 f7 e8),(sl z10 f11 e12),(sl z14 f15 e16)] 3) ?_
  refine lE (sl z6 f7 e8) ?_
  refine q (J t58) ?_
  obtain ⟨x60,h61,h⟩:=obind h
  obtain ⟨v64,h62,h63⟩:=idx_sl h9 h61
  obtain ⟨z65,f66,e67,rfl,h68⟩:=h62
  refine pureR rfl rfl rfl h63 rfl (rfl:_=(eptr [(sl z65 f66 e67)] 0)) ?_
  refine lE (sl z65 f66 e67) ?_
  refine AOps.p rfl (len_eq h68) ?_
  refine q (bool ((x60.length:Int) != 2)) ?_
  refine q (bool ((x60.length:Int) != 2)) ?_
  obtain ⟨b70,hb,h⟩:=obind h
  refine split 8 (fun f'=>∃ tm' os',f'=⟨updL tm' [(1,(eptr [(J p1.Stack),(J p1.Start),(sl z2 f3 e4),(sl z6 f7 e8),(sl z10 f11 e12),(sl z14 f15 e16)] 0)),(4,(AV.fn 90 [(eptr [(J p1.Stack),(J p1.Start),(sl z2 f3 e4),(sl z6 f7 e8),(sl z10 f11 e12),(sl z14 f15 e16)] 0)])),(5,(J t58)),(49,(J y18)),(50,(J t58)),(68,(bool b70))],updL os' [],s.M⟩) ?_ ?_
  ·rcases oite hb with ⟨hc69,hb⟩ | ⟨hc69,hb⟩
   ·refine kn 60 hc69 ?_
    refine sk ?_
    refine sk ?_
    refine sk ?_
    refine sk ?_
    refine sk ?_
    refine sk ?_
    refine sk ?_
    refine q (bool true) ?_
    exact rR ⟨rfl,rfl,rfl,rfl,rfl,bJ hb,tv⟩
   ·have h:=hb
    refine kn 60 hc69 ?_
    refine q (eptr [(J p1.Stack),(J p1.Start),(sl z2 f3 e4),(sl z6 f7 e8),(sl z10 f11 e12),(sl z14 f15 e16)] 4) ?_
    refine lE (sl z10 f11 e12) ?_
    refine q (J t58) ?_
    obtain ⟨x71,h72,h⟩:=obind h
    obtain ⟨v75,h73,h74⟩:=idx_sl h13 h72
    obtain ⟨z76,f77,e78,rfl,h79⟩:=h73
    refine pureR rfl rfl rfl h74 rfl (rfl:_=(eptr [(sl z76 f77 e78)] 0)) ?_
    refine lE (sl z76 f77 e78) ?_
    refine AOps.p rfl (len_eq h79) ?_
    refine q (bool ((x71.length:Int) != 2)) ?_
    refine q (bool ((x71.length:Int) != 2)) ?_
    exact rR ⟨rfl,rfl,rfl,rfl,rfl,bJ h,tv⟩
  rintro _ ⟨tm,os,rfl⟩
  refine q (bool b70) ?_
  obtain ⟨b81,hb,h⟩:=obind h
  refine split 9 (fun f'=>∃ tm' os',f'=⟨updL tm' [(1,(eptr [(J p1.Stack),(J p1.Start),(sl z2 f3 e4),(sl z6 f7 e8),(sl z10 f11 e12),(sl z14 f15 e16)] 0)),(4,(AV.fn 90 [(eptr [(J p1.Stack),(J p1.Start),(sl z2 f3 e4),(sl z6 f7 e8),(sl z10 f11 e12),(sl z14 f15 e16)] 0)])),(5,(J t58)),(49,(J y18)),(50,(J t58)),(78,(bool b81))],updL os' [],s.M⟩) ?_ ?_
  ·rcases oite hb with ⟨hc80,hb⟩ | ⟨hc80,hb⟩
   ·refine kn 69 hc80 ?_
    refine sk ?_
    refine sk ?_
    refine sk ?_
    refine sk ?_
    refine sk ?_
    refine sk ?_
    refine sk ?_
    refine sk ?_
    refine q (bool true) ?_
    exact rR ⟨rfl,rfl,rfl,rfl,rfl,bJ hb,tv⟩
   ·have h:=hb
    refine kn 69 hc80 ?_
    refine q (AV.fn 90 [(eptr [(J p1.Stack),(J p1.Start),(sl z2 f3 e4),(sl z6 f7 e8),(sl z10 f11 e12),(sl z14 f15 e16)] 0)]) ?_
    refine q (eptr [(J p1.Stack),(J p1.Start),(sl z2 f3 e4),(sl z6 f7 e8),(sl z10 f11 e12),(sl z14 f15 e16)] 5) ?_
    refine lE (sl z14 f15 e16) ?_
    refine q (J t58) ?_
    obtain ⟨x82,h83,h⟩:=obind h
    obtain ⟨v86,h84,h85⟩:=idx_sl h17 h83
    obtain ⟨z87,f88,e89,rfl,h90⟩:=h84
    refine pureR rfl rfl rfl h85 rfl (rfl:_=(eptr [(sl z87 f88 e89)] 0)) ?_
    refine lE (sl z87 f88 e89) ?_
    obtain ⟨y91,h92,h⟩:=obind h
    refine cP (impl_ValidChecker_1_ok h90 h5 h9 h13 h17 h92 hWF) ?_
    intro _ o94 h93
    cases h93
    refine q (bool (!y91)) ?_
    refine q (bool (!y91)) ?_
    exact rR ⟨rfl,rfl,rfl,rfl,rfl,bJ h,tv⟩
  rintro _ ⟨tm,os,rfl⟩
  refine nl ?_
  rcases oite h with ⟨hc95,h⟩ | ⟨hc95,h⟩
  ·refine cT hc95 ?_
   refine sr ?_
   refine q (bool false) ?_
   refine nl ?_
   cases h
   have hr:=hR1 _ rfl
   subst hr
   exact ret ⟨rfl,_,_,rfl,rfl⟩
  refine cF hc95 ?_
  refine skip ?_
  refine sr ?_
  refine q (J 0) ?_
  refine nl ?_
  refine meet (σ:=Unit) (fun _ tm os=>⟨updL tm [(1,(eptr [(J p1.Stack),(J p1.Start),(sl z2 f3 e4),(sl z6 f7 e8),(sl z10 f11 e12),(sl z14 f15 e16)] 0)),(4,(AV.fn 90 [(eptr [(J p1.Stack),(J p1.Start),(sl z2 f3 e4),(sl z6 f7 e8),(sl z10 f11 e12),(sl z14 f15 e16)] 0)])),(49,(J y18)),(50,(J t58))],updL os [],s.M⟩) (fun _=>impl_ValidChecker_J2 t58=some ee1) ?_ ?_
  ·rintro _ tm os h
   unfold impl_ValidChecker_J2 at h
   refine inBlock ?_
   refine region ?_
   refine q (J (W (t58+1))) ?_
   refine q (J (W (t58+1))) ?_
   refine nl ?_
   cases h
   exact res [(1,(eptr [(J p1.Stack),(J p1.Start),(sl z2 f3 e4),(sl z6 f7 e8),(sl z10 f11 e12),(sl z14 f15 e16)] 0)),(4,(AV.fn 90 [(eptr [(J p1.Stack),(J p1.Start),(sl z2 f3 e4),(sl z6 f7 e8),(sl z10 f11 e12),(sl z14 f15 e16)] 0)])),(49,(J y18)),(50,(J (W (t58+1))))] [] ⟨rfl,rfl,rfl,rfl,tv⟩ tv (hL1 _ rfl () _ _ tv)
  intro KJ96
  refine block ?_
  refine res [(1,(eptr [(J p1.Stack),(J p1.Start),(sl z2 f3 e4),(sl z6 f7 e8),(sl z10 f11 e12),(sl z14 f15 e16)] 0)),(4,(AV.fn 90 [(eptr [(J p1.Stack),(J p1.Start),(sl z2 f3 e4),(sl z6 f7 e8),(sl z10 f11 e12),(sl z14 f15 e16)] 0)])),(5,(J t58)),(49,(J y18)),(50,(J t58)),(79,(J 0))] [] ⟨rfl,rfl,rfl,rfl,rfl,rfl,tv⟩ tv ?_
  refine loopF (σ:=Int) (τ:=Unit) (fun t97 _=>True) (fun t97 _ tm os=>⟨updL tm [(1,(eptr [(J p1.Stack),(J p1.Start),(sl z2 f3 e4),(sl z6 f7 e8),(sl z10 f11 e12),(sl z14 f15 e16)] 0)),(4,(AV.fn 90 [(eptr [(J p1.Stack),(J p1.Start),(sl z2 f3 e4),(sl z6 f7 e8),(sl z10 f11 e12),(sl z14 f15 e16)] 0)])),(5,(J t58)),(49,(J y18)),(50,(J t58)),(79,(J t97))],updL os [],s.M⟩) ?_ (x:=(0)) (y:=()) h tv
  clear h
  rintro t97 _ tm os - ee2 h hL2 hR2
  unfold impl_ValidChecker_S2 at h
  refine sr ?_
  refine q (bool (decide ((t97:Int)<2))) ?_
  refine nl ?_
  refine seq ?_
  rcases oite h with ⟨hc98,h⟩ | ⟨hc98,h⟩
  ·refine cT hc98 ?_
   refine skip ?_
   refine seq ?_
   refine block ?_
   refine sr ?_
   refine q (J t97) ?_
   refine aq (J t97) ?_
   refine ns ?_
   refine q (eptr [(J p1.Stack),(J p1.Start),(sl z2 f3 e4),(sl z6 f7 e8),(sl z10 f11 e12),(sl z14 f15 e16)] 3) ?_
   refine lE (sl z6 f7 e8) ?_
   refine q (J t58) ?_
   obtain ⟨x99,h100,h⟩:=obind h
   obtain ⟨v103,h101,h102⟩:=idx_sl h9 h100
   obtain ⟨z104,f105,e106,rfl,h107⟩:=h101
   refine pureR rfl rfl rfl h102 rfl (rfl:_=(eptr [(sl z104 f105 e106)] 0)) ?_
   refine lE (sl z104 f105 e106) ?_
   refine q (J t97) ?_
   obtain ⟨x108,h109,h⟩:=obind h
   obtain ⟨v112,h110,h111⟩:=idx_sl h107 h109
   obtain ⟨_,rfl,h113⟩:=h110
   obtain ⟨_,_,rfl,h114,h115⟩:=Cs_cons h113
   cases h114
   obtain ⟨_,_,rfl,h116,h117⟩:=Cs_cons h115
   cases h116
   cases Cs_nil h117
   refine pureR rfl rfl rfl h111 rfl (rfl:_=(eptr [(J x108.To),(J x108.Put)] 0)) ?_
   refine lE (agg [(J x108.To),(J x108.Put)]) ?_
   refine allocP rfl rfl rfl rfl ⟨rfl,rfl⟩ rfl ?_
   refine stP (v:=(agg [(J x108.To),(J x108.Put)])) rfl rfl rfl rfl rfl rfl rfl rfl rfl (lt_b rfl) rfl ?_
   refine ns ?_
   refine lE (agg [(J p1.Stack),(J p1.Start),(sl z2 f3 e4),(sl z6 f7 e8),(sl z10 f11 e12),(sl z14 f15 e16)]) ?_
   refine q (eptr [(J x108.To),(J x108.Put)] 0) ?_
   refine lE (J x108.To) ?_
   obtain ⟨y118,h119,h⟩:=obind h
   refine callDP (g:=86) (args:=[(agg [(J p1.Stack),(J p1.Start),(sl z2 f3 e4),(sl z6 f7 e8),(sl z10 f11 e12),(sl z14 f15 e16)]),(J x108.To)]) (p:=(rB) y118) rfl rfl rfl (impl_Checker_isState_ok h5 h9 h13 h17 h119 hWF.still) (fun v hv=>Nice.pure (k:=FINK) (p:=(rB) y118) .B _ v hv) ?_
   intro _ o121 h120
   cases h120
   refine q (bool (!y118)) ?_
   refine q (bool (!y118)) ?_
   obtain ⟨b123,hb,h⟩:=obind h
   refine split 6 (fun f'=>∃ tm' os',f'=⟨updL tm' [(1,(eptr [(J p1.Stack),(J p1.Start),(sl z2 f3 e4),(sl z6 f7 e8),(sl z10 f11 e12),(sl z14 f15 e16)] 0)),(4,(AV.fn 90 [(eptr [(J p1.Stack),(J p1.Start),(sl z2 f3 e4),(sl z6 f7 e8),(sl z10 f11 e12),(sl z14 f15 e16)] 0)])),(5,(J t58)),(6,(J t97)),(49,(J y18)),(50,(J t58)),(79,(J t97)),(101,(bool b123))],updL os' [],s.M⟩) ?_ ?_
   ·rcases oite hb with ⟨hc122,hb⟩ | ⟨hc122,hb⟩
    ·refine kn 95 hc122 ?_
     refine sk ?_
     refine sk ?_
     refine sk ?_
     refine sk ?_
     refine sk ?_
     refine q (bool true) ?_
     exact rR ⟨rfl,rfl,rfl,rfl,rfl,rfl,rfl,bJ hb,tv⟩
    ·have h:=hb
     refine kn 95 hc122 ?_
     refine lE (agg [(J p1.Stack),(J p1.Start),(sl z2 f3 e4),(sl z6 f7 e8),(sl z10 f11 e12),(sl z14 f15 e16)]) ?_
     refine q (eptr [(J x108.To),(J x108.Put)] 1) ?_
     refine lE (J x108.Put) ?_
     obtain ⟨y124,h125,h⟩:=obind h
     refine callDP (g:=94) (args:=[(agg [(J p1.Stack),(J p1.Start),(sl z2 f3 e4),(sl z6 f7 e8),(sl z10 f11 e12),(sl z14 f15 e16)]),(J x108.Put)]) (p:=(rB) y124) rfl rfl rfl (impl_Checker_isMark_ok h5 h9 h13 h17 h125 hWF.still) (fun v hv=>Nice.pure (k:=FINK) (p:=(rB) y124) .B _ v hv) ?_
     intro _ o127 h126
     cases h126
     refine q (bool (!y124)) ?_
     refine q (bool (!y124)) ?_
     exact rR ⟨rfl,rfl,rfl,rfl,rfl,rfl,rfl,bJ h,tv⟩
   rintro _ ⟨tm,os,rfl⟩
   refine q (bool b123) ?_
   obtain ⟨b129,hb,h⟩:=obind h
   refine split 15 (fun f'=>∃ tm' os',f'=⟨updL tm' [(1,(eptr [(J p1.Stack),(J p1.Start),(sl z2 f3 e4),(sl z6 f7 e8),(sl z10 f11 e12),(sl z14 f15 e16)] 0)),(4,(AV.fn 90 [(eptr [(J p1.Stack),(J p1.Start),(sl z2 f3 e4),(sl z6 f7 e8),(sl z10 f11 e12),(sl z14 f15 e16)] 0)])),(5,(J t58)),(49,(J y18)),(50,(J t58)),(79,(J t97)),(117,(bool b129))],updL os' [],s.M⟩) ?_ ?_
   ·rcases oite hb with ⟨hc128,hb⟩ | ⟨hc128,hb⟩
    ·refine kn 102 hc128 ?_
     refine sk ?_
     refine sk ?_
     refine sk ?_
     refine sk ?_
     refine sk ?_
     refine sk ?_
     refine sk ?_
     refine sk ?_
     refine sk ?_
     refine sk ?_
     refine sk ?_
     refine sk ?_
     refine sk ?_
     refine sk ?_
     refine q (bool true) ?_
     exact rR ⟨rfl,rfl,rfl,rfl,rfl,rfl,bJ hb,tv⟩
    ·have h:=hb
     refine kn 102 hc128 ?_
     refine q (AV.fn 90 [(eptr [(J p1.Stack),(J p1.Start),(sl z2 f3 e4),(sl z6 f7 e8),(sl z10 f11 e12),(sl z14 f15 e16)] 0)]) ?_
     refine q (eptr [(J p1.Stack),(J p1.Start),(sl z2 f3 e4),(sl z6 f7 e8),(sl z10 f11 e12),(sl z14 f15 e16)] 4) ?_
     refine lE (sl z10 f11 e12) ?_
     refine q (J t58) ?_
     obtain ⟨x130,h131,h⟩:=obind h
     obtain ⟨v134,h132,h133⟩:=idx_sl h13 h131
     obtain ⟨z135,f136,e137,rfl,h138⟩:=h132
     refine pureR rfl rfl rfl h133 rfl (rfl:_=(eptr [(sl z135 f136 e137)] 0)) ?_
     refine lE (sl z135 f136 e137) ?_
     refine q (J t97) ?_
     obtain ⟨x139,h140,h⟩:=obind h
     obtain ⟨v143,h141,h142⟩:=idx_sl h138 h140
     obtain ⟨z144,f145,e146,rfl,h147⟩:=h141
     refine pureR rfl rfl rfl h142 rfl (rfl:_=(eptr [(sl z144 f145 e146)] 0)) ?_
     refine lE (sl z144 f145 e146) ?_
     refine q (eptr [(J p1.Stack),(J p1.Start),(sl z2 f3 e4),(sl z6 f7 e8),(sl z10 f11 e12),(sl z14 f15 e16)] 0) ?_
     refine lE (J p1.Stack) ?_
     refine q (J (W (p1.Stack+1))) ?_
     obtain ⟨y148,h149,h⟩:=obind h
     refine callDP (g:=90) (args:=[(sl z144 f145 e146),(J (W (p1.Stack+1))),(eptr [(J p1.Stack),(J p1.Start),(sl z2 f3 e4),(sl z6 f7 e8),(sl z10 f11 e12),(sl z14 f15 e16)] 0)]) (p:=(rB) y148) rfl rfl rfl (impl_ValidChecker_1_ok h147 h5 h9 h13 h17 h149 hWF.still) (fun v hv=>Nice.pure (k:=FINK) (p:=(rB) y148) .B _ v hv) ?_
     intro _ o151 h150
     cases h150
     refine q (bool (!y148)) ?_
     refine q (bool (!y148)) ?_
     exact rR ⟨rfl,rfl,rfl,rfl,rfl,rfl,bJ h,tv⟩
   rintro _ ⟨tm,os,rfl⟩
   refine nl ?_
   rcases oite h with ⟨hc152,h⟩ | ⟨hc152,h⟩
   ·refine cT hc152 ?_
    refine sr ?_
    refine q (bool false) ?_
    refine nl ?_
    cases h
    have hr:=hR2 _ rfl
    cases hr
    have hr:=hR1 _ rfl
    subst hr
    exact ret ⟨rfl,_,_,rfl,rfl⟩
   refine cF hc152 ?_
   refine skip ?_
   refine inBlock ?_
   refine region ?_
   refine q (J (W (t97+1))) ?_
   refine q (J (W (t97+1))) ?_
   refine nl ?_
   cases h
   exact res [(1,(eptr [(J p1.Stack),(J p1.Start),(sl z2 f3 e4),(sl z6 f7 e8),(sl z10 f11 e12),(sl z14 f15 e16)] 0)),(4,(AV.fn 90 [(eptr [(J p1.Stack),(J p1.Start),(sl z2 f3 e4),(sl z6 f7 e8),(sl z10 f11 e12),(sl z14 f15 e16)] 0)])),(5,(J t58)),(49,(J y18)),(50,(J t58)),(79,(J (W (t97+1))))] [] ⟨rfl,rfl,rfl,rfl,rfl,rfl,tv⟩ tv (hL2 _ rfl () _ _ tv)
  refine cF hc98 ?_
  refine exit rfl ?_
  obtain ⟨r153,hm,hx⟩:=omap h
  clear h
  subst hx
  have hx:=hR2 _ rfl
  rw[hx] at hm
  have h:=hm
  exact res [(1,(eptr [(J p1.Stack),(J p1.Start),(sl z2 f3 e4),(sl z6 f7 e8),(sl z10 f11 e12),(sl z14 f15 e16)] 0)),(4,(AV.fn 90 [(eptr [(J p1.Stack),(J p1.Start),(sl z2 f3 e4),(sl z6 f7 e8),(sl z10 f11 e12),(sl z14 f15 e16)] 0)])),(49,(J y18)),(50,(J t58))] [] ⟨rfl,rfl,rfl,rfl,tv⟩ tv (KJ96 () _ _ h)
 refine cF hc59 ?_
 refine exit rfl ?_
 obtain ⟨r154,hm,hx⟩:=omap h
 clear h
 subst hx
 have hx:=hR1 _ rfl
 rw[hx] at hm
 have h:=hm
 exact res [] [] tv tv (KJ57 () _ _ h)
theorem impl_isReturn_ok {c1:Int} {s:St} {r:Bool} (h:impl_isReturn c1=some r) (hs:WF s):ACall Cf 131 [(int .u8 c1)] s fun v _ s'=>(rB) r v∧s'=s:=by
 refine ACall.pure rfl rfl rfl .B ?_
 have hWF:=hs.lo'
 unfold impl_isReturn at h
 refine sr<|q (bool false)<|ns ?_
 refine q (int .u8 c1) ?_
 refine q (bool (c1 == 41)) ?_
 refine q (bool (c1 == 41)) ?_
 refine split 3 (fun f'=>∃ tm' os',f'=⟨updL tm' [(8,(bool ((c1 == 41)||(c1 == 93))))],updL os' [],s.M⟩) ?_ ?_
 ·rcases Bool.eq_false_or_eq_true (c1 == 41) with hc2 | hc2
  ·refine kn 5 hc2<|sk ?_
   refine sk ?_
   refine q (bool true) ?_
   exact rR ⟨congrArg bool (or_t hc2),tv⟩
  ·refine kn 5 hc2<|q (int .u8 c1) ?_
   refine q (bool (c1 == 93)) ?_
   refine q (bool (c1 == 93)) ?_
   exact rR ⟨congrArg bool (or_f hc2),tv⟩
 rintro _ ⟨tm,os,rfl⟩
 refine aq (bool ((c1 == 41)||(c1 == 93)))<|nl ?_
 cases h
 exact ret ⟨rfl,_,_,rfl,rfl⟩
theorem impl_isCall_ok {c1:Int} {s:St} {r:Bool} (h:impl_isCall c1=some r) (hs:WF s):ACall Cf 132 [(int .u8 c1)] s fun v _ s'=>(rB) r v∧s'=s:=by
 refine ACall.pure rfl rfl rfl .B ?_
 have hWF:=hs.lo'
 unfold impl_isCall at h
 refine sr<|q (bool false)<|ns ?_
 refine q (int .u8 c1) ?_
 refine q (bool (c1 == 40)) ?_
 refine q (bool (c1 == 40)) ?_
 refine split 3 (fun f'=>∃ tm' os',f'=⟨updL tm' [(8,(bool ((c1 == 40)||(c1 == 91))))],updL os' [],s.M⟩) ?_ ?_
 ·rcases Bool.eq_false_or_eq_true (c1 == 40) with hc2 | hc2
  ·refine kn 5 hc2<|sk ?_
   refine sk ?_
   refine q (bool true) ?_
   exact rR ⟨congrArg bool (or_t hc2),tv⟩
  ·refine kn 5 hc2<|q (int .u8 c1) ?_
   refine q (bool (c1 == 91)) ?_
   refine q (bool (c1 == 91)) ?_
   exact rR ⟨congrArg bool (or_f hc2),tv⟩
 rintro _ ⟨tm,os,rfl⟩
 refine aq (bool ((c1 == 40)||(c1 == 91)))<|nl ?_
 cases h
 exact ret ⟨rfl,_,_,rfl,rfl⟩
theorem impl_size_int64_d_ok {list1:List Int} {v2:AV} {x3:BX} {s:St} (h4:DY rJ false 1 list1 v2 x3) (h5:∀ b,x3.b=some b→s.h b=some x3.cs) {r:Int} (h:impl_size_int64_d list1=some r) (hs:WF s):ACall Cf 91 [v2] s fun v _ s'=>rJ r v∧s'=s:=by
 refine ACall.pure rfl rfl rfl .I ?_
 have hWF:=hs.lo'
 unfold impl_size_int64_d at h
 refine sr<|q (J 0)<|ns ?_
 refine q v2<|pureR rfl rfl rfl (DY.len h4 rfl rfl rfl) rfl (rfl:_=(J (list1.length:Int)))<|aq (J (list1.length:Int))<|nl ?_
 cases h
 exact ret ⟨rfl,_,_,rfl,rfl⟩
theorem impl_match_ok {p1:List UInt8} {s:St} {r:Matching} (h:impl_match p1=some r) (hs:WF s):ACall Cf 121 [(str p1)] s fun v _ s'=>(rMatching) r v∧s'=s:=by
 refine ACall.boxes rfl rfl rfl ?_
 have hH0:=HS.init hs
 unfold impl_match at h
 refine sr<|allocP rfl rfl rfl rfl ⟨rfl,rfl⟩ rfl<|ns ?_
 refine makeR rfl rfl rfl rfl rfl rfl (rfl:_=(sl 1 true [(J 0)]))<|q (agg [(sl 0 true []),(sl 0 true []),(sl 0 true []),(sl 1 true [(J 0)]),(sl 0 true [])])<|alloc1 hH0 rfl rfl rfl rfl rfl rfl ?_
 intro b2 s3 hH4
 refine stB (i:=0) (v:=(agg [(sl 0 true []),(sl 0 true []),(sl 0 true []),(sl 1 true [(J 0)]),(sl 0 true [])])) hH4 rfl rfl rfl rfl rfl rfl rfl rfl rfl (lt_b rfl) (le_b rfl) rfl ?_
 intro w5 s6 h7 h8 hH9
 refine nl<|seq<|sr<|q (str p1) ?_
 refine q (J (p1.length:Int))<|q (J 0)<|nl ?_
 refine meet (σ:=(List Int) × (List Int) × (List Int) × (List Int) × (List Int) × (Nat→Bool) × BX × AV × Nat × Bool × (List AV) × BX × AV × Nat × Bool × (List AV) × Nat × Bool × (List AV) × St) (fun (m11,m15,m21,m25,m31,w10,x12,v13,z16,f17,e18,x22,v23,z26,f27,e28,z32,f33,e34,s37) tm os=>⟨updL tm [(2,(AV.pend 5)),(3,(ptr b2 0))],updL os [(2,true)],s37⟩) (fun (m11,m15,m21,m25,m31,w10,x12,v13,z16,f17,e18,x22,v23,z26,f27,e28,z32,f33,e34,s37)=>(DY rJ false 1 m11 v13 x12)∧(LR rJ 1 m15 z16 e18)∧(f17=true∨w10 1=true)∧(DY rJ false 1 m21 v23 x22)∧(LR rJ 1 m25 z26 e28)∧(f27=true∨w10 3=true)∧(LR rJ 1 m31 z32 e34)∧(f33=true∨w10 4=true)∧(HS [] false s s37 [⟨some b2,[v13,(sl z16 f17 e18),v23,(sl z26 f27 e28),(sl z32 f33 e34)],w10⟩,x12,x22])∧impl_match_J1 m11 m15 m21 m25 m31=some r) ?_ ?_
 ·rintro ⟨m11,m15,m21,m25,m31,w10,x12,v13,z16,f17,e18,x22,v23,z26,f27,e28,z32,f33,e34,s37⟩ tm os ⟨h14,h19,h20,h24,h29,h30,h35,h36,hH38,h⟩
  unfold impl_match_J1 at h
  refine sr<|ldB (i:=0) (v:=(agg [v13,(sl z16 f17 e18),v23,(sl z26 f27 e28),(sl z32 f33 e34)])) hH38 rfl rfl rfl rfl rfl rfl rfl rfl rfl<|stP (v:=(agg [v13,(sl z16 f17 e18),v23,(sl z26 f27 e28),(sl z32 f33 e34)])) rfl rfl rfl rfl rfl rfl rfl (lay_cons (DY.one h14) (lay_cons rfl (lay_cons (DY.one h24) (lay_cons rfl (lay_cons rfl lay_nil))))) rfl (lt_b rfl) rfl<|nl ?_
  cases h
  exact ret ⟨⟨_,hH38⟩,_,_,rfl,(Fin.A (.cons (Fin.dy (r:=rI .i64) hH38 (i:=1) rfl h14 (fun _=>.I) (fun _=>rfl)) (.cons (Fin.of (p:=(rL rJ 1) m15) (.L fun _=>.I) (⟨_,_,_,rfl,h19⟩)) (.cons (Fin.dy (r:=rI .i64) hH38 (i:=2) rfl h24 (fun _=>.I) (fun _=>rfl)) (.cons (Fin.of (p:=(rL rJ 1) m25) (.L fun _=>.I) (⟨_,_,_,rfl,h29⟩)) (.cons (Fin.of (p:=(rL rJ 1) m31) (.L fun _=>.I) (⟨_,_,_,rfl,h35⟩)) .nil)))))).2⟩
 intro KJ39
 refine block<|res [(0,(str p1)),(2,(AV.pend 5)),(3,(ptr b2 0)),(13,(J (p1.length:Int))),(14,(J 0))] [(2,true)] ⟨rfl,rfl,rfl,rfl,rfl,tv⟩ ⟨rfl,tv⟩ ?_
 refine loopF (σ:=(List Int) × (List Int) × (List Int) × (List Int) × (List Int) × Int) (τ:=(Nat→Bool) × BX × AV × Nat × Bool × (List AV) × BX × AV × Nat × Bool × (List AV) × Nat × Bool × (List AV) × St) (fun (m41,m45,m51,m55,m61,t67) (w40,x42,v43,z46,f47,e48,x52,v53,z56,f57,e58,z62,f63,e64,s68)=>(DY rJ false 1 m41 v43 x42)∧(LR rJ 1 m45 z46 e48)∧(f47=true∨w40 1=true)∧(DY rJ false 1 m51 v53 x52)∧(LR rJ 1 m55 z56 e58)∧(f57=true∨w40 3=true)∧(LR rJ 1 m61 z62 e64)∧(f63=true∨w40 4=true)∧(HS [] false s s68 [⟨some b2,[v43,(sl z46 f47 e48),v53,(sl z56 f57 e58),(sl z62 f63 e64)],w40⟩,x42,x52])) (fun (m41,m45,m51,m55,m61,t67) (w40,x42,v43,z46,f47,e48,x52,v53,z56,f57,e58,z62,f63,e64,s68) tm os=>⟨updL tm [(0,(str p1)),(2,(AV.pend 5)),(3,(ptr b2 0)),(13,(J (p1.length:Int))),(14,(J t67))],updL os [(2,true)],s68⟩) ?_ (x:=(([]:List Int),([]:List Int),([]:List Int),([0]:List Int),([]:List Int),0)) (y:=(w5,noBX,(sl 0 true []),0,true,[],noBX,(sl 0 true []),1,true,[(J 0)],0,true,[],s6)) h ⟨DY.nil,⟨.inr ⟨rfl,rfl⟩,.nil⟩,(Or.inl rfl),DY.nil,LR.lit (r:=rI .i64) (sz:=1) (.cons rfl .nil),(Or.inl rfl),⟨.inr ⟨rfl,rfl⟩,.nil⟩,(Or.inl rfl),(HS.sel hH9 [some 0,none,none] (by decide))⟩
 clear h
 rintro ⟨m41,m45,m51,m55,m61,t67⟩ ⟨w40,x42,v43,z46,f47,e48,x52,v53,z56,f57,e58,z62,f63,e64,s68⟩ tm os ⟨h44,h49,h50,h54,h59,h60,h65,h66,hH69⟩ ee1 h hL1 hR1
 unfold impl_match_S1 at h
 dsimp only at h
 refine sr<|q (bool (decide ((t67:Int)<(p1.length:Int))))<|nl ?_
 refine seq ?_
 rcases oite h with ⟨hc70,h⟩ | ⟨hc70,h⟩
 ·refine cT hc70<|skip<|seq<|block<|sr<|q (J t67) ?_
  refine aq (J t67)<|ns ?_
  refine q (J t67) ?_
  refine aq (J t67)<|q (J (-1))<|ns ?_
  refine q (ptr b2 2)<|ldB (i:=0) (v:=v53) hH69 rfl rfl rfl rfl rfl rfl rfl rfl rfl<|pureR rfl rfl rfl (DY.len h54 rfl rfl rfl) rfl (rfl:_=(J (m51.length:Int)))<|aq (J (m51.length:Int))<|nl ?_
  refine seq<|block<|sr<|q (str p1) ?_
  refine q (J t67) ?_
  obtain ⟨c71,h72,h⟩:=obind h
  refine pureR rfl rfl rfl (chr_str h72) rfl (rfl:_=(int .u8 c71)) ?_
  obtain ⟨y73,h74,h⟩:=obind h
  refine cP (impl_isReturn_ok  h74 (wf' hH69)) ?_
  intro _ o76 h75
  cases h75
  refine q (bool y73) ?_
  refine split 3 (fun f'=>∃ tm' os',f'=⟨updL tm' [(0,(str p1)),(2,(AV.pend 5)),(3,(ptr b2 0)),(4,(J t67)),(5,(J t67)),(6,(J (-1))),(7,(J (m51.length:Int))),(13,(J (p1.length:Int))),(14,(J t67)),(29,(bool (y73&&((m51.length:Int) == 0))))],updL os' [(2,true)],s68⟩) ?_ ?_
  ·rcases Bool.eq_false_or_eq_true y73 with hc77 | hc77
   ·refine kn 26 hc77<|q (J (m51.length:Int)) ?_
    refine q (bool ((m51.length:Int) == 0)) ?_
    refine q (bool ((m51.length:Int) == 0)) ?_
    refine AOps.resR [(0,(str p1)),(2,(AV.pend 5)),(3,(ptr b2 0)),(4,(J t67)),(5,(J t67)),(6,(J (-1))),(7,(J (m51.length:Int))),(13,(J (p1.length:Int))),(14,(J t67)),(29,(bool (y73&&((m51.length:Int) == 0))))] [(2,true)] ?_ ?_ _ ⟨_,_,rfl⟩
    ·exact ⟨rfl,rfl,rfl,rfl,rfl,rfl,rfl,rfl,rfl,congrArg bool (and_t hc77),tv⟩
    exact ⟨rfl,tv⟩
   ·refine kn 26 hc77<|sk ?_
    refine sk ?_
    refine q (bool false) ?_
    refine AOps.resR [(0,(str p1)),(2,(AV.pend 5)),(3,(ptr b2 0)),(4,(J t67)),(5,(J t67)),(6,(J (-1))),(7,(J (m51.length:Int))),(13,(J (p1.length:Int))),(14,(J t67)),(29,(bool (y73&&((m51.length:Int) == 0))))] [(2,true)] ?_ ?_ _ ⟨_,_,rfl⟩
    ·exact ⟨rfl,rfl,rfl,rfl,rfl,rfl,rfl,rfl,rfl,congrArg bool (and_f hc77),tv⟩
    exact ⟨rfl,tv⟩
  rintro _ ⟨tm,os,rfl⟩
  refine aq (bool (y73&&((m51.length:Int) == 0)))<|nl ?_
  refine meet (σ:=(List Int) × (List Int) × (List Int) × Int × (Nat→Bool) × BX × AV × Nat × Bool × (List AV) × BX × AV × St) (fun (m79,m83,m89,t95,w78,x80,v81,z84,f85,e86,x90,v91,s96) tm os=>⟨updL tm [(0,(str p1)),(2,(AV.pend 5)),(3,(ptr b2 0)),(4,(J t67)),(5,(J t67)),(6,(J t95)),(13,(J (p1.length:Int))),(14,(J t67))],updL os [(2,true)],s96⟩) (fun (m79,m83,m89,t95,w78,x80,v81,z84,f85,e86,x90,v91,s96)=>(DY rJ false 1 m79 v81 x80)∧(LR rJ 1 m83 z84 e86)∧(f85=true∨w78 1=true)∧(DY rJ false 1 m89 v91 x90)∧(f57=true∨w78 3=true)∧(f63=true∨w78 4=true)∧(HS [] false s s96 [⟨some b2,[v81,(sl z84 f85 e86),v91,(sl z56 f57 e58),(sl z62 f63 e64)],w78⟩,x80,x90])∧impl_match_J2 p1 m55 m61 t67 m79 m83 m89 t95=some ee1) ?_ ?_
  ·rintro ⟨m79,m83,m89,t95,w78,x80,v81,z84,f85,e86,x90,v91,s96⟩ tm os ⟨h82,h87,h88,h92,h93,h94,hH97,h⟩
   unfold impl_match_J2 at h
   refine inBlock<|sr<|q (J (-1))<|nl ?_
   refine seq<|sr<|q (ptr b2 2)<|ldB (i:=0) (v:=v91) hH97 rfl rfl rfl rfl rfl rfl rfl rfl rfl<|pureR rfl rfl rfl (DY.len h92 rfl rfl rfl) rfl (rfl:_=(J (m89.length:Int)))<|aq (J (m89.length:Int))<|ns ?_
   refine q (J (m89.length:Int)) ?_
   refine q (bool (decide (((m89.length:Int):Int)>0)))<|nl ?_
   refine meet (σ:=Int × BX × AV × St) (fun (t102,x99,v100,s103) tm os=>⟨updL tm [(0,(str p1)),(2,(AV.pend 5)),(3,(ptr b2 0)),(4,(J t67)),(5,(J t67)),(6,(J t95)),(8,(J t102)),(13,(J (p1.length:Int))),(14,(J t67))],updL os [(2,true)],s103⟩) (fun (t102,x99,v100,s103)=>(DY rJ false 1 m89 v100 x99)∧(HS [] false s s103 [⟨some b2,[v81,(sl z84 f85 e86),v100,(sl z56 f57 e58),(sl z62 f63 e64)],w78⟩,x80,x99])∧impl_match_J3 p1 m55 m61 t67 m79 m83 m89 t95 t102=some ee1) ?_ ?_
   ·rintro ⟨t102,x99,v100,s103⟩ tm os ⟨h101,hH104,h⟩
    unfold impl_match_J3 at h
    refine seq<|sr<|q (str p1) ?_
    refine q (J t67) ?_
    obtain ⟨c106,h107,h⟩:=obind h
    refine pureR rfl rfl rfl (chr_str h107) rfl (rfl:_=(int .u8 c106)) ?_
    obtain ⟨y108,h109,h⟩:=obind h
    refine cP (impl_isCall_ok  h109 (wf' hH104)) ?_
    intro _ o111 h110
    cases h110
    refine nl ?_
    refine meet (σ:=(List Int) × Int × (Nat→Bool) × BX × AV × St) (fun (m114,t120,w112,x115,v116,s121) tm os=>⟨updL tm [(0,(str p1)),(2,(AV.pend 5)),(3,(ptr b2 0)),(6,(J t120)),(8,(J t102)),(13,(J (p1.length:Int))),(14,(J t67))],updL os [(2,true)],s121⟩) (fun (m114,t120,w112,x115,v116,s121)=>(f85=true∨w112 1=true)∧(DY rJ false 1 m114 v116 x115)∧(f57=true∨w112 3=true)∧(f63=true∨w112 4=true)∧(HS [] false s s121 [⟨some b2,[v81,(sl z84 f85 e86),v116,(sl z56 f57 e58),(sl z62 f63 e64)],w112⟩,x80,x115])∧impl_match_J4 m55 m61 t67 m79 m83 t102 m114 t120=some ee1) ?_ ?_
    ·rintro ⟨m114,t120,w112,x115,v116,s121⟩ tm os ⟨h113,h117,h118,h119,hH122,h⟩
     unfold impl_match_J4 at h
     refine sr<|q (ptr b2 0)<|ldB (i:=0) (v:=v81) hH122 rfl rfl rfl rfl rfl rfl rfl rfl rfl ?_
     refine q (J t120)<|makeR rfl rfl rfl rfl rfl rfl (rfl:_=(sl 1 true [(J t120)])) ?_
     obtain ⟨l124,h125,h⟩:=obind h
     refine AOps.appD (i:=1) (r:=rI .i64) (ei:=ty2) (z':=1) (f':=true) (e':=[(J t120)]) hH122 rfl h82 Sh.I rfl rfl rfl rfl rfl rfl rfl (appSrc_sl (LR.z (LR.lit (r:=rI .i64) (sz:=1) (.cons rfl .nil))) rfl) (LR.el (LR.lit (r:=rI .i64) (sz:=1) (.cons rfl .nil))) rfl ⟨by decide,by decide,rfl,rfl⟩ rfl rfl h125 ?_
     intro b126 n127 cs128 s129 h130 hH131
     refine q (ptr b2 4)<|AOps.ldMv (i:=0) (v:=(sl z62 f63 e64)) hH131 rfl rfl rfl rfl rfl rfl rfl rfl rfl rfl h119 ?_
     intro o132 w133 s137 h134 h135 hH136
     refine q (J t102)<|makeR rfl rfl rfl rfl rfl rfl (rfl:_=(sl 1 true [(J t102)])) ?_
     obtain ⟨l138,h139,h⟩:=obind h
     obtain ⟨h140,h141⟩:=app_LR h65 (LR.lit (r:=rI .i64) (sz:=1) (.cons rfl .nil)) h139
     refine AOps.appL (z:=z62) (f:=f63) (e:=e64) (z':=1) (f':=true) (e':=[(J t102)]) rfl rfl rfl rfl rfl rfl rfl (appSrc_sl (LR.z (LR.lit (r:=rI .i64) (sz:=1) (.cons rfl .nil))) rfl) (LR.z h65) ⟨by decide,by decide,rfl,rfl⟩ rfl rfl h141 (own_tmp h134 rfl rfl)<|q (ptr b2 0)<|stB (i:=0) (v:=(AV.ms false 1 b126 0 n127)) hH136 rfl rfl rfl rfl rfl rfl rfl rfl rfl (lt_b rfl) (le_b rfl) rfl ?_
     intro w142 s143 h144 h145 hH146
     refine q (ptr b2 4)<|stB (i:=0) (v:=(sl 1 false (e64++[(J t102)]))) hH146 rfl rfl rfl rfl rfl rfl rfl rfl rfl (lt_b rfl) (le_b rfl) rfl ?_
     intro w147 s148 h149 h150 hH151
     refine nl<|region<|q (ptr b2 3)<|AOps.ldMv (i:=0) (v:=(sl z56 f57 e58)) hH151 rfl rfl rfl rfl rfl rfl rfl rfl rfl rfl (own_keep (own_keep (own_keep h118 (h135 _ (by decide))) (h144 _ (by decide))) (h149 _ (by decide))) ?_
     intro o152 w153 s157 h154 h155 hH156
     refine q (ptr b2 2)<|ldB (i:=0) (v:=v116) hH156 rfl rfl rfl rfl rfl rfl rfl rfl rfl ?_
     obtain ⟨y158,h159,h⟩:=obind h
     refine callDP (g:=91) (args:=[v116]) (p:=rJ y158) rfl rfl rfl (impl_size_int64_d_ok (s:=St.still s157) h117 (HS.fr hH156 (i:=2) rfl) h159 ((wf' hH156).still)) (fun v hv=>Nice.pure (k:=FINK) (p:=rJ y158) .I _ v hv) ?_
     intro _ o161 h160
     cases h160
     refine makeR rfl rfl rfl rfl rfl rfl (rfl:_=(sl 1 true [(J y158)])) ?_
     obtain ⟨l162,h163,h⟩:=obind h
     obtain ⟨h164,h165⟩:=app_LR h59 (LR.lit (r:=rI .i64) (sz:=1) (.cons rfl .nil)) h163
     refine AOps.appL (z:=z56) (f:=f57) (e:=e58) (z':=1) (f':=true) (e':=[(J y158)]) rfl rfl rfl rfl rfl rfl rfl (appSrc_sl (LR.z (LR.lit (r:=rI .i64) (sz:=1) (.cons rfl .nil))) rfl) (LR.z h59) ⟨by decide,by decide,rfl,rfl⟩ rfl rfl h165 (own_tmp h154 rfl rfl)<|q (ptr b2 3)<|stB (i:=0) (v:=(sl 1 false (e58++[(J y158)]))) hH156 rfl rfl rfl rfl rfl rfl rfl rfl rfl (lt_b rfl) (le_b rfl) rfl ?_
     intro w166 s167 h168 h169 hH170
     refine nl<|inBlock<|region<|q (J (W (t67+1))) ?_
     refine q (J (W (t67+1)))<|nl ?_
     cases h
     exact res [(0,(str p1)),(2,(AV.pend 5)),(3,(ptr b2 0)),(13,(J (p1.length:Int))),(14,(J (W (t67+1))))] [(2,true)] ⟨rfl,rfl,rfl,rfl,rfl,tv⟩ ⟨rfl,tv⟩ (hL1 _ rfl (w166,⟨some b126,cs128,fun _=>false⟩,(AV.ms false 1 b126 0 n127),z84,f85,e86,x115,v116,1,false,(e58++[(J y158)]),1,false,(e64++[(J t102)]),s167) _ _ ⟨(DY.ms rfl h130),h87,(own_keep (own_keep (own_keep (own_keep (own_keep h113 (h135 _ (by decide))) (h144 _ (by decide))) (h149 _ (by decide))) (h155 _ (by decide))) (h168 _ (by decide))),h117,h164,(own_st (Or.inr rfl) h169 rfl rfl rfl),h140,(own_keep (own_keep (own_st (Or.inr rfl) h150 rfl rfl rfl) (h155 _ (by decide))) (h168 _ (by decide))),(HS.sel hH170 [some 0,some 1,some 2] (by decide))⟩)
    intro KJ123
    rcases oite h with ⟨hc171,h⟩ | ⟨hc171,h⟩
    ·refine cT hc171<|sr<|q (J (-2))<|nl ?_
     refine region<|q (ptr b2 2)<|ldB (i:=0) (v:=v100) hH104 rfl rfl rfl rfl rfl rfl rfl rfl rfl ?_
     refine q (J t67)<|makeR rfl rfl rfl rfl rfl rfl (rfl:_=(sl 1 true [(J t67)])) ?_
     obtain ⟨l172,h173,h⟩:=obind h
     refine AOps.appD (i:=2) (r:=rI .i64) (ei:=ty2) (z':=1) (f':=true) (e':=[(J t67)]) hH104 rfl h101 Sh.I rfl rfl rfl rfl rfl rfl rfl (appSrc_sl (LR.z (LR.lit (r:=rI .i64) (sz:=1) (.cons rfl .nil))) rfl) (LR.el (LR.lit (r:=rI .i64) (sz:=1) (.cons rfl .nil))) rfl ⟨by decide,by decide,rfl,rfl⟩ rfl rfl h173 ?_
     intro b174 n175 cs176 s177 h178 hH179
     refine q (ptr b2 2)<|stB (i:=0) (v:=(AV.ms false 1 b174 0 n175)) hH179 rfl rfl rfl rfl rfl rfl rfl rfl rfl (lt_b rfl) (le_b rfl) rfl ?_
     intro w180 s181 h182 h183 hH184
     refine nl ?_
     exact res [(0,(str p1)),(2,(AV.pend 5)),(3,(ptr b2 0)),(6,(J (-2))),(8,(J t102)),(13,(J (p1.length:Int))),(14,(J t67))] [(2,true)] ⟨rfl,rfl,rfl,rfl,rfl,rfl,rfl,tv⟩ ⟨rfl,tv⟩ (KJ123 (l172,(-2),w180,⟨some b174,cs176,fun _=>false⟩,(AV.ms false 1 b174 0 n175),s181) _ _ ⟨(own_keep h88 (h182 _ (by decide))),(DY.ms rfl h178),(own_keep h93 (h182 _ (by decide))),(own_keep h94 (h182 _ (by decide))),(HS.sel hH184 [some 0,some 1,some 2] (by decide)),h⟩)
    refine cF hc171<|skip ?_
    exact res [(0,(str p1)),(2,(AV.pend 5)),(3,(ptr b2 0)),(6,(J t95)),(8,(J t102)),(13,(J (p1.length:Int))),(14,(J t67))] [(2,true)] ⟨rfl,rfl,rfl,rfl,rfl,rfl,rfl,tv⟩ ⟨rfl,tv⟩ (KJ123 (m89,t95,w78,x99,v100,s103) _ _ ⟨h88,h101,h93,h94,(HS.sel hH104 [some 0,some 1,some 2] (by decide)),h⟩)
   intro KJ105
   rcases oite h with ⟨hc185,h⟩ | ⟨hc185,h⟩
   ·refine cT hc185<|region<|q (ptr b2 2)<|ldB (i:=0) (v:=v91) hH97 rfl rfl rfl rfl rfl rfl rfl rfl rfl ?_
    refine q (J (m89.length:Int)) ?_
    refine q (J (W ((m89.length:Int) - 1))) ?_
    obtain ⟨x186,h187,h⟩:=obind h
    obtain ⟨b188,n189,h190,h192,h191⟩:=DY.has h92 h187
    subst h192
    refine pureR rfl rfl rfl (idx_ms h191 h187) rfl (rfl:_=(ptr b188 (0+Int.toNat (W ((m89.length:Int) - 1))*1))) ?_
    refine AOps.ldM (i:=2) (r:=rI .i64) (off:=0) hH97 rfl h190 h191 h187 rfl rfl rfl rfl rfl (lt_b rfl) (le_b rfl) rfl rfl ?_ (fun c hr hs=>by cases hr; exact ⟨_,rfl⟩)
    intro c193 h194 h195 v196 h197
    cases h194
    cases h197
    refine aq (J x186)<|nl ?_
    exact res [(0,(str p1)),(2,(AV.pend 5)),(3,(ptr b2 0)),(4,(J t67)),(5,(J t67)),(6,(J t95)),(8,(J x186)),(13,(J (p1.length:Int))),(14,(J t67))] [(2,true)] ⟨rfl,rfl,rfl,rfl,rfl,rfl,rfl,rfl,rfl,tv⟩ ⟨rfl,tv⟩ (KJ105 (x186,x90,(AV.ms false 1 b188 0 n189),s96) _ _ ⟨(DY.ms h190 h191),(HS.sel hH97 [some 0,some 1,some 2] (by decide)),h⟩)
   refine cF hc185<|skip ?_
   exact res [(0,(str p1)),(2,(AV.pend 5)),(3,(ptr b2 0)),(4,(J t67)),(5,(J t67)),(6,(J t95)),(8,(J (-1))),(13,(J (p1.length:Int))),(14,(J t67))] [(2,true)] ⟨rfl,rfl,rfl,rfl,rfl,rfl,rfl,rfl,rfl,tv⟩ ⟨rfl,tv⟩ (KJ105 ((-1),x90,v91,s96) _ _ ⟨h92,(HS.sel hH97 [some 0,some 1,some 2] (by decide)),h⟩)
  intro KJ98
  rcases oite h with ⟨hc198,h⟩ | ⟨hc198,h⟩
  ·refine cT hc198<|sr<|q (J (-2))<|nl ?_
   refine region<|q (ptr b2 1)<|AOps.ldMv (i:=0) (v:=(sl z46 f47 e48)) hH69 rfl rfl rfl rfl rfl rfl rfl rfl rfl rfl h50 ?_
   intro o199 w200 s204 h201 h202 hH203
   refine q (J t67)<|makeR rfl rfl rfl rfl rfl rfl (rfl:_=(sl 1 true [(J t67)])) ?_
   obtain ⟨l205,h206,h⟩:=obind h
   obtain ⟨h207,h208⟩:=app_LR h49 (LR.lit (r:=rI .i64) (sz:=1) (.cons rfl .nil)) h206
   refine AOps.appL (z:=z46) (f:=f47) (e:=e48) (z':=1) (f':=true) (e':=[(J t67)]) rfl rfl rfl rfl rfl rfl rfl (appSrc_sl (LR.z (LR.lit (r:=rI .i64) (sz:=1) (.cons rfl .nil))) rfl) (LR.z h49) ⟨by decide,by decide,rfl,rfl⟩ rfl rfl h208 (own_tmp h201 rfl rfl)<|q (ptr b2 1)<|stB (i:=0) (v:=(sl 1 false (e48++[(J t67)]))) hH203 rfl rfl rfl rfl rfl rfl rfl rfl rfl (lt_b rfl) (le_b rfl) rfl ?_
   intro w209 s210 h211 h212 hH213
   refine nl ?_
   exact res [(0,(str p1)),(2,(AV.pend 5)),(3,(ptr b2 0)),(4,(J t67)),(5,(J t67)),(6,(J (-2))),(13,(J (p1.length:Int))),(14,(J t67))] [(2,true)] ⟨rfl,rfl,rfl,rfl,rfl,rfl,rfl,rfl,tv⟩ ⟨rfl,tv⟩ (KJ98 (m41,l205,m51,(-2),w209,x42,v43,1,false,(e48++[(J t67)]),x52,v53,s210) _ _ ⟨h44,h207,(own_st (Or.inr rfl) h212 rfl rfl rfl),h54,(own_keep (own_keep h60 (h202 _ (by decide))) (h211 _ (by decide))),(own_keep (own_keep h66 (h202 _ (by decide))) (h211 _ (by decide))),(HS.sel hH213 [some 0,some 1,some 2] (by decide)),h⟩)
  refine cF hc198<|sr<|q (str p1) ?_
  refine q (J t67) ?_
  obtain ⟨c214,h215,h⟩:=obind h
  refine pureR rfl rfl rfl (chr_str h215) rfl (rfl:_=(int .u8 c214)) ?_
  obtain ⟨y216,h217,h⟩:=obind h
  refine cP (impl_isReturn_ok  h217 (wf' hH69)) ?_
  intro _ o219 h218
  cases h218
  refine aq (bool y216)<|nl ?_
  rcases oite h with ⟨hc220,h⟩ | ⟨hc220,h⟩
  ·refine cT hc220<|sr<|q (ptr b2 2)<|ldB (i:=0) (v:=v53) hH69 rfl rfl rfl rfl rfl rfl rfl rfl rfl ?_
   refine q (J (m51.length:Int)) ?_
   refine q (J (W ((m51.length:Int) - 1))) ?_
   obtain ⟨x221,h222,h⟩:=obind h
   obtain ⟨b223,n224,h225,h227,h226⟩:=DY.has h54 h222
   subst h227
   refine pureR rfl rfl rfl (idx_ms h226 h222) rfl (rfl:_=(ptr b223 (0+Int.toNat (W ((m51.length:Int) - 1))*1))) ?_
   refine AOps.ldM (i:=2) (r:=rI .i64) (off:=0) hH69 rfl h225 h226 h222 rfl rfl rfl rfl rfl (lt_b rfl) (le_b rfl) rfl rfl ?_ (fun c hr hs=>by cases hr; exact ⟨_,rfl⟩)
   intro c228 h229 h230 v231 h232
   cases h229
   cases h232
   refine aq (J x221)<|ns ?_
   refine q (ptr b2 0)<|ldB (i:=0) (v:=v43) hH69 rfl rfl rfl rfl rfl rfl rfl rfl rfl ?_
   refine q (J x221) ?_
   refine q (J t67) ?_
   obtain ⟨x233,h234,h⟩:=obind h
   obtain ⟨b235,n236,h237,h239,h238⟩:=DY.has h44 h234
   subst h239
   refine pureR rfl rfl rfl (idx_ms h238 h234) rfl (rfl:_=(ptr b235 (0+Int.toNat x221*1)))<|AOps.stM (i:=1) (r:=rI .i64) (v:=(J t67)) (y:=t67) hH69 rfl h237 h238 h234 rfl rfl rfl rfl rfl rfl (Sh.I t67 _ rfl) rfl rfl (lt_b rfl) rfl rfl ?_
   intro cs240 w241 s242 h243 hH244
   refine nl<|region<|q (ptr b2 2)<|ldB (i:=0) (v:=(AV.ms false 1 b223 0 n224)) hH244 rfl rfl rfl rfl rfl rfl rfl rfl rfl ?_
   refine q (J (m51.length:Int)) ?_
   refine q (J (W ((m51.length:Int) - 1))) ?_
   obtain ⟨l245,h246,h⟩:=obind h
   obtain ⟨h247,h248⟩:=MS.cut (b:=b223) (k:=.i64) h226 h246
   refine pureR rfl rfl rfl h248 rfl (rfl:_=(AV.ms false 1 b223 0 (Int.toNat (W ((m51.length:Int) - 1)))))<|q (ptr b2 2)<|stB (i:=0) (v:=(AV.ms false 1 b223 0 (Int.toNat (W ((m51.length:Int) - 1))))) hH244 rfl rfl rfl rfl rfl rfl rfl rfl rfl (lt_b rfl) (le_b rfl) rfl ?_
   intro w249 s250 h251 h252 hH253
   refine nl ?_
   exact res [(0,(str p1)),(2,(AV.pend 5)),(3,(ptr b2 0)),(4,(J t67)),(5,(J t67)),(6,(J x221)),(13,(J (p1.length:Int))),(14,(J t67))] [(2,true)] ⟨rfl,rfl,rfl,rfl,rfl,rfl,rfl,rfl,tv⟩ ⟨rfl,tv⟩ (KJ98 ((m41.set (Int.toNat x221) t67),m45,l245,x221,w249,⟨some b235,cs240,w241⟩,(AV.ms false 1 b235 0 n236),z46,f47,e48,x52,(AV.ms false 1 b223 0 (Int.toNat (W ((m51.length:Int) - 1)))),s250) _ _ ⟨(DY.ms rfl h243),h49,(own_keep h50 (h251 _ (by decide))),(DY.ms h225 h247),(own_keep h60 (h251 _ (by decide))),(own_keep h66 (h251 _ (by decide))),(HS.sel hH253 [some 0,some 1,some 2] (by decide)),h⟩)
  refine cF hc220<|skip ?_
  exact res [(0,(str p1)),(2,(AV.pend 5)),(3,(ptr b2 0)),(4,(J t67)),(5,(J t67)),(6,(J (-1))),(13,(J (p1.length:Int))),(14,(J t67))] [(2,true)] ⟨rfl,rfl,rfl,rfl,rfl,rfl,rfl,rfl,tv⟩ ⟨rfl,tv⟩ (KJ98 (m41,m45,m51,(-1),w40,x42,v43,z46,f47,e48,x52,v53,s68) _ _ ⟨h44,h49,h50,h54,h60,h66,(HS.sel hH69 [some 0,some 1,some 2] (by decide)),h⟩)
 refine cF hc70<|exit rfl ?_
 obtain ⟨r254,hm,hx⟩:=omap h
 clear h
 subst hx
 have hx:=hR1 _ rfl
 rw[hx] at hm
 have h:=hm
 exact res [(2,(AV.pend 5)),(3,(ptr b2 0))] [(2,true)] ⟨rfl,rfl,tv⟩ ⟨rfl,tv⟩ (KJ39 (m41,m45,m51,m55,m61,w40,x42,v43,z46,f47,e48,x52,v53,z56,f57,e58,z62,f63,e64,s68) _ _ ⟨h44,h49,h50,h54,h59,h60,h65,h66,(HS.sel hH69 [some 0,some 1,some 2] (by decide)),h⟩)
theorem impl_isPending_ok {p0_1:List UInt8} {returns2 calls3:Int} {s:St} {r:Bool} (h:impl_isPending p0_1 returns2 calls3=some r) (hs:WF s):ACall Cf 95 [(str p0_1),(J returns2),(J calls3)] s fun v _ s'=>(rB) r v∧s'=s:=by
 refine ACall.pure rfl rfl rfl .B ?_
 have hWF:=hs.lo'
 unfold impl_isPending at h
 refine sr<|q (bool false)<|ns ?_
 refine q (str p0_1) ?_
 obtain ⟨y4,h5,h⟩:=obind h
 refine cP (impl_match_ok  h5 hWF) ?_
 intro _ o38 h6
 obtain ⟨_,rfl,h7⟩:=h6
 obtain ⟨_,_,rfl,h8,h9⟩:=Cs_cons h7
 obtain ⟨z10,f11,e12,rfl,h13⟩:=h8
 obtain ⟨_,_,rfl,h14,h15⟩:=Cs_cons h9
 obtain ⟨z16,f17,e18,rfl,h19⟩:=h14
 obtain ⟨_,_,rfl,h20,h21⟩:=Cs_cons h15
 obtain ⟨z22,f23,e24,rfl,h25⟩:=h20
 obtain ⟨_,_,rfl,h26,h27⟩:=Cs_cons h21
 obtain ⟨z28,f29,e30,rfl,h31⟩:=h26
 obtain ⟨_,_,rfl,h32,h33⟩:=Cs_cons h27
 obtain ⟨z34,f35,e36,rfl,h37⟩:=h32
 cases Cs_nil h33
 refine allocP rfl rfl rfl rfl ⟨rfl,rfl⟩ rfl<|stP (v:=(agg [(sl z10 f11 e12),(sl z16 f17 e18),(sl z22 f23 e24),(sl z28 f29 e30),(sl z34 f35 e36)])) rfl rfl rfl rfl rfl rfl rfl rfl rfl (lt_b rfl) rfl<|ns ?_
 refine q (eptr [(sl z10 f11 e12),(sl z16 f17 e18),(sl z22 f23 e24),(sl z28 f29 e30),(sl z34 f35 e36)] 1) ?_
 refine lE (sl z16 f17 e18)<|AOps.p rfl (len_eq h19) ?_
 refine q (J returns2) ?_
 refine q (bool ((y4.returns.length:Int) == returns2)) ?_
 refine q (bool ((y4.returns.length:Int) == returns2)) ?_
 refine split 6 (fun f'=>∃ tm' os',f'=⟨updL tm' [(21,(bool (((y4.returns.length:Int) == returns2)&&((y4.calls.length:Int) == calls3))))],updL os' [],s.M⟩) ?_ ?_
 ·rcases Bool.eq_false_or_eq_true ((y4.returns.length:Int) == returns2) with hc39 | hc39
  ·refine kn 15 hc39<|q (eptr [(sl z10 f11 e12),(sl z16 f17 e18),(sl z22 f23 e24),(sl z28 f29 e30),(sl z34 f35 e36)] 2) ?_
   refine lE (sl z22 f23 e24)<|AOps.p rfl (len_eq h25) ?_
   refine q (J calls3) ?_
   refine q (bool ((y4.calls.length:Int) == calls3)) ?_
   refine q (bool ((y4.calls.length:Int) == calls3)) ?_
   exact rR ⟨congrArg bool (and_t hc39),tv⟩
  ·refine kn 15 hc39<|sk ?_
   refine sk ?_
   refine sk ?_
   refine sk ?_
   refine sk ?_
   refine q (bool false) ?_
   exact rR ⟨congrArg bool (and_f hc39),tv⟩
 rintro _ ⟨tm,os,rfl⟩
 refine aq (bool (((y4.returns.length:Int) == returns2)&&((y4.calls.length:Int) == calls3)))<|nl ?_
 cases h
 exact ret ⟨rfl,_,_,rfl,rfl⟩
theorem impl_Rewriter_isStructural_1_ok {m1:OutMove} {s:St} {r:Bool} (h:impl_Rewriter_isStructural_1 m1=some r) (hs:WF s):ACall Cf 96 [(agg [(J m1.To),(str m1.Out)])] s fun v _ s'=>(rB) r v∧s'=s:=by
 refine ACall.pure rfl rfl rfl .B ?_
 have hWF:=hs.lo'
 unfold impl_Rewriter_isStructural_1 at h
 refine sr<|makeR rfl rfl rfl rfl rfl rfl (rfl:_=(eptr [(J m1.To),(str m1.Out)] 0))<|q (bool false)<|ns ?_
 refine q (eptr [(J m1.To),(str m1.Out)] 1) ?_
 refine lE (str m1.Out) ?_
 obtain ⟨y2,h3,h⟩:=obind h
 refine cP (impl_isPending_ok  h3 hWF) ?_
 intro _ o5 h4
 cases h4
 refine q (bool (!y2)) ?_
 refine aq (bool (!y2))<|nl ?_
 cases h
 exact ret ⟨rfl,_,_,rfl,rfl⟩
theorem impl_Rewriter_isStructural_ok {r1:Rewriter} {z2 z6 z10:Nat} {f3 f7 f11:Bool} {e4 e8 e12:List AV} {s:St} (h5:LR (rL rOutPush 3) 1 r1.Call z2 e4) (h9:LR (rL (rL rOutMove 2) 1) 1 r1.Return z6 e8) (h13:LR (rL rOutMove 2) 1 r1.Inner z10 e12) {r:Bool} (h:impl_Rewriter_isStructural r1=some r) (hs:WF s):ACall Cf 36 [(agg [(J r1.Stack),(J r1.Start),(sl z2 f3 e4),(sl z6 f7 e8),(sl z10 f11 e12)])] s fun v _ s'=>(rB) r v∧s'=s:=by
 refine ACall.pure rfl rfl rfl .B ?_
 have hWF:=hs.lo'
 unfold impl_Rewriter_isStructural at h
 refine sr ?_
 refine makeR rfl rfl rfl rfl rfl rfl (rfl:_=(eptr [(J r1.Stack),(J r1.Start),(sl z2 f3 e4),(sl z6 f7 e8),(sl z10 f11 e12)] 0)) ?_
 refine q (bool false) ?_
 refine nl ?_
 refine seq ?_
 refine sr ?_
 refine q (eptr [(J r1.Stack),(J r1.Start),(sl z2 f3 e4),(sl z6 f7 e8),(sl z10 f11 e12)] 2) ?_
 refine lE (sl z2 f3 e4) ?_
 refine AOps.p rfl (len_eq h5) ?_
 refine q (J 0) ?_
 refine nl ?_
 refine meet (σ:=Unit) (fun _ tm os=>⟨updL tm [],updL os [],s.M⟩) (fun _=>impl_Rewriter_isStructural_J1=some r) ?_ ?_
 ·rintro _ tm os h
  unfold impl_Rewriter_isStructural_J1 at h
  refine sr ?_
  refine q (bool true) ?_
  refine nl ?_
  cases h
  exact ret ⟨rfl,_,_,rfl,rfl⟩
 intro KJ14
 refine block ?_
 refine res [(1,(eptr [(J r1.Stack),(J r1.Start),(sl z2 f3 e4),(sl z6 f7 e8),(sl z10 f11 e12)] 0)),(7,(J (r1.Call.length:Int))),(8,(J 0))] [] ⟨rfl,rfl,rfl,tv⟩ tv ?_
 refine loopF (σ:=Int) (τ:=Unit) (fun t15 _=>True) (fun t15 _ tm os=>⟨updL tm [(1,(eptr [(J r1.Stack),(J r1.Start),(sl z2 f3 e4),(sl z6 f7 e8),(sl z10 f11 e12)] 0)),(7,(J (r1.Call.length:Int))),(8,(J t15))],updL os [],s.M⟩) ?_ (x:=(0)) (y:=()) h tv
 clear h
 rintro t15 _ tm os - ee1 h hL1 hR1
 unfold impl_Rewriter_isStructural_S1 at h
 refine sr ?_
 refine q (bool (decide ((t15:Int)<(r1.Call.length:Int)))) ?_
 refine nl ?_
 refine seq ?_
 rcases oite h with ⟨hc16,h⟩ | ⟨hc16,h⟩
 ·refine cT hc16 ?_
  refine skip ?_
  refine seq ?_
  refine block ?_
  refine sr ?_
  refine q (J t15) ?_
  refine aq (J t15) ?_
  refine ns ?_
  refine q (J 0) ?_
  refine nl ?_
  refine meet (σ:=Unit) (fun _ tm os=>⟨updL tm [(1,(eptr [(J r1.Stack),(J r1.Start),(sl z2 f3 e4),(sl z6 f7 e8),(sl z10 f11 e12)] 0)),(7,(J (r1.Call.length:Int))),(8,(J t15))],updL os [],s.M⟩) (fun _=>impl_Rewriter_isStructural_J2 t15=some ee1) ?_ ?_
  ·rintro _ tm os h
   unfold impl_Rewriter_isStructural_J2 at h
   refine inBlock ?_
   refine region ?_
   refine q (J (W (t15+1))) ?_
   refine q (J (W (t15+1))) ?_
   refine nl ?_
   cases h
   exact res [(1,(eptr [(J r1.Stack),(J r1.Start),(sl z2 f3 e4),(sl z6 f7 e8),(sl z10 f11 e12)] 0)),(7,(J (r1.Call.length:Int))),(8,(J (W (t15+1))))] [] ⟨rfl,rfl,rfl,tv⟩ tv (hL1 _ rfl () _ _ tv)
  intro KJ17
  refine block ?_
  refine res [(1,(eptr [(J r1.Stack),(J r1.Start),(sl z2 f3 e4),(sl z6 f7 e8),(sl z10 f11 e12)] 0)),(3,(J t15)),(7,(J (r1.Call.length:Int))),(8,(J t15)),(11,(J 0))] [] ⟨rfl,rfl,rfl,rfl,rfl,tv⟩ tv ?_
  refine loopF (σ:=Int) (τ:=Unit) (fun t18 _=>True) (fun t18 _ tm os=>⟨updL tm [(1,(eptr [(J r1.Stack),(J r1.Start),(sl z2 f3 e4),(sl z6 f7 e8),(sl z10 f11 e12)] 0)),(3,(J t15)),(7,(J (r1.Call.length:Int))),(8,(J t15)),(11,(J t18))],updL os [],s.M⟩) ?_ (x:=(0)) (y:=()) h tv
  clear h
  rintro t18 _ tm os - ee2 h hL2 hR2
  unfold impl_Rewriter_isStructural_S2 at h
  refine sr ?_
  refine q (bool (decide ((t18:Int)<2))) ?_
  refine nl ?_
  refine seq ?_
  rcases oite h with ⟨hc19,h⟩ | ⟨hc19,h⟩
  ·refine cT hc19 ?_
   refine skip ?_
   refine seq ?_
   refine block ?_
   refine sr ?_
   refine q (J t18) ?_
   refine aq (J t18) ?_
   refine ns ?_
   refine q (eptr [(J r1.Stack),(J r1.Start),(sl z2 f3 e4),(sl z6 f7 e8),(sl z10 f11 e12)] 2) ?_
   refine lE (sl z2 f3 e4) ?_
   refine q (J t15) ?_
   obtain ⟨x20,h21,h⟩:=obind h
   obtain ⟨v24,h22,h23⟩:=idx_sl h5 h21
   obtain ⟨z25,f26,e27,rfl,h28⟩:=h22
   refine pureR rfl rfl rfl h23 rfl (rfl:_=(eptr [(sl z25 f26 e27)] 0)) ?_
   refine lE (sl z25 f26 e27) ?_
   refine q (J t18) ?_
   obtain ⟨x29,h30,h⟩:=obind h
   obtain ⟨v33,h31,h32⟩:=idx_sl h28 h30
   obtain ⟨_,rfl,h34⟩:=h31
   obtain ⟨_,_,rfl,h35,h36⟩:=Cs_cons h34
   cases h35
   obtain ⟨_,_,rfl,h37,h38⟩:=Cs_cons h36
   cases h37
   obtain ⟨_,_,rfl,h39,h40⟩:=Cs_cons h38
   cases h39
   cases Cs_nil h40
   refine pureR rfl rfl rfl h32 rfl (rfl:_=(eptr [(J x29.To),(J x29.Put),(str x29.Out)] 0)) ?_
   refine q (eptr [(J x29.To),(J x29.Put),(str x29.Out)] 2) ?_
   refine lE (str x29.Out) ?_
   obtain ⟨y41,h42,h⟩:=obind h
   refine cP (impl_isPending_ok  h42 hWF) ?_
   intro _ o44 h43
   cases h43
   refine q (bool (!y41)) ?_
   refine q (bool (!y41)) ?_
   obtain ⟨b46,hb,h⟩:=obind h
   refine split 12 (fun f'=>∃ tm' os',f'=⟨updL tm' [(1,(eptr [(J r1.Stack),(J r1.Start),(sl z2 f3 e4),(sl z6 f7 e8),(sl z10 f11 e12)] 0)),(3,(J t15)),(4,(J t18)),(7,(J (r1.Call.length:Int))),(8,(J t15)),(11,(J t18)),(37,(bool b46))],updL os' [],s.M⟩) ?_ ?_
   ·rcases oite hb with ⟨hc45,hb⟩ | ⟨hc45,hb⟩
    ·refine kn 25 hc45 ?_
     refine sk ?_
     refine sk ?_
     refine sk ?_
     refine sk ?_
     refine sk ?_
     refine sk ?_
     refine sk ?_
     refine sk ?_
     refine sk ?_
     refine sk ?_
     refine sk ?_
     refine q (bool true) ?_
     exact rR ⟨rfl,rfl,rfl,rfl,rfl,rfl,bJ hb,tv⟩
    ·have h:=hb
     refine kn 25 hc45 ?_
     refine q (eptr [(J r1.Stack),(J r1.Start),(sl z2 f3 e4),(sl z6 f7 e8),(sl z10 f11 e12)] 4) ?_
     refine lE (sl z10 f11 e12) ?_
     refine q (J t15) ?_
     obtain ⟨x47,h48,h⟩:=obind h
     obtain ⟨v51,h49,h50⟩:=idx_sl h13 h48
     obtain ⟨z52,f53,e54,rfl,h55⟩:=h49
     refine pureR rfl rfl rfl h50 rfl (rfl:_=(eptr [(sl z52 f53 e54)] 0)) ?_
     refine lE (sl z52 f53 e54) ?_
     refine q (J t18) ?_
     obtain ⟨x56,h57,h⟩:=obind h
     obtain ⟨v60,h58,h59⟩:=idx_sl h55 h57
     obtain ⟨_,rfl,h61⟩:=h58
     obtain ⟨_,_,rfl,h62,h63⟩:=Cs_cons h61
     cases h62
     obtain ⟨_,_,rfl,h64,h65⟩:=Cs_cons h63
     cases h64
     cases Cs_nil h65
     refine pureR rfl rfl rfl h59 rfl (rfl:_=(eptr [(J x56.To),(str x56.Out)] 0)) ?_
     refine q (eptr [(J x56.To),(str x56.Out)] 1) ?_
     refine lE (str x56.Out) ?_
     obtain ⟨y66,h67,h⟩:=obind h
     refine cP (impl_isPending_ok  h67 hWF) ?_
     intro _ o69 h68
     cases h68
     refine q (bool (!y66)) ?_
     refine q (bool (!y66)) ?_
     exact rR ⟨rfl,rfl,rfl,rfl,rfl,rfl,bJ h,tv⟩
   rintro _ ⟨tm,os,rfl⟩
   refine q (bool b46) ?_
   obtain ⟨b71,hb,h⟩:=obind h
   refine split 10 (fun f'=>∃ tm' os',f'=⟨updL tm' [(1,(eptr [(J r1.Stack),(J r1.Start),(sl z2 f3 e4),(sl z6 f7 e8),(sl z10 f11 e12)] 0)),(3,(J t15)),(7,(J (r1.Call.length:Int))),(8,(J t15)),(11,(J t18)),(48,(bool b71))],updL os' [],s.M⟩) ?_ ?_
   ·rcases oite hb with ⟨hc70,hb⟩ | ⟨hc70,hb⟩
    ·refine kn 38 hc70 ?_
     refine sk ?_
     refine sk ?_
     refine sk ?_
     refine sk ?_
     refine sk ?_
     refine sk ?_
     refine sk ?_
     refine sk ?_
     refine sk ?_
     refine q (bool true) ?_
     exact rR ⟨rfl,rfl,rfl,rfl,rfl,bJ hb,tv⟩
    ·have h:=hb
     refine kn 38 hc70 ?_
     refine q (eptr [(J r1.Stack),(J r1.Start),(sl z2 f3 e4),(sl z6 f7 e8),(sl z10 f11 e12)] 3) ?_
     refine lE (sl z6 f7 e8) ?_
     refine q (J t15) ?_
     obtain ⟨x72,h73,h⟩:=obind h
     obtain ⟨v76,h74,h75⟩:=idx_sl h9 h73
     obtain ⟨z77,f78,e79,rfl,h80⟩:=h74
     refine pureR rfl rfl rfl h75 rfl (rfl:_=(eptr [(sl z77 f78 e79)] 0)) ?_
     refine lE (sl z77 f78 e79) ?_
     refine q (J t18) ?_
     obtain ⟨x81,h82,h⟩:=obind h
     obtain ⟨v85,h83,h84⟩:=idx_sl h80 h82
     obtain ⟨z86,f87,e88,rfl,h89⟩:=h83
     refine pureR rfl rfl rfl h84 rfl (rfl:_=(eptr [(sl z86 f87 e88)] 0)) ?_
     refine lE (sl z86 f87 e88) ?_
     obtain ⟨y95,h96,h⟩:=obind h
     refine cP (slices_ContainsFunc_simpl_OutMove_impl_OutMove_ok h89 (by intro x vs y hc hx s hs; obtain ⟨_,_,rfl,hv0,hd0⟩:=Cs_cons hc; obtain ⟨_,rfl,h90⟩:=hv0; obtain ⟨_,_,rfl,h91,h92⟩:=Cs_cons h90; cases h91; obtain ⟨_,_,rfl,h93,h94⟩:=Cs_cons h92; cases h93; cases Cs_nil h94; cases Cs_nil hd0; exact impl_Rewriter_isStructural_1_ok  hx hs) h96 hWF) ?_
     intro _ o98 h97
     cases h97
     refine q (bool y95) ?_
     exact rR ⟨rfl,rfl,rfl,rfl,rfl,bJ h,tv⟩
   rintro _ ⟨tm,os,rfl⟩
   refine nl ?_
   rcases oite h with ⟨hc99,h⟩ | ⟨hc99,h⟩
   ·refine cT hc99 ?_
    refine sr ?_
    refine q (bool false) ?_
    refine nl ?_
    cases h
    have hr:=hR2 _ rfl
    cases hr
    have hr:=hR1 _ rfl
    subst hr
    exact ret ⟨rfl,_,_,rfl,rfl⟩
   refine cF hc99 ?_
   refine skip ?_
   refine inBlock ?_
   refine region ?_
   refine q (J (W (t18+1))) ?_
   refine q (J (W (t18+1))) ?_
   refine nl ?_
   cases h
   exact res [(1,(eptr [(J r1.Stack),(J r1.Start),(sl z2 f3 e4),(sl z6 f7 e8),(sl z10 f11 e12)] 0)),(3,(J t15)),(7,(J (r1.Call.length:Int))),(8,(J t15)),(11,(J (W (t18+1))))] [] ⟨rfl,rfl,rfl,rfl,rfl,tv⟩ tv (hL2 _ rfl () _ _ tv)
  refine cF hc19 ?_
  refine exit rfl ?_
  obtain ⟨r100,hm,hx⟩:=omap h
  clear h
  subst hx
  have hx:=hR2 _ rfl
  rw[hx] at hm
  have h:=hm
  exact res [(1,(eptr [(J r1.Stack),(J r1.Start),(sl z2 f3 e4),(sl z6 f7 e8),(sl z10 f11 e12)] 0)),(7,(J (r1.Call.length:Int))),(8,(J t15))] [] ⟨rfl,rfl,rfl,tv⟩ tv (KJ17 () _ _ h)
 refine cF hc16 ?_
 refine exit rfl ?_
 obtain ⟨r101,hm,hx⟩:=omap h
 clear h
 subst hx
 have hx:=hR1 _ rfl
 rw[hx] at hm
 have h:=hm
 exact res [] [] tv tv (KJ14 () _ _ h)
theorem impl_built_K0000000_ok {p1 p1_2 p2_3:Int} {p3_4:Int→Option Bool} {p4_8:(Int × Int)→Option Push} {p5_12:(Int × Int × Int)→Option Int} {p6_16:(Int × Int)→Option Int} {g5 g9 g13 g17:Nat} {cap6 cap10 cap14 cap18:List AV} {s:St} (h7:∀ x vs y,Cs [rJ x] vs→p3_4 x=some y→∀ s,WF s→ACall Cf g5 (vs++cap6) s fun v _ s'=>(rB) y v∧s'=s) (h11:∀ x vs y,Cs [rJ x.1,rJ x.2] vs→p4_8 x=some y→∀ s,WF s→ACall Cf g9 (vs++cap10) s fun v _ s'=>(rPush) y v∧s'=s) (h15:∀ x vs y,Cs [rJ x.1,rJ x.2.1,rJ x.2.2] vs→p5_12 x=some y→∀ s,WF s→ACall Cf g13 (vs++cap14) s fun v _ s'=>rJ y v∧s'=s) (h19:∀ x vs y,Cs [rJ x.1,rJ x.2] vs→p6_16 x=some y→∀ s,WF s→ACall Cf g17 (vs++cap18) s fun v _ s'=>rJ y v∧s'=s) {r:Checker} (h:impl_built_K0000000 p1 p1_2 p2_3 p3_4 p4_8 p5_12 p6_16=some r) (hs:WF s):ACall Cf 38 [(J p1),(J p1_2),(J p2_3),(AV.fn g5 cap6),(AV.fn g9 cap10),(AV.fn g13 cap14),(AV.fn g17 cap18)] s (fun v _ s'=>∃ (h1':AV) (k2':KT) (h4':AV) (k5':KT) (h7':AV) (k8':KT) (h10':AV) (k11':KT) (Ls':List (List BX)),v=(agg [(J r.Stack),(J r.Start),h1',h4',h7',h10'])∧HS [] true s s' (([]:List BX)++Ls'.flatten)∧AllG [OS oE4 h1' k2' r.Accept,OS oE63 h4' k5' r.Call,OS oE30 h7' k8' r.Return,OS oE64 h10' k11' r.Inner] Ls'∧h1'.one=true∧h4'.one=true∧h7'.one=true∧h10'.one=true) true:=by
 refine ACall.keepR rfl rfl rfl ?_
 have hH0:=HS.g0 (initK hs)
 have hG0:=AllG.nil
 have hl:LoOK [] true s:=LoOK.nil
 unfold impl_built_K0000000 at h
 refine sr<|allocP rfl rfl rfl rfl ⟨rfl,rfl⟩ rfl<|ns ?_
 refine q (J p1_2) ?_
 refine q (J p2_3) ?_
 refine q (agg [(J p1_2),(J p2_3),(sl 0 true []),(sl 0 true []),(sl 0 true []),(sl 0 true [])])<|alloc1 hH0 rfl rfl rfl rfl rfl rfl ?_
 intro b20 s21 hH22
 change HS [] true s s21 (([⟨some b20,[(J 0),(J 0),(sl 0 true []),(sl 0 true []),(sl 0 true []),(sl 0 true [])],(fun _=>false)⟩]:List BX)++List.flatten ([]:List (List BX))) at hH22
 refine stE (i:=0) (v:=(agg [(J p1_2),(J p2_3),(sl 0 true []),(sl 0 true []),(sl 0 true []),(sl 0 true [])])) hH22 hl rfl rfl rfl rfl rfl rfl rfl rfl rfl (lt_b rfl) (le_b rfl) rfl ?_
 intro w23 s24 h25 h26 hH27
 change HS [] true s s24 (([⟨some b20,[(J p1_2),(J p2_3),(sl 0 true []),(sl 0 true []),(sl 0 true []),(sl 0 true [])],w23⟩]:List BX)++List.flatten ([]:List (List BX))) at hH27
 refine nl<|seq<|sr<|q (J p1)<|q (J 0)<|nl ?_
 refine meet (σ:=(List Bool) × (List (List Push)) × (List (List (List Int))) × (List (List Int)) × (Nat→Bool) × AV × KT × AV × KT × AV × KT × AV × KT × St × (List (List BX))) (fun (m29,m33,m37,m41,w28,h30,k31,h34,k35,h38,k39,h42,k43,s45,Ls46) tm os=>⟨updL tm [(14,(AV.pend 6)),(15,(ptr b20 0))],updL os [(14,true)],s45⟩) (fun (m29,m33,m37,m41,w28,h30,k31,h34,k35,h38,k39,h42,k43,s45,Ls46)=>(h30.one=true)∧(h34.one=true)∧(h38.one=true)∧(h42.one=true)∧(HS [] true s s45 (([⟨some b20,[(J p1_2),(J p2_3),h30,h34,h38,h42],w28⟩]:List BX)++Ls46.flatten))∧(AllG [OS oE4 h30 k31 m29,OS oE63 h34 k35 m33,OS oE30 h38 k39 m37,OS oE64 h42 k43 m41] Ls46)∧impl_built_K0000000_J1 p1_2 p2_3 m29 m33 m37 m41=some r) ?_ ?_
 ·rintro ⟨m29,m33,m37,m41,w28,h30,k31,h34,k35,h38,k39,h42,k43,s45,Ls46⟩ tm os ⟨ho32,ho36,ho40,ho44,hH47,hG48,h⟩
  unfold impl_built_K0000000_J1 at h
  refine sr<|ldB (i:=0) (v:=(agg [(J p1_2),(J p2_3),h30,h34,h38,h42])) hH47 rfl rfl rfl rfl rfl rfl rfl rfl rfl<|stP (v:=(agg [(J p1_2),(J p2_3),h30,h34,h38,h42])) rfl rfl rfl rfl rfl rfl rfl (lay_cons rfl (lay_cons rfl (lay_cons ho32 (lay_cons ho36 (lay_cons ho40 (lay_cons ho44 lay_nil)))))) rfl (lt_b rfl) rfl<|nl ?_
  cases h
  obtain ⟨Ls50,hG51,hH52⟩:=selEG hH47 hG48 [] [some 0,some 1,some 2,some 3]
  exact ret ⟨_,_,rfl,⟨h30,k31,h34,k35,h38,k39,h42,k43,Ls50,rfl,hH52,hG51,ho32,ho36,ho40,ho44⟩⟩
 intro KJ49
 refine block ?_
 obtain ⟨Ls262,hG263,hH264⟩:=selEG hH27 hG0 [some 0] [none,none,none,none]
 change HS [] true s s24 (([⟨some b20,[(J p1_2),(J p2_3),(sl 0 true []),(sl 0 true []),(sl 0 true []),(sl 0 true [])],w23⟩]:List BX)++Ls262.flatten) at hH264
 change AllG [Non,Non,Non,Non] Ls262 at hG263
 have hG265:=AllG.imp hG263 0 rfl (P':=OS oE4 (sl 0 true []) (fun _=>AV.undef) []) (fun L hL=>by cases hL; exact OS.nil (Or.inr rfl))
 change AllG [OS oE4 (sl 0 true []) (fun _=>AV.undef) ([]:List Bool),Non,Non,Non] Ls262 at hG265
 have hG266:=AllG.imp hG265 1 rfl (P':=OS oE63 (sl 0 true []) (fun _=>AV.undef) []) (fun L hL=>by cases hL; exact OS.nil (Or.inr rfl))
 change AllG [OS oE4 (sl 0 true []) (fun _=>AV.undef) ([]:List Bool),OS oE63 (sl 0 true []) (fun _=>AV.undef) ([]:List (List Push)),Non,Non] Ls262 at hG266
 have hG267:=AllG.imp hG266 2 rfl (P':=OS oE30 (sl 0 true []) (fun _=>AV.undef) []) (fun L hL=>by cases hL; exact OS.nil (Or.inr rfl))
 change AllG [OS oE4 (sl 0 true []) (fun _=>AV.undef) ([]:List Bool),OS oE63 (sl 0 true []) (fun _=>AV.undef) ([]:List (List Push)),OS oE30 (sl 0 true []) (fun _=>AV.undef) ([]:List (List (List Int))),Non] Ls262 at hG267
 have hG268:=AllG.imp hG267 3 rfl (P':=OS oE64 (sl 0 true []) (fun _=>AV.undef) []) (fun L hL=>by cases hL; exact OS.nil (Or.inr rfl))
 change AllG [OS oE4 (sl 0 true []) (fun _=>AV.undef) ([]:List Bool),OS oE63 (sl 0 true []) (fun _=>AV.undef) ([]:List (List Push)),OS oE30 (sl 0 true []) (fun _=>AV.undef) ([]:List (List (List Int))),OS oE64 (sl 0 true []) (fun _=>AV.undef) ([]:List (List Int))] Ls262 at hG268
 refine res [(1,(J p1_2)),(3,(AV.fn g5 cap6)),(4,(AV.fn g9 cap10)),(5,(AV.fn g13 cap14)),(6,(AV.fn g17 cap18)),(14,(AV.pend 6)),(15,(ptr b20 0)),(26,(J p1)),(27,(J 0))] [(14,true)] ⟨rfl,rfl,rfl,rfl,rfl,rfl,rfl,rfl,rfl,tv⟩ ⟨rfl,tv⟩ ?_
 refine loopF (σ:=(List Bool) × (List (List Push)) × (List (List (List Int))) × (List (List Int)) × Int) (τ:=(Nat→Bool) × AV × KT × AV × KT × AV × KT × AV × KT × St × (List (List BX))) (fun (m54,m58,m62,m66,t70) (w53,h55,k56,h59,k60,h63,k64,h67,k68,s71,Ls72)=>(h55.one=true)∧(h59.one=true)∧(h63.one=true)∧(h67.one=true)∧(HS [] true s s71 (([⟨some b20,[(J p1_2),(J p2_3),h55,h59,h63,h67],w53⟩]:List BX)++Ls72.flatten))∧(AllG [OS oE4 h55 k56 m54,OS oE63 h59 k60 m58,OS oE30 h63 k64 m62,OS oE64 h67 k68 m66] Ls72)) (fun (m54,m58,m62,m66,t70) (w53,h55,k56,h59,k60,h63,k64,h67,k68,s71,Ls72) tm os=>⟨updL tm [(1,(J p1_2)),(3,(AV.fn g5 cap6)),(4,(AV.fn g9 cap10)),(5,(AV.fn g13 cap14)),(6,(AV.fn g17 cap18)),(14,(AV.pend 6)),(15,(ptr b20 0)),(26,(J p1)),(27,(J t70))],updL os [(14,true)],s71⟩) ?_ (x:=(([]:List Bool),([]:List (List Push)),([]:List (List (List Int))),([]:List (List Int)),0)) (y:=(w23,(sl 0 true []),(fun _=>AV.undef),(sl 0 true []),(fun _=>AV.undef),(sl 0 true []),(fun _=>AV.undef),(sl 0 true []),(fun _=>AV.undef),s24,Ls262)) h ⟨rfl,rfl,rfl,rfl,hH264,hG268⟩
 clear h
 rintro ⟨m54,m58,m62,m66,t70⟩ ⟨w53,h55,k56,h59,k60,h63,k64,h67,k68,s71,Ls72⟩ tm os ⟨ho57,ho61,ho65,ho69,hH73,hG74⟩ ee1 h hL1 hR1
 unfold impl_built_K0000000_S1 at h
 dsimp only at h
 refine sr<|q (bool (decide ((t70:Int)<p1)))<|nl ?_
 refine seq ?_
 rcases oite h with ⟨hc75,h⟩ | ⟨hc75,h⟩
 ·refine cT hc75<|skip<|seq<|block<|sr<|q (J t70) ?_
  refine aq (J t70)<|ns ?_
  refine makeR rfl rfl rfl rfl rfl rfl (rfl:_=(sl 2 true []))<|makeR rfl rfl rfl rfl rfl rfl (rfl:_=(sl 1 true []))<|makeR rfl rfl rfl rfl rfl rfl (rfl:_=(sl 1 true []))<|aq (sl 2 true []) ?_
  refine aq (sl 1 true []) ?_
  refine aq (sl 1 true [])<|nl ?_
  refine seq<|sr<|q (J 0)<|nl ?_
  refine meet (σ:=(List Push) × (List (List Int)) × (List Int) × AV × KT × AV × KT × AV × KT × St × (List (List BX))) (fun (t76,t80,t84,h77,k78,h81,k82,h85,k86,s88,Ls89) tm os=>⟨updL tm [(1,(J p1_2)),(3,(AV.fn g5 cap6)),(4,(AV.fn g9 cap10)),(5,(AV.fn g13 cap14)),(6,(AV.fn g17 cap18)),(14,(AV.pend 6)),(15,(ptr b20 0)),(16,(J t70)),(17,h77),(18,h81),(19,h85),(26,(J p1)),(27,(J t70))],updL os [(14,true)],s88⟩) (fun (t76,t80,t84,h77,k78,h81,k82,h85,k86,s88,Ls89)=>(h77.one=true)∧(h81.one=true)∧(h85.one=true)∧(HS [] true s s88 (([⟨some b20,[(J p1_2),(J p2_3),h55,h59,h63,h67],w53⟩]:List BX)++Ls89.flatten))∧(AllG [OS oE4 h55 k56 m54,OS oE63 h59 k60 m58,OS oE30 h63 k64 m62,OS oE64 h67 k68 m66,OS oE71 h77 k78 t76,OS oE64 h81 k82 t80,OS oE2 h85 k86 t84] Ls89)∧impl_built_K0000000_J2 p3_4 m54 m58 m62 m66 t70 t76 t80 t84=some ee1) ?_ ?_
  ·rintro ⟨t76,t80,t84,h77,k78,h81,k82,h85,k86,s88,Ls89⟩ tm os ⟨ho79,ho83,ho87,hH90,hG91,h⟩
   unfold impl_built_K0000000_J2 at h
   refine region<|q (ptr b20 2)<|ldB (i:=0) (v:=h55) hH90 rfl rfl rfl rfl rfl rfl rfl rfl rfl ?_
   refine q (AV.fn g5 cap6) ?_
   refine q (J t70) ?_
   obtain ⟨y93,h94,h⟩:=obind h
   refine callDP (g:=g5) (args:=([(J t70)]++cap6)) (p:=(rB) y93) rfl rfl rfl (h7 t70 _ _ (.cons rfl .nil) h94 _ ((wf' hH90).still)) (fun v hv=>Nice.pure (k:=FINK) (p:=(rB) y93) .B _ v hv) ?_
   intro _ o96 h95
   cases h95
   refine makeR rfl rfl rfl rfl rfl rfl (rfl:_=(sl 1 true [(bool y93)])) ?_
   obtain ⟨l97,h98,h⟩:=obind h
   refine appLf (j:=0) (z':=1) (f':=true) (e':=[(bool y93)]) hH90 hG91 rfl rfl rfl rfl rfl rfl rfl rfl (appSrc_sl (LR.z (LR.lit (r:=rB) (sz:=1) (.cons rfl .nil))) rfl) ⟨by decide,by decide,rfl,rfl⟩ ⟨rfl,rfl⟩ rfl rfl h98 (LR.el (LR.lit (r:=rB) (sz:=1) (.cons rfl .nil))).len (fun i=>OL.leaf (LR.el (LR.lit (r:=rB) (sz:=1) (.cons rfl .nil))) i) ?_
   intro h99 k101 Ls102 s103 ho100 hG104 hH105
   change HS [] true s s103 (([⟨some b20,[(J p1_2),(J p2_3),h55,h59,h63,h67],w53⟩]:List BX)++Ls102.flatten) at hH105
   change AllG [OS oE4 h99 k101 l97,OS oE63 h59 k60 m58,OS oE30 h63 k64 m62,OS oE64 h67 k68 m66,OS oE71 h77 k78 t76,OS oE64 h81 k82 t80,OS oE2 h85 k86 t84] Ls102 at hG104
   refine q (ptr b20 3)<|ldB (i:=0) (v:=h59) hH105 rfl rfl rfl rfl rfl rfl rfl rfl rfl ?_
   refine q h77 ?_
   refine lit1 rfl rfl rfl rfl rfl rfl ho79 rfl rfl ?_
   obtain ⟨l106,h107,h⟩:=obind h
   refine appO (j:=1) (j2:=4) hH105 hG104 rfl rfl (by decide) rfl rfl rfl rfl rfl rfl rfl rfl ⟨by decide,by decide,rfl,rfl⟩ ⟨rfl,rfl⟩ rfl rfl h107 ?_
   intro h108 k110 Ls111 s112 ho109 hG113 hH114
   change HS [] true s s112 (([⟨some b20,[(J p1_2),(J p2_3),h55,h59,h63,h67],w53⟩]:List BX)++Ls111.flatten) at hH114
   change AllG [OS oE4 h99 k101 l97,OS oE63 h108 k110 l106,OS oE30 h63 k64 m62,OS oE64 h67 k68 m66,Non,OS oE64 h81 k82 t80,OS oE2 h85 k86 t84] Ls111 at hG113
   refine q (ptr b20 4)<|ldB (i:=0) (v:=h63) hH114 rfl rfl rfl rfl rfl rfl rfl rfl rfl ?_
   refine q h81 ?_
   refine lit1 rfl rfl rfl rfl rfl rfl ho83 rfl rfl ?_
   obtain ⟨l115,h116,h⟩:=obind h
   refine appO (j:=2) (j2:=5) hH114 hG113 rfl rfl (by decide) rfl rfl rfl rfl rfl rfl rfl rfl ⟨by decide,by decide,rfl,rfl⟩ ⟨rfl,rfl⟩ rfl rfl h116 ?_
   intro h117 k119 Ls120 s121 ho118 hG122 hH123
   change HS [] true s s121 (([⟨some b20,[(J p1_2),(J p2_3),h55,h59,h63,h67],w53⟩]:List BX)++Ls120.flatten) at hH123
   change AllG [OS oE4 h99 k101 l97,OS oE63 h108 k110 l106,OS oE30 h117 k119 l115,OS oE64 h67 k68 m66,Non,Non,OS oE2 h85 k86 t84] Ls120 at hG122
   refine q (ptr b20 5)<|ldB (i:=0) (v:=h67) hH123 rfl rfl rfl rfl rfl rfl rfl rfl rfl ?_
   refine q h85 ?_
   refine lit1 rfl rfl rfl rfl rfl rfl ho87 rfl rfl ?_
   obtain ⟨l124,h125,h⟩:=obind h
   refine appO (j:=3) (j2:=6) hH123 hG122 rfl rfl (by decide) rfl rfl rfl rfl rfl rfl rfl rfl ⟨by decide,by decide,rfl,rfl⟩ ⟨rfl,rfl⟩ rfl rfl h125 ?_
   intro h126 k128 Ls129 s130 ho127 hG131 hH132
   change HS [] true s s130 (([⟨some b20,[(J p1_2),(J p2_3),h55,h59,h63,h67],w53⟩]:List BX)++Ls129.flatten) at hH132
   change AllG [OS oE4 h99 k101 l97,OS oE63 h108 k110 l106,OS oE30 h117 k119 l115,OS oE64 h126 k128 l124,Non,Non,Non] Ls129 at hG131
   refine q (ptr b20 2)<|stE (i:=0) (v:=h99) hH132 hl rfl rfl rfl rfl rfl rfl rfl (one_lay ho100) (one_len ho100) (lt_b rfl) (le_b rfl) rfl ?_
   intro w133 s134 h135 h136 hH137
   rw[AV.cells_one ho100] at hH137
   change HS [] true s s134 (([⟨some b20,[(J p1_2),(J p2_3),h99,h59,h63,h67],w133⟩]:List BX)++Ls129.flatten) at hH137
   refine q (ptr b20 3)<|stE (i:=0) (v:=h108) hH137 hl rfl rfl rfl rfl rfl rfl rfl (one_lay ho109) (one_len ho109) (lt_b rfl) (le_b rfl) rfl ?_
   intro w138 s139 h140 h141 hH142
   rw[AV.cells_one ho109] at hH142
   change HS [] true s s139 (([⟨some b20,[(J p1_2),(J p2_3),h99,h108,h63,h67],w138⟩]:List BX)++Ls129.flatten) at hH142
   refine q (ptr b20 4)<|stE (i:=0) (v:=h117) hH142 hl rfl rfl rfl rfl rfl rfl rfl (one_lay ho118) (one_len ho118) (lt_b rfl) (le_b rfl) rfl ?_
   intro w143 s144 h145 h146 hH147
   rw[AV.cells_one ho118] at hH147
   change HS [] true s s144 (([⟨some b20,[(J p1_2),(J p2_3),h99,h108,h117,h67],w143⟩]:List BX)++Ls129.flatten) at hH147
   refine q (ptr b20 5)<|stE (i:=0) (v:=h126) hH147 hl rfl rfl rfl rfl rfl rfl rfl (one_lay ho127) (one_len ho127) (lt_b rfl) (le_b rfl) rfl ?_
   intro w148 s149 h150 h151 hH152
   rw[AV.cells_one ho127] at hH152
   change HS [] true s s149 (([⟨some b20,[(J p1_2),(J p2_3),h99,h108,h117,h126],w148⟩]:List BX)++Ls129.flatten) at hH152
   refine nl<|inBlock<|region<|q (J (W (t70+1))) ?_
   refine q (J (W (t70+1)))<|nl ?_
   cases h
   obtain ⟨Ls153,hG154,hH155⟩:=selEG hH152 hG131 [some 0] [some 0,some 1,some 2,some 3]
   change HS [] true s s149 (([⟨some b20,[(J p1_2),(J p2_3),h99,h108,h117,h126],w148⟩]:List BX)++Ls153.flatten) at hH155
   change AllG [OS oE4 h99 k101 l97,OS oE63 h108 k110 l106,OS oE30 h117 k119 l115,OS oE64 h126 k128 l124] Ls153 at hG154
   exact res [(1,(J p1_2)),(3,(AV.fn g5 cap6)),(4,(AV.fn g9 cap10)),(5,(AV.fn g13 cap14)),(6,(AV.fn g17 cap18)),(14,(AV.pend 6)),(15,(ptr b20 0)),(26,(J p1)),(27,(J (W (t70+1))))] [(14,true)] ⟨rfl,rfl,rfl,rfl,rfl,rfl,rfl,rfl,rfl,tv⟩ ⟨rfl,tv⟩ (hL1 _ rfl (w148,h99,k101,h108,k110,h117,k119,h126,k128,s149,Ls153) _ _ ⟨ho100,ho109,ho118,ho127,hH155,hG154⟩)
  intro KJ92
  refine block ?_
  obtain ⟨Ls255,hG256,hH257⟩:=selEG hH73 hG74 [some 0] [some 0,some 1,some 2,some 3,none,none,none]
  change HS [] true s s71 (([⟨some b20,[(J p1_2),(J p2_3),h55,h59,h63,h67],w53⟩]:List BX)++Ls255.flatten) at hH257
  change AllG [OS oE4 h55 k56 m54,OS oE63 h59 k60 m58,OS oE30 h63 k64 m62,OS oE64 h67 k68 m66,Non,Non,Non] Ls255 at hG256
  have hG258:=AllG.imp hG256 4 rfl (P':=OS oE71 (sl 2 true []) (fun _=>AV.undef) []) (fun L hL=>by cases hL; exact OS.nil (Or.inl rfl))
  change AllG [OS oE4 h55 k56 m54,OS oE63 h59 k60 m58,OS oE30 h63 k64 m62,OS oE64 h67 k68 m66,OS oE71 (sl 2 true []) (fun _=>AV.undef) ([]:List Push),Non,Non] Ls255 at hG258
  have hG259:=AllG.imp hG258 5 rfl (P':=OS oE64 (sl 1 true []) (fun _=>AV.undef) []) (fun L hL=>by cases hL; exact OS.nil (Or.inl rfl))
  change AllG [OS oE4 h55 k56 m54,OS oE63 h59 k60 m58,OS oE30 h63 k64 m62,OS oE64 h67 k68 m66,OS oE71 (sl 2 true []) (fun _=>AV.undef) ([]:List Push),OS oE64 (sl 1 true []) (fun _=>AV.undef) ([]:List (List Int)),Non] Ls255 at hG259
  have hG260:=AllG.imp hG259 6 rfl (P':=OS oE2 (sl 1 true []) (fun _=>AV.undef) []) (fun L hL=>by cases hL; exact OS.nil (Or.inl rfl))
  change AllG [OS oE4 h55 k56 m54,OS oE63 h59 k60 m58,OS oE30 h63 k64 m62,OS oE64 h67 k68 m66,OS oE71 (sl 2 true []) (fun _=>AV.undef) ([]:List Push),OS oE64 (sl 1 true []) (fun _=>AV.undef) ([]:List (List Int)),OS oE2 (sl 1 true []) (fun _=>AV.undef) ([]:List Int)] Ls255 at hG260
  refine res [(1,(J p1_2)),(3,(AV.fn g5 cap6)),(4,(AV.fn g9 cap10)),(5,(AV.fn g13 cap14)),(6,(AV.fn g17 cap18)),(14,(AV.pend 6)),(15,(ptr b20 0)),(16,(J t70)),(17,(sl 2 true [])),(18,(sl 1 true [])),(19,(sl 1 true [])),(26,(J p1)),(27,(J t70)),(33,(J 0))] [(14,true)] ⟨rfl,rfl,rfl,rfl,rfl,rfl,rfl,rfl,rfl,rfl,rfl,rfl,rfl,rfl,tv⟩ ⟨rfl,tv⟩ ?_
  refine loopF (σ:=(List Push) × (List (List Int)) × (List Int) × Int) (τ:=AV × KT × AV × KT × AV × KT × St × (List (List BX))) (fun (t156,t160,t164,t168) (h157,k158,h161,k162,h165,k166,s169,Ls170)=>(h157.one=true)∧(h161.one=true)∧(h165.one=true)∧(HS [] true s s169 (([⟨some b20,[(J p1_2),(J p2_3),h55,h59,h63,h67],w53⟩]:List BX)++Ls170.flatten))∧(AllG [OS oE4 h55 k56 m54,OS oE63 h59 k60 m58,OS oE30 h63 k64 m62,OS oE64 h67 k68 m66,OS oE71 h157 k158 t156,OS oE64 h161 k162 t160,OS oE2 h165 k166 t164] Ls170)) (fun (t156,t160,t164,t168) (h157,k158,h161,k162,h165,k166,s169,Ls170) tm os=>⟨updL tm [(1,(J p1_2)),(3,(AV.fn g5 cap6)),(4,(AV.fn g9 cap10)),(5,(AV.fn g13 cap14)),(6,(AV.fn g17 cap18)),(14,(AV.pend 6)),(15,(ptr b20 0)),(16,(J t70)),(17,h157),(18,h161),(19,h165),(26,(J p1)),(27,(J t70)),(33,(J t168))],updL os [(14,true)],s169⟩) ?_ (x:=(([]:List Push),([]:List (List Int)),([]:List Int),0)) (y:=((sl 2 true []),(fun _=>AV.undef),(sl 1 true []),(fun _=>AV.undef),(sl 1 true []),(fun _=>AV.undef),s71,Ls255)) h ⟨rfl,rfl,rfl,hH257,hG260⟩
  clear h
  rintro ⟨t156,t160,t164,t168⟩ ⟨h157,k158,h161,k162,h165,k166,s169,Ls170⟩ tm os ⟨ho159,ho163,ho167,hH171,hG172⟩ ee2 h hL2 hR2
  unfold impl_built_K0000000_S2 at h
  dsimp only at h
  refine sr<|q (bool (decide ((t168:Int)<2)))<|nl ?_
  refine seq ?_
  rcases oite h with ⟨hc173,h⟩ | ⟨hc173,h⟩
  ·refine cT hc173<|skip<|seq<|block<|sr<|q (J t168) ?_
   refine aq (J t168)<|ns ?_
   refine makeR rfl rfl rfl rfl rfl rfl (rfl:_=(sl 1 true []))<|aq (sl 1 true [])<|nl ?_
   refine seq<|sr<|q (J p1_2) ?_
   refine q (J (W (p1_2+1)))<|q (J 0)<|nl ?_
   refine meet (σ:=(List Int) × AV × KT × St × (List (List BX))) (fun (t174,h175,k176,s178,Ls179) tm os=>⟨updL tm [(1,(J p1_2)),(3,(AV.fn g5 cap6)),(4,(AV.fn g9 cap10)),(5,(AV.fn g13 cap14)),(6,(AV.fn g17 cap18)),(14,(AV.pend 6)),(15,(ptr b20 0)),(16,(J t70)),(17,h157),(18,h161),(19,h165),(20,(J t168)),(21,h175),(26,(J p1)),(27,(J t70)),(33,(J t168))],updL os [(14,true)],s178⟩) (fun (t174,h175,k176,s178,Ls179)=>(h175.one=true)∧(HS [] true s s178 (([⟨some b20,[(J p1_2),(J p2_3),h55,h59,h63,h67],w53⟩]:List BX)++Ls179.flatten))∧(AllG [OS oE4 h55 k56 m54,OS oE63 h59 k60 m58,OS oE30 h63 k64 m62,OS oE64 h67 k68 m66,OS oE71 h157 k158 t156,OS oE64 h161 k162 t160,OS oE2 h165 k166 t164,OS oE2 h175 k176 t174] Ls179)∧impl_built_K0000000_J3 p4_8 p6_16 t70 t156 t160 t164 t168 t174=some ee2) ?_ ?_
   ·rintro ⟨t174,h175,k176,s178,Ls179⟩ tm os ⟨ho177,hH180,hG181,h⟩
    unfold impl_built_K0000000_J3 at h
    refine region<|q h157 ?_
    refine q (AV.fn g9 cap10) ?_
    refine q (J t70) ?_
    refine q (J t168) ?_
    obtain ⟨y183,h184,h⟩:=obind h
    refine callP (g:=g9) (args:=([(J t70),(J t168)]++cap10)) (p:=(rPush) y183) rfl rfl rfl (h11 (t70,t168) _ _ (.cons rfl (.cons rfl .nil)) h184 _ (wf' hH180)) ?_
    intro _ o191 h185
    obtain ⟨_,rfl,h186⟩:=h185
    obtain ⟨_,_,rfl,h187,h188⟩:=Cs_cons h186
    cases h187
    obtain ⟨_,_,rfl,h189,h190⟩:=Cs_cons h188
    cases h189
    cases Cs_nil h190
    refine makeR rfl rfl rfl rfl rfl rfl (rfl:_=(sl 2 true [(agg [(J y183.To),(J y183.Put)])])) ?_
    obtain ⟨l192,h193,h⟩:=obind h
    refine appLf (j:=4) (z':=2) (f':=true) (e':=[(agg [(J y183.To),(J y183.Put)])]) hH180 hG181 rfl rfl rfl rfl rfl rfl rfl rfl (appSrc_sl (LR.z (show LR rPush 2 (([y183]:List Push):List Push) 2 [(agg [(J y183.To),(J y183.Put)])] from LR.lit (r:=rPush) (sz:=2) (.cons ⟨_,rfl,(.cons rfl (.cons rfl .nil))⟩ .nil))) rfl) ⟨by decide,by decide,rfl,rfl⟩ ⟨rfl,rfl⟩ rfl rfl h193 (LR.el (show LR rPush 2 (([y183]:List Push):List Push) 2 [(agg [(J y183.To),(J y183.Put)])] from LR.lit (r:=rPush) (sz:=2) (.cons ⟨_,rfl,(.cons rfl (.cons rfl .nil))⟩ .nil))).len (fun i=>OL.leaf (LR.el (show LR rPush 2 (([y183]:List Push):List Push) 2 [(agg [(J y183.To),(J y183.Put)])] from LR.lit (r:=rPush) (sz:=2) (.cons ⟨_,rfl,(.cons rfl (.cons rfl .nil))⟩ .nil))) i) ?_
    intro h194 k196 Ls197 s198 ho195 hG199 hH200
    change HS [] true s s198 (([⟨some b20,[(J p1_2),(J p2_3),h55,h59,h63,h67],w53⟩]:List BX)++Ls197.flatten) at hH200
    change AllG [OS oE4 h55 k56 m54,OS oE63 h59 k60 m58,OS oE30 h63 k64 m62,OS oE64 h67 k68 m66,OS oE71 h194 k196 l192,OS oE64 h161 k162 t160,OS oE2 h165 k166 t164,OS oE2 h175 k176 t174] Ls197 at hG199
    refine q h161 ?_
    refine q h175 ?_
    refine lit1 rfl rfl rfl rfl rfl rfl ho177 rfl rfl ?_
    obtain ⟨l201,h202,h⟩:=obind h
    refine appO (j:=5) (j2:=7) hH200 hG199 rfl rfl (by decide) rfl rfl rfl rfl rfl rfl rfl rfl ⟨by decide,by decide,rfl,rfl⟩ ⟨rfl,rfl⟩ rfl rfl h202 ?_
    intro h203 k205 Ls206 s207 ho204 hG208 hH209
    change HS [] true s s207 (([⟨some b20,[(J p1_2),(J p2_3),h55,h59,h63,h67],w53⟩]:List BX)++Ls206.flatten) at hH209
    change AllG [OS oE4 h55 k56 m54,OS oE63 h59 k60 m58,OS oE30 h63 k64 m62,OS oE64 h67 k68 m66,OS oE71 h194 k196 l192,OS oE64 h203 k205 l201,OS oE2 h165 k166 t164,Non] Ls206 at hG208
    refine q h165 ?_
    refine q (AV.fn g17 cap18) ?_
    refine q (J t70) ?_
    refine q (J t168) ?_
    obtain ⟨y210,h211,h⟩:=obind h
    refine callP (g:=g17) (args:=([(J t70),(J t168)]++cap18)) (p:=rJ y210) rfl rfl rfl (h19 (t70,t168) _ _ (.cons rfl (.cons rfl .nil)) h211 _ (wf' hH209)) ?_
    intro _ o213 h212
    cases h212
    refine makeR rfl rfl rfl rfl rfl rfl (rfl:_=(sl 1 true [(J y210)])) ?_
    obtain ⟨l214,h215,h⟩:=obind h
    refine appLf (j:=6) (z':=1) (f':=true) (e':=[(J y210)]) hH209 hG208 rfl rfl rfl rfl rfl rfl rfl rfl (appSrc_sl (LR.z (LR.lit (r:=rI .i64) (sz:=1) (.cons rfl .nil))) rfl) ⟨by decide,by decide,rfl,rfl⟩ ⟨rfl,rfl⟩ rfl rfl h215 (LR.el (LR.lit (r:=rI .i64) (sz:=1) (.cons rfl .nil))).len (fun i=>OL.leaf (LR.el (LR.lit (r:=rI .i64) (sz:=1) (.cons rfl .nil))) i) ?_
    intro h216 k218 Ls219 s220 ho217 hG221 hH222
    change HS [] true s s220 (([⟨some b20,[(J p1_2),(J p2_3),h55,h59,h63,h67],w53⟩]:List BX)++Ls219.flatten) at hH222
    change AllG [OS oE4 h55 k56 m54,OS oE63 h59 k60 m58,OS oE30 h63 k64 m62,OS oE64 h67 k68 m66,OS oE71 h194 k196 l192,OS oE64 h203 k205 l201,OS oE2 h216 k218 l214,Non] Ls219 at hG221
    refine aq h194 ?_
    refine aq h203 ?_
    refine aq h216<|nl ?_
    refine inBlock<|region<|q (J (W (t168+1))) ?_
    refine q (J (W (t168+1)))<|nl ?_
    cases h
    obtain ⟨Ls223,hG224,hH225⟩:=selEG hH222 hG221 [some 0] [some 0,some 1,some 2,some 3,some 4,some 5,some 6]
    change HS [] true s s220 (([⟨some b20,[(J p1_2),(J p2_3),h55,h59,h63,h67],w53⟩]:List BX)++Ls223.flatten) at hH225
    change AllG [OS oE4 h55 k56 m54,OS oE63 h59 k60 m58,OS oE30 h63 k64 m62,OS oE64 h67 k68 m66,OS oE71 h194 k196 l192,OS oE64 h203 k205 l201,OS oE2 h216 k218 l214] Ls223 at hG224
    exact res [(1,(J p1_2)),(3,(AV.fn g5 cap6)),(4,(AV.fn g9 cap10)),(5,(AV.fn g13 cap14)),(6,(AV.fn g17 cap18)),(14,(AV.pend 6)),(15,(ptr b20 0)),(16,(J t70)),(17,h194),(18,h203),(19,h216),(26,(J p1)),(27,(J t70)),(33,(J (W (t168+1))))] [(14,true)] ⟨rfl,rfl,rfl,rfl,rfl,rfl,rfl,rfl,rfl,rfl,rfl,rfl,rfl,rfl,tv⟩ ⟨rfl,tv⟩ (hL2 _ rfl (h194,k196,h203,k205,h216,k218,s220,Ls223) _ _ ⟨ho195,ho204,ho217,hH225,hG224⟩)
   intro KJ182
   refine block ?_
   obtain ⟨Ls250,hG251,hH252⟩:=selEG hH171 hG172 [some 0] [some 0,some 1,some 2,some 3,some 4,some 5,some 6,none]
   change HS [] true s s169 (([⟨some b20,[(J p1_2),(J p2_3),h55,h59,h63,h67],w53⟩]:List BX)++Ls250.flatten) at hH252
   change AllG [OS oE4 h55 k56 m54,OS oE63 h59 k60 m58,OS oE30 h63 k64 m62,OS oE64 h67 k68 m66,OS oE71 h157 k158 t156,OS oE64 h161 k162 t160,OS oE2 h165 k166 t164,Non] Ls250 at hG251
   have hG253:=AllG.imp hG251 7 rfl (P':=OS oE2 (sl 1 true []) (fun _=>AV.undef) []) (fun L hL=>by cases hL; exact OS.nil (Or.inl rfl))
   change AllG [OS oE4 h55 k56 m54,OS oE63 h59 k60 m58,OS oE30 h63 k64 m62,OS oE64 h67 k68 m66,OS oE71 h157 k158 t156,OS oE64 h161 k162 t160,OS oE2 h165 k166 t164,OS oE2 (sl 1 true []) (fun _=>AV.undef) ([]:List Int)] Ls250 at hG253
   refine res [(1,(J p1_2)),(3,(AV.fn g5 cap6)),(4,(AV.fn g9 cap10)),(5,(AV.fn g13 cap14)),(6,(AV.fn g17 cap18)),(14,(AV.pend 6)),(15,(ptr b20 0)),(16,(J t70)),(17,h157),(18,h161),(19,h165),(20,(J t168)),(21,(sl 1 true [])),(26,(J p1)),(27,(J t70)),(33,(J t168)),(38,(J (W (p1_2+1)))),(39,(J 0))] [(14,true)] ⟨rfl,rfl,rfl,rfl,rfl,rfl,rfl,rfl,rfl,rfl,rfl,rfl,rfl,rfl,rfl,rfl,rfl,rfl,tv⟩ ⟨rfl,tv⟩ ?_
   refine loopF (σ:=(List Int) × Int) (τ:=AV × KT × St × (List (List BX))) (fun (t226,t230) (h227,k228,s231,Ls232)=>(h227.one=true)∧(HS [] true s s231 (([⟨some b20,[(J p1_2),(J p2_3),h55,h59,h63,h67],w53⟩]:List BX)++Ls232.flatten))∧(AllG [OS oE4 h55 k56 m54,OS oE63 h59 k60 m58,OS oE30 h63 k64 m62,OS oE64 h67 k68 m66,OS oE71 h157 k158 t156,OS oE64 h161 k162 t160,OS oE2 h165 k166 t164,OS oE2 h227 k228 t226] Ls232)) (fun (t226,t230) (h227,k228,s231,Ls232) tm os=>⟨updL tm [(1,(J p1_2)),(3,(AV.fn g5 cap6)),(4,(AV.fn g9 cap10)),(5,(AV.fn g13 cap14)),(6,(AV.fn g17 cap18)),(14,(AV.pend 6)),(15,(ptr b20 0)),(16,(J t70)),(17,h157),(18,h161),(19,h165),(20,(J t168)),(21,h227),(26,(J p1)),(27,(J t70)),(33,(J t168)),(38,(J (W (p1_2+1)))),(39,(J t230))],updL os [(14,true)],s231⟩) ?_ (x:=(([]:List Int),0)) (y:=((sl 1 true []),(fun _=>AV.undef),s169,Ls250)) h ⟨rfl,hH252,hG253⟩
   clear h
   rintro ⟨t226,t230⟩ ⟨h227,k228,s231,Ls232⟩ tm os ⟨ho229,hH233,hG234⟩ ee3 h hL3 hR3
   unfold impl_built_K0000000_S3 at h
   dsimp only at h
   refine sr<|q (bool (decide ((t230:Int)<(W (p1_2+1)))))<|nl ?_
   refine seq ?_
   rcases oite h with ⟨hc235,h⟩ | ⟨hc235,h⟩
   ·refine cT hc235<|skip<|seq<|block<|sr<|q (J t230) ?_
    refine aq (J t230)<|nl ?_
    refine region<|q h227 ?_
    refine q (AV.fn g13 cap14) ?_
    refine q (J t70) ?_
    refine q (J t168) ?_
    refine q (J t230) ?_
    obtain ⟨y236,h237,h⟩:=obind h
    refine callP (g:=g13) (args:=([(J t70),(J t168),(J t230)]++cap14)) (p:=rJ y236) rfl rfl rfl (h15 (t70,t168,t230) _ _ (.cons rfl (.cons rfl (.cons rfl .nil))) h237 _ (wf' hH233)) ?_
    intro _ o239 h238
    cases h238
    refine makeR rfl rfl rfl rfl rfl rfl (rfl:_=(sl 1 true [(J y236)])) ?_
    obtain ⟨l240,h241,h⟩:=obind h
    refine appLf (j:=7) (z':=1) (f':=true) (e':=[(J y236)]) hH233 hG234 rfl rfl rfl rfl rfl rfl rfl rfl (appSrc_sl (LR.z (LR.lit (r:=rI .i64) (sz:=1) (.cons rfl .nil))) rfl) ⟨by decide,by decide,rfl,rfl⟩ ⟨rfl,rfl⟩ rfl rfl h241 (LR.el (LR.lit (r:=rI .i64) (sz:=1) (.cons rfl .nil))).len (fun i=>OL.leaf (LR.el (LR.lit (r:=rI .i64) (sz:=1) (.cons rfl .nil))) i) ?_
    intro h242 k244 Ls245 s246 ho243 hG247 hH248
    change HS [] true s s246 (([⟨some b20,[(J p1_2),(J p2_3),h55,h59,h63,h67],w53⟩]:List BX)++Ls245.flatten) at hH248
    change AllG [OS oE4 h55 k56 m54,OS oE63 h59 k60 m58,OS oE30 h63 k64 m62,OS oE64 h67 k68 m66,OS oE71 h157 k158 t156,OS oE64 h161 k162 t160,OS oE2 h165 k166 t164,OS oE2 h242 k244 l240] Ls245 at hG247
    refine aq h242<|nl ?_
    refine inBlock<|region<|q (J (W (t230+1))) ?_
    refine q (J (W (t230+1)))<|nl ?_
    cases h
    exact res [(1,(J p1_2)),(3,(AV.fn g5 cap6)),(4,(AV.fn g9 cap10)),(5,(AV.fn g13 cap14)),(6,(AV.fn g17 cap18)),(14,(AV.pend 6)),(15,(ptr b20 0)),(16,(J t70)),(17,h157),(18,h161),(19,h165),(20,(J t168)),(21,h242),(26,(J p1)),(27,(J t70)),(33,(J t168)),(38,(J (W (p1_2+1)))),(39,(J (W (t230+1))))] [(14,true)] ⟨rfl,rfl,rfl,rfl,rfl,rfl,rfl,rfl,rfl,rfl,rfl,rfl,rfl,rfl,rfl,rfl,rfl,rfl,tv⟩ ⟨rfl,tv⟩ (hL3 _ rfl (h242,k244,s246,Ls245) _ _ ⟨ho243,hH248,hG247⟩)
   refine cF hc235<|exit rfl ?_
   obtain ⟨r249,hm,hx⟩:=omap h
   clear h
   subst hx
   have hx:=hR3 _ rfl
   rw[hx] at hm
   have h:=hm
   exact res [(1,(J p1_2)),(3,(AV.fn g5 cap6)),(4,(AV.fn g9 cap10)),(5,(AV.fn g13 cap14)),(6,(AV.fn g17 cap18)),(14,(AV.pend 6)),(15,(ptr b20 0)),(16,(J t70)),(17,h157),(18,h161),(19,h165),(20,(J t168)),(21,h227),(26,(J p1)),(27,(J t70)),(33,(J t168))] [(14,true)] ⟨rfl,rfl,rfl,rfl,rfl,rfl,rfl,rfl,rfl,rfl,rfl,rfl,rfl,rfl,rfl,rfl,tv⟩ ⟨rfl,tv⟩ (KJ182 (t226,h227,k228,s231,Ls232) _ _ ⟨ho229,hH233,hG234,h⟩)
  refine cF hc173<|exit rfl ?_
  obtain ⟨r254,hm,hx⟩:=omap h
  clear h
  subst hx
  have hx:=hR2 _ rfl
  rw[hx] at hm
  have h:=hm
  exact res [(1,(J p1_2)),(3,(AV.fn g5 cap6)),(4,(AV.fn g9 cap10)),(5,(AV.fn g13 cap14)),(6,(AV.fn g17 cap18)),(14,(AV.pend 6)),(15,(ptr b20 0)),(16,(J t70)),(17,h157),(18,h161),(19,h165),(26,(J p1)),(27,(J t70))] [(14,true)] ⟨rfl,rfl,rfl,rfl,rfl,rfl,rfl,rfl,rfl,rfl,rfl,rfl,rfl,tv⟩ ⟨rfl,tv⟩ (KJ92 (t156,t160,t164,h157,k158,h161,k162,h165,k166,s169,Ls170) _ _ ⟨ho159,ho163,ho167,hH171,hG172,h⟩)
 refine cF hc75<|exit rfl ?_
 obtain ⟨r261,hm,hx⟩:=omap h
 clear h
 subst hx
 have hx:=hR1 _ rfl
 rw[hx] at hm
 have h:=hm
 exact res [(14,(AV.pend 6)),(15,(ptr b20 0))] [(14,true)] ⟨rfl,rfl,tv⟩ ⟨rfl,tv⟩ (KJ49 (m54,m58,m62,m66,w53,h55,k56,h59,k60,h63,k64,h67,k68,s71,Ls72) _ _ ⟨ho57,ho61,ho65,ho69,hH73,hG74,h⟩)
theorem impl_PreimageChecker_1_ok {x1 c19:Int} {c2:Checker} {z3 z7 z11 z15:Nat} {f4 f8 f12 f16:Bool} {e5 e9 e13 e17:List AV} {s:St} (h6:LR rB 1 c2.Accept z3 e5) (h10:LR (rL rPush 2) 1 c2.Call z7 e9) (h14:LR (rL (rL rJ 1) 1) 1 c2.Return z11 e13) (h18:LR (rL rJ 1) 1 c2.Inner z15 e17) {r:Bool} (h:impl_PreimageChecker_1 x1 c2 c19=some r) (hs:WF s):ACall Cf 39 [(J x1),(eptr [(J c2.Stack),(J c2.Start),(sl z3 f4 e5),(sl z7 f8 e9),(sl z11 f12 e13),(sl z15 f16 e17)] 0),(eptr [(J c19)] 0)] s fun v _ s'=>(rB) r v∧s'=s:=by
 refine ACall.pure rfl rfl rfl .B ?_
 have hWF:=hs.lo'
 unfold impl_PreimageChecker_1 at h
 refine sr<|q (bool false)<|ns ?_
 refine q (eptr [(J c2.Stack),(J c2.Start),(sl z3 f4 e5),(sl z7 f8 e9),(sl z11 f12 e13),(sl z15 f16 e17)] 2) ?_
 refine lE (sl z3 f4 e5) ?_
 refine q (J x1) ?_
 refine lE (J c19) ?_
 obtain ⟨q20,h21,h⟩:=obind h
 refine pureR rfl rfl rfl (rem_ok h21) rfl (rfl:_=(J q20)) ?_
 obtain ⟨x22,h23,h⟩:=obind h
 obtain ⟨v26,h24,h25⟩:=idx_sl h6 h23
 cases h24
 refine pureR rfl rfl rfl h25 rfl (rfl:_=(eptr [(bool x22)] 0))<|lE (bool x22) ?_
 refine aq (bool x22)<|nl ?_
 cases h
 exact ret ⟨rfl,_,_,rfl,rfl⟩
theorem impl_Checker_end_1_F1_ok {s1 c710:Int} {rest2 c1114:List Int} {z3 b8 b12 z15:Nat} {f4 f16:Bool} {e5 e17:List AV} {w9 w13:Nat→Bool} {s:St} (h6:LR rJ 1 rest2 z3 e5) (h18:LR rJ 1 c1114 z15 e17) (hE:HS [b8,b12] false s { s with lo:=s.n } [⟨some b8,[(J c710)],w9⟩,⟨some b12,[(sl z15 f16 e17)],w13⟩]) {r:Unit × Int × (List Int)} (h:impl_Checker_end_1_F1 s1 rest2 c710 c1114=some r) (hs:WF s):ACall Cf 98 [(J s1),(sl z3 f4 e5),(ptr b8 0),(ptr b12 0)] s fun v _ s'=>(fun (_:Unit)=>rT []) r.1 v∧∃ (w0':Nat→Bool) (w1':Nat→Bool) (z1':Nat) (f1':Bool) (e1':List AV),Fx [b8,b12] s s' [⟨some b8,[(J r.2.1)],w0'⟩,⟨some b12,[(sl z1' f1' e1')],w1'⟩]∧LR rJ 1 r.2.2 z1' e1':=by
 refine ACall.foreign rfl rfl rfl ?_
 unfold impl_Checker_end_1_F1 at h
 refine region<|q (J s1) ?_
 refine q (sl z3 f4 e5)<|AOps.stX (i:=0) (v:=(J s1)) hE rfl rfl rfl rfl rfl rfl rfl rfl rfl (lt_b rfl) (le_b rfl) rfl rfl ?_
 intro w19 s20 h21 h22 hH23
 refine AOps.stX (i:=1) (v:=(sl z3 f4 e5)) hH23 rfl rfl rfl rfl rfl rfl rfl rfl rfl (lt_b rfl) (le_b rfl) rfl (Nice.pure (k:=FINK) (p:=(rL rJ 1) rest2) (.L fun _=>.I) 0 _ ⟨_,_,_,rfl,h6⟩) ?_
 intro w24 s25 h26 h27 hH28
 refine nl ?_
 cases h
 exact AW.nil ⟨_,_,rfl,finF (p:=(fun (_:Unit)=>rT []) ()) (Fin.T .nil) ⟨w19,w24,z3,f4,e5,HS.leaveP hH28 [0,1] rfl,h6⟩⟩
theorem impl_kindOf_ok {c1 r:Int} {s:St} (h:impl_kindOf c1=some r) (hs:WF s):ACall Cf 133 [(int .u8 c1)] s fun v _ s'=>rJ r v∧s'=s:=by
 refine ACall.pure rfl rfl rfl .I ?_
 have hWF:=hs.lo'
 unfold impl_kindOf at h
 refine sr<|q (J 0)<|ns ?_
 refine q (int .u8 c1) ?_
 obtain ⟨y2,h3,h⟩:=obind h
 refine cP (strings_IndexByte_ok  h3 hWF) ?_
 intro _ o5 h4
 cases h4
 obtain ⟨q6,h7,h⟩:=obind h
 refine pureR rfl rfl rfl (rem_ok h7) rfl (rfl:_=(J q6))<|aq (J q6)<|nl ?_
 cases h
 exact ret ⟨rfl,_,_,rfl,rfl⟩
theorem impl_isInner_ok {c1:Int} {s:St} {r:Bool} (h:impl_isInner c1=some r) (hs:WF s):ACall Cf 135 [(int .u8 c1)] s fun v _ s'=>(rB) r v∧s'=s:=by
 refine ACall.pure rfl rfl rfl .B ?_
 have hWF:=hs.lo'
 unfold impl_isInner at h
 refine sr<|q (bool false)<|ns ?_
 refine q (int .u8 c1) ?_
 refine q (bool (c1 == 97)) ?_
 refine q (bool (c1 == 97)) ?_
 refine split 3 (fun f'=>∃ tm' os',f'=⟨updL tm' [(8,(bool ((c1 == 97)||(c1 == 98))))],updL os' [],s.M⟩) ?_ ?_
 ·rcases Bool.eq_false_or_eq_true (c1 == 97) with hc2 | hc2
  ·refine kn 5 hc2<|sk ?_
   refine sk ?_
   refine q (bool true) ?_
   exact rR ⟨congrArg bool (or_t hc2),tv⟩
  ·refine kn 5 hc2<|q (int .u8 c1) ?_
   refine q (bool (c1 == 98)) ?_
   refine q (bool (c1 == 98)) ?_
   exact rR ⟨congrArg bool (or_f hc2),tv⟩
 rintro _ ⟨tm,os,rfl⟩
 refine aq (bool ((c1 == 97)||(c1 == 98)))<|nl ?_
 cases h
 exact ret ⟨rfl,_,_,rfl,rfl⟩
theorem impl_Checker_step_ok {p1:Checker} {p1_18 p3_24:Int} {p2_19:List Int} {z2 z6 z10 z14 z20:Nat} {f3 f7 f11 f15 f21:Bool} {e4 e8 e12 e16 e22:List AV} {s:St} (h5:LR rB 1 p1.Accept z2 e4) (h9:LR (rL rPush 2) 1 p1.Call z6 e8) (h13:LR (rL (rL rJ 1) 1) 1 p1.Return z10 e12) (h17:LR (rL rJ 1) 1 p1.Inner z14 e16) (h23:LR rJ 1 p2_19 z20 e22) {r:Int × (List Int)} (h:impl_Checker_step p1 p1_18 p2_19 p3_24=some r) (hs:WF s):ACall Cf 122 [(agg [(J p1.Stack),(J p1.Start),(sl z2 f3 e4),(sl z6 f7 e8),(sl z10 f11 e12),(sl z14 f15 e16)]),(J p1_18),(sl z20 f21 e22),(int .u8 p3_24)] s fun v _ s'=>(fun x=>rT [rJ x.1,(rL rJ 1) x.2]) r v∧s'=s:=by
 refine ACall.pure rfl rfl rfl (.T (.cons .I (.cons (.L fun _=>.I) .nil))) ?_
 have hWF:=hs.lo'
 unfold impl_Checker_step at h
 refine sr<|makeR rfl rfl rfl rfl rfl rfl (rfl:_=(eptr [(J p1.Stack),(J p1.Start),(sl z2 f3 e4),(sl z6 f7 e8),(sl z10 f11 e12),(sl z14 f15 e16)] 0))<|q (J 0)<|q (sl 0 true [])<|ns ?_
 refine q (int .u8 p3_24) ?_
 obtain ⟨y25,h26,h⟩:=obind h
 refine cP (impl_kindOf_ok  h26 hWF) ?_
 intro _ o28 h27
 cases h27
 refine aq (J y25)<|nl ?_
 refine seq<|block<|sr<|q (int .u8 p3_24) ?_
 obtain ⟨y29,h30,h⟩:=obind h
 refine cP (impl_isCall_ok  h30 hWF) ?_
 intro _ o32 h31
 cases h31
 refine aq (bool y29)<|nl ?_
 rcases oite h with ⟨hc33,h⟩ | ⟨hc33,h⟩
 ·refine cT hc33<|sr<|q (eptr [(J p1.Stack),(J p1.Start),(sl z2 f3 e4),(sl z6 f7 e8),(sl z10 f11 e12),(sl z14 f15 e16)] 3) ?_
  refine lE (sl z6 f7 e8) ?_
  refine q (J p1_18) ?_
  obtain ⟨x34,h35,h⟩:=obind h
  obtain ⟨v38,h36,h37⟩:=idx_sl h9 h35
  obtain ⟨z39,f40,e41,rfl,h42⟩:=h36
  refine pureR rfl rfl rfl h37 rfl (rfl:_=(eptr [(sl z39 f40 e41)] 0))<|lE (sl z39 f40 e41) ?_
  refine q (J y25) ?_
  obtain ⟨x43,h44,h⟩:=obind h
  obtain ⟨v47,h45,h46⟩:=idx_sl h42 h44
  obtain ⟨_,rfl,h48⟩:=h45
  obtain ⟨_,_,rfl,h49,h50⟩:=Cs_cons h48
  cases h49
  obtain ⟨_,_,rfl,h51,h52⟩:=Cs_cons h50
  cases h51
  cases Cs_nil h52
  refine pureR rfl rfl rfl h46 rfl (rfl:_=(eptr [(J x43.To),(J x43.Put)] 0))<|lE (agg [(J x43.To),(J x43.Put)])<|allocP rfl rfl rfl rfl ⟨rfl,rfl⟩ rfl<|stP (v:=(agg [(J x43.To),(J x43.Put)])) rfl rfl rfl rfl rfl rfl rfl rfl rfl (lt_b rfl) rfl<|ns ?_
  refine q (eptr [(J x43.To),(J x43.Put)] 0) ?_
  refine lE (J x43.To) ?_
  refine q (sl z20 f21 e22) ?_
  obtain ⟨y53,h54,h⟩:=obind h
  refine AOps.callDPO (g:=134) (args:=[(sl z20 f21 e22)]) (p:=(rL rJ 1) y53) rfl rfl rfl (ext_clone134_ok h23 h54 hWF.still) (fun v hv=>Nice.pure (k:=FINK) (p:=(rL rJ 1) y53) (.L fun _=>.I) _ v hv) ?_
  intro _ h55
  obtain ⟨z56,f57,e58,rfl,h59⟩:=h55
  refine q (eptr [(J x43.To),(J x43.Put)] 1) ?_
  refine lE (J x43.Put)<|makeR rfl rfl rfl rfl rfl rfl (rfl:_=(sl 1 true [(J x43.Put)])) ?_
  obtain ⟨l61,h62,h⟩:=obind h
  obtain ⟨h63,h64⟩:=app_LR h59 (LR.lit (r:=rI .i64) (sz:=1) (.cons rfl .nil)) h62
  refine AOps.appL (z:=z56) (f:=f57) (e:=e58) (z':=1) (f':=true) (e':=[(J x43.Put)]) rfl rfl rfl rfl rfl rfl rfl (appSrc_sl (LR.z (LR.lit (r:=rI .i64) (sz:=1) (.cons rfl .nil))) rfl) (LR.z h59) ⟨by decide,by decide,rfl,rfl⟩ rfl rfl h64 (Or.inr ⟨30,rfl,rfl⟩)<|aq (J x43.To) ?_
  refine aq (sl 1 false (e58++[(J x43.Put)]))<|nl ?_
  cases h
  exact ret ⟨rfl,_,_,rfl,⟨_,rfl,(.cons rfl (.cons ⟨_,_,_,rfl,h63⟩ .nil))⟩⟩
 refine cF hc33<|sr<|q (int .u8 p3_24) ?_
 obtain ⟨y65,h66,h⟩:=obind h
 refine cP (impl_isInner_ok  h66 hWF) ?_
 intro _ o68 h67
 cases h67
 refine aq (bool y65)<|nl ?_
 rcases oite h with ⟨hc69,h⟩ | ⟨hc69,h⟩
 ·refine cT hc69<|sr<|q (eptr [(J p1.Stack),(J p1.Start),(sl z2 f3 e4),(sl z6 f7 e8),(sl z10 f11 e12),(sl z14 f15 e16)] 5) ?_
  refine lE (sl z14 f15 e16) ?_
  refine q (J p1_18) ?_
  obtain ⟨x70,h71,h⟩:=obind h
  obtain ⟨v74,h72,h73⟩:=idx_sl h17 h71
  obtain ⟨z75,f76,e77,rfl,h78⟩:=h72
  refine pureR rfl rfl rfl h73 rfl (rfl:_=(eptr [(sl z75 f76 e77)] 0))<|lE (sl z75 f76 e77) ?_
  refine q (J y25) ?_
  obtain ⟨x79,h80,h⟩:=obind h
  obtain ⟨v83,h81,h82⟩:=idx_sl h78 h80
  cases h81
  refine pureR rfl rfl rfl h82 rfl (rfl:_=(eptr [(J x79)] 0))<|lE (J x79) ?_
  refine q (sl z20 f21 e22) ?_
  refine aq (J x79) ?_
  refine aq (sl z20 f21 e22)<|nl ?_
  cases h
  exact ret ⟨rfl,_,_,rfl,⟨_,rfl,(.cons rfl (.cons ⟨_,_,_,rfl,h23⟩ .nil))⟩⟩
 refine cF hc69<|skip<|inBlock<|sr<|q (eptr [(J p1.Stack),(J p1.Start),(sl z2 f3 e4),(sl z6 f7 e8),(sl z10 f11 e12),(sl z14 f15 e16)] 0) ?_
 refine lE (J p1.Stack) ?_
 refine aq (J p1.Stack)<|nl ?_
 refine seq<|sr<|q (sl z20 f21 e22)<|AOps.p rfl (len_eq h23) ?_
 refine aq (J (p2_19.length:Int))<|ns ?_
 refine q (J (p2_19.length:Int)) ?_
 refine q (bool (decide (((p2_19.length:Int):Int)>0)))<|nl ?_
 refine meet (σ:=(List Int) × Int × Nat × Bool × (List AV)) (fun (t84,t89,z85,f86,e87) tm os=>⟨updL tm [(1,(J p1_18)),(2,(sl z85 f86 e87)),(4,(eptr [(J p1.Stack),(J p1.Start),(sl z2 f3 e4),(sl z6 f7 e8),(sl z10 f11 e12),(sl z14 f15 e16)] 0)),(10,(J y25)),(12,(J t89))],updL os [],s.M⟩) (fun (t84,t89,z85,f86,e87)=>(LR rJ 1 t84 z85 e87)∧impl_Checker_step_J1 p1 p1_18 y25 t84 t89=some r) ?_ ?_
 ·rintro ⟨t84,t89,z85,f86,e87⟩ tm os ⟨h88,h⟩
  unfold impl_Checker_step_J1 at h
  refine sr<|q (eptr [(J p1.Stack),(J p1.Start),(sl z2 f3 e4),(sl z6 f7 e8),(sl z10 f11 e12),(sl z14 f15 e16)] 4) ?_
  refine lE (sl z10 f11 e12) ?_
  refine q (J p1_18) ?_
  obtain ⟨x91,h92,h⟩:=obind h
  obtain ⟨v95,h93,h94⟩:=idx_sl h13 h92
  obtain ⟨z96,f97,e98,rfl,h99⟩:=h93
  refine pureR rfl rfl rfl h94 rfl (rfl:_=(eptr [(sl z96 f97 e98)] 0))<|lE (sl z96 f97 e98) ?_
  refine q (J y25) ?_
  obtain ⟨x100,h101,h⟩:=obind h
  obtain ⟨v104,h102,h103⟩:=idx_sl h99 h101
  obtain ⟨z105,f106,e107,rfl,h108⟩:=h102
  refine pureR rfl rfl rfl h103 rfl (rfl:_=(eptr [(sl z105 f106 e107)] 0))<|lE (sl z105 f106 e107) ?_
  refine q (J t89) ?_
  obtain ⟨x109,h110,h⟩:=obind h
  obtain ⟨v113,h111,h112⟩:=idx_sl h108 h110
  cases h111
  refine pureR rfl rfl rfl h112 rfl (rfl:_=(eptr [(J x109)] 0))<|lE (J x109) ?_
  refine q (sl z85 f86 e87) ?_
  refine aq (J x109) ?_
  refine aq (sl z85 f86 e87)<|nl ?_
  cases h
  exact ret ⟨rfl,_,_,rfl,⟨_,rfl,(.cons rfl (.cons ⟨_,_,_,rfl,h88⟩ .nil))⟩⟩
 intro KJ90
 rcases oite h with ⟨hc114,h⟩ | ⟨hc114,h⟩
 ·refine cT hc114<|region<|q (sl z20 f21 e22) ?_
  refine q (J (p2_19.length:Int)) ?_
  refine q (J (W ((p2_19.length:Int) - 1))) ?_
  obtain ⟨x115,h116,h⟩:=obind h
  obtain ⟨v119,h117,h118⟩:=idx_sl h23 h116
  cases h117
  refine pureR rfl rfl rfl h118 rfl (rfl:_=(eptr [(J x115)] 0))<|lE (J x115) ?_
  refine q (sl z20 f21 e22) ?_
  refine q (J (p2_19.length:Int)) ?_
  refine q (J (W ((p2_19.length:Int) - 1))) ?_
  obtain ⟨l120,h121,h⟩:=obind h
  obtain ⟨f122,e123,h124,h125⟩:=cut_slH f21 h23 h121
  refine pureR rfl rfl rfl h125 rfl (rfl:_=(sl z20 f122 e123))<|aq (J x115) ?_
  refine aq (sl z20 f122 e123)<|nl ?_
  exact res [(1,(J p1_18)),(2,(sl z20 f122 e123)),(4,(eptr [(J p1.Stack),(J p1.Start),(sl z2 f3 e4),(sl z6 f7 e8),(sl z10 f11 e12),(sl z14 f15 e16)] 0)),(10,(J y25)),(12,(J x115))] [] ⟨rfl,rfl,rfl,rfl,rfl,tv⟩ tv (KJ90 (l120,x115,z20,f122,e123) _ _ ⟨h124,h⟩)
 exact cF hc114<|skip<|res [(1,(J p1_18)),(2,(sl z20 f21 e22)),(4,(eptr [(J p1.Stack),(J p1.Start),(sl z2 f3 e4),(sl z6 f7 e8),(sl z10 f11 e12),(sl z14 f15 e16)] 0)),(10,(J y25)),(12,(J p1.Stack))] [] ⟨rfl,rfl,rfl,rfl,rfl,tv⟩ tv (KJ90 (p2_19,p1.Stack,z20,f21,e22) _ _ ⟨h23,h⟩)
theorem impl_Checker_run_F1_ok {c1:Checker} {state18 c2629:Int} {stack19 c3033:List Int} {w24:List UInt8} {z2 z6 z10 z14 z20 b27 b31 z34:Nat} {f3 f7 f11 f15 f21 f35:Bool} {e4 e8 e12 e16 e22 e36:List AV} {w28 w32:Nat→Bool} {s:St} (h5:LR rB 1 c1.Accept z2 e4) (h9:LR (rL rPush 2) 1 c1.Call z6 e8) (h13:LR (rL (rL rJ 1) 1) 1 c1.Return z10 e12) (h17:LR (rL rJ 1) 1 c1.Inner z14 e16) (h23:LR rJ 1 stack19 z20 e22) (h37:LR rJ 1 c3033 z34 e36) (hE:HS [b27,b31] false s { s with lo:=s.n } [⟨some b27,[(J c2629)],w28⟩,⟨some b31,[(sl z34 f35 e36)],w32⟩]) {r:Unit × Int × (List Int)} (h:impl_Checker_run_F1 c1 state18 stack19 w24 c2629 c3033=some r) (hs:WF s):ACall Cf 97 [(agg [(J c1.Stack),(J c1.Start),(sl z2 f3 e4),(sl z6 f7 e8),(sl z10 f11 e12),(sl z14 f15 e16)]),(J state18),(sl z20 f21 e22),(str w24),(AV.fn 98 [(ptr b27 0),(ptr b31 0)])] s fun v _ s'=>(fun (_:Unit)=>rT []) r.1 v∧∃ (w0':Nat→Bool) (w1':Nat→Bool) (z1':Nat) (f1':Bool) (e1':List AV),Fx [b27,b31] s s' [⟨some b27,[(J r.2.1)],w0'⟩,⟨some b31,[(sl z1' f1' e1')],w1'⟩]∧LR rJ 1 r.2.2 z1' e1':=by
 refine ACall.foreign rfl rfl rfl ?_
 unfold impl_Checker_run_F1 at h
 refine sr<|makeR rfl rfl rfl rfl rfl rfl (rfl:_=(eptr [(J c1.Stack),(J c1.Start),(sl z2 f3 e4),(sl z6 f7 e8),(sl z10 f11 e12),(sl z14 f15 e16)] 0))<|ns ?_
 refine q (AV.fn 98 [(ptr b27 0),(ptr b31 0)]) ?_
 refine q (J state18) ?_
 refine q (sl z20 f21 e22) ?_
 obtain ⟨y38,h39,h⟩:=obind h
 refine callF (g:=98) (args:=[(J state18),(sl z20 f21 e22),(ptr b27 0),(ptr b31 0)]) rfl rfl rfl (impl_Checker_end_1_F1_ok h23 h37 (HS.enterP hE [0,1] [b27,b31] rfl (by decide)) h39 (wf' hE)) ?_
 intro _ o45 s42 h44
 obtain ⟨h40,w46,w47,z48,f49,e50,h41,h51⟩:=h44
 have hH43:=HS.callP hE [0,1] h41 rfl rfl
 cases h40
 refine ns<|q (str w24) ?_
 refine q (J (w24.length:Int))<|q (J 0)<|nl ?_
 refine meet (σ:=Int × (List Int) × (Nat→Bool) × (Nat→Bool) × Nat × Bool × (List AV) × St) (fun (m53,m55,w52,w54,z56,f57,e58,s60) tm os=>⟨updL tm [],updL os [],s60⟩) (fun (m53,m55,w52,w54,z56,f57,e58,s60)=>(LR rJ 1 m55 z56 e58)∧(HS [b27,b31] false s s60 [⟨some b27,[(J m53)],w52⟩,⟨some b31,[(sl z56 f57 e58)],w54⟩])∧impl_Checker_run_F1_J1 m53 m55=some r) ?_ ?_
 ·rintro ⟨m53,m55,w52,w54,z56,f57,e58,s60⟩ tm os ⟨h59,hH61,h⟩
  unfold impl_Checker_run_F1_J1 at h
  cases h
  exact AW.nil ⟨_,_,rfl,finF (p:=(fun (_:Unit)=>rT []) ()) (Fin.T .nil) ⟨w52,w54,z56,f57,e58,HS.leaveP hH61 [0,1] rfl,h59⟩⟩
 intro KJ62
 refine block<|res [(1,(J state18)),(2,(sl z20 f21 e22)),(3,(str w24)),(4,(AV.fn 98 [(ptr b27 0),(ptr b31 0)])),(5,(eptr [(J c1.Stack),(J c1.Start),(sl z2 f3 e4),(sl z6 f7 e8),(sl z10 f11 e12),(sl z14 f15 e16)] 0)),(16,(J (w24.length:Int))),(17,(J 0))] [] ⟨rfl,rfl,rfl,rfl,rfl,rfl,rfl,tv⟩ tv ?_
 refine loopF (σ:=Int × (List Int) × Int × (List Int) × Int) (τ:=Nat × Bool × (List AV) × (Nat→Bool) × (Nat→Bool) × Nat × Bool × (List AV) × St) (fun (state63,stack64,m70,m72,t77) (z65,f66,e67,w69,w71,z73,f74,e75,s78)=>(LR rJ 1 stack64 z65 e67)∧(LR rJ 1 m72 z73 e75)∧(HS [b27,b31] false s s78 [⟨some b27,[(J m70)],w69⟩,⟨some b31,[(sl z73 f74 e75)],w71⟩])) (fun (state63,stack64,m70,m72,t77) (z65,f66,e67,w69,w71,z73,f74,e75,s78) tm os=>⟨updL tm [(1,(J state63)),(2,(sl z65 f66 e67)),(3,(str w24)),(4,(AV.fn 98 [(ptr b27 0),(ptr b31 0)])),(5,(eptr [(J c1.Stack),(J c1.Start),(sl z2 f3 e4),(sl z6 f7 e8),(sl z10 f11 e12),(sl z14 f15 e16)] 0)),(16,(J (w24.length:Int))),(17,(J t77))],updL os [],s78⟩) ?_ (x:=(state18,stack19,y38.2.1,y38.2.2,0)) (y:=(z20,f21,e22,w46,w47,z48,f49,e50,s42)) h ⟨h23,h51,(HS.sel hH43 [some 0,some 1] (by decide))⟩
 clear h
 rintro ⟨state63,stack64,m70,m72,t77⟩ ⟨z65,f66,e67,w69,w71,z73,f74,e75,s78⟩ tm os ⟨h68,h76,hH79⟩ ee1 h hL1 hR1
 unfold impl_Checker_run_F1_S1 at h
 dsimp only at h
 refine sr<|q (bool (decide ((t77:Int)<(w24.length:Int))))<|nl ?_
 refine seq ?_
 rcases oite h with ⟨hc80,h⟩ | ⟨hc80,h⟩
 ·refine cT hc80<|skip<|seq<|block<|sr<|q (J t77) ?_
  refine aq (J t77)<|ns ?_
  refine lE (agg [(J c1.Stack),(J c1.Start),(sl z2 f3 e4),(sl z6 f7 e8),(sl z10 f11 e12),(sl z14 f15 e16)]) ?_
  refine q (J state63) ?_
  refine q (sl z65 f66 e67) ?_
  refine q (str w24) ?_
  refine q (J t77) ?_
  obtain ⟨c81,h82,h⟩:=obind h
  refine pureR rfl rfl rfl (chr_str h82) rfl (rfl:_=(int .u8 c81)) ?_
  obtain ⟨y83,h84,h⟩:=obind h
  refine callDP (g:=122) (args:=[(agg [(J c1.Stack),(J c1.Start),(sl z2 f3 e4),(sl z6 f7 e8),(sl z10 f11 e12),(sl z14 f15 e16)]),(J state63),(sl z65 f66 e67),(int .u8 c81)]) (p:=(fun x=>rT [rJ x.1,(rL rJ 1) x.2]) y83) rfl rfl rfl (impl_Checker_step_ok h5 h9 h13 h17 h68 h84 ((wf' hH79).still)) (fun v hv=>Nice.pure (k:=FINK) (p:=(fun x=>rT [rJ x.1,(rL rJ 1) x.2]) y83) (.T (.cons .I (.cons (.L fun _=>.I) .nil))) _ v hv) ?_
  intro _ o95 h85
  obtain ⟨_,rfl,h86⟩:=h85
  obtain ⟨_,_,rfl,h87,h88⟩:=Cs_cons h86
  cases h87
  obtain ⟨_,_,rfl,h89,h90⟩:=Cs_cons h88
  obtain ⟨z91,f92,e93,rfl,h94⟩:=h89
  cases Cs_nil h90
  refine q (AV.tup [(J y83.1),(sl z91 f92 e93)]) ?_
  refine q (J y83.1) ?_
  refine q (sl z91 f92 e93) ?_
  refine aq (J y83.1) ?_
  refine aq (sl z91 f92 e93)<|nl ?_
  refine region<|q (AV.fn 98 [(ptr b27 0),(ptr b31 0)]) ?_
  refine q (J y83.1) ?_
  refine q (sl z91 f92 e93) ?_
  obtain ⟨y96,h97,h⟩:=obind h
  refine callF (g:=98) (args:=[(J y83.1),(sl z91 f92 e93),(ptr b27 0),(ptr b31 0)]) rfl rfl rfl (impl_Checker_end_1_F1_ok h94 h76 (HS.enterP hH79 [0,1] [b27,b31] rfl (by decide)) h97 (wf' hH79)) ?_
  intro _ o103 s100 h102
  obtain ⟨h98,w104,w105,z106,f107,e108,h99,h109⟩:=h102
  have hH101:=HS.callP hH79 [0,1] h99 rfl rfl
  cases h98
  refine nl<|inBlock<|region<|q (J (W (t77+1))) ?_
  refine q (J (W (t77+1)))<|nl ?_
  cases h
  exact res [(1,(J y83.1)),(2,(sl z91 f92 e93)),(3,(str w24)),(4,(AV.fn 98 [(ptr b27 0),(ptr b31 0)])),(5,(eptr [(J c1.Stack),(J c1.Start),(sl z2 f3 e4),(sl z6 f7 e8),(sl z10 f11 e12),(sl z14 f15 e16)] 0)),(16,(J (w24.length:Int))),(17,(J (W (t77+1))))] [] ⟨rfl,rfl,rfl,rfl,rfl,rfl,rfl,tv⟩ tv (hL1 _ rfl (z91,f92,e93,w104,w105,z106,f107,e108,s100) _ _ ⟨h94,h109,(HS.sel hH101 [some 0,some 1] (by decide))⟩)
 refine cF hc80<|exit rfl ?_
 obtain ⟨r110,hm,hx⟩:=omap h
 clear h
 subst hx
 have hx:=hR1 _ rfl
 rw[hx] at hm
 have h:=hm
 exact res [] [] tv tv (KJ62 (m70,m72,w69,w71,z73,f74,e75,s78) _ _ ⟨h76,(HS.sel hH79 [some 0,some 1] (by decide)),h⟩)
theorem impl_Checker_end_ok {c1:Checker} {state18:Int} {stack19:List Int} {w24:List UInt8} {z2 z6 z10 z14 z20:Nat} {f3 f7 f11 f15 f21:Bool} {e4 e8 e12 e16 e22:List AV} {s:St} (h5:LR rB 1 c1.Accept z2 e4) (h9:LR (rL rPush 2) 1 c1.Call z6 e8) (h13:LR (rL (rL rJ 1) 1) 1 c1.Return z10 e12) (h17:LR (rL rJ 1) 1 c1.Inner z14 e16) (h23:LR rJ 1 stack19 z20 e22) {r:Int × (List Int)} (h:impl_Checker_end c1 state18 stack19 w24=some r) (hs:WF s):ACall Cf 41 [(agg [(J c1.Stack),(J c1.Start),(sl z2 f3 e4),(sl z6 f7 e8),(sl z10 f11 e12),(sl z14 f15 e16)]),(J state18),(sl z20 f21 e22),(str w24)] s fun v _ s'=>(fun x=>rT [rJ x.1,(rL rJ 1) x.2]) r v∧s'=s:=by
 refine ACall.boxes rfl rfl rfl ?_
 have hH0:=HS.init hs
 unfold impl_Checker_end at h
 refine sr<|makeR rfl rfl rfl rfl rfl rfl (rfl:_=(eptr [(J c1.Stack),(J c1.Start),(sl z2 f3 e4),(sl z6 f7 e8),(sl z10 f11 e12),(sl z14 f15 e16)] 0))<|AOps.box1 (v:=(J state18)) hH0 rfl rfl rfl rfl rfl rfl rfl rfl ?_
 intro b25 s26 hH27
 refine AOps.box1 (v:=(sl z20 f21 e22)) hH27 rfl rfl rfl rfl rfl rfl rfl rfl ?_
 intro b28 s29 hH30
 refine q (J 0)<|q (sl 0 true [])<|ns ?_
 refine lE (agg [(J c1.Stack),(J c1.Start),(sl z2 f3 e4),(sl z6 f7 e8),(sl z10 f11 e12),(sl z14 f15 e16)])<|ldB (i:=1) (v:=(J state18)) hH30 rfl rfl rfl rfl rfl rfl rfl rfl rfl<|ldB (i:=0) (v:=(sl z20 f21 e22)) hH30 rfl rfl rfl rfl rfl rfl rfl rfl rfl ?_
 refine q (str w24) ?_
 refine q (AV.fn 98 [(ptr b25 0),(ptr b28 0)]) ?_
 obtain ⟨y31,h32,h⟩:=obind h
 refine callF (g:=97) (args:=[(agg [(J c1.Stack),(J c1.Start),(sl z2 f3 e4),(sl z6 f7 e8),(sl z10 f11 e12),(sl z14 f15 e16)]),(J state18),(sl z20 f21 e22),(str w24),(AV.fn 98 [(ptr b25 0),(ptr b28 0)])]) rfl rfl rfl (impl_Checker_run_F1_ok h5 h9 h13 h17 h23 h23 (HS.enterP hH30 [1,0] [b25,b28] rfl (by decide)) h32 (wf' hH30)) ?_
 intro _ o38 s35 h37
 obtain ⟨h33,w39,w40,z41,f42,e43,h34,h44⟩:=h37
 have hH36:=HS.callP hH30 [1,0] h34 rfl rfl
 cases h33
 refine ns<|ldB (i:=1) (v:=(J y31.2.1)) hH36 rfl rfl rfl rfl rfl rfl rfl rfl rfl<|ldB (i:=0) (v:=(sl z41 f42 e43)) hH36 rfl rfl rfl rfl rfl rfl rfl rfl rfl<|aq (J y31.2.1) ?_
 refine aq (sl z41 f42 e43)<|nl ?_
 cases h
 exact ret ⟨⟨_,hH36⟩,_,_,rfl,(Fin.T (.cons (Fin.of (p:=rJ y31.2.1) .I rfl) (.cons (Fin.of (p:=(rL rJ 1) y31.2.2) (.L fun _=>.I) (⟨_,_,_,rfl,h44⟩)) .nil))).2⟩
theorem impl_PreimageChecker_2_ok {x1 k2 c16 c34:Int} {c3:Rewriter} {c17:Checker} {z4 z8 z12 z18 z22 z26 z30:Nat} {f5 f9 f13 f19 f23 f27 f31:Bool} {e6 e10 e14 e20 e24 e28 e32:List AV} {s:St} (h7:LR (rL rOutPush 3) 1 c3.Call z4 e6) (h11:LR (rL (rL rOutMove 2) 1) 1 c3.Return z8 e10) (h15:LR (rL rOutMove 2) 1 c3.Inner z12 e14) (h21:LR rB 1 c17.Accept z18 e20) (h25:LR (rL rPush 2) 1 c17.Call z22 e24) (h29:LR (rL (rL rJ 1) 1) 1 c17.Return z26 e28) (h33:LR (rL rJ 1) 1 c17.Inner z30 e32) {r:Push} (h:impl_PreimageChecker_2 x1 k2 c3 c16 c17 c34=some r) (hs:WF s):ACall Cf 40 [(J x1),(J k2),(eptr [(J c3.Stack),(J c3.Start),(sl z4 f5 e6),(sl z8 f9 e10),(sl z12 f13 e14)] 0),(eptr [(J c16)] 0),(eptr [(J c17.Stack),(J c17.Start),(sl z18 f19 e20),(sl z22 f23 e24),(sl z26 f27 e28),(sl z30 f31 e32)] 0),(eptr [(J c34)] 0)] s fun v _ s'=>(rPush) r v∧s'=s:=by
 refine ACall.pure rfl rfl rfl (.A (.cons .I (.cons .I .nil))) ?_
 have hWF:=hs.lo'
 unfold impl_PreimageChecker_2 at h
 refine sr ?_
 refine allocP rfl rfl rfl rfl ⟨rfl,rfl⟩ rfl ?_
 refine ns ?_
 refine q (eptr [(J c3.Stack),(J c3.Start),(sl z4 f5 e6),(sl z8 f9 e10),(sl z12 f13 e14)] 2) ?_
 refine lE (sl z4 f5 e6) ?_
 refine q (J x1) ?_
 refine lE (J c16) ?_
 obtain ⟨q35,h36,h⟩:=obind h
 refine pureR rfl rfl rfl (quo_ok h36) rfl (rfl:_=(J q35)) ?_
 obtain ⟨x37,h38,h⟩:=obind h
 obtain ⟨v41,h39,h40⟩:=idx_sl h7 h38
 obtain ⟨z42,f43,e44,rfl,h45⟩:=h39
 refine pureR rfl rfl rfl h40 rfl (rfl:_=(eptr [(sl z42 f43 e44)] 0)) ?_
 refine lE (sl z42 f43 e44) ?_
 refine q (J k2) ?_
 obtain ⟨x46,h47,h⟩:=obind h
 obtain ⟨v50,h48,h49⟩:=idx_sl h45 h47
 obtain ⟨_,rfl,h51⟩:=h48
 obtain ⟨_,_,rfl,h52,h53⟩:=Cs_cons h51
 cases h52
 obtain ⟨_,_,rfl,h54,h55⟩:=Cs_cons h53
 cases h54
 obtain ⟨_,_,rfl,h56,h57⟩:=Cs_cons h55
 cases h56
 cases Cs_nil h57
 refine pureR rfl rfl rfl h49 rfl (rfl:_=(eptr [(J x46.To),(J x46.Put),(str x46.Out)] 0)) ?_
 refine lE (agg [(J x46.To),(J x46.Put),(str x46.Out)]) ?_
 refine allocP rfl rfl rfl rfl ⟨rfl,rfl⟩ rfl ?_
 refine stP (v:=(agg [(J x46.To),(J x46.Put),(str x46.Out)])) rfl rfl rfl rfl rfl rfl rfl rfl rfl (lt_b rfl) rfl ?_
 refine ns ?_
 refine lE (agg [(J c17.Stack),(J c17.Start),(sl z18 f19 e20),(sl z22 f23 e24),(sl z26 f27 e28),(sl z30 f31 e32)]) ?_
 refine q (J x1) ?_
 refine lE (J c16) ?_
 obtain ⟨q58,h59,h⟩:=obind h
 refine pureR rfl rfl rfl (rem_ok h59) rfl (rfl:_=(J q58)) ?_
 refine q (eptr [(J x46.To),(J x46.Put),(str x46.Out)] 2) ?_
 refine lE (str x46.Out) ?_
 obtain ⟨y60,h61,h⟩:=obind h
 refine callDP (g:=41) (args:=[(agg [(J c17.Stack),(J c17.Start),(sl z18 f19 e20),(sl z22 f23 e24),(sl z26 f27 e28),(sl z30 f31 e32)]),(J q58),(sl 0 true []),(str x46.Out)]) (p:=(fun x=>rT [rJ x.1,(rL rJ 1) x.2]) y60) rfl rfl rfl (impl_Checker_end_ok h21 h25 h29 h33 (⟨.inr ⟨rfl,rfl⟩,.nil⟩) h61 hWF.still) (fun v hv=>Nice.pure (k:=FINK) (p:=(fun x=>rT [rJ x.1,(rL rJ 1) x.2]) y60) (.T (.cons .I (.cons (.L fun _=>.I) .nil))) _ v hv) ?_
 intro _ o72 h62
 obtain ⟨_,rfl,h63⟩:=h62
 obtain ⟨_,_,rfl,h64,h65⟩:=Cs_cons h63
 cases h64
 obtain ⟨_,_,rfl,h66,h67⟩:=Cs_cons h65
 obtain ⟨z68,f69,e70,rfl,h71⟩:=h66
 cases Cs_nil h67
 refine q (AV.tup [(J y60.1),(sl z68 f69 e70)]) ?_
 refine q (J y60.1) ?_
 refine q (sl z68 f69 e70) ?_
 refine aq (J y60.1) ?_
 refine aq (sl z68 f69 e70) ?_
 refine ns ?_
 refine q (eptr [(J x46.To),(J x46.Put),(str x46.Out)] 0) ?_
 refine lE (J x46.To) ?_
 refine lE (J c16) ?_
 refine q (J (W (x46.To*c16))) ?_
 refine q (J y60.1) ?_
 refine q (J (W ((W (x46.To*c16))+y60.1))) ?_
 refine q (eptr [(J x46.To),(J x46.Put),(str x46.Out)] 1) ?_
 refine lE (J x46.Put) ?_
 refine lE (J c34) ?_
 refine q (J (W (x46.Put*c34))) ?_
 refine q (sl z68 f69 e70) ?_
 obtain ⟨x73,h74,h⟩:=obind h
 obtain ⟨v77,h75,h76⟩:=idx_sl h71 h74
 cases h75
 refine pureR rfl rfl rfl h76 rfl (rfl:_=(eptr [(J x73)] 0)) ?_
 refine lE (J x73) ?_
 refine q (J (W ((W (x46.Put*c34))+x73))) ?_
 refine q (agg [(J (W ((W (x46.To*c16))+y60.1))),(J (W ((W (x46.Put*c34))+x73)))]) ?_
 refine stP (v:=(agg [(J (W ((W (x46.To*c16))+y60.1))),(J (W ((W (x46.Put*c34))+x73)))])) rfl rfl rfl rfl rfl rfl rfl rfl rfl (lt_b rfl) rfl ?_
 refine nl ?_
 cases h
 exact ret ⟨rfl,_,_,rfl,⟨_,rfl,(.cons rfl (.cons rfl .nil))⟩⟩
theorem impl_marksOf_ok {mark1 all2 m3:Int} {s:St} {r:Int × (List Int)} (h:impl_marksOf mark1 all2 m3=some r) (hs:WF s):ACall Cf 43 [(J mark1),(J all2),(J m3)] s fun v _ s'=>(fun x=>rT [rJ x.1,(rL rJ 1) x.2]) r v∧s'=s:=by
 refine ACall.pure rfl rfl rfl (.T (.cons .I (.cons (.L fun _=>.I) .nil))) ?_
 have hWF:=hs.lo'
 unfold impl_marksOf at h
 refine sr<|q (J 0)<|q (sl 0 true [])<|nl ?_
 refine seq<|sr<|q (J mark1) ?_
 refine q (J all2) ?_
 refine q (J m3) ?_
 refine q (J (W (all2*m3))) ?_
 refine q (bool (mark1 == (W (all2*m3))))<|nl ?_
 rcases oite h with ⟨hc4,h⟩ | ⟨hc4,h⟩
 ·refine cT hc4<|sr<|q (J all2) ?_
  refine aq (J all2)<|q (sl 0 true [])<|nl ?_
  cases h
  exact ret ⟨rfl,_,_,rfl,⟨_,rfl,(.cons rfl (.cons ⟨_,_,_,rfl,⟨.inr ⟨rfl,rfl⟩,.nil⟩⟩ .nil))⟩⟩
 refine cF hc4<|skip<|sr<|q (J mark1) ?_
 refine q (J m3) ?_
 obtain ⟨q5,h6,h⟩:=obind h
 refine pureR rfl rfl rfl (quo_ok h6) rfl (rfl:_=(J q5))<|q (J mark1) ?_
 refine q (J m3) ?_
 obtain ⟨q7,h8,h⟩:=obind h
 refine pureR rfl rfl rfl (rem_ok h8) rfl (rfl:_=(J q7))<|makeR rfl rfl rfl rfl rfl rfl (rfl:_=(sl 1 true [(J q7)]))<|aq (J q5) ?_
 refine aq (sl 1 true [(J q7)])<|nl ?_
 cases h
 exact ret ⟨rfl,_,_,rfl,⟨_,rfl,(.cons rfl (.cons ⟨_,_,_,rfl,LR.lit (r:=rI .i64) (sz:=1) (.cons rfl .nil)⟩ .nil))⟩⟩
theorem impl_PreimageChecker_3_ok {x1 k2 mark3 c17 c18:Int} {c4:Rewriter} {c19:Checker} {z5 z9 z13 z20 z24 z28 z32:Nat} {f6 f10 f14 f21 f25 f29 f33:Bool} {e7 e11 e15 e22 e26 e30 e34:List AV} {s:St} (h8:LR (rL rOutPush 3) 1 c4.Call z5 e7) (h12:LR (rL (rL rOutMove 2) 1) 1 c4.Return z9 e11) (h16:LR (rL rOutMove 2) 1 c4.Inner z13 e15) (h23:LR rB 1 c19.Accept z20 e22) (h27:LR (rL rPush 2) 1 c19.Call z24 e26) (h31:LR (rL (rL rJ 1) 1) 1 c19.Return z28 e30) (h35:LR (rL rJ 1) 1 c19.Inner z32 e34) {r:Int} (h:impl_PreimageChecker_3 x1 k2 mark3 c4 c17 c18 c19=some r) (hs:WF s):ACall Cf 42 [(J x1),(J k2),(J mark3),(eptr [(J c4.Stack),(J c4.Start),(sl z5 f6 e7),(sl z9 f10 e11),(sl z13 f14 e15)] 0),(eptr [(J c17)] 0),(eptr [(J c18)] 0),(eptr [(J c19.Stack),(J c19.Start),(sl z20 f21 e22),(sl z24 f25 e26),(sl z28 f29 e30),(sl z32 f33 e34)] 0)] s fun v _ s'=>rJ r v∧s'=s:=by
 refine ACall.pure rfl rfl rfl .I ?_
 have hWF:=hs.lo'
 unfold impl_PreimageChecker_3 at h
 refine sr ?_
 refine q (J 0) ?_
 refine ns ?_
 refine q (J mark3) ?_
 refine q (eptr [(J c4.Stack),(J c4.Start),(sl z5 f6 e7),(sl z9 f10 e11),(sl z13 f14 e15)] 0) ?_
 refine lE (J c4.Stack) ?_
 refine lE (J c17) ?_
 obtain ⟨y36,h37,h⟩:=obind h
 refine cP (impl_marksOf_ok  h37 hWF) ?_
 intro _ o48 h38
 obtain ⟨_,rfl,h39⟩:=h38
 obtain ⟨_,_,rfl,h40,h41⟩:=Cs_cons h39
 cases h40
 obtain ⟨_,_,rfl,h42,h43⟩:=Cs_cons h41
 obtain ⟨z44,f45,e46,rfl,h47⟩:=h42
 cases Cs_nil h43
 refine q (AV.tup [(J y36.1),(sl z44 f45 e46)]) ?_
 refine q (J y36.1) ?_
 refine q (sl z44 f45 e46) ?_
 refine aq (J y36.1) ?_
 refine aq (sl z44 f45 e46) ?_
 refine ns ?_
 refine q (eptr [(J c4.Stack),(J c4.Start),(sl z5 f6 e7),(sl z9 f10 e11),(sl z13 f14 e15)] 3) ?_
 refine lE (sl z9 f10 e11) ?_
 refine q (J x1) ?_
 refine lE (J c18) ?_
 obtain ⟨q49,h50,h⟩:=obind h
 refine pureR rfl rfl rfl (quo_ok h50) rfl (rfl:_=(J q49)) ?_
 obtain ⟨x51,h52,h⟩:=obind h
 obtain ⟨v55,h53,h54⟩:=idx_sl h12 h52
 obtain ⟨z56,f57,e58,rfl,h59⟩:=h53
 refine pureR rfl rfl rfl h54 rfl (rfl:_=(eptr [(sl z56 f57 e58)] 0)) ?_
 refine lE (sl z56 f57 e58) ?_
 refine q (J k2) ?_
 obtain ⟨x60,h61,h⟩:=obind h
 obtain ⟨v64,h62,h63⟩:=idx_sl h59 h61
 obtain ⟨z65,f66,e67,rfl,h68⟩:=h62
 refine pureR rfl rfl rfl h63 rfl (rfl:_=(eptr [(sl z65 f66 e67)] 0)) ?_
 refine lE (sl z65 f66 e67) ?_
 refine q (J y36.1) ?_
 obtain ⟨x69,h70,h⟩:=obind h
 obtain ⟨v73,h71,h72⟩:=idx_sl h68 h70
 obtain ⟨_,rfl,h74⟩:=h71
 obtain ⟨_,_,rfl,h75,h76⟩:=Cs_cons h74
 cases h75
 obtain ⟨_,_,rfl,h77,h78⟩:=Cs_cons h76
 cases h77
 cases Cs_nil h78
 refine pureR rfl rfl rfl h72 rfl (rfl:_=(eptr [(J x69.To),(str x69.Out)] 0)) ?_
 refine lE (agg [(J x69.To),(str x69.Out)]) ?_
 refine allocP rfl rfl rfl rfl ⟨rfl,rfl⟩ rfl ?_
 refine stP (v:=(agg [(J x69.To),(str x69.Out)])) rfl rfl rfl rfl rfl rfl rfl rfl rfl (lt_b rfl) rfl ?_
 refine ns ?_
 refine lE (agg [(J c19.Stack),(J c19.Start),(sl z20 f21 e22),(sl z24 f25 e26),(sl z28 f29 e30),(sl z32 f33 e34)]) ?_
 refine q (J x1) ?_
 refine lE (J c18) ?_
 obtain ⟨q79,h80,h⟩:=obind h
 refine pureR rfl rfl rfl (rem_ok h80) rfl (rfl:_=(J q79)) ?_
 refine q (sl z44 f45 e46) ?_
 refine q (eptr [(J x69.To),(str x69.Out)] 1) ?_
 refine lE (str x69.Out) ?_
 obtain ⟨y81,h82,h⟩:=obind h
 refine callDP (g:=41) (args:=[(agg [(J c19.Stack),(J c19.Start),(sl z20 f21 e22),(sl z24 f25 e26),(sl z28 f29 e30),(sl z32 f33 e34)]),(J q79),(sl z44 f45 e46),(str x69.Out)]) (p:=(fun x=>rT [rJ x.1,(rL rJ 1) x.2]) y81) rfl rfl rfl (impl_Checker_end_ok h23 h27 h31 h35 h47 h82 hWF.still) (fun v hv=>Nice.pure (k:=FINK) (p:=(fun x=>rT [rJ x.1,(rL rJ 1) x.2]) y81) (.T (.cons .I (.cons (.L fun _=>.I) .nil))) _ v hv) ?_
 intro _ o93 h83
 obtain ⟨_,rfl,h84⟩:=h83
 obtain ⟨_,_,rfl,h85,h86⟩:=Cs_cons h84
 cases h85
 obtain ⟨_,_,rfl,h87,h88⟩:=Cs_cons h86
 obtain ⟨z89,f90,e91,rfl,h92⟩:=h87
 cases Cs_nil h88
 refine q (AV.tup [(J y81.1),(sl z89 f90 e91)]) ?_
 refine q (J y81.1) ?_
 refine q (sl z89 f90 e91) ?_
 refine aq (J y81.1) ?_
 refine aq (sl z89 f90 e91) ?_
 refine ns ?_
 refine q (eptr [(J x69.To),(str x69.Out)] 0) ?_
 refine lE (J x69.To) ?_
 refine lE (J c18) ?_
 refine q (J (W (x69.To*c18))) ?_
 refine q (J y81.1) ?_
 refine q (J (W ((W (x69.To*c18))+y81.1))) ?_
 refine aq (J (W ((W (x69.To*c18))+y81.1))) ?_
 refine nl ?_
 cases h
 exact ret ⟨rfl,_,_,rfl,rfl⟩
theorem impl_PreimageChecker_4_ok {x1 k2 c16:Int} {c3:Rewriter} {c17:Checker} {z4 z8 z12 z18 z22 z26 z30:Nat} {f5 f9 f13 f19 f23 f27 f31:Bool} {e6 e10 e14 e20 e24 e28 e32:List AV} {s:St} (h7:LR (rL rOutPush 3) 1 c3.Call z4 e6) (h11:LR (rL (rL rOutMove 2) 1) 1 c3.Return z8 e10) (h15:LR (rL rOutMove 2) 1 c3.Inner z12 e14) (h21:LR rB 1 c17.Accept z18 e20) (h25:LR (rL rPush 2) 1 c17.Call z22 e24) (h29:LR (rL (rL rJ 1) 1) 1 c17.Return z26 e28) (h33:LR (rL rJ 1) 1 c17.Inner z30 e32) {r:Int} (h:impl_PreimageChecker_4 x1 k2 c3 c16 c17=some r) (hs:WF s):ACall Cf 44 [(J x1),(J k2),(eptr [(J c3.Stack),(J c3.Start),(sl z4 f5 e6),(sl z8 f9 e10),(sl z12 f13 e14)] 0),(eptr [(J c16)] 0),(eptr [(J c17.Stack),(J c17.Start),(sl z18 f19 e20),(sl z22 f23 e24),(sl z26 f27 e28),(sl z30 f31 e32)] 0)] s fun v _ s'=>rJ r v∧s'=s:=by
 refine ACall.pure rfl rfl rfl .I ?_
 have hWF:=hs.lo'
 unfold impl_PreimageChecker_4 at h
 refine sr ?_
 refine q (J 0) ?_
 refine ns ?_
 refine q (eptr [(J c3.Stack),(J c3.Start),(sl z4 f5 e6),(sl z8 f9 e10),(sl z12 f13 e14)] 4) ?_
 refine lE (sl z12 f13 e14) ?_
 refine q (J x1) ?_
 refine lE (J c16) ?_
 obtain ⟨q34,h35,h⟩:=obind h
 refine pureR rfl rfl rfl (quo_ok h35) rfl (rfl:_=(J q34)) ?_
 obtain ⟨x36,h37,h⟩:=obind h
 obtain ⟨v40,h38,h39⟩:=idx_sl h15 h37
 obtain ⟨z41,f42,e43,rfl,h44⟩:=h38
 refine pureR rfl rfl rfl h39 rfl (rfl:_=(eptr [(sl z41 f42 e43)] 0)) ?_
 refine lE (sl z41 f42 e43) ?_
 refine q (J k2) ?_
 obtain ⟨x45,h46,h⟩:=obind h
 obtain ⟨v49,h47,h48⟩:=idx_sl h44 h46
 obtain ⟨_,rfl,h50⟩:=h47
 obtain ⟨_,_,rfl,h51,h52⟩:=Cs_cons h50
 cases h51
 obtain ⟨_,_,rfl,h53,h54⟩:=Cs_cons h52
 cases h53
 cases Cs_nil h54
 refine pureR rfl rfl rfl h48 rfl (rfl:_=(eptr [(J x45.To),(str x45.Out)] 0)) ?_
 refine lE (agg [(J x45.To),(str x45.Out)]) ?_
 refine allocP rfl rfl rfl rfl ⟨rfl,rfl⟩ rfl ?_
 refine stP (v:=(agg [(J x45.To),(str x45.Out)])) rfl rfl rfl rfl rfl rfl rfl rfl rfl (lt_b rfl) rfl ?_
 refine ns ?_
 refine lE (agg [(J c17.Stack),(J c17.Start),(sl z18 f19 e20),(sl z22 f23 e24),(sl z26 f27 e28),(sl z30 f31 e32)]) ?_
 refine q (J x1) ?_
 refine lE (J c16) ?_
 obtain ⟨q55,h56,h⟩:=obind h
 refine pureR rfl rfl rfl (rem_ok h56) rfl (rfl:_=(J q55)) ?_
 refine q (eptr [(J x45.To),(str x45.Out)] 1) ?_
 refine lE (str x45.Out) ?_
 obtain ⟨y57,h58,h⟩:=obind h
 refine callDP (g:=41) (args:=[(agg [(J c17.Stack),(J c17.Start),(sl z18 f19 e20),(sl z22 f23 e24),(sl z26 f27 e28),(sl z30 f31 e32)]),(J q55),(sl 0 true []),(str x45.Out)]) (p:=(fun x=>rT [rJ x.1,(rL rJ 1) x.2]) y57) rfl rfl rfl (impl_Checker_end_ok h21 h25 h29 h33 (⟨.inr ⟨rfl,rfl⟩,.nil⟩) h58 hWF.still) (fun v hv=>Nice.pure (k:=FINK) (p:=(fun x=>rT [rJ x.1,(rL rJ 1) x.2]) y57) (.T (.cons .I (.cons (.L fun _=>.I) .nil))) _ v hv) ?_
 intro _ o69 h59
 obtain ⟨_,rfl,h60⟩:=h59
 obtain ⟨_,_,rfl,h61,h62⟩:=Cs_cons h60
 cases h61
 obtain ⟨_,_,rfl,h63,h64⟩:=Cs_cons h62
 obtain ⟨z65,f66,e67,rfl,h68⟩:=h63
 cases Cs_nil h64
 refine q (AV.tup [(J y57.1),(sl z65 f66 e67)]) ?_
 refine q (J y57.1) ?_
 refine q (sl z65 f66 e67) ?_
 refine aq (J y57.1) ?_
 refine aq (sl z65 f66 e67) ?_
 refine ns ?_
 refine q (eptr [(J x45.To),(str x45.Out)] 0) ?_
 refine lE (J x45.To) ?_
 refine lE (J c16) ?_
 refine q (J (W (x45.To*c16))) ?_
 refine q (J y57.1) ?_
 refine q (J (W ((W (x45.To*c16))+y57.1))) ?_
 refine aq (J (W ((W (x45.To*c16))+y57.1))) ?_
 refine nl ?_
 cases h
 exact ret ⟨rfl,_,_,rfl,rfl⟩
end Go.Proofs.YtpchecdlbagedaaGreat.law
