import Derived.Test.YtpchecdlbagedaaGreatAeD
import Derived.Test.YtpchecdlbagedaaGreatAe4
import Derived.Test.YtpchecdlbagedaaGreatAeK1
set_option linter.unusedVariables false
set_option linter.unusedSimpArgs false
namespace Go.Proofs.YtpchecdlbagedaaGreat.law
open Go Go.Proofs Ae
open Ae.AV (int sl eptr agg ptr bool str)
open Ae.AW (seq ret res skip block region meet inBlock loopF exit)
open Ae.AOps (pureR makeR split stE ldB stP allocP callDP alloc1 lit1 callP appO appLf)
open Ae.HS (wf' selEG)
set_option maxRecDepth 100000
set_option linter.unusedVariables false
theorem spec_l02Ok_ok {p1:Checker} {z2 z6 z10 z14:Nat} {f3 f7 f11 f15:Bool} {e4 e8 e12 e16:List AV} {s:St} (h5:LR rB 1 p1.Accept z2 e4) (h9:LR (rL rPush 2) 1 p1.Call z6 e8) (h13:LR (rL (rL rJ 1) 1) 1 p1.Return z10 e12) (h17:LR (rL rJ 1) 1 p1.Inner z14 e16) {r:Bool} (h:spec_l02Ok p1=some r) (hs:WF s):ACall Cf 23 [(eptr [(J p1.Stack),(J p1.Start),(sl z2 f3 e4),(sl z6 f7 e8),(sl z10 f11 e12),(sl z14 f15 e16)] 0)] s fun v _ s'=>(rB) r v∧s'=s:=by
 refine ACall.pure rfl rfl rfl .B ?_
 have hWF:=hs.lo'
 unfold spec_l02Ok at h
 refine sr ?_
 refine q (bool false) ?_
 refine ns ?_
 refine q (eptr [(J p1.Stack),(J p1.Start),(sl z2 f3 e4),(sl z6 f7 e8),(sl z10 f11 e12),(sl z14 f15 e16)] 0) ?_
 refine q (eptr [(J p1.Stack),(J p1.Start),(sl z2 f3 e4),(sl z6 f7 e8),(sl z10 f11 e12),(sl z14 f15 e16)] 0) ?_
 refine q (eptr [(J p1.Stack),(J p1.Start),(sl z2 f3 e4),(sl z6 f7 e8),(sl z10 f11 e12),(sl z14 f15 e16)] 2) ?_
 refine lE (sl z2 f3 e4) ?_
 refine AOps.p rfl (len_eq h5) ?_
 refine aq (J (p1.Accept.length:Int)) ?_
 refine nl ?_
 refine seq ?_
 refine sr ?_
 refine q (J (p1.Accept.length:Int)) ?_
 obtain ⟨y18,h19,h⟩:=obind h
 refine cP (spec_l00In_ok  h19 hWF) ?_
 intro _ o21 h20
 cases h20
 refine q (bool (!y18)) ?_
 refine q (bool (!y18)) ?_
 obtain ⟨b23,hb,h⟩:=obind h
 refine split 7 (fun f'=>∃ tm' os',f'=⟨updL tm' [(0,(eptr [(J p1.Stack),(J p1.Start),(sl z2 f3 e4),(sl z6 f7 e8),(sl z10 f11 e12),(sl z14 f15 e16)] 0)),(3,(J (p1.Accept.length:Int))),(21,(bool b23))],updL os' [],s.M⟩) ?_ ?_
 ·rcases oite hb with ⟨hc22,hb⟩ | ⟨hc22,hb⟩
  ·refine kn 14 hc22 ?_
   refine sk ?_
   refine sk ?_
   refine sk ?_
   refine sk ?_
   refine sk ?_
   refine sk ?_
   refine q (bool true) ?_
   exact rR ⟨rfl,rfl,bJ hb,tv⟩
  ·have h:=hb
   refine kn 14 hc22 ?_
   refine q (eptr [(J p1.Stack),(J p1.Start),(sl z2 f3 e4),(sl z6 f7 e8),(sl z10 f11 e12),(sl z14 f15 e16)] 0) ?_
   refine q (eptr [(J p1.Stack),(J p1.Start),(sl z2 f3 e4),(sl z6 f7 e8),(sl z10 f11 e12),(sl z14 f15 e16)] 0) ?_
   refine q (eptr [(J p1.Stack),(J p1.Start),(sl z2 f3 e4),(sl z6 f7 e8),(sl z10 f11 e12),(sl z14 f15 e16)] 0) ?_
   refine lE (J p1.Stack) ?_
   obtain ⟨y24,h25,h⟩:=obind h
   refine cP (spec_l00In_ok  h25 hWF) ?_
   intro _ o27 h26
   cases h26
   refine q (bool (!y24)) ?_
   refine q (bool (!y24)) ?_
   exact rR ⟨rfl,rfl,bJ h,tv⟩
 rintro _ ⟨tm,os,rfl⟩
 refine q (bool b23) ?_
 obtain ⟨b29,hb,h⟩:=obind h
 refine split 9 (fun f'=>∃ tm' os',f'=⟨updL tm' [(0,(eptr [(J p1.Stack),(J p1.Start),(sl z2 f3 e4),(sl z6 f7 e8),(sl z10 f11 e12),(sl z14 f15 e16)] 0)),(3,(J (p1.Accept.length:Int))),(31,(bool b29))],updL os' [],s.M⟩) ?_ ?_
 ·rcases oite hb with ⟨hc28,hb⟩ | ⟨hc28,hb⟩
  ·refine kn 22 hc28 ?_
   refine sk ?_
   refine sk ?_
   refine sk ?_
   refine sk ?_
   refine sk ?_
   refine sk ?_
   refine sk ?_
   refine sk ?_
   refine q (bool true) ?_
   exact rR ⟨rfl,rfl,bJ hb,tv⟩
  ·have h:=hb
   refine kn 22 hc28 ?_
   refine q (eptr [(J p1.Stack),(J p1.Start),(sl z2 f3 e4),(sl z6 f7 e8),(sl z10 f11 e12),(sl z14 f15 e16)] 0) ?_
   refine q (eptr [(J p1.Stack),(J p1.Start),(sl z2 f3 e4),(sl z6 f7 e8),(sl z10 f11 e12),(sl z14 f15 e16)] 0) ?_
   refine q (eptr [(J p1.Stack),(J p1.Start),(sl z2 f3 e4),(sl z6 f7 e8),(sl z10 f11 e12),(sl z14 f15 e16)] 1) ?_
   refine lE (J p1.Start) ?_
   refine q (J (p1.Accept.length:Int)) ?_
   refine q (J (W ((p1.Accept.length:Int) - 1))) ?_
   obtain ⟨y30,h31,h⟩:=obind h
   refine cP (spec_l00In_ok  h31 hWF) ?_
   intro _ o33 h32
   cases h32
   refine q (bool (!y30)) ?_
   refine q (bool (!y30)) ?_
   exact rR ⟨rfl,rfl,bJ h,tv⟩
 rintro _ ⟨tm,os,rfl⟩
 refine q (bool b29) ?_
 refine split 8 (fun f'=>∃ tm' os',f'=⟨updL tm' [(0,(eptr [(J p1.Stack),(J p1.Start),(sl z2 f3 e4),(sl z6 f7 e8),(sl z10 f11 e12),(sl z14 f15 e16)] 0)),(3,(J (p1.Accept.length:Int))),(40,(bool (b29||((p1.Call.length:Int) != (p1.Accept.length:Int)))))],updL os' [],s.M⟩) ?_ ?_
 ·rcases Bool.eq_false_or_eq_true b29 with hc34 | hc34
  ·refine kn 32 hc34 ?_
   refine sk ?_
   refine sk ?_
   refine sk ?_
   refine sk ?_
   refine sk ?_
   refine sk ?_
   refine sk ?_
   refine q (bool true) ?_
   exact rR ⟨rfl,rfl,congrArg bool (or_t hc34),tv⟩
  ·refine kn 32 hc34 ?_
   refine q (eptr [(J p1.Stack),(J p1.Start),(sl z2 f3 e4),(sl z6 f7 e8),(sl z10 f11 e12),(sl z14 f15 e16)] 0) ?_
   refine q (eptr [(J p1.Stack),(J p1.Start),(sl z2 f3 e4),(sl z6 f7 e8),(sl z10 f11 e12),(sl z14 f15 e16)] 0) ?_
   refine q (eptr [(J p1.Stack),(J p1.Start),(sl z2 f3 e4),(sl z6 f7 e8),(sl z10 f11 e12),(sl z14 f15 e16)] 3) ?_
   refine lE (sl z6 f7 e8) ?_
   refine AOps.p rfl (len_eq h9) ?_
   refine q (J (p1.Accept.length:Int)) ?_
   refine q (bool ((p1.Call.length:Int) != (p1.Accept.length:Int))) ?_
   refine q (bool ((p1.Call.length:Int) != (p1.Accept.length:Int))) ?_
   exact rR ⟨rfl,rfl,congrArg bool (or_f hc34),tv⟩
 rintro _ ⟨tm,os,rfl⟩
 refine q (bool (b29||((p1.Call.length:Int) != (p1.Accept.length:Int)))) ?_
 refine split 8 (fun f'=>∃ tm' os',f'=⟨updL tm' [(0,(eptr [(J p1.Stack),(J p1.Start),(sl z2 f3 e4),(sl z6 f7 e8),(sl z10 f11 e12),(sl z14 f15 e16)] 0)),(3,(J (p1.Accept.length:Int))),(49,(bool ((b29||((p1.Call.length:Int) != (p1.Accept.length:Int)))||((p1.Return.length:Int) != (p1.Accept.length:Int)))))],updL os' [],s.M⟩) ?_ ?_
 ·rcases Bool.eq_false_or_eq_true (b29||((p1.Call.length:Int) != (p1.Accept.length:Int))) with hc35 | hc35
  ·refine kn 41 hc35 ?_
   refine sk ?_
   refine sk ?_
   refine sk ?_
   refine sk ?_
   refine sk ?_
   refine sk ?_
   refine sk ?_
   refine q (bool true) ?_
   exact rR ⟨rfl,rfl,congrArg bool (or_t hc35),tv⟩
  ·refine kn 41 hc35 ?_
   refine q (eptr [(J p1.Stack),(J p1.Start),(sl z2 f3 e4),(sl z6 f7 e8),(sl z10 f11 e12),(sl z14 f15 e16)] 0) ?_
   refine q (eptr [(J p1.Stack),(J p1.Start),(sl z2 f3 e4),(sl z6 f7 e8),(sl z10 f11 e12),(sl z14 f15 e16)] 0) ?_
   refine q (eptr [(J p1.Stack),(J p1.Start),(sl z2 f3 e4),(sl z6 f7 e8),(sl z10 f11 e12),(sl z14 f15 e16)] 4) ?_
   refine lE (sl z10 f11 e12) ?_
   refine AOps.p rfl (len_eq h13) ?_
   refine q (J (p1.Accept.length:Int)) ?_
   refine q (bool ((p1.Return.length:Int) != (p1.Accept.length:Int))) ?_
   refine q (bool ((p1.Return.length:Int) != (p1.Accept.length:Int))) ?_
   exact rR ⟨rfl,rfl,congrArg bool (or_f hc35),tv⟩
 rintro _ ⟨tm,os,rfl⟩
 refine q (bool ((b29||((p1.Call.length:Int) != (p1.Accept.length:Int)))||((p1.Return.length:Int) != (p1.Accept.length:Int)))) ?_
 refine split 8 (fun f'=>∃ tm' os',f'=⟨updL tm' [(0,(eptr [(J p1.Stack),(J p1.Start),(sl z2 f3 e4),(sl z6 f7 e8),(sl z10 f11 e12),(sl z14 f15 e16)] 0)),(3,(J (p1.Accept.length:Int))),(58,(bool (((b29||((p1.Call.length:Int) != (p1.Accept.length:Int)))||((p1.Return.length:Int) != (p1.Accept.length:Int)))||((p1.Inner.length:Int) != (p1.Accept.length:Int)))))],updL os' [],s.M⟩) ?_ ?_
 ·rcases Bool.eq_false_or_eq_true ((b29||((p1.Call.length:Int) != (p1.Accept.length:Int)))||((p1.Return.length:Int) != (p1.Accept.length:Int))) with hc36 | hc36
  ·refine kn 50 hc36 ?_
   refine sk ?_
   refine sk ?_
   refine sk ?_
   refine sk ?_
   refine sk ?_
   refine sk ?_
   refine sk ?_
   refine q (bool true) ?_
   exact rR ⟨rfl,rfl,congrArg bool (or_t hc36),tv⟩
  ·refine kn 50 hc36 ?_
   refine q (eptr [(J p1.Stack),(J p1.Start),(sl z2 f3 e4),(sl z6 f7 e8),(sl z10 f11 e12),(sl z14 f15 e16)] 0) ?_
   refine q (eptr [(J p1.Stack),(J p1.Start),(sl z2 f3 e4),(sl z6 f7 e8),(sl z10 f11 e12),(sl z14 f15 e16)] 0) ?_
   refine q (eptr [(J p1.Stack),(J p1.Start),(sl z2 f3 e4),(sl z6 f7 e8),(sl z10 f11 e12),(sl z14 f15 e16)] 5) ?_
   refine lE (sl z14 f15 e16) ?_
   refine AOps.p rfl (len_eq h17) ?_
   refine q (J (p1.Accept.length:Int)) ?_
   refine q (bool ((p1.Inner.length:Int) != (p1.Accept.length:Int))) ?_
   refine q (bool ((p1.Inner.length:Int) != (p1.Accept.length:Int))) ?_
   exact rR ⟨rfl,rfl,congrArg bool (or_f hc36),tv⟩
 rintro _ ⟨tm,os,rfl⟩
 refine nl ?_
 rcases oite h with ⟨hc37,h⟩ | ⟨hc37,h⟩
 ·refine cT hc37 ?_
  refine sr ?_
  refine q (bool false) ?_
  refine nl ?_
  cases h
  exact ret ⟨rfl,_,_,rfl,rfl⟩
 refine cF hc37 ?_
 refine skip ?_
 refine seq ?_
 refine sr ?_
 refine q (J 0) ?_
 refine nl ?_
 refine meet (σ:=Unit) (fun _ tm os=>⟨updL tm [],updL os [],s.M⟩) (fun _=>spec_l02Ok_J1=some r) ?_ ?_
 ·rintro _ tm os h
  unfold spec_l02Ok_J1 at h
  refine sr ?_
  refine q (bool true) ?_
  refine nl ?_
  cases h
  exact ret ⟨rfl,_,_,rfl,rfl⟩
 intro KJ38
 refine block ?_
 refine res [(0,(eptr [(J p1.Stack),(J p1.Start),(sl z2 f3 e4),(sl z6 f7 e8),(sl z10 f11 e12),(sl z14 f15 e16)] 0)),(3,(J (p1.Accept.length:Int))),(4,(J 0))] [] ⟨rfl,rfl,rfl,tv⟩ tv ?_
 refine loopF (σ:=Int) (τ:=Unit) (fun t39 _=>True) (fun t39 _ tm os=>⟨updL tm [(0,(eptr [(J p1.Stack),(J p1.Start),(sl z2 f3 e4),(sl z6 f7 e8),(sl z10 f11 e12),(sl z14 f15 e16)] 0)),(3,(J (p1.Accept.length:Int))),(4,(J t39))],updL os [],s.M⟩) ?_ (x:=(0)) (y:=()) h tv
 clear h
 rintro t39 _ tm os - ee1 h hL1 hR1
 unfold spec_l02Ok_S1 at h
 refine seq ?_
 refine sr ?_
 refine q (J t39) ?_
 refine q (J (p1.Accept.length:Int)) ?_
 refine q (bool (decide ((t39:Int)<(p1.Accept.length:Int)))) ?_
 refine nl ?_
 rcases oite h with ⟨hc40,h⟩ | ⟨hc40,h⟩
 ·refine cT hc40 ?_
  refine skip ?_
  refine seq ?_
  refine block ?_
  refine seq ?_
  refine sr ?_
  refine q (eptr [(J p1.Stack),(J p1.Start),(sl z2 f3 e4),(sl z6 f7 e8),(sl z10 f11 e12),(sl z14 f15 e16)] 0) ?_
  refine q (eptr [(J p1.Stack),(J p1.Start),(sl z2 f3 e4),(sl z6 f7 e8),(sl z10 f11 e12),(sl z14 f15 e16)] 0) ?_
  refine q (eptr [(J p1.Stack),(J p1.Start),(sl z2 f3 e4),(sl z6 f7 e8),(sl z10 f11 e12),(sl z14 f15 e16)] 3) ?_
  refine lE (sl z6 f7 e8) ?_
  refine q (J t39) ?_
  obtain ⟨x41,h42,h⟩:=obind h
  obtain ⟨v45,h43,h44⟩:=idx_sl h9 h42
  obtain ⟨z46,f47,e48,rfl,h49⟩:=h43
  refine pureR rfl rfl rfl h44 rfl (rfl:_=(eptr [(sl z46 f47 e48)] 0)) ?_
  refine lE (sl z46 f47 e48) ?_
  refine AOps.p rfl (len_eq h49) ?_
  refine q (bool ((x41.length:Int) != 2)) ?_
  refine q (bool ((x41.length:Int) != 2)) ?_
  obtain ⟨b51,hb,h⟩:=obind h
  refine split 10 (fun f'=>∃ tm' os',f'=⟨updL tm' [(0,(eptr [(J p1.Stack),(J p1.Start),(sl z2 f3 e4),(sl z6 f7 e8),(sl z10 f11 e12),(sl z14 f15 e16)] 0)),(3,(J (p1.Accept.length:Int))),(4,(J t39)),(83,(bool b51))],updL os' [],s.M⟩) ?_ ?_
  ·rcases oite hb with ⟨hc50,hb⟩ | ⟨hc50,hb⟩
   ·refine kn 73 hc50 ?_
    refine sk ?_
    refine sk ?_
    refine sk ?_
    refine sk ?_
    refine sk ?_
    refine sk ?_
    refine sk ?_
    refine sk ?_
    refine sk ?_
    refine q (bool true) ?_
    exact rR ⟨rfl,rfl,rfl,bJ hb,tv⟩
   ·have h:=hb
    refine kn 73 hc50 ?_
    refine q (eptr [(J p1.Stack),(J p1.Start),(sl z2 f3 e4),(sl z6 f7 e8),(sl z10 f11 e12),(sl z14 f15 e16)] 0) ?_
    refine q (eptr [(J p1.Stack),(J p1.Start),(sl z2 f3 e4),(sl z6 f7 e8),(sl z10 f11 e12),(sl z14 f15 e16)] 0) ?_
    refine q (eptr [(J p1.Stack),(J p1.Start),(sl z2 f3 e4),(sl z6 f7 e8),(sl z10 f11 e12),(sl z14 f15 e16)] 4) ?_
    refine lE (sl z10 f11 e12) ?_
    refine q (J t39) ?_
    obtain ⟨x52,h53,h⟩:=obind h
    obtain ⟨v56,h54,h55⟩:=idx_sl h13 h53
    obtain ⟨z57,f58,e59,rfl,h60⟩:=h54
    refine pureR rfl rfl rfl h55 rfl (rfl:_=(eptr [(sl z57 f58 e59)] 0)) ?_
    refine lE (sl z57 f58 e59) ?_
    refine AOps.p rfl (len_eq h60) ?_
    refine q (bool ((x52.length:Int) != 2)) ?_
    refine q (bool ((x52.length:Int) != 2)) ?_
    exact rR ⟨rfl,rfl,rfl,bJ h,tv⟩
  rintro _ ⟨tm,os,rfl⟩
  refine q (bool b51) ?_
  obtain ⟨b62,hb,h⟩:=obind h
  refine split 11 (fun f'=>∃ tm' os',f'=⟨updL tm' [(0,(eptr [(J p1.Stack),(J p1.Start),(sl z2 f3 e4),(sl z6 f7 e8),(sl z10 f11 e12),(sl z14 f15 e16)] 0)),(3,(J (p1.Accept.length:Int))),(4,(J t39)),(95,(bool b62))],updL os' [],s.M⟩) ?_ ?_
  ·rcases oite hb with ⟨hc61,hb⟩ | ⟨hc61,hb⟩
   ·refine kn 84 hc61 ?_
    refine sk ?_
    refine sk ?_
    refine sk ?_
    refine sk ?_
    refine sk ?_
    refine sk ?_
    refine sk ?_
    refine sk ?_
    refine sk ?_
    refine sk ?_
    refine q (bool true) ?_
    exact rR ⟨rfl,rfl,rfl,bJ hb,tv⟩
   ·have h:=hb
    refine kn 84 hc61 ?_
    refine q (eptr [(J p1.Stack),(J p1.Start),(sl z2 f3 e4),(sl z6 f7 e8),(sl z10 f11 e12),(sl z14 f15 e16)] 0) ?_
    refine q (eptr [(J p1.Stack),(J p1.Start),(sl z2 f3 e4),(sl z6 f7 e8),(sl z10 f11 e12),(sl z14 f15 e16)] 0) ?_
    refine q (eptr [(J p1.Stack),(J p1.Start),(sl z2 f3 e4),(sl z6 f7 e8),(sl z10 f11 e12),(sl z14 f15 e16)] 5) ?_
    refine lE (sl z14 f15 e16) ?_
    refine q (J t39) ?_
    obtain ⟨x63,h64,h⟩:=obind h
    obtain ⟨v67,h65,h66⟩:=idx_sl h17 h64
    obtain ⟨z68,f69,e70,rfl,h71⟩:=h65
    refine pureR rfl rfl rfl h66 rfl (rfl:_=(eptr [(sl z68 f69 e70)] 0)) ?_
    refine lE (sl z68 f69 e70) ?_
    refine q (J (p1.Accept.length:Int)) ?_
    obtain ⟨y72,h73,h⟩:=obind h
    refine cP (spec_l02List_ok h71 h73 hWF) ?_
    intro _ o75 h74
    cases h74
    refine q (bool (!y72)) ?_
    refine q (bool (!y72)) ?_
    exact rR ⟨rfl,rfl,rfl,bJ h,tv⟩
  rintro _ ⟨tm,os,rfl⟩
  refine nl ?_
  rcases oite h with ⟨hc76,h⟩ | ⟨hc76,h⟩
  ·refine cT hc76 ?_
   refine sr ?_
   refine q (bool false) ?_
   refine nl ?_
   cases h
   have hr:=hR1 _ rfl
   subst hr
   exact ret ⟨rfl,_,_,rfl,rfl⟩
  refine cF hc76 ?_
  refine skip ?_
  refine sr ?_
  refine q (J 0) ?_
  refine nl ?_
  refine meet (σ:=Unit) (fun _ tm os=>⟨updL tm [(0,(eptr [(J p1.Stack),(J p1.Start),(sl z2 f3 e4),(sl z6 f7 e8),(sl z10 f11 e12),(sl z14 f15 e16)] 0)),(3,(J (p1.Accept.length:Int))),(4,(J t39))],updL os [],s.M⟩) (fun _=>spec_l02Ok_J2 t39=some ee1) ?_ ?_
  ·rintro _ tm os h
   unfold spec_l02Ok_J2 at h
   refine inBlock ?_
   refine region ?_
   refine q (J t39) ?_
   refine q (J (W (t39+1))) ?_
   refine aq (J (W (t39+1))) ?_
   refine nl ?_
   cases h
   exact res [(0,(eptr [(J p1.Stack),(J p1.Start),(sl z2 f3 e4),(sl z6 f7 e8),(sl z10 f11 e12),(sl z14 f15 e16)] 0)),(3,(J (p1.Accept.length:Int))),(4,(J (W (t39+1))))] [] ⟨rfl,rfl,rfl,tv⟩ tv (hL1 _ rfl () _ _ tv)
  intro KJ77
  refine block ?_
  refine res [(0,(eptr [(J p1.Stack),(J p1.Start),(sl z2 f3 e4),(sl z6 f7 e8),(sl z10 f11 e12),(sl z14 f15 e16)] 0)),(3,(J (p1.Accept.length:Int))),(4,(J t39)),(5,(J 0))] [] ⟨rfl,rfl,rfl,rfl,tv⟩ tv ?_
  refine loopF (σ:=Int) (τ:=Unit) (fun t78 _=>True) (fun t78 _ tm os=>⟨updL tm [(0,(eptr [(J p1.Stack),(J p1.Start),(sl z2 f3 e4),(sl z6 f7 e8),(sl z10 f11 e12),(sl z14 f15 e16)] 0)),(3,(J (p1.Accept.length:Int))),(4,(J t39)),(5,(J t78))],updL os [],s.M⟩) ?_ (x:=(0)) (y:=()) h tv
  clear h
  rintro t78 _ tm os - ee2 h hL2 hR2
  unfold spec_l02Ok_S2 at h
  refine seq ?_
  refine sr ?_
  refine q (J t78) ?_
  refine q (bool (decide ((t78:Int)<2))) ?_
  refine nl ?_
  rcases oite h with ⟨hc79,h⟩ | ⟨hc79,h⟩
  ·refine cT hc79 ?_
   refine skip ?_
   refine seq ?_
   refine block ?_
   refine sr ?_
   refine q (eptr [(J p1.Stack),(J p1.Start),(sl z2 f3 e4),(sl z6 f7 e8),(sl z10 f11 e12),(sl z14 f15 e16)] 0) ?_
   refine q (eptr [(J p1.Stack),(J p1.Start),(sl z2 f3 e4),(sl z6 f7 e8),(sl z10 f11 e12),(sl z14 f15 e16)] 0) ?_
   refine q (eptr [(J p1.Stack),(J p1.Start),(sl z2 f3 e4),(sl z6 f7 e8),(sl z10 f11 e12),(sl z14 f15 e16)] 3) ?_
   refine lE (sl z6 f7 e8) ?_
   refine q (J t39) ?_
   obtain ⟨x80,h81,h⟩:=obind h
   obtain ⟨v84,h82,h83⟩:=idx_sl h9 h81
   obtain ⟨z85,f86,e87,rfl,h88⟩:=h82
   refine pureR rfl rfl rfl h83 rfl (rfl:_=(eptr [(sl z85 f86 e87)] 0)) ?_
   refine lE (sl z85 f86 e87) ?_
   refine q (J t78) ?_
   obtain ⟨x89,h90,h⟩:=obind h
   obtain ⟨v93,h91,h92⟩:=idx_sl h88 h90
   obtain ⟨_,rfl,h94⟩:=h91
   obtain ⟨_,_,rfl,h95,h96⟩:=Cs_cons h94
   cases h95
   obtain ⟨_,_,rfl,h97,h98⟩:=Cs_cons h96
   cases h97
   cases Cs_nil h98
   refine pureR rfl rfl rfl h92 rfl (rfl:_=(eptr [(J x89.To),(J x89.Put)] 0)) ?_
   refine q (eptr [(J x89.To),(J x89.Put)] 0) ?_
   refine lE (J x89.To) ?_
   refine q (J (p1.Accept.length:Int)) ?_
   refine q (J (W ((p1.Accept.length:Int) - 1))) ?_
   obtain ⟨y99,h100,h⟩:=obind h
   refine callDP (g:=67) (args:=[(J x89.To),(J 0),(J (W ((p1.Accept.length:Int) - 1)))]) (p:=(rB) y99) rfl rfl rfl (spec_l00In_ok  h100 hWF.still) (fun v hv=>Nice.pure (k:=FINK) (p:=(rB) y99) .B _ v hv) ?_
   intro _ o102 h101
   cases h101
   refine q (bool (!y99)) ?_
   refine q (bool (!y99)) ?_
   obtain ⟨b104,hb,h⟩:=obind h
   refine split 19 (fun f'=>∃ tm' os',f'=⟨updL tm' [(0,(eptr [(J p1.Stack),(J p1.Start),(sl z2 f3 e4),(sl z6 f7 e8),(sl z10 f11 e12),(sl z14 f15 e16)] 0)),(3,(J (p1.Accept.length:Int))),(4,(J t39)),(5,(J t78)),(134,(bool b104))],updL os' [],s.M⟩) ?_ ?_
   ·rcases oite hb with ⟨hc103,hb⟩ | ⟨hc103,hb⟩
    ·refine kn 115 hc103 ?_
     refine sk ?_
     refine sk ?_
     refine sk ?_
     refine sk ?_
     refine sk ?_
     refine sk ?_
     refine sk ?_
     refine sk ?_
     refine sk ?_
     refine sk ?_
     refine sk ?_
     refine sk ?_
     refine sk ?_
     refine sk ?_
     refine sk ?_
     refine sk ?_
     refine sk ?_
     refine sk ?_
     refine q (bool true) ?_
     exact rR ⟨rfl,rfl,rfl,rfl,bJ hb,tv⟩
    ·have h:=hb
     refine kn 115 hc103 ?_
     refine q (eptr [(J p1.Stack),(J p1.Start),(sl z2 f3 e4),(sl z6 f7 e8),(sl z10 f11 e12),(sl z14 f15 e16)] 0) ?_
     refine q (eptr [(J p1.Stack),(J p1.Start),(sl z2 f3 e4),(sl z6 f7 e8),(sl z10 f11 e12),(sl z14 f15 e16)] 0) ?_
     refine q (eptr [(J p1.Stack),(J p1.Start),(sl z2 f3 e4),(sl z6 f7 e8),(sl z10 f11 e12),(sl z14 f15 e16)] 3) ?_
     refine lE (sl z6 f7 e8) ?_
     refine q (J t39) ?_
     obtain ⟨x105,h106,h⟩:=obind h
     obtain ⟨v109,h107,h108⟩:=idx_sl h9 h106
     obtain ⟨z110,f111,e112,rfl,h113⟩:=h107
     refine pureR rfl rfl rfl h108 rfl (rfl:_=(eptr [(sl z110 f111 e112)] 0)) ?_
     refine lE (sl z110 f111 e112) ?_
     refine q (J t78) ?_
     obtain ⟨x114,h115,h⟩:=obind h
     obtain ⟨v118,h116,h117⟩:=idx_sl h113 h115
     obtain ⟨_,rfl,h119⟩:=h116
     obtain ⟨_,_,rfl,h120,h121⟩:=Cs_cons h119
     cases h120
     obtain ⟨_,_,rfl,h122,h123⟩:=Cs_cons h121
     cases h122
     cases Cs_nil h123
     refine pureR rfl rfl rfl h117 rfl (rfl:_=(eptr [(J x114.To),(J x114.Put)] 0)) ?_
     refine q (eptr [(J x114.To),(J x114.Put)] 1) ?_
     refine lE (J x114.Put) ?_
     refine q (eptr [(J p1.Stack),(J p1.Start),(sl z2 f3 e4),(sl z6 f7 e8),(sl z10 f11 e12),(sl z14 f15 e16)] 0) ?_
     refine q (eptr [(J p1.Stack),(J p1.Start),(sl z2 f3 e4),(sl z6 f7 e8),(sl z10 f11 e12),(sl z14 f15 e16)] 0) ?_
     refine q (eptr [(J p1.Stack),(J p1.Start),(sl z2 f3 e4),(sl z6 f7 e8),(sl z10 f11 e12),(sl z14 f15 e16)] 0) ?_
     refine lE (J p1.Stack) ?_
     refine q (J (W (p1.Stack - 1))) ?_
     obtain ⟨y124,h125,h⟩:=obind h
     refine callDP (g:=67) (args:=[(J x114.Put),(J 0),(J (W (p1.Stack - 1)))]) (p:=(rB) y124) rfl rfl rfl (spec_l00In_ok  h125 hWF.still) (fun v hv=>Nice.pure (k:=FINK) (p:=(rB) y124) .B _ v hv) ?_
     intro _ o127 h126
     cases h126
     refine q (bool (!y124)) ?_
     refine q (bool (!y124)) ?_
     exact rR ⟨rfl,rfl,rfl,rfl,bJ h,tv⟩
   rintro _ ⟨tm,os,rfl⟩
   refine q (bool b104) ?_
   obtain ⟨b129,hb,h⟩:=obind h
   refine split 19 (fun f'=>∃ tm' os',f'=⟨updL tm' [(0,(eptr [(J p1.Stack),(J p1.Start),(sl z2 f3 e4),(sl z6 f7 e8),(sl z10 f11 e12),(sl z14 f15 e16)] 0)),(3,(J (p1.Accept.length:Int))),(4,(J t39)),(5,(J t78)),(154,(bool b129))],updL os' [],s.M⟩) ?_ ?_
   ·rcases oite hb with ⟨hc128,hb⟩ | ⟨hc128,hb⟩
    ·refine kn 135 hc128 ?_
     refine sk ?_
     refine sk ?_
     refine sk ?_
     refine sk ?_
     refine sk ?_
     refine sk ?_
     refine sk ?_
     refine sk ?_
     refine sk ?_
     refine sk ?_
     refine sk ?_
     refine sk ?_
     refine sk ?_
     refine sk ?_
     refine sk ?_
     refine sk ?_
     refine sk ?_
     refine sk ?_
     refine q (bool true) ?_
     exact rR ⟨rfl,rfl,rfl,rfl,bJ hb,tv⟩
    ·have h:=hb
     refine kn 135 hc128 ?_
     refine q (eptr [(J p1.Stack),(J p1.Start),(sl z2 f3 e4),(sl z6 f7 e8),(sl z10 f11 e12),(sl z14 f15 e16)] 0) ?_
     refine q (eptr [(J p1.Stack),(J p1.Start),(sl z2 f3 e4),(sl z6 f7 e8),(sl z10 f11 e12),(sl z14 f15 e16)] 0) ?_
     refine q (eptr [(J p1.Stack),(J p1.Start),(sl z2 f3 e4),(sl z6 f7 e8),(sl z10 f11 e12),(sl z14 f15 e16)] 4) ?_
     refine lE (sl z10 f11 e12) ?_
     refine q (J t39) ?_
     obtain ⟨x130,h131,h⟩:=obind h
     obtain ⟨v134,h132,h133⟩:=idx_sl h13 h131
     obtain ⟨z135,f136,e137,rfl,h138⟩:=h132
     refine pureR rfl rfl rfl h133 rfl (rfl:_=(eptr [(sl z135 f136 e137)] 0)) ?_
     refine lE (sl z135 f136 e137) ?_
     refine q (J t78) ?_
     obtain ⟨x139,h140,h⟩:=obind h
     obtain ⟨v143,h141,h142⟩:=idx_sl h138 h140
     obtain ⟨z144,f145,e146,rfl,h147⟩:=h141
     refine pureR rfl rfl rfl h142 rfl (rfl:_=(eptr [(sl z144 f145 e146)] 0)) ?_
     refine lE (sl z144 f145 e146) ?_
     refine q (eptr [(J p1.Stack),(J p1.Start),(sl z2 f3 e4),(sl z6 f7 e8),(sl z10 f11 e12),(sl z14 f15 e16)] 0) ?_
     refine q (eptr [(J p1.Stack),(J p1.Start),(sl z2 f3 e4),(sl z6 f7 e8),(sl z10 f11 e12),(sl z14 f15 e16)] 0) ?_
     refine q (eptr [(J p1.Stack),(J p1.Start),(sl z2 f3 e4),(sl z6 f7 e8),(sl z10 f11 e12),(sl z14 f15 e16)] 0) ?_
     refine lE (J p1.Stack) ?_
     refine q (J (W (p1.Stack+1))) ?_
     refine q (J (p1.Accept.length:Int)) ?_
     obtain ⟨y148,h149,h⟩:=obind h
     refine callDP (g:=70) (args:=[(sl z144 f145 e146),(J (W (p1.Stack+1))),(J (p1.Accept.length:Int))]) (p:=(rB) y148) rfl rfl rfl (spec_l02List_ok h147 h149 hWF.still) (fun v hv=>Nice.pure (k:=FINK) (p:=(rB) y148) .B _ v hv) ?_
     intro _ o151 h150
     cases h150
     refine q (bool (!y148)) ?_
     refine q (bool (!y148)) ?_
     exact rR ⟨rfl,rfl,rfl,rfl,bJ h,tv⟩
   rintro _ ⟨tm,os,rfl⟩
   refine nl ?_
   rcases oite h with ⟨hc152,h⟩ | ⟨hc152,h⟩
   ·refine cT hc152 ?_
    refine sr ?_
    refine q (bool false) ?_
    refine nl ?_
    cases h
    have hr:=hR2 _ rfl
    cases hr
    have hr:=hR1 _ rfl
    subst hr
    exact ret ⟨rfl,_,_,rfl,rfl⟩
   refine cF hc152 ?_
   refine skip ?_
   refine inBlock ?_
   refine region ?_
   refine q (J t78) ?_
   refine q (J (W (t78+1))) ?_
   refine aq (J (W (t78+1))) ?_
   refine nl ?_
   cases h
   exact res [(0,(eptr [(J p1.Stack),(J p1.Start),(sl z2 f3 e4),(sl z6 f7 e8),(sl z10 f11 e12),(sl z14 f15 e16)] 0)),(3,(J (p1.Accept.length:Int))),(4,(J t39)),(5,(J (W (t78+1))))] [] ⟨rfl,rfl,rfl,rfl,tv⟩ tv (hL2 _ rfl () _ _ tv)
  refine cF hc79 ?_
  refine exit rfl ?_
  obtain ⟨r153,hm,hx⟩:=omap h
  clear h
  subst hx
  have hx:=hR2 _ rfl
  rw[hx] at hm
  have h:=hm
  exact res [(0,(eptr [(J p1.Stack),(J p1.Start),(sl z2 f3 e4),(sl z6 f7 e8),(sl z10 f11 e12),(sl z14 f15 e16)] 0)),(3,(J (p1.Accept.length:Int))),(4,(J t39))] [] ⟨rfl,rfl,rfl,tv⟩ tv (KJ77 () _ _ h)
 refine cF hc40 ?_
 refine exit rfl ?_
 obtain ⟨r154,hm,hx⟩:=omap h
 clear h
 subst hx
 have hx:=hR1 _ rfl
 rw[hx] at hm
 have h:=hm
 exact res [] [] tv tv (KJ38 () _ _ h)
theorem spec_l01Call_ok {b1:Int} {s:St} {r:Bool} (h:spec_l01Call b1=some r) (hs:WF s):ACall Cf 129 [(int .u8 b1)] s fun v _ s'=>(rB) r v∧s'=s:=by
 refine ACall.pure rfl rfl rfl .B ?_
 have hWF:=hs.lo'
 unfold spec_l01Call at h
 refine sr<|q (bool false)<|ns ?_
 refine q (int .u8 b1) ?_
 refine q (bool (b1 == 40)) ?_
 refine q (bool (b1 == 40)) ?_
 refine split 3 (fun f'=>∃ tm' os',f'=⟨updL tm' [(8,(bool ((b1 == 40)||(b1 == 91))))],updL os' [],s.M⟩) ?_ ?_
 ·rcases Bool.eq_false_or_eq_true (b1 == 40) with hc2 | hc2
  ·refine kn 5 hc2<|sk ?_
   refine sk ?_
   refine q (bool true) ?_
   exact rR ⟨congrArg bool (or_t hc2),tv⟩
  ·refine kn 5 hc2<|q (int .u8 b1) ?_
   refine q (bool (b1 == 91)) ?_
   refine q (bool (b1 == 91)) ?_
   exact rR ⟨congrArg bool (or_f hc2),tv⟩
 rintro _ ⟨tm,os,rfl⟩
 refine aq (bool ((b1 == 40)||(b1 == 91)))<|nl ?_
 cases h
 exact ret ⟨rfl,_,_,rfl,rfl⟩
theorem spec_l01Return_ok {b1:Int} {s:St} {r:Bool} (h:spec_l01Return b1=some r) (hs:WF s):ACall Cf 128 [(int .u8 b1)] s fun v _ s'=>(rB) r v∧s'=s:=by
 refine ACall.pure rfl rfl rfl .B ?_
 have hWF:=hs.lo'
 unfold spec_l01Return at h
 refine sr<|q (bool false)<|ns ?_
 refine q (int .u8 b1) ?_
 refine q (bool (b1 == 41)) ?_
 refine q (bool (b1 == 41)) ?_
 refine split 3 (fun f'=>∃ tm' os',f'=⟨updL tm' [(8,(bool ((b1 == 41)||(b1 == 93))))],updL os' [],s.M⟩) ?_ ?_
 ·rcases Bool.eq_false_or_eq_true (b1 == 41) with hc2 | hc2
  ·refine kn 5 hc2<|sk ?_
   refine sk ?_
   refine q (bool true) ?_
   exact rR ⟨congrArg bool (or_t hc2),tv⟩
  ·refine kn 5 hc2<|q (int .u8 b1) ?_
   refine q (bool (b1 == 93)) ?_
   refine q (bool (b1 == 93)) ?_
   exact rR ⟨congrArg bool (or_f hc2),tv⟩
 rintro _ ⟨tm,os,rfl⟩
 refine aq (bool ((b1 == 41)||(b1 == 93)))<|nl ?_
 cases h
 exact ret ⟨rfl,_,_,rfl,rfl⟩
theorem spec_l01Partners_ok {p1:List UInt8} {s:St} {r:(List Int)} (h:spec_l01Partners p1=some r) (hs:WF s):ACall Cf 127 [(str p1)] s fun v _ s'=>(rL rJ 1) r v∧s'=s:=by
 refine ACall.boxes rfl rfl rfl ?_
 have hH0:=HS.init hs
 unfold spec_l01Partners at h
 refine sr<|q (sl 0 true [])<|ns ?_
 refine makeR rfl rfl rfl rfl rfl rfl (rfl:_=(sl 1 true []))<|aq (sl 1 true [])<|ns ?_
 refine makeR rfl rfl rfl rfl rfl rfl (rfl:_=(sl 1 true []))<|aq (sl 1 true [])<|nl ?_
 refine seq<|sr<|q (J 0)<|nl ?_
 refine meet (σ:=(List Int) × BX × AV × St) (fun (t2,x3,v4,s6) tm os=>⟨updL tm [(3,v4)],updL os [],s6⟩) (fun (t2,x3,v4,s6)=>(DY rJ false 1 t2 v4 x3)∧(HS [] false s s6 [x3])∧spec_l01Partners_J1 t2=some r) ?_ ?_
 ·rintro ⟨t2,x3,v4,s6⟩ tm os ⟨h5,hH7,h⟩
  unfold spec_l01Partners_J1 at h
  refine sr<|q v4 ?_
  refine aq v4<|nl ?_
  cases h
  exact ret ⟨⟨_,hH7⟩,resA_dy (k:=8) (r:=rI .i64) rfl rfl hH7 (i:=0) rfl h5 (fun _=>.I) (fun _=>rfl)⟩
 intro KJ8
 refine block<|res [(0,(str p1)),(3,(sl 1 true [])),(4,(sl 1 true [])),(5,(J 0))] [] ⟨rfl,rfl,rfl,rfl,tv⟩ tv ?_
 refine loopF (σ:=(List Int) × (List Int) × Int) (τ:=BX × AV × BX × AV × St) (fun (t9,t13,t17) (x10,v11,x14,v15,s18)=>(DY rJ false 1 t9 v11 x10)∧(DY rJ false 1 t13 v15 x14)∧(HS [] false s s18 [x10,x14])) (fun (t9,t13,t17) (x10,v11,x14,v15,s18) tm os=>⟨updL tm [(0,(str p1)),(3,v11),(4,v15),(5,(J t17))],updL os [],s18⟩) ?_ (x:=(([]:List Int),([]:List Int),0)) (y:=(noBX,(sl 1 true []),noBX,(sl 1 true []),s.M)) h ⟨DY.nil',DY.nil',(HS.sel hH0 [none,none] (by decide))⟩
 clear h
 rintro ⟨t9,t13,t17⟩ ⟨x10,v11,x14,v15,s18⟩ tm os ⟨h12,h16,hH19⟩ ee1 h hL1 hR1
 unfold spec_l01Partners_S1 at h
 dsimp only at h
 refine seq<|sr<|q (J t17) ?_
 refine q (str p1) ?_
 refine q (J (p1.length:Int)) ?_
 refine q (bool (decide ((t17:Int)<(p1.length:Int))))<|nl ?_
 rcases oite h with ⟨hc20,h⟩ | ⟨hc20,h⟩
 ·refine cT hc20<|skip<|seq<|block<|block<|sr<|q (str p1) ?_
  refine q (J t17) ?_
  obtain ⟨c21,h22,h⟩:=obind h
  refine pureR rfl rfl rfl (chr_str h22) rfl (rfl:_=(int .u8 c21)) ?_
  obtain ⟨y23,h24,h⟩:=obind h
  refine cP (spec_l01Call_ok  h24 (wf' hH19)) ?_
  intro _ o26 h25
  cases h25
  refine aq (bool y23)<|nl ?_
  refine meet (σ:=(List Int) × (List Int) × BX × Nat × Nat × BX × AV × St) (fun (t27,t33,x28,b29,n31,x34,v35,s37) tm os=>⟨updL tm [(0,(str p1)),(3,(AV.ms false 1 b29 0 n31)),(4,v35),(5,(J t17))],updL os [],s37⟩) (fun (t27,t33,x28,b29,n31,x34,v35,s37)=>(x28.b=some b29)∧(MS rJ false 1 t27 n31 x28.cs)∧(DY rJ false 1 t33 v35 x34)∧(HS [] false s s37 [x28,x34])∧spec_l01Partners_J2 t17 t27 t33=some ee1) ?_ ?_
  ·rintro ⟨t27,t33,x28,b29,n31,x34,v35,s37⟩ tm os ⟨h30,h32,h36,hH38,h⟩
   unfold spec_l01Partners_J2 at h
   refine inBlock<|inBlock<|region<|q (J t17) ?_
   refine q (J (W (t17+1))) ?_
   refine aq (J (W (t17+1)))<|nl ?_
   cases h
   exact res [(0,(str p1)),(3,(AV.ms false 1 b29 0 n31)),(4,v35),(5,(J (W (t17+1))))] [] ⟨rfl,rfl,rfl,rfl,tv⟩ tv (hL1 _ rfl (x28,(AV.ms false 1 b29 0 n31),x34,v35,s37) _ _ ⟨(DY.ms h30 h32),h36,(HS.sel hH38 [some 0,some 1] (by decide))⟩)
  intro KJ39
  rcases oite h with ⟨hc40,h⟩ | ⟨hc40,h⟩
  ·refine cT hc40<|sr<|q v11<|makeR rfl rfl rfl rfl rfl rfl (rfl:_=(sl 1 true [(J (-2))])) ?_
   obtain ⟨l41,h42,h⟩:=obind h
   refine AOps.appD (i:=0) (r:=rI .i64) (ei:=ty2) (z':=1) (f':=true) (e':=[(J (-2))]) hH19 rfl h12 Sh.I rfl rfl rfl rfl rfl rfl rfl (appSrc_sl (LR.z (LR.lit (r:=rI .i64) (sz:=1) (.cons rfl .nil))) rfl) (LR.el (LR.lit (r:=rI .i64) (sz:=1) (.cons rfl .nil))) rfl ⟨by decide,by decide,rfl,rfl⟩ rfl rfl h42 ?_
   intro b43 n44 cs45 s46 h47 hH48
   refine aq (AV.ms false 1 b43 0 n44)<|nl ?_
   refine region<|q v15 ?_
   refine q (J t17)<|makeR rfl rfl rfl rfl rfl rfl (rfl:_=(sl 1 true [(J t17)])) ?_
   obtain ⟨l49,h50,h⟩:=obind h
   refine AOps.appD (i:=1) (r:=rI .i64) (ei:=ty3) (z':=1) (f':=true) (e':=[(J t17)]) hH48 rfl h16 Sh.I rfl rfl rfl rfl rfl rfl rfl (appSrc_sl (LR.z (LR.lit (r:=rI .i64) (sz:=1) (.cons rfl .nil))) rfl) (LR.el (LR.lit (r:=rI .i64) (sz:=1) (.cons rfl .nil))) rfl ⟨by decide,by decide,rfl,rfl⟩ rfl rfl h50 ?_
   intro b51 n52 cs53 s54 h55 hH56
   refine aq (AV.ms false 1 b51 0 n52)<|nl ?_
   exact res [(0,(str p1)),(3,(AV.ms false 1 b43 0 n44)),(4,(AV.ms false 1 b51 0 n52)),(5,(J t17))] [] ⟨rfl,rfl,rfl,rfl,tv⟩ tv (KJ39 (l41,l49,⟨some b43,cs45,fun _=>false⟩,b43,n44,⟨some b51,cs53,fun _=>false⟩,(AV.ms false 1 b51 0 n52),s54) _ _ ⟨rfl,h47,(DY.ms rfl h55),(HS.sel hH56 [some 0,some 1] (by decide)),h⟩)
  refine cF hc40<|sr<|q (str p1) ?_
  refine q (J t17) ?_
  obtain ⟨c57,h58,h⟩:=obind h
  refine pureR rfl rfl rfl (chr_str h58) rfl (rfl:_=(int .u8 c57)) ?_
  obtain ⟨y59,h60,h⟩:=obind h
  refine cP (spec_l01Return_ok  h60 (wf' hH19)) ?_
  intro _ o62 h61
  cases h61
  refine q (bool y59) ?_
  refine split 4 (fun f'=>∃ tm' os',f'=⟨updL tm' [(0,(str p1)),(3,v11),(4,v15),(5,(J t17)),(39,(bool (y59&&(decide (((t13.length:Int):Int)>0)))))],updL os' [],s18⟩) ?_ ?_
  ·rcases Bool.eq_false_or_eq_true y59 with hc63 | hc63
   ·refine kn 35 hc63<|q v15<|pureR rfl rfl rfl (DY.len h16 rfl rfl rfl) rfl (rfl:_=(J (t13.length:Int))) ?_
    refine q (bool (decide (((t13.length:Int):Int)>0))) ?_
    refine q (bool (decide (((t13.length:Int):Int)>0))) ?_
    exact rR ⟨rfl,rfl,rfl,rfl,congrArg bool (and_t hc63),tv⟩
   ·refine kn 35 hc63<|sk ?_
    refine sk ?_
    refine sk ?_
    refine q (bool false) ?_
    exact rR ⟨rfl,rfl,rfl,rfl,congrArg bool (and_f hc63),tv⟩
  rintro _ ⟨tm,os,rfl⟩
  refine aq (bool (y59&&(decide (((t13.length:Int):Int)>0))))<|nl ?_
  rcases oite h with ⟨hc64,h⟩ | ⟨hc64,h⟩
  ·refine cT hc64<|sr<|q v15 ?_
   refine q v15<|pureR rfl rfl rfl (DY.len h16 rfl rfl rfl) rfl (rfl:_=(J (t13.length:Int)))<|q (J (W ((t13.length:Int) - 1))) ?_
   obtain ⟨x65,h66,h⟩:=obind h
   obtain ⟨b67,n68,h69,h71,h70⟩:=DY.has h16 h66
   subst h71
   refine pureR rfl rfl rfl (idx_ms h70 h66) rfl (rfl:_=(ptr b67 (0+Int.toNat (W ((t13.length:Int) - 1))*1))) ?_
   refine AOps.ldM (i:=1) (r:=rI .i64) (off:=0) hH19 rfl h69 h70 h66 rfl rfl rfl rfl rfl (lt_b rfl) (le_b rfl) rfl rfl ?_ (fun c hr hs=>by cases hr; exact ⟨_,rfl⟩)
   intro c72 h73 h74 v75 h76
   cases h73
   cases h76
   refine aq (J x65)<|ns ?_
   refine q (AV.ms false 1 b67 0 n68) ?_
   refine q (AV.ms false 1 b67 0 n68)<|AOps.p rfl (len_ms h70) ?_
   refine q (J (W ((t13.length:Int) - 1))) ?_
   obtain ⟨l77,h78,h⟩:=obind h
   obtain ⟨h79,h80⟩:=MS.cut (b:=b67) (k:=.i64) h70 h78
   refine pureR rfl rfl rfl h80 rfl (rfl:_=(AV.ms false 1 b67 0 (Int.toNat (W ((t13.length:Int) - 1)))))<|aq (AV.ms false 1 b67 0 (Int.toNat (W ((t13.length:Int) - 1))))<|ns ?_
   refine q v11 ?_
   refine q (J x65) ?_
   refine q (J t17) ?_
   obtain ⟨x81,h82,h⟩:=obind h
   obtain ⟨b83,n84,h85,h87,h86⟩:=DY.has h12 h82
   subst h87
   refine pureR rfl rfl rfl (idx_ms h86 h82) rfl (rfl:_=(ptr b83 (0+Int.toNat x65*1)))<|AOps.stM (i:=0) (r:=rI .i64) (v:=(J t17)) (y:=t17) hH19 rfl h85 h86 h82 rfl rfl rfl rfl rfl rfl (Sh.I t17 _ rfl) rfl rfl (lt_b rfl) rfl rfl ?_
   intro cs88 w89 s90 h91 hH92
   refine nl<|region<|q (AV.ms false 1 b83 0 n84) ?_
   refine q (J x65)<|makeR rfl rfl rfl rfl rfl rfl (rfl:_=(sl 1 true [(J x65)])) ?_
   obtain ⟨l93,h94,h⟩:=obind h
   refine AOps.appB' (i:=0) (r:=rI .i64) (ei:=ty2) (z':=1) (f':=true) (e':=[(J x65)]) hH92 rfl rfl h91 Sh.I rfl rfl rfl rfl rfl rfl rfl (appSrc_sl (LR.z (LR.lit (r:=rI .i64) (sz:=1) (.cons rfl .nil))) rfl) (LR.el (LR.lit (r:=rI .i64) (sz:=1) (.cons rfl .nil))) ⟨by decide,by decide,rfl,rfl⟩ rfl rfl h94 ?_
   intro b95 n96 cs97 s98 h99 hH100
   refine aq (AV.ms false 1 b95 0 n96)<|nl ?_
   exact res [(0,(str p1)),(3,(AV.ms false 1 b95 0 n96)),(4,(AV.ms false 1 b67 0 (Int.toNat (W ((t13.length:Int) - 1))))),(5,(J t17))] [] ⟨rfl,rfl,rfl,rfl,tv⟩ tv (KJ39 (l93,l77,⟨some b95,cs97,fun _=>false⟩,b95,n96,x14,(AV.ms false 1 b67 0 (Int.toNat (W ((t13.length:Int) - 1)))),s98) _ _ ⟨rfl,h99,(DY.ms h69 h79),(HS.sel hH100 [some 0,some 1] (by decide)),h⟩)
  refine cF hc64<|sr<|q (str p1) ?_
  refine q (J t17) ?_
  obtain ⟨c101,h102,h⟩:=obind h
  refine pureR rfl rfl rfl (chr_str h102) rfl (rfl:_=(int .u8 c101)) ?_
  obtain ⟨y103,h104,h⟩:=obind h
  refine cP (spec_l01Return_ok  h104 (wf' hH19)) ?_
  intro _ o106 h105
  cases h105
  refine aq (bool y103)<|nl ?_
  rcases oite h with ⟨hc107,h⟩ | ⟨hc107,h⟩
  ·refine cT hc107<|region<|q v11<|makeR rfl rfl rfl rfl rfl rfl (rfl:_=(sl 1 true [(J (-2))])) ?_
   obtain ⟨l108,h109,h⟩:=obind h
   refine AOps.appD (i:=0) (r:=rI .i64) (ei:=ty2) (z':=1) (f':=true) (e':=[(J (-2))]) hH19 rfl h12 Sh.I rfl rfl rfl rfl rfl rfl rfl (appSrc_sl (LR.z (LR.lit (r:=rI .i64) (sz:=1) (.cons rfl .nil))) rfl) (LR.el (LR.lit (r:=rI .i64) (sz:=1) (.cons rfl .nil))) rfl ⟨by decide,by decide,rfl,rfl⟩ rfl rfl h109 ?_
   intro b110 n111 cs112 s113 h114 hH115
   refine aq (AV.ms false 1 b110 0 n111)<|nl ?_
   exact res [(0,(str p1)),(3,(AV.ms false 1 b110 0 n111)),(4,v15),(5,(J t17))] [] ⟨rfl,rfl,rfl,rfl,tv⟩ tv (KJ39 (l108,t13,⟨some b110,cs112,fun _=>false⟩,b110,n111,x14,v15,s113) _ _ ⟨rfl,h114,h16,(HS.sel hH115 [some 0,some 1] (by decide)),h⟩)
  refine cF hc107<|region<|q v11<|makeR rfl rfl rfl rfl rfl rfl (rfl:_=(sl 1 true [(J (-1))])) ?_
  obtain ⟨l116,h117,h⟩:=obind h
  refine AOps.appD (i:=0) (r:=rI .i64) (ei:=ty2) (z':=1) (f':=true) (e':=[(J (-1))]) hH19 rfl h12 Sh.I rfl rfl rfl rfl rfl rfl rfl (appSrc_sl (LR.z (LR.lit (r:=rI .i64) (sz:=1) (.cons rfl .nil))) rfl) (LR.el (LR.lit (r:=rI .i64) (sz:=1) (.cons rfl .nil))) rfl ⟨by decide,by decide,rfl,rfl⟩ rfl rfl h117 ?_
  intro b118 n119 cs120 s121 h122 hH123
  refine aq (AV.ms false 1 b118 0 n119)<|nl ?_
  exact res [(0,(str p1)),(3,(AV.ms false 1 b118 0 n119)),(4,v15),(5,(J t17))] [] ⟨rfl,rfl,rfl,rfl,tv⟩ tv (KJ39 (l116,t13,⟨some b118,cs120,fun _=>false⟩,b118,n119,x14,v15,s121) _ _ ⟨rfl,h122,h16,(HS.sel hH123 [some 0,some 1] (by decide)),h⟩)
 refine cF hc20<|exit rfl ?_
 obtain ⟨r124,hm,hx⟩:=omap h
 clear h
 subst hx
 have hx:=hR1 _ rfl
 rw[hx] at hm
 have h:=hm
 exact res [(3,v11)] [] ⟨rfl,tv⟩ tv (KJ8 (t9,x10,v11,s18) _ _ ⟨h12,(HS.sel hH19 [some 0] (by decide)),h⟩)
theorem spec_l01Pending_ok {w1:List UInt8} {s:St} {r:Int × Int} (h:spec_l01Pending w1=some r) (hs:WF s):ACall Cf 112 [(str w1)] s fun v _ s'=>(fun x=>rT [rJ x.1,rJ x.2]) r v∧s'=s:=by
 refine ACall.pure rfl rfl rfl (.T (.cons .I (.cons .I .nil))) ?_
 have hWF:=hs.lo'
 unfold spec_l01Pending at h
 refine sr<|q (J 0)<|q (J 0)<|ns ?_
 refine q (str w1) ?_
 obtain ⟨y2,h3,h⟩:=obind h
 refine cP (spec_l01Partners_ok  h3 hWF) ?_
 intro _ o9 h4
 obtain ⟨z5,f6,e7,rfl,h8⟩:=h4
 refine aq (sl z5 f6 e7)<|ns ?_
 refine q (J 0)<|ns ?_
 refine q (J 0)<|nl ?_
 refine seq<|sr<|q (J 0)<|nl ?_
 refine meet (σ:=Int × Int) (fun (returns10,calls11) tm os=>⟨updL tm [(5,(J returns10)),(6,(J calls11))],updL os [],s.M⟩) (fun (returns10,calls11)=>spec_l01Pending_J1 returns10 calls11=some r) ?_ ?_
 ·rintro ⟨returns10,calls11⟩ tm os h
  unfold spec_l01Pending_J1 at h
  refine sr<|q (J returns10) ?_
  refine q (J calls11) ?_
  refine aq (J returns10) ?_
  refine aq (J calls11)<|nl ?_
  cases h
  exact ret ⟨rfl,_,_,rfl,⟨_,rfl,(.cons rfl (.cons rfl .nil))⟩⟩
 intro KJ12
 refine block<|res [(0,(str w1)),(4,(sl z5 f6 e7)),(5,(J 0)),(6,(J 0)),(7,(J 0))] [] ⟨rfl,rfl,rfl,rfl,rfl,tv⟩ tv ?_
 refine loopF (σ:=Int × Int × Int) (τ:=Unit) (fun (returns13,calls14,i15) _=>True) (fun (returns13,calls14,i15) _ tm os=>⟨updL tm [(0,(str w1)),(4,(sl z5 f6 e7)),(5,(J returns13)),(6,(J calls14)),(7,(J i15))],updL os [],s.M⟩) ?_ (x:=(0,0,0)) (y:=()) h tv
 clear h
 rintro ⟨returns13,calls14,i15⟩ _ tm os - ee1 h hL1 hR1
 unfold spec_l01Pending_S1 at h
 dsimp only at h
 refine seq<|sr<|q (J i15) ?_
 refine q (str w1) ?_
 refine q (J (w1.length:Int)) ?_
 refine q (bool (decide ((i15:Int)<(w1.length:Int))))<|nl ?_
 rcases oite h with ⟨hc16,h⟩ | ⟨hc16,h⟩
 ·refine cT hc16<|skip<|seq<|block<|seq<|sr<|q (sl z5 f6 e7) ?_
  refine q (J i15) ?_
  obtain ⟨x17,h18,h⟩:=obind h
  obtain ⟨v21,h19,h20⟩:=idx_sl h8 h18
  cases h19
  refine pureR rfl rfl rfl h20 rfl (rfl:_=(eptr [(J x17)] 0))<|lE (J x17) ?_
  refine q (bool (x17 == (-2))) ?_
  refine q (bool (x17 == (-2))) ?_
  obtain ⟨b23,hb,h⟩:=obind h
  refine split 5 (fun f'=>∃ tm' os',f'=⟨updL tm' [(0,(str w1)),(4,(sl z5 f6 e7)),(5,(J returns13)),(6,(J calls14)),(7,(J i15)),(26,(bool b23))],updL os' [],s.M⟩) ?_ ?_
  ·rcases oite hb with ⟨hc22,hb⟩ | ⟨hc22,hb⟩
   ·have h:=hb
    refine kn 21 hc22<|q (str w1) ?_
    refine q (J i15) ?_
    obtain ⟨c24,h25,h⟩:=obind h
    refine pureR rfl rfl rfl (chr_str h25) rfl (rfl:_=(int .u8 c24)) ?_
    obtain ⟨y26,h27,h⟩:=obind h
    refine cP (spec_l01Return_ok  h27 hWF) ?_
    intro _ o29 h28
    cases h28
    refine q (bool y26) ?_
    exact rR ⟨rfl,rfl,rfl,rfl,rfl,bJ h,tv⟩
   ·refine kn 21 hc22<|sk ?_
    refine sk ?_
    refine sk ?_
    refine sk ?_
    refine q (bool false) ?_
    exact rR ⟨rfl,rfl,rfl,rfl,rfl,bJ hb,tv⟩
  rintro _ ⟨tm,os,rfl⟩
  refine nl ?_
  refine meet (σ:=Int) (fun returns30 tm os=>⟨updL tm [(0,(str w1)),(4,(sl z5 f6 e7)),(5,(J returns30)),(6,(J calls14)),(7,(J i15))],updL os [],s.M⟩) (fun returns30=>spec_l01Pending_J2 w1 y2 calls14 i15 returns30=some ee1) ?_ ?_
  ·rintro returns30 tm os h
   unfold spec_l01Pending_J2 at h
   refine sr<|q (sl z5 f6 e7) ?_
   refine q (J i15) ?_
   obtain ⟨x32,h33,h⟩:=obind h
   obtain ⟨v36,h34,h35⟩:=idx_sl h8 h33
   cases h34
   refine pureR rfl rfl rfl h35 rfl (rfl:_=(eptr [(J x32)] 0))<|lE (J x32) ?_
   refine q (bool (x32 == (-2))) ?_
   refine q (bool (x32 == (-2))) ?_
   obtain ⟨b38,hb,h⟩:=obind h
   refine split 5 (fun f'=>∃ tm' os',f'=⟨updL tm' [(0,(str w1)),(4,(sl z5 f6 e7)),(5,(J returns30)),(6,(J calls14)),(7,(J i15)),(39,(bool b38))],updL os' [],s.M⟩) ?_ ?_
   ·rcases oite hb with ⟨hc37,hb⟩ | ⟨hc37,hb⟩
    ·have h:=hb
     refine kn 34 hc37<|q (str w1) ?_
     refine q (J i15) ?_
     obtain ⟨c39,h40,h⟩:=obind h
     refine pureR rfl rfl rfl (chr_str h40) rfl (rfl:_=(int .u8 c39)) ?_
     obtain ⟨y41,h42,h⟩:=obind h
     refine cP (spec_l01Call_ok  h42 hWF) ?_
     intro _ o44 h43
     cases h43
     refine q (bool y41) ?_
     exact rR ⟨rfl,rfl,rfl,rfl,rfl,bJ h,tv⟩
    ·refine kn 34 hc37<|sk ?_
     refine sk ?_
     refine sk ?_
     refine sk ?_
     refine q (bool false) ?_
     exact rR ⟨rfl,rfl,rfl,rfl,rfl,bJ hb,tv⟩
   rintro _ ⟨tm,os,rfl⟩
   refine nl ?_
   refine meet (σ:=Int) (fun calls45 tm os=>⟨updL tm [(0,(str w1)),(4,(sl z5 f6 e7)),(5,(J returns30)),(6,(J calls45)),(7,(J i15))],updL os [],s.M⟩) (fun calls45=>spec_l01Pending_J3 i15 returns30 calls45=some ee1) ?_ ?_
   ·rintro calls45 tm os h
    unfold spec_l01Pending_J3 at h
    refine inBlock<|region<|q (J i15) ?_
    refine q (J (W (i15+1))) ?_
    refine aq (J (W (i15+1)))<|nl ?_
    cases h
    exact res [(0,(str w1)),(4,(sl z5 f6 e7)),(5,(J returns30)),(6,(J calls45)),(7,(J (W (i15+1))))] [] ⟨rfl,rfl,rfl,rfl,rfl,tv⟩ tv (hL1 _ rfl () _ _ tv)
   intro KJ46
   rcases oite h with ⟨hc47,h⟩ | ⟨hc47,h⟩
   ·refine cT hc47<|region<|q (J calls14) ?_
    refine q (J (W (calls14+1))) ?_
    refine aq (J (W (calls14+1)))<|nl ?_
    exact res [(0,(str w1)),(4,(sl z5 f6 e7)),(5,(J returns30)),(6,(J (W (calls14+1)))),(7,(J i15))] [] ⟨rfl,rfl,rfl,rfl,rfl,tv⟩ tv (KJ46 (W (calls14+1)) _ _ h)
   exact cF hc47<|skip<|res [(0,(str w1)),(4,(sl z5 f6 e7)),(5,(J returns30)),(6,(J calls14)),(7,(J i15))] [] ⟨rfl,rfl,rfl,rfl,rfl,tv⟩ tv (KJ46 (calls14) _ _ h)
  intro KJ31
  rcases oite h with ⟨hc48,h⟩ | ⟨hc48,h⟩
  ·refine cT hc48<|region<|q (J returns13) ?_
   refine q (J (W (returns13+1))) ?_
   refine aq (J (W (returns13+1)))<|nl ?_
   exact res [(0,(str w1)),(4,(sl z5 f6 e7)),(5,(J (W (returns13+1)))),(6,(J calls14)),(7,(J i15))] [] ⟨rfl,rfl,rfl,rfl,rfl,tv⟩ tv (KJ31 (W (returns13+1)) _ _ h)
  exact cF hc48<|skip<|res [(0,(str w1)),(4,(sl z5 f6 e7)),(5,(J returns13)),(6,(J calls14)),(7,(J i15))] [] ⟨rfl,rfl,rfl,rfl,rfl,tv⟩ tv (KJ31 (returns13) _ _ h)
 refine cF hc16<|exit rfl ?_
 obtain ⟨r49,hm,hx⟩:=omap h
 clear h
 subst hx
 have hx:=hR1 _ rfl
 rw[hx] at hm
 have h:=hm
 exact res [(5,(J returns13)),(6,(J calls14))] [] ⟨rfl,rfl,tv⟩ tv (KJ12 (returns13,calls14) _ _ h)
theorem spec_l06Has_ok {p0_1:List UInt8} {returns2 calls3:Int} {s:St} {r:Bool} (h:spec_l06Has p0_1 returns2 calls3=some r) (hs:WF s):ACall Cf 71 [(str p0_1),(J returns2),(J calls3)] s fun v _ s'=>(rB) r v∧s'=s:=by
 refine ACall.pure rfl rfl rfl .B ?_
 have hWF:=hs.lo'
 unfold spec_l06Has at h
 refine sr<|q (bool false)<|ns ?_
 refine q (str p0_1) ?_
 obtain ⟨y4,h5,h⟩:=obind h
 refine cP (spec_l01Pending_ok  h5 hWF) ?_
 intro _ o12 h6
 obtain ⟨_,rfl,h7⟩:=h6
 obtain ⟨_,_,rfl,h8,h9⟩:=Cs_cons h7
 cases h8
 obtain ⟨_,_,rfl,h10,h11⟩:=Cs_cons h9
 cases h10
 cases Cs_nil h11
 refine q (AV.tup [(J y4.1),(J y4.2)]) ?_
 refine q (J y4.1) ?_
 refine q (J y4.2) ?_
 refine aq (J y4.1) ?_
 refine aq (J y4.2)<|ns ?_
 refine q (J y4.1) ?_
 refine q (J returns2) ?_
 refine q (bool (y4.1 == returns2)) ?_
 refine q (bool (y4.1 == returns2)) ?_
 refine split 4 (fun f'=>∃ tm' os',f'=⟨updL tm' [(21,(bool ((y4.1 == returns2)&&(y4.2 == calls3))))],updL os' [],s.M⟩) ?_ ?_
 ·rcases Bool.eq_false_or_eq_true (y4.1 == returns2) with hc13 | hc13
  ·refine kn 17 hc13<|q (J y4.2) ?_
   refine q (J calls3) ?_
   refine q (bool (y4.2 == calls3)) ?_
   refine q (bool (y4.2 == calls3)) ?_
   exact rR ⟨congrArg bool (and_t hc13),tv⟩
  ·refine kn 17 hc13<|sk ?_
   refine sk ?_
   refine sk ?_
   refine q (bool false) ?_
   exact rR ⟨congrArg bool (and_f hc13),tv⟩
 rintro _ ⟨tm,os,rfl⟩
 refine aq (bool ((y4.1 == returns2)&&(y4.2 == calls3)))<|nl ?_
 cases h
 exact ret ⟨rfl,_,_,rfl,rfl⟩
theorem spec_l06Structural_ok {p1:Rewriter} {z2 z6 z10:Nat} {f3 f7 f11:Bool} {e4 e8 e12:List AV} {s:St} (h5:LR (rL rOutPush 3) 1 p1.Call z2 e4) (h9:LR (rL (rL rOutMove 2) 1) 1 p1.Return z6 e8) (h13:LR (rL rOutMove 2) 1 p1.Inner z10 e12) {r:Bool} (h:spec_l06Structural p1=some r) (hs:WF s):ACall Cf 24 [(eptr [(J p1.Stack),(J p1.Start),(sl z2 f3 e4),(sl z6 f7 e8),(sl z10 f11 e12)] 0)] s fun v _ s'=>(rB) r v∧s'=s:=by
 refine ACall.pure rfl rfl rfl .B ?_
 have hWF:=hs.lo'
 unfold spec_l06Structural at h
 refine sr ?_
 refine q (bool false) ?_
 refine nl ?_
 refine seq ?_
 refine sr ?_
 refine q (J 0) ?_
 refine nl ?_
 refine meet (σ:=Unit) (fun _ tm os=>⟨updL tm [],updL os [],s.M⟩) (fun _=>spec_l06Structural_J1=some r) ?_ ?_
 ·rintro _ tm os h
  unfold spec_l06Structural_J1 at h
  refine sr ?_
  refine q (bool true) ?_
  refine nl ?_
  cases h
  exact ret ⟨rfl,_,_,rfl,rfl⟩
 intro KJ14
 refine block ?_
 refine res [(0,(eptr [(J p1.Stack),(J p1.Start),(sl z2 f3 e4),(sl z6 f7 e8),(sl z10 f11 e12)] 0)),(3,(J 0))] [] ⟨rfl,rfl,tv⟩ tv ?_
 refine loopF (σ:=Int) (τ:=Unit) (fun t15 _=>True) (fun t15 _ tm os=>⟨updL tm [(0,(eptr [(J p1.Stack),(J p1.Start),(sl z2 f3 e4),(sl z6 f7 e8),(sl z10 f11 e12)] 0)),(3,(J t15))],updL os [],s.M⟩) ?_ (x:=(0)) (y:=()) h tv
 clear h
 rintro t15 _ tm os - ee1 h hL1 hR1
 unfold spec_l06Structural_S1 at h
 refine seq ?_
 refine sr ?_
 refine q (J t15) ?_
 refine q (eptr [(J p1.Stack),(J p1.Start),(sl z2 f3 e4),(sl z6 f7 e8),(sl z10 f11 e12)] 0) ?_
 refine q (eptr [(J p1.Stack),(J p1.Start),(sl z2 f3 e4),(sl z6 f7 e8),(sl z10 f11 e12)] 0) ?_
 refine q (eptr [(J p1.Stack),(J p1.Start),(sl z2 f3 e4),(sl z6 f7 e8),(sl z10 f11 e12)] 2) ?_
 refine lE (sl z2 f3 e4) ?_
 refine AOps.p rfl (len_eq h5) ?_
 refine q (bool (decide ((t15:Int)<(p1.Call.length:Int)))) ?_
 refine nl ?_
 rcases oite h with ⟨hc16,h⟩ | ⟨hc16,h⟩
 ·refine cT hc16 ?_
  refine skip ?_
  refine seq ?_
  refine block ?_
  refine sr ?_
  refine q (J 0) ?_
  refine nl ?_
  refine meet (σ:=Unit) (fun _ tm os=>⟨updL tm [(0,(eptr [(J p1.Stack),(J p1.Start),(sl z2 f3 e4),(sl z6 f7 e8),(sl z10 f11 e12)] 0)),(3,(J t15))],updL os [],s.M⟩) (fun _=>spec_l06Structural_J2 t15=some ee1) ?_ ?_
  ·rintro _ tm os h
   unfold spec_l06Structural_J2 at h
   refine inBlock ?_
   refine region ?_
   refine q (J t15) ?_
   refine q (J (W (t15+1))) ?_
   refine aq (J (W (t15+1))) ?_
   refine nl ?_
   cases h
   exact res [(0,(eptr [(J p1.Stack),(J p1.Start),(sl z2 f3 e4),(sl z6 f7 e8),(sl z10 f11 e12)] 0)),(3,(J (W (t15+1))))] [] ⟨rfl,rfl,tv⟩ tv (hL1 _ rfl () _ _ tv)
  intro KJ17
  refine block ?_
  refine res [(0,(eptr [(J p1.Stack),(J p1.Start),(sl z2 f3 e4),(sl z6 f7 e8),(sl z10 f11 e12)] 0)),(3,(J t15)),(4,(J 0))] [] ⟨rfl,rfl,rfl,tv⟩ tv ?_
  refine loopF (σ:=Int) (τ:=Unit) (fun t18 _=>True) (fun t18 _ tm os=>⟨updL tm [(0,(eptr [(J p1.Stack),(J p1.Start),(sl z2 f3 e4),(sl z6 f7 e8),(sl z10 f11 e12)] 0)),(3,(J t15)),(4,(J t18))],updL os [],s.M⟩) ?_ (x:=(0)) (y:=()) h tv
  clear h
  rintro t18 _ tm os - ee2 h hL2 hR2
  unfold spec_l06Structural_S2 at h
  refine seq ?_
  refine sr ?_
  refine q (J t18) ?_
  refine q (bool (decide ((t18:Int)<2))) ?_
  refine nl ?_
  rcases oite h with ⟨hc19,h⟩ | ⟨hc19,h⟩
  ·refine cT hc19 ?_
   refine skip ?_
   refine seq ?_
   refine block ?_
   refine seq ?_
   refine sr ?_
   refine q (eptr [(J p1.Stack),(J p1.Start),(sl z2 f3 e4),(sl z6 f7 e8),(sl z10 f11 e12)] 0) ?_
   refine q (eptr [(J p1.Stack),(J p1.Start),(sl z2 f3 e4),(sl z6 f7 e8),(sl z10 f11 e12)] 0) ?_
   refine q (eptr [(J p1.Stack),(J p1.Start),(sl z2 f3 e4),(sl z6 f7 e8),(sl z10 f11 e12)] 2) ?_
   refine lE (sl z2 f3 e4) ?_
   refine q (J t15) ?_
   obtain ⟨x20,h21,h⟩:=obind h
   obtain ⟨v24,h22,h23⟩:=idx_sl h5 h21
   obtain ⟨z25,f26,e27,rfl,h28⟩:=h22
   refine pureR rfl rfl rfl h23 rfl (rfl:_=(eptr [(sl z25 f26 e27)] 0)) ?_
   refine lE (sl z25 f26 e27) ?_
   refine q (J t18) ?_
   obtain ⟨x29,h30,h⟩:=obind h
   obtain ⟨v33,h31,h32⟩:=idx_sl h28 h30
   obtain ⟨_,rfl,h34⟩:=h31
   obtain ⟨_,_,rfl,h35,h36⟩:=Cs_cons h34
   cases h35
   obtain ⟨_,_,rfl,h37,h38⟩:=Cs_cons h36
   cases h37
   obtain ⟨_,_,rfl,h39,h40⟩:=Cs_cons h38
   cases h39
   cases Cs_nil h40
   refine pureR rfl rfl rfl h32 rfl (rfl:_=(eptr [(J x29.To),(J x29.Put),(str x29.Out)] 0)) ?_
   refine q (eptr [(J x29.To),(J x29.Put),(str x29.Out)] 2) ?_
   refine lE (str x29.Out) ?_
   obtain ⟨y41,h42,h⟩:=obind h
   refine cP (spec_l06Has_ok  h42 hWF) ?_
   intro _ o44 h43
   cases h43
   refine q (bool (!y41)) ?_
   refine q (bool (!y41)) ?_
   obtain ⟨b46,hb,h⟩:=obind h
   refine split 14 (fun f'=>∃ tm' os',f'=⟨updL tm' [(0,(eptr [(J p1.Stack),(J p1.Start),(sl z2 f3 e4),(sl z6 f7 e8),(sl z10 f11 e12)] 0)),(3,(J t15)),(4,(J t18)),(46,(bool b46))],updL os' [],s.M⟩) ?_ ?_
   ·rcases oite hb with ⟨hc45,hb⟩ | ⟨hc45,hb⟩
    ·refine kn 32 hc45 ?_
     refine sk ?_
     refine sk ?_
     refine sk ?_
     refine sk ?_
     refine sk ?_
     refine sk ?_
     refine sk ?_
     refine sk ?_
     refine sk ?_
     refine sk ?_
     refine sk ?_
     refine sk ?_
     refine sk ?_
     refine q (bool true) ?_
     exact rR ⟨rfl,rfl,rfl,bJ hb,tv⟩
    ·have h:=hb
     refine kn 32 hc45 ?_
     refine q (eptr [(J p1.Stack),(J p1.Start),(sl z2 f3 e4),(sl z6 f7 e8),(sl z10 f11 e12)] 0) ?_
     refine q (eptr [(J p1.Stack),(J p1.Start),(sl z2 f3 e4),(sl z6 f7 e8),(sl z10 f11 e12)] 0) ?_
     refine q (eptr [(J p1.Stack),(J p1.Start),(sl z2 f3 e4),(sl z6 f7 e8),(sl z10 f11 e12)] 4) ?_
     refine lE (sl z10 f11 e12) ?_
     refine q (J t15) ?_
     obtain ⟨x47,h48,h⟩:=obind h
     obtain ⟨v51,h49,h50⟩:=idx_sl h13 h48
     obtain ⟨z52,f53,e54,rfl,h55⟩:=h49
     refine pureR rfl rfl rfl h50 rfl (rfl:_=(eptr [(sl z52 f53 e54)] 0)) ?_
     refine lE (sl z52 f53 e54) ?_
     refine q (J t18) ?_
     obtain ⟨x56,h57,h⟩:=obind h
     obtain ⟨v60,h58,h59⟩:=idx_sl h55 h57
     obtain ⟨_,rfl,h61⟩:=h58
     obtain ⟨_,_,rfl,h62,h63⟩:=Cs_cons h61
     cases h62
     obtain ⟨_,_,rfl,h64,h65⟩:=Cs_cons h63
     cases h64
     cases Cs_nil h65
     refine pureR rfl rfl rfl h59 rfl (rfl:_=(eptr [(J x56.To),(str x56.Out)] 0)) ?_
     refine q (eptr [(J x56.To),(str x56.Out)] 1) ?_
     refine lE (str x56.Out) ?_
     obtain ⟨y66,h67,h⟩:=obind h
     refine cP (spec_l06Has_ok  h67 hWF) ?_
     intro _ o69 h68
     cases h68
     refine q (bool (!y66)) ?_
     refine q (bool (!y66)) ?_
     exact rR ⟨rfl,rfl,rfl,bJ h,tv⟩
   rintro _ ⟨tm,os,rfl⟩
   refine nl ?_
   rcases oite h with ⟨hc70,h⟩ | ⟨hc70,h⟩
   ·refine cT hc70 ?_
    refine sr ?_
    refine q (bool false) ?_
    refine nl ?_
    cases h
    have hr:=hR2 _ rfl
    cases hr
    have hr:=hR1 _ rfl
    subst hr
    exact ret ⟨rfl,_,_,rfl,rfl⟩
   refine cF hc70 ?_
   refine skip ?_
   refine sr ?_
   refine q (J 0) ?_
   refine nl ?_
   refine meet (σ:=Unit) (fun _ tm os=>⟨updL tm [(0,(eptr [(J p1.Stack),(J p1.Start),(sl z2 f3 e4),(sl z6 f7 e8),(sl z10 f11 e12)] 0)),(3,(J t15)),(4,(J t18))],updL os [],s.M⟩) (fun _=>spec_l06Structural_J3 t18=some ee2) ?_ ?_
   ·rintro _ tm os h
    unfold spec_l06Structural_J3 at h
    refine inBlock ?_
    refine region ?_
    refine q (J t18) ?_
    refine q (J (W (t18+1))) ?_
    refine aq (J (W (t18+1))) ?_
    refine nl ?_
    cases h
    exact res [(0,(eptr [(J p1.Stack),(J p1.Start),(sl z2 f3 e4),(sl z6 f7 e8),(sl z10 f11 e12)] 0)),(3,(J t15)),(4,(J (W (t18+1))))] [] ⟨rfl,rfl,rfl,tv⟩ tv (hL2 _ rfl () _ _ tv)
   intro KJ71
   refine block ?_
   refine res [(0,(eptr [(J p1.Stack),(J p1.Start),(sl z2 f3 e4),(sl z6 f7 e8),(sl z10 f11 e12)] 0)),(3,(J t15)),(4,(J t18)),(5,(J 0))] [] ⟨rfl,rfl,rfl,rfl,tv⟩ tv ?_
   refine loopF (σ:=Int) (τ:=Unit) (fun t72 _=>True) (fun t72 _ tm os=>⟨updL tm [(0,(eptr [(J p1.Stack),(J p1.Start),(sl z2 f3 e4),(sl z6 f7 e8),(sl z10 f11 e12)] 0)),(3,(J t15)),(4,(J t18)),(5,(J t72))],updL os [],s.M⟩) ?_ (x:=(0)) (y:=()) h tv
   clear h
   rintro t72 _ tm os - ee3 h hL3 hR3
   unfold spec_l06Structural_S3 at h
   refine seq ?_
   refine sr ?_
   refine q (J t72) ?_
   refine q (eptr [(J p1.Stack),(J p1.Start),(sl z2 f3 e4),(sl z6 f7 e8),(sl z10 f11 e12)] 0) ?_
   refine q (eptr [(J p1.Stack),(J p1.Start),(sl z2 f3 e4),(sl z6 f7 e8),(sl z10 f11 e12)] 0) ?_
   refine q (eptr [(J p1.Stack),(J p1.Start),(sl z2 f3 e4),(sl z6 f7 e8),(sl z10 f11 e12)] 3) ?_
   refine lE (sl z6 f7 e8) ?_
   refine q (J t15) ?_
   obtain ⟨x73,h74,h⟩:=obind h
   obtain ⟨v77,h75,h76⟩:=idx_sl h9 h74
   obtain ⟨z78,f79,e80,rfl,h81⟩:=h75
   refine pureR rfl rfl rfl h76 rfl (rfl:_=(eptr [(sl z78 f79 e80)] 0)) ?_
   refine lE (sl z78 f79 e80) ?_
   refine q (J t18) ?_
   obtain ⟨x82,h83,h⟩:=obind h
   obtain ⟨v86,h84,h85⟩:=idx_sl h81 h83
   obtain ⟨z87,f88,e89,rfl,h90⟩:=h84
   refine pureR rfl rfl rfl h85 rfl (rfl:_=(eptr [(sl z87 f88 e89)] 0)) ?_
   refine lE (sl z87 f88 e89) ?_
   refine AOps.p rfl (len_eq h90) ?_
   refine q (bool (decide ((t72:Int)<(x82.length:Int)))) ?_
   refine nl ?_
   rcases oite h with ⟨hc91,h⟩ | ⟨hc91,h⟩
   ·refine cT hc91 ?_
    refine skip ?_
    refine seq ?_
    refine block ?_
    refine sr ?_
    refine q (eptr [(J p1.Stack),(J p1.Start),(sl z2 f3 e4),(sl z6 f7 e8),(sl z10 f11 e12)] 0) ?_
    refine q (eptr [(J p1.Stack),(J p1.Start),(sl z2 f3 e4),(sl z6 f7 e8),(sl z10 f11 e12)] 0) ?_
    refine q (eptr [(J p1.Stack),(J p1.Start),(sl z2 f3 e4),(sl z6 f7 e8),(sl z10 f11 e12)] 3) ?_
    refine lE (sl z6 f7 e8) ?_
    refine q (J t15) ?_
    obtain ⟨x92,h93,h⟩:=obind h
    obtain ⟨v96,h94,h95⟩:=idx_sl h9 h93
    obtain ⟨z97,f98,e99,rfl,h100⟩:=h94
    refine pureR rfl rfl rfl h95 rfl (rfl:_=(eptr [(sl z97 f98 e99)] 0)) ?_
    refine lE (sl z97 f98 e99) ?_
    refine q (J t18) ?_
    obtain ⟨x101,h102,h⟩:=obind h
    obtain ⟨v105,h103,h104⟩:=idx_sl h100 h102
    obtain ⟨z106,f107,e108,rfl,h109⟩:=h103
    refine pureR rfl rfl rfl h104 rfl (rfl:_=(eptr [(sl z106 f107 e108)] 0)) ?_
    refine lE (sl z106 f107 e108) ?_
    refine q (J t72) ?_
    obtain ⟨x110,h111,h⟩:=obind h
    obtain ⟨v114,h112,h113⟩:=idx_sl h109 h111
    obtain ⟨_,rfl,h115⟩:=h112
    obtain ⟨_,_,rfl,h116,h117⟩:=Cs_cons h115
    cases h116
    obtain ⟨_,_,rfl,h118,h119⟩:=Cs_cons h117
    cases h118
    cases Cs_nil h119
    refine pureR rfl rfl rfl h113 rfl (rfl:_=(eptr [(J x110.To),(str x110.Out)] 0)) ?_
    refine q (eptr [(J x110.To),(str x110.Out)] 1) ?_
    refine lE (str x110.Out) ?_
    obtain ⟨y120,h121,h⟩:=obind h
    refine cP (spec_l06Has_ok  h121 hWF) ?_
    intro _ o123 h122
    cases h122
    refine q (bool (!y120)) ?_
    refine nl ?_
    rcases oite h with ⟨hc124,h⟩ | ⟨hc124,h⟩
    ·refine cT hc124 ?_
     refine sr ?_
     refine q (bool false) ?_
     refine nl ?_
     cases h
     have hr:=hR3 _ rfl
     cases hr
     have hr:=hR2 _ rfl
     cases hr
     have hr:=hR1 _ rfl
     subst hr
     exact ret ⟨rfl,_,_,rfl,rfl⟩
    refine cF hc124 ?_
    refine skip ?_
    refine inBlock ?_
    refine region ?_
    refine q (J t72) ?_
    refine q (J (W (t72+1))) ?_
    refine aq (J (W (t72+1))) ?_
    refine nl ?_
    cases h
    exact res [(0,(eptr [(J p1.Stack),(J p1.Start),(sl z2 f3 e4),(sl z6 f7 e8),(sl z10 f11 e12)] 0)),(3,(J t15)),(4,(J t18)),(5,(J (W (t72+1))))] [] ⟨rfl,rfl,rfl,rfl,tv⟩ tv (hL3 _ rfl () _ _ tv)
   refine cF hc91 ?_
   refine exit rfl ?_
   obtain ⟨r125,hm,hx⟩:=omap h
   clear h
   subst hx
   have hx:=hR3 _ rfl
   rw[hx] at hm
   have h:=hm
   exact res [(0,(eptr [(J p1.Stack),(J p1.Start),(sl z2 f3 e4),(sl z6 f7 e8),(sl z10 f11 e12)] 0)),(3,(J t15)),(4,(J t18))] [] ⟨rfl,rfl,rfl,tv⟩ tv (KJ71 () _ _ h)
  refine cF hc19 ?_
  refine exit rfl ?_
  obtain ⟨r126,hm,hx⟩:=omap h
  clear h
  subst hx
  have hx:=hR2 _ rfl
  rw[hx] at hm
  have h:=hm
  exact res [(0,(eptr [(J p1.Stack),(J p1.Start),(sl z2 f3 e4),(sl z6 f7 e8),(sl z10 f11 e12)] 0)),(3,(J t15))] [] ⟨rfl,rfl,tv⟩ tv (KJ17 () _ _ h)
 refine cF hc16 ?_
 refine exit rfl ?_
 obtain ⟨r127,hm,hx⟩:=omap h
 clear h
 subst hx
 have hx:=hR1 _ rfl
 rw[hx] at hm
 have h:=hm
 exact res [] [] tv tv (KJ14 () _ _ h)
theorem spec_l00Own_okO {list1:List Int} {z2:Nat} {f3:Bool} {e4:List AV} {s:St} (h5:LR rJ 1 list1 z2 e4) {r:(List Int)} (h:spec_l00Own list1=some r) (hs:WF s):ACall Cf 114 [(sl z2 f3 e4)] s fun v o s'=>((rL rJ 1) r v∧s'=s)∧o=true:=by
 refine ACall.pureO rfl rfl rfl (.L fun _=>.I) ?_
 have hWF:=hs.lo'
 unfold spec_l00Own at h
 refine sr<|q (sl 0 true [])<|ns ?_
 refine makeR rfl rfl rfl rfl rfl rfl (rfl:_=(sl 1 true []))<|q (sl z2 f3 e4) ?_
 obtain ⟨l6,h7,h⟩:=obind h
 obtain ⟨h8,h9⟩:=app_LR (show LR rJ 1 (([]:List Int):List Int) 1 [] from ⟨.inl rfl,.nil⟩) h5 h7
 refine AOps.appL (z:=1) (f:=true) (e:=[]) (z':=z2) (f':=f3) (e':=e4) rfl rfl rfl rfl rfl rfl rfl (appSrc_sl (LR.z h5) rfl) (LR.z (show LR rJ 1 (([]:List Int):List Int) 1 [] from ⟨.inl rfl,.nil⟩)) ⟨by decide,by decide,rfl,rfl⟩ rfl rfl h9 (Or.inl rfl)<|aq (sl 1 false ([]++e4))<|nl ?_
 cases h
 exact ret ⟨rfl,_,_,rfl,⟨_,_,_,rfl,h8⟩,orT (Or.inr rfl)⟩
theorem spec_l00Own_ok {list1:List Int} {z2:Nat} {f3:Bool} {e4:List AV} {s:St} (h5:LR rJ 1 list1 z2 e4) {r:(List Int)} (h:spec_l00Own list1=some r) (hs:WF s):ACall Cf 114 [(sl z2 f3 e4)] s fun v _ s'=>(rL rJ 1) r v∧s'=s:=(spec_l00Own_okO h5 h hs).mono fun _ _ _ h=>h.1
theorem spec_l02Step_ok {p1:Checker} {p1_18 p3_24:Int} {p2_19:List Int} {z2 z6 z10 z14 z20:Nat} {f3 f7 f11 f15 f21:Bool} {e4 e8 e12 e16 e22:List AV} {s:St} (h5:LR rB 1 p1.Accept z2 e4) (h9:LR (rL rPush 2) 1 p1.Call z6 e8) (h13:LR (rL (rL rJ 1) 1) 1 p1.Return z10 e12) (h17:LR (rL rJ 1) 1 p1.Inner z14 e16) (h23:LR rJ 1 p2_19 z20 e22) {r:Int × (List Int)} (h:spec_l02Step p1 p1_18 p2_19 p3_24=some r) (hs:WF s):ACall Cf 72 [(eptr [(J p1.Stack),(J p1.Start),(sl z2 f3 e4),(sl z6 f7 e8),(sl z10 f11 e12),(sl z14 f15 e16)] 0),(J p1_18),(sl z20 f21 e22),(int .u8 p3_24)] s fun v _ s'=>(fun x=>rT [rJ x.1,(rL rJ 1) x.2]) r v∧s'=s:=by
 refine ACall.pure rfl rfl rfl (.T (.cons .I (.cons (.L fun _=>.I) .nil))) ?_
 have hWF:=hs.lo'
 unfold spec_l02Step at h
 refine sr ?_
 refine q (J 0) ?_
 refine q (sl 0 true []) ?_
 refine ns ?_
 refine q (int .u8 p3_24) ?_
 obtain ⟨y25,h26,h⟩:=obind h
 refine cP (spec_l01Symbol_ok  h26 hWF) ?_
 intro _ o28 h27
 cases h27
 refine aq (J y25) ?_
 refine nl ?_
 refine seq ?_
 refine block ?_
 refine sr ?_
 refine q (J y25) ?_
 refine q (bool (decide ((y25:Int)<2))) ?_
 refine aq (bool (decide ((y25:Int)<2))) ?_
 refine nl ?_
 rcases oite h with ⟨hc29,h⟩ | ⟨hc29,h⟩
 ·refine cT hc29 ?_
  refine sr ?_
  refine q (eptr [(J p1.Stack),(J p1.Start),(sl z2 f3 e4),(sl z6 f7 e8),(sl z10 f11 e12),(sl z14 f15 e16)] 0) ?_
  refine q (eptr [(J p1.Stack),(J p1.Start),(sl z2 f3 e4),(sl z6 f7 e8),(sl z10 f11 e12),(sl z14 f15 e16)] 0) ?_
  refine q (eptr [(J p1.Stack),(J p1.Start),(sl z2 f3 e4),(sl z6 f7 e8),(sl z10 f11 e12),(sl z14 f15 e16)] 3) ?_
  refine lE (sl z6 f7 e8) ?_
  refine q (J p1_18) ?_
  obtain ⟨x30,h31,h⟩:=obind h
  obtain ⟨v34,h32,h33⟩:=idx_sl h9 h31
  obtain ⟨z35,f36,e37,rfl,h38⟩:=h32
  refine pureR rfl rfl rfl h33 rfl (rfl:_=(eptr [(sl z35 f36 e37)] 0)) ?_
  refine lE (sl z35 f36 e37) ?_
  refine q (J y25) ?_
  obtain ⟨x39,h40,h⟩:=obind h
  obtain ⟨v43,h41,h42⟩:=idx_sl h38 h40
  obtain ⟨_,rfl,h44⟩:=h41
  obtain ⟨_,_,rfl,h45,h46⟩:=Cs_cons h44
  cases h45
  obtain ⟨_,_,rfl,h47,h48⟩:=Cs_cons h46
  cases h47
  cases Cs_nil h48
  refine pureR rfl rfl rfl h42 rfl (rfl:_=(eptr [(J x39.To),(J x39.Put)] 0)) ?_
  refine lE (agg [(J x39.To),(J x39.Put)]) ?_
  refine allocP rfl rfl rfl rfl ⟨rfl,rfl⟩ rfl ?_
  refine stP (v:=(agg [(J x39.To),(J x39.Put)])) rfl rfl rfl rfl rfl rfl rfl rfl rfl (lt_b rfl) rfl ?_
  refine ns ?_
  refine q (eptr [(J x39.To),(J x39.Put)] 0) ?_
  refine lE (J x39.To) ?_
  refine q (sl z20 f21 e22) ?_
  obtain ⟨y49,h50,h⟩:=obind h
  refine AOps.callDPO (g:=114) (args:=[(sl z20 f21 e22)]) (p:=(rL rJ 1) y49) rfl rfl rfl (spec_l00Own_okO h23 h50 hWF.still) (fun v hv=>Nice.pure (k:=FINK) (p:=(rL rJ 1) y49) (.L fun _=>.I) _ v hv) ?_
  intro _ h51
  obtain ⟨z52,f53,e54,rfl,h55⟩:=h51
  refine q (eptr [(J x39.To),(J x39.Put)] 1) ?_
  refine lE (J x39.Put) ?_
  refine makeR rfl rfl rfl rfl rfl rfl (rfl:_=(sl 1 true [(J x39.Put)])) ?_
  obtain ⟨l57,h58,h⟩:=obind h
  obtain ⟨h59,h60⟩:=app_LR h55 (LR.lit (r:=rI .i64) (sz:=1) (.cons rfl .nil)) h58
  refine AOps.appL (z:=z52) (f:=f53) (e:=e54) (z':=1) (f':=true) (e':=[(J x39.Put)]) rfl rfl rfl rfl rfl rfl rfl (appSrc_sl (LR.z (LR.lit (r:=rI .i64) (sz:=1) (.cons rfl .nil))) rfl) (LR.z h55) ⟨by decide,by decide,rfl,rfl⟩ rfl rfl h60 (Or.inr ⟨30,rfl,rfl⟩) ?_
  refine aq (J x39.To) ?_
  refine aq (sl 1 false (e54++[(J x39.Put)])) ?_
  refine nl ?_
  cases h
  exact ret ⟨rfl,_,_,rfl,⟨_,rfl,(.cons rfl (.cons ⟨_,_,_,rfl,h59⟩ .nil))⟩⟩
 refine cF hc29 ?_
 refine sr ?_
 refine q (J y25) ?_
 refine q (bool (decide ((y25:Int)<4))) ?_
 refine q (bool (decide ((y25:Int)<4))) ?_
 refine split 4 (fun f'=>∃ tm' os',f'=⟨updL tm' [(0,(eptr [(J p1.Stack),(J p1.Start),(sl z2 f3 e4),(sl z6 f7 e8),(sl z10 f11 e12),(sl z14 f15 e16)] 0)),(1,(J p1_18)),(2,(sl z20 f21 e22)),(10,(J y25)),(42,(bool ((decide ((y25:Int)<4))&&((p2_19.length:Int) == 0))))],updL os' [],s.M⟩) ?_ ?_
 ·rcases Bool.eq_false_or_eq_true (decide ((y25:Int)<4)) with hc61 | hc61
  ·refine kn 38 hc61 ?_
   refine q (sl z20 f21 e22) ?_
   refine AOps.p rfl (len_eq h23) ?_
   refine q (bool ((p2_19.length:Int) == 0)) ?_
   refine q (bool ((p2_19.length:Int) == 0)) ?_
   exact rR ⟨rfl,rfl,rfl,rfl,congrArg bool (and_t hc61),tv⟩
  ·refine kn 38 hc61 ?_
   refine sk ?_
   refine sk ?_
   refine sk ?_
   refine q (bool false) ?_
   exact rR ⟨rfl,rfl,rfl,rfl,congrArg bool (and_f hc61),tv⟩
 rintro _ ⟨tm,os,rfl⟩
 refine aq (bool ((decide ((y25:Int)<4))&&((p2_19.length:Int) == 0))) ?_
 refine nl ?_
 rcases oite h with ⟨hc62,h⟩ | ⟨hc62,h⟩
 ·refine cT hc62 ?_
  refine sr ?_
  refine q (eptr [(J p1.Stack),(J p1.Start),(sl z2 f3 e4),(sl z6 f7 e8),(sl z10 f11 e12),(sl z14 f15 e16)] 0) ?_
  refine q (eptr [(J p1.Stack),(J p1.Start),(sl z2 f3 e4),(sl z6 f7 e8),(sl z10 f11 e12),(sl z14 f15 e16)] 0) ?_
  refine q (eptr [(J p1.Stack),(J p1.Start),(sl z2 f3 e4),(sl z6 f7 e8),(sl z10 f11 e12),(sl z14 f15 e16)] 4) ?_
  refine lE (sl z10 f11 e12) ?_
  refine q (J p1_18) ?_
  obtain ⟨x63,h64,h⟩:=obind h
  obtain ⟨v67,h65,h66⟩:=idx_sl h13 h64
  obtain ⟨z68,f69,e70,rfl,h71⟩:=h65
  refine pureR rfl rfl rfl h66 rfl (rfl:_=(eptr [(sl z68 f69 e70)] 0)) ?_
  refine lE (sl z68 f69 e70) ?_
  refine q (J y25) ?_
  refine q (J (W (y25 - 2))) ?_
  obtain ⟨x72,h73,h⟩:=obind h
  obtain ⟨v76,h74,h75⟩:=idx_sl h71 h73
  obtain ⟨z77,f78,e79,rfl,h80⟩:=h74
  refine pureR rfl rfl rfl h75 rfl (rfl:_=(eptr [(sl z77 f78 e79)] 0)) ?_
  refine lE (sl z77 f78 e79) ?_
  refine q (eptr [(J p1.Stack),(J p1.Start),(sl z2 f3 e4),(sl z6 f7 e8),(sl z10 f11 e12),(sl z14 f15 e16)] 0) ?_
  refine q (eptr [(J p1.Stack),(J p1.Start),(sl z2 f3 e4),(sl z6 f7 e8),(sl z10 f11 e12),(sl z14 f15 e16)] 0) ?_
  refine q (eptr [(J p1.Stack),(J p1.Start),(sl z2 f3 e4),(sl z6 f7 e8),(sl z10 f11 e12),(sl z14 f15 e16)] 0) ?_
  refine lE (J p1.Stack) ?_
  obtain ⟨x81,h82,h⟩:=obind h
  obtain ⟨v85,h83,h84⟩:=idx_sl h80 h82
  cases h83
  refine pureR rfl rfl rfl h84 rfl (rfl:_=(eptr [(J x81)] 0)) ?_
  refine lE (J x81) ?_
  refine makeR rfl rfl rfl rfl rfl rfl (rfl:_=(sl 1 true [])) ?_
  refine aq (J x81) ?_
  refine aq (sl 1 true []) ?_
  refine nl ?_
  cases h
  exact ret ⟨rfl,_,_,rfl,⟨_,rfl,(.cons rfl (.cons ⟨_,_,_,rfl,⟨.inl rfl,.nil⟩⟩ .nil))⟩⟩
 refine cF hc62 ?_
 refine sr ?_
 refine q (J y25) ?_
 refine q (bool (decide ((y25:Int)<4))) ?_
 refine aq (bool (decide ((y25:Int)<4))) ?_
 refine nl ?_
 rcases oite h with ⟨hc86,h⟩ | ⟨hc86,h⟩
 ·refine cT hc86 ?_
  refine sr ?_
  refine q (eptr [(J p1.Stack),(J p1.Start),(sl z2 f3 e4),(sl z6 f7 e8),(sl z10 f11 e12),(sl z14 f15 e16)] 0) ?_
  refine q (eptr [(J p1.Stack),(J p1.Start),(sl z2 f3 e4),(sl z6 f7 e8),(sl z10 f11 e12),(sl z14 f15 e16)] 0) ?_
  refine q (eptr [(J p1.Stack),(J p1.Start),(sl z2 f3 e4),(sl z6 f7 e8),(sl z10 f11 e12),(sl z14 f15 e16)] 4) ?_
  refine lE (sl z10 f11 e12) ?_
  refine q (J p1_18) ?_
  obtain ⟨x87,h88,h⟩:=obind h
  obtain ⟨v91,h89,h90⟩:=idx_sl h13 h88
  obtain ⟨z92,f93,e94,rfl,h95⟩:=h89
  refine pureR rfl rfl rfl h90 rfl (rfl:_=(eptr [(sl z92 f93 e94)] 0)) ?_
  refine lE (sl z92 f93 e94) ?_
  refine q (J y25) ?_
  refine q (J (W (y25 - 2))) ?_
  obtain ⟨x96,h97,h⟩:=obind h
  obtain ⟨v100,h98,h99⟩:=idx_sl h95 h97
  obtain ⟨z101,f102,e103,rfl,h104⟩:=h98
  refine pureR rfl rfl rfl h99 rfl (rfl:_=(eptr [(sl z101 f102 e103)] 0)) ?_
  refine lE (sl z101 f102 e103) ?_
  refine q (sl z20 f21 e22) ?_
  refine q (sl z20 f21 e22) ?_
  refine AOps.p rfl (len_eq h23) ?_
  refine q (J (W ((p2_19.length:Int) - 1))) ?_
  obtain ⟨x105,h106,h⟩:=obind h
  obtain ⟨v109,h107,h108⟩:=idx_sl h23 h106
  cases h107
  refine pureR rfl rfl rfl h108 rfl (rfl:_=(eptr [(J x105)] 0)) ?_
  refine lE (J x105) ?_
  obtain ⟨x110,h111,h⟩:=obind h
  obtain ⟨v114,h112,h113⟩:=idx_sl h104 h111
  cases h112
  refine pureR rfl rfl rfl h113 rfl (rfl:_=(eptr [(J x110)] 0)) ?_
  refine lE (J x110) ?_
  refine q (sl z20 f21 e22) ?_
  refine q (sl z20 f21 e22) ?_
  refine AOps.p rfl (len_eq h23) ?_
  refine q (J (W ((p2_19.length:Int) - 1))) ?_
  obtain ⟨l115,h116,h⟩:=obind h
  obtain ⟨f117,e118,h119,h120⟩:=cut_slH f21 h23 h116
  refine pureR rfl rfl rfl h120 rfl (rfl:_=(sl z20 f117 e118)) ?_
  obtain ⟨y121,h122,h⟩:=obind h
  refine AOps.callDPO (g:=114) (args:=[(sl z20 f117 e118)]) (p:=(rL rJ 1) y121) rfl rfl rfl (spec_l00Own_okO h119 h122 hWF.still) (fun v hv=>Nice.pure (k:=FINK) (p:=(rL rJ 1) y121) (.L fun _=>.I) _ v hv) ?_
  intro _ h123
  obtain ⟨z124,f125,e126,rfl,h127⟩:=h123
  refine aq (J x110) ?_
  refine aq (sl z124 f125 e126) ?_
  refine nl ?_
  cases h
  exact ret ⟨rfl,_,_,rfl,⟨_,rfl,(.cons rfl (.cons ⟨_,_,_,rfl,h127⟩ .nil))⟩⟩
 refine cF hc86 ?_
 refine skip ?_
 refine inBlock ?_
 refine sr ?_
 refine q (eptr [(J p1.Stack),(J p1.Start),(sl z2 f3 e4),(sl z6 f7 e8),(sl z10 f11 e12),(sl z14 f15 e16)] 0) ?_
 refine q (eptr [(J p1.Stack),(J p1.Start),(sl z2 f3 e4),(sl z6 f7 e8),(sl z10 f11 e12),(sl z14 f15 e16)] 0) ?_
 refine q (eptr [(J p1.Stack),(J p1.Start),(sl z2 f3 e4),(sl z6 f7 e8),(sl z10 f11 e12),(sl z14 f15 e16)] 5) ?_
 refine lE (sl z14 f15 e16) ?_
 refine q (J p1_18) ?_
 obtain ⟨x129,h130,h⟩:=obind h
 obtain ⟨v133,h131,h132⟩:=idx_sl h17 h130
 obtain ⟨z134,f135,e136,rfl,h137⟩:=h131
 refine pureR rfl rfl rfl h132 rfl (rfl:_=(eptr [(sl z134 f135 e136)] 0)) ?_
 refine lE (sl z134 f135 e136) ?_
 refine q (J y25) ?_
 refine q (J (W (y25 - 4))) ?_
 obtain ⟨x138,h139,h⟩:=obind h
 obtain ⟨v142,h140,h141⟩:=idx_sl h137 h139
 cases h140
 refine pureR rfl rfl rfl h141 rfl (rfl:_=(eptr [(J x138)] 0)) ?_
 refine lE (J x138) ?_
 refine q (sl z20 f21 e22) ?_
 refine aq (J x138) ?_
 refine aq (sl z20 f21 e22) ?_
 refine nl ?_
 cases h
 exact ret ⟨rfl,_,_,rfl,⟨_,rfl,(.cons rfl (.cons ⟨_,_,_,rfl,h23⟩ .nil))⟩⟩
theorem spec_l02Go_ok {c1:Checker} {state18:Int} {stack19:List Int} {w24:List UInt8} {z2 z6 z10 z14 z20:Nat} {f3 f7 f11 f15 f21:Bool} {e4 e8 e12 e16 e22:List AV} {s:St} (h5:LR rB 1 c1.Accept z2 e4) (h9:LR (rL rPush 2) 1 c1.Call z6 e8) (h13:LR (rL (rL rJ 1) 1) 1 c1.Return z10 e12) (h17:LR (rL rJ 1) 1 c1.Inner z14 e16) (h23:LR rJ 1 stack19 z20 e22) {r:Int × (List Int)} (h:spec_l02Go c1 state18 stack19 w24=some r) (hs:WF s):ACall Cf 25 [(eptr [(J c1.Stack),(J c1.Start),(sl z2 f3 e4),(sl z6 f7 e8),(sl z10 f11 e12),(sl z14 f15 e16)] 0),(J state18),(sl z20 f21 e22),(str w24)] s fun v _ s'=>(fun x=>rT [rJ x.1,(rL rJ 1) x.2]) r v∧s'=s:=by
 refine ACall.pure rfl rfl rfl (.T (.cons .I (.cons (.L fun _=>.I) .nil))) ?_
 have hWF:=hs.lo'
 unfold spec_l02Go at h
 refine sr<|q (J 0)<|q (sl 0 true [])<|nl ?_
 refine seq<|sr<|q (J 0)<|nl ?_
 refine meet (σ:=Int × (List Int) × Nat × Bool × (List AV)) (fun (state25,stack26,z27,f28,e29) tm os=>⟨updL tm [(1,(J state25)),(2,(sl z27 f28 e29))],updL os [],s.M⟩) (fun (state25,stack26,z27,f28,e29)=>(LR rJ 1 stack26 z27 e29)∧spec_l02Go_J1 state25 stack26=some r) ?_ ?_
 ·rintro ⟨state25,stack26,z27,f28,e29⟩ tm os ⟨h30,h⟩
  unfold spec_l02Go_J1 at h
  refine sr<|q (J state25) ?_
  refine q (sl z27 f28 e29) ?_
  refine aq (J state25) ?_
  refine aq (sl z27 f28 e29)<|nl ?_
  cases h
  exact ret ⟨rfl,_,_,rfl,⟨_,rfl,(.cons rfl (.cons ⟨_,_,_,rfl,h30⟩ .nil))⟩⟩
 intro KJ31
 refine block<|res [(0,(eptr [(J c1.Stack),(J c1.Start),(sl z2 f3 e4),(sl z6 f7 e8),(sl z10 f11 e12),(sl z14 f15 e16)] 0)),(1,(J state18)),(2,(sl z20 f21 e22)),(3,(str w24)),(10,(J 0))] [] ⟨rfl,rfl,rfl,rfl,rfl,tv⟩ tv ?_
 refine loopF (σ:=Int × (List Int) × Int) (τ:=Nat × Bool × (List AV)) (fun (state32,stack33,i38) (z34,f35,e36)=>(LR rJ 1 stack33 z34 e36)) (fun (state32,stack33,i38) (z34,f35,e36) tm os=>⟨updL tm [(0,(eptr [(J c1.Stack),(J c1.Start),(sl z2 f3 e4),(sl z6 f7 e8),(sl z10 f11 e12),(sl z14 f15 e16)] 0)),(1,(J state32)),(2,(sl z34 f35 e36)),(3,(str w24)),(10,(J i38))],updL os [],s.M⟩) ?_ (x:=(state18,stack19,0)) (y:=(z20,f21,e22)) h h23
 clear h
 rintro ⟨state32,stack33,i38⟩ ⟨z34,f35,e36⟩ tm os h37 ee1 h hL1 hR1
 unfold spec_l02Go_S1 at h
 dsimp only at h
 refine seq<|sr<|q (J i38) ?_
 refine q (str w24) ?_
 refine q (J (w24.length:Int)) ?_
 refine q (bool (decide ((i38:Int)<(w24.length:Int))))<|nl ?_
 rcases oite h with ⟨hc39,h⟩ | ⟨hc39,h⟩
 ·refine cT hc39<|skip<|seq<|block<|region<|q (eptr [(J c1.Stack),(J c1.Start),(sl z2 f3 e4),(sl z6 f7 e8),(sl z10 f11 e12),(sl z14 f15 e16)] 0) ?_
  refine q (J state32) ?_
  refine q (sl z34 f35 e36) ?_
  refine q (str w24) ?_
  refine q (J i38) ?_
  obtain ⟨c40,h41,h⟩:=obind h
  refine pureR rfl rfl rfl (chr_str h41) rfl (rfl:_=(int .u8 c40)) ?_
  obtain ⟨y42,h43,h⟩:=obind h
  refine cP (spec_l02Step_ok h5 h9 h13 h17 h37 h43 hWF) ?_
  intro _ o54 h44
  obtain ⟨_,rfl,h45⟩:=h44
  obtain ⟨_,_,rfl,h46,h47⟩:=Cs_cons h45
  cases h46
  obtain ⟨_,_,rfl,h48,h49⟩:=Cs_cons h47
  obtain ⟨z50,f51,e52,rfl,h53⟩:=h48
  cases Cs_nil h49
  refine q (AV.tup [(J y42.1),(sl z50 f51 e52)]) ?_
  refine q (J y42.1) ?_
  refine q (sl z50 f51 e52) ?_
  refine aq (J y42.1) ?_
  refine aq (sl z50 f51 e52)<|nl ?_
  refine inBlock<|region<|q (J i38) ?_
  refine q (J (W (i38+1))) ?_
  refine aq (J (W (i38+1)))<|nl ?_
  cases h
  exact res [(0,(eptr [(J c1.Stack),(J c1.Start),(sl z2 f3 e4),(sl z6 f7 e8),(sl z10 f11 e12),(sl z14 f15 e16)] 0)),(1,(J y42.1)),(2,(sl z50 f51 e52)),(3,(str w24)),(10,(J (W (i38+1))))] [] ⟨rfl,rfl,rfl,rfl,rfl,tv⟩ tv (hL1 _ rfl (z50,f51,e52) _ _ h53)
 refine cF hc39<|exit rfl ?_
 obtain ⟨r55,hm,hx⟩:=omap h
 clear h
 subst hx
 have hx:=hR1 _ rfl
 rw[hx] at hm
 have h:=hm
 exact res [(1,(J state32)),(2,(sl z34 f35 e36))] [] ⟨rfl,rfl,tv⟩ tv (KJ31 (state32,stack33,z34,f35,e36) _ _ ⟨h37,h⟩)
theorem spec_PreimageChecker_okN {p1:Rewriter} {p1_14:Checker} {z2 z6 z10 z15 z19 z23 z27:Nat} {f3 f7 f11 f16 f20 f24 f28:Bool} {e4 e8 e12 e17 e21 e25 e29:List AV} {s:St} (h5:LR (rL rOutPush 3) 1 p1.Call z2 e4) (h9:LR (rL (rL rOutMove 2) 1) 1 p1.Return z6 e8) (h13:LR (rL rOutMove 2) 1 p1.Inner z10 e12) (h18:LR rB 1 p1_14.Accept z15 e17) (h22:LR (rL rPush 2) 1 p1_14.Call z19 e21) (h26:LR (rL (rL rJ 1) 1) 1 p1_14.Return z23 e25) (h30:LR (rL rJ 1) 1 p1_14.Inner z27 e29) {r:Checker × Int} (h:spec_PreimageChecker p1 p1_14=some r) (hs:WF s):ACallN Cf 6 [(agg [(J p1.Stack),(J p1.Start),(sl z2 f3 e4),(sl z6 f7 e8),(sl z10 f11 e12)]),(agg [(J p1_14.Stack),(J p1_14.Start),(sl z15 f16 e17),(sl z19 f20 e21),(sl z23 f24 e25),(sl z27 f28 e29)])] s fun v _ s'=>(fun x=>rT [rChecker x.1,rJ x.2]) r v∧s'=s:=by
 refine ACallN.boxes rfl rfl rfl ?_
 have hH0:=HS.g0 (HS.init hs)
 have hG0:=AllG.nil
 have hl:LoOK [] false s:=LoOK.nil
 unfold spec_PreimageChecker at h
 refine sr ?_
 refine makeR rfl rfl rfl rfl rfl rfl (rfl:_=(eptr [(J p1.Stack),(J p1.Start),(sl z2 f3 e4),(sl z6 f7 e8),(sl z10 f11 e12)] 0)) ?_
 refine makeR rfl rfl rfl rfl rfl rfl (rfl:_=(eptr [(J p1_14.Stack),(J p1_14.Start),(sl z15 f16 e17),(sl z19 f20 e21),(sl z23 f24 e25),(sl z27 f28 e29)] 0)) ?_
 refine alloc1 hH0 rfl rfl rfl rfl rfl rfl ?_
 intro b31 s32 hH33
 change HS [] false s s32 (([⟨some b31,[(J 0),(J 0),(sl 0 true []),(sl 0 true []),(sl 0 true []),(sl 0 true [])],(fun _=>false)⟩]:List BX)++List.flatten ([]:List (List BX))) at hH33
 refine q (J 0) ?_
 refine nl ?_
 refine seq ?_
 refine sr ?_
 obtain ⟨y34,h35,h⟩:=obind h
 refine cP (spec_l06Ok_ok h5 h9 h13 h35 (wf' hH33)) ?_
 intro _ o37 h36
 cases h36
 refine q (bool (!y34)) ?_
 refine q (bool (!y34)) ?_
 obtain ⟨b39,hb,h⟩:=obind h
 refine split 3 (fun f'=>∃ tm' os',f'=⟨updL tm' [(2,(eptr [(J p1.Stack),(J p1.Start),(sl z2 f3 e4),(sl z6 f7 e8),(sl z10 f11 e12)] 0)),(3,(eptr [(J p1_14.Stack),(J p1_14.Start),(sl z15 f16 e17),(sl z19 f20 e21),(sl z23 f24 e25),(sl z27 f28 e29)] 0)),(4,(ptr b31 0)),(34,(bool b39))],updL os' [],s32⟩) ?_ ?_
 ·rcases oite hb with ⟨hc38,hb⟩ | ⟨hc38,hb⟩
  ·refine kn 31 hc38 ?_
   refine sk ?_
   refine sk ?_
   refine q (bool true) ?_
   exact rR ⟨rfl,rfl,rfl,bJ hb,tv⟩
  ·have h:=hb
   refine kn 31 hc38 ?_
   obtain ⟨y40,h41,h⟩:=obind h
   refine cP (spec_l02Ok_ok h18 h22 h26 h30 h41 (wf' hH33)) ?_
   intro _ o43 h42
   cases h42
   refine q (bool (!y40)) ?_
   refine q (bool (!y40)) ?_
   exact rR ⟨rfl,rfl,rfl,bJ h,tv⟩
 rintro _ ⟨tm,os,rfl⟩
 refine nl ?_
 rcases oite h with ⟨hc44,h⟩ | ⟨hc44,h⟩
 ·refine cT hc44 ?_
  refine sr ?_
  refine q (agg [(J 0),(J 0),(sl 0 true []),(sl 0 true []),(sl 0 true []),(sl 0 true [])]) ?_
  refine stE (i:=0) (v:=(agg [(J 0),(J 0),(sl 0 true []),(sl 0 true []),(sl 0 true []),(sl 0 true [])])) hH33 hl rfl rfl rfl rfl rfl rfl rfl rfl rfl (lt_b rfl) (le_b rfl) rfl ?_
  intro w45 s46 h47 h48 hH49
  change HS [] false s s46 (([⟨some b31,[(J 0),(J 0),(sl 0 true []),(sl 0 true []),(sl 0 true []),(sl 0 true [])],w45⟩]:List BX)++List.flatten ([]:List (List BX))) at hH49
  refine q (J 1) ?_
  refine nl ?_
  cases h
  exact ret ⟨⟨_,hH49⟩,_,_,(RM.res rfl (RM.cell rfl rfl (HS.atE hH49 (i:=0) rfl rfl) rfl (RM.cons rfl RM.nil))),(Fin.T (.cons (Fin.of (p:=(rChecker) (⟨0,0,([]:List Bool),([]:List (List Push)),([]:List (List (List Int))),([]:List (List Int))⟩:Checker)) (.A (.cons .I (.cons .I (.cons (.L fun _=>.B) (.cons (.L fun _=>(.L fun _=>(.A (.cons .I (.cons .I .nil))))) (.cons (.L fun _=>(.L fun _=>(.L fun _=>.I))) (.cons (.L fun _=>(.L fun _=>.I)) .nil))))))) (⟨_,rfl,(.cons rfl (.cons rfl (.cons ⟨_,_,_,rfl,⟨.inr ⟨rfl,rfl⟩,.nil⟩⟩ (.cons ⟨_,_,_,rfl,⟨.inr ⟨rfl,rfl⟩,.nil⟩⟩ (.cons ⟨_,_,_,rfl,⟨.inr ⟨rfl,rfl⟩,.nil⟩⟩ (.cons ⟨_,_,_,rfl,⟨.inr ⟨rfl,rfl⟩,.nil⟩⟩ .nil))))))⟩)) (.cons (Fin.of (p:=rJ 1) .I rfl) .nil))).2⟩
 refine cF hc44 ?_
 refine skip ?_
 refine seq ?_
 refine sr ?_
 obtain ⟨y50,h51,h⟩:=obind h
 refine cP (spec_l06Structural_ok h5 h9 h13 h51 (wf' hH33)) ?_
 intro _ o53 h52
 cases h52
 refine q (bool (!y50)) ?_
 refine nl ?_
 rcases oite h with ⟨hc54,h⟩ | ⟨hc54,h⟩
 ·refine cT hc54 ?_
  refine sr ?_
  refine q (agg [(J 0),(J 0),(sl 0 true []),(sl 0 true []),(sl 0 true []),(sl 0 true [])]) ?_
  refine stE (i:=0) (v:=(agg [(J 0),(J 0),(sl 0 true []),(sl 0 true []),(sl 0 true []),(sl 0 true [])])) hH33 hl rfl rfl rfl rfl rfl rfl rfl rfl rfl (lt_b rfl) (le_b rfl) rfl ?_
  intro w55 s56 h57 h58 hH59
  change HS [] false s s56 (([⟨some b31,[(J 0),(J 0),(sl 0 true []),(sl 0 true []),(sl 0 true []),(sl 0 true [])],w55⟩]:List BX)++List.flatten ([]:List (List BX))) at hH59
  refine q (J 4) ?_
  refine nl ?_
  cases h
  exact ret ⟨⟨_,hH59⟩,_,_,(RM.res rfl (RM.cell rfl rfl (HS.atE hH59 (i:=0) rfl rfl) rfl (RM.cons rfl RM.nil))),(Fin.T (.cons (Fin.of (p:=(rChecker) (⟨0,0,([]:List Bool),([]:List (List Push)),([]:List (List (List Int))),([]:List (List Int))⟩:Checker)) (.A (.cons .I (.cons .I (.cons (.L fun _=>.B) (.cons (.L fun _=>(.L fun _=>(.A (.cons .I (.cons .I .nil))))) (.cons (.L fun _=>(.L fun _=>(.L fun _=>.I))) (.cons (.L fun _=>(.L fun _=>.I)) .nil))))))) (⟨_,rfl,(.cons rfl (.cons rfl (.cons ⟨_,_,_,rfl,⟨.inr ⟨rfl,rfl⟩,.nil⟩⟩ (.cons ⟨_,_,_,rfl,⟨.inr ⟨rfl,rfl⟩,.nil⟩⟩ (.cons ⟨_,_,_,rfl,⟨.inr ⟨rfl,rfl⟩,.nil⟩⟩ (.cons ⟨_,_,_,rfl,⟨.inr ⟨rfl,rfl⟩,.nil⟩⟩ .nil))))))⟩)) (.cons (Fin.of (p:=rJ 4) .I rfl) .nil))).2⟩
 refine cF hc54 ?_
 refine skip ?_
 refine sr ?_
 refine q (eptr [(J p1_14.Stack),(J p1_14.Start),(sl z15 f16 e17),(sl z19 f20 e21),(sl z23 f24 e25),(sl z27 f28 e29)] 2) ?_
 refine lE (sl z15 f16 e17) ?_
 refine AOps.p rfl (len_eq h18) ?_
 refine aq (J (p1_14.Accept.length:Int)) ?_
 refine ns ?_
 refine q (eptr [(J p1_14.Stack),(J p1_14.Start),(sl z15 f16 e17),(sl z19 f20 e21),(sl z23 f24 e25),(sl z27 f28 e29)] 0) ?_
 refine lE (J p1_14.Stack) ?_
 refine aq (J p1_14.Stack) ?_
 refine ns ?_
 refine q (eptr [(J p1.Stack),(J p1.Start),(sl z2 f3 e4),(sl z6 f7 e8),(sl z10 f11 e12)] 2) ?_
 refine lE (sl z2 f3 e4) ?_
 refine AOps.p rfl (len_eq h5) ?_
 refine q (J (p1_14.Accept.length:Int)) ?_
 refine q (J (W ((p1.Call.length:Int)*(p1_14.Accept.length:Int)))) ?_
 refine aq (J (W ((p1.Call.length:Int)*(p1_14.Accept.length:Int)))) ?_
 refine ns ?_
 refine q (eptr [(J p1.Stack),(J p1.Start),(sl z2 f3 e4),(sl z6 f7 e8),(sl z10 f11 e12)] 0) ?_
 refine lE (J p1.Stack) ?_
 refine q (J p1_14.Stack) ?_
 refine q (J (W (p1.Stack*p1_14.Stack))) ?_
 refine q (eptr [(J p1.Stack),(J p1.Start),(sl z2 f3 e4),(sl z6 f7 e8),(sl z10 f11 e12)] 1) ?_
 refine lE (J p1.Start) ?_
 refine q (J (p1_14.Accept.length:Int)) ?_
 refine q (J (W (p1.Start*(p1_14.Accept.length:Int)))) ?_
 refine q (eptr [(J p1_14.Stack),(J p1_14.Start),(sl z15 f16 e17),(sl z19 f20 e21),(sl z23 f24 e25),(sl z27 f28 e29)] 1) ?_
 refine lE (J p1_14.Start) ?_
 refine q (J (W ((W (p1.Start*(p1_14.Accept.length:Int)))+p1_14.Start))) ?_
 refine q (agg [(J (W (p1.Stack*p1_14.Stack))),(J (W ((W (p1.Start*(p1_14.Accept.length:Int)))+p1_14.Start))),(sl 0 true []),(sl 0 true []),(sl 0 true []),(sl 0 true [])]) ?_
 refine alloc1 hH33 rfl rfl rfl rfl rfl rfl ?_
 intro b60 s61 hH62
 change HS [] false s s61 (([⟨some b60,[(J 0),(J 0),(sl 0 true []),(sl 0 true []),(sl 0 true []),(sl 0 true [])],(fun _=>false)⟩,⟨some b31,[(J 0),(J 0),(sl 0 true []),(sl 0 true []),(sl 0 true []),(sl 0 true [])],(fun _=>false)⟩]:List BX)++List.flatten ([]:List (List BX))) at hH62
 refine stE (i:=0) (v:=(agg [(J (W (p1.Stack*p1_14.Stack))),(J (W ((W (p1.Start*(p1_14.Accept.length:Int)))+p1_14.Start))),(sl 0 true []),(sl 0 true []),(sl 0 true []),(sl 0 true [])])) hH62 hl rfl rfl rfl rfl rfl rfl rfl rfl rfl (lt_b rfl) (le_b rfl) rfl ?_
 intro w63 s64 h65 h66 hH67
 change HS [] false s s64 (([⟨some b60,[(J (W (p1.Stack*p1_14.Stack))),(J (W ((W (p1.Start*(p1_14.Accept.length:Int)))+p1_14.Start))),(sl 0 true []),(sl 0 true []),(sl 0 true []),(sl 0 true [])],w63⟩,⟨some b31,[(J 0),(J 0),(sl 0 true []),(sl 0 true []),(sl 0 true []),(sl 0 true [])],(fun _=>false)⟩]:List BX)++List.flatten ([]:List (List BX))) at hH67
 refine nl ?_
 refine seq ?_
 refine sr ?_
 refine q (J (W ((p1.Call.length:Int)*(p1_14.Accept.length:Int)))) ?_
 refine q (bool (decide ((W ((p1.Call.length:Int)*(p1_14.Accept.length:Int)):Int)>40))) ?_
 refine q (bool (decide ((W ((p1.Call.length:Int)*(p1_14.Accept.length:Int)):Int)>40))) ?_
 refine split 4 (fun f'=>∃ tm' os',f'=⟨updL tm' [(2,(eptr [(J p1.Stack),(J p1.Start),(sl z2 f3 e4),(sl z6 f7 e8),(sl z10 f11 e12)] 0)),(3,(eptr [(J p1_14.Stack),(J p1_14.Start),(sl z15 f16 e17),(sl z19 f20 e21),(sl z23 f24 e25),(sl z27 f28 e29)] 0)),(4,(ptr b31 0)),(6,(J (p1_14.Accept.length:Int))),(7,(J p1_14.Stack)),(8,(J (W ((p1.Call.length:Int)*(p1_14.Accept.length:Int))))),(9,(ptr b60 0)),(67,(bool ((decide ((W ((p1.Call.length:Int)*(p1_14.Accept.length:Int)):Int)>40))||(decide ((W (p1.Stack*p1_14.Stack):Int)>80)))))],updL os' [],s64⟩) ?_ ?_
 ·rcases Bool.eq_false_or_eq_true (decide ((W ((p1.Call.length:Int)*(p1_14.Accept.length:Int)):Int)>40)) with hc68 | hc68
  ·refine kn 63 hc68 ?_
   refine sk ?_
   refine sk ?_
   refine sk ?_
   refine q (bool true) ?_
   exact rR ⟨rfl,rfl,rfl,rfl,rfl,rfl,rfl,congrArg bool (or_t hc68),tv⟩
  ·refine kn 63 hc68 ?_
   refine q (ptr b60 0) ?_
   refine ldB (i:=0) (v:=(J (W (p1.Stack*p1_14.Stack)))) hH67 rfl rfl rfl rfl rfl rfl rfl rfl rfl ?_
   refine q (bool (decide ((W (p1.Stack*p1_14.Stack):Int)>80))) ?_
   refine q (bool (decide ((W (p1.Stack*p1_14.Stack):Int)>80))) ?_
   exact rR ⟨rfl,rfl,rfl,rfl,rfl,rfl,rfl,congrArg bool (or_f hc68),tv⟩
 rintro _ ⟨tm,os,rfl⟩
 refine nl ?_
 rcases oite h with ⟨hc69,h⟩ | ⟨hc69,h⟩
 ·refine cT hc69 ?_
  refine sr ?_
  refine q (agg [(J 0),(J 0),(sl 0 true []),(sl 0 true []),(sl 0 true []),(sl 0 true [])]) ?_
  refine stE (i:=1) (v:=(agg [(J 0),(J 0),(sl 0 true []),(sl 0 true []),(sl 0 true []),(sl 0 true [])])) hH67 hl rfl rfl rfl rfl rfl rfl rfl rfl rfl (lt_b rfl) (le_b rfl) rfl ?_
  intro w70 s71 h72 h73 hH74
  change HS [] false s s71 (([⟨some b60,[(J (W (p1.Stack*p1_14.Stack))),(J (W ((W (p1.Start*(p1_14.Accept.length:Int)))+p1_14.Start))),(sl 0 true []),(sl 0 true []),(sl 0 true []),(sl 0 true [])],w63⟩,⟨some b31,[(J 0),(J 0),(sl 0 true []),(sl 0 true []),(sl 0 true []),(sl 0 true [])],w70⟩]:List BX)++List.flatten ([]:List (List BX))) at hH74
  refine q (J 3) ?_
  refine nl ?_
  cases h
  exact ret ⟨⟨_,hH74⟩,_,_,(RM.res rfl (RM.cell rfl rfl (HS.atE hH74 (i:=1) rfl rfl) rfl (RM.cons rfl RM.nil))),(Fin.T (.cons (Fin.of (p:=(rChecker) (⟨0,0,([]:List Bool),([]:List (List Push)),([]:List (List (List Int))),([]:List (List Int))⟩:Checker)) (.A (.cons .I (.cons .I (.cons (.L fun _=>.B) (.cons (.L fun _=>(.L fun _=>(.A (.cons .I (.cons .I .nil))))) (.cons (.L fun _=>(.L fun _=>(.L fun _=>.I))) (.cons (.L fun _=>(.L fun _=>.I)) .nil))))))) (⟨_,rfl,(.cons rfl (.cons rfl (.cons ⟨_,_,_,rfl,⟨.inr ⟨rfl,rfl⟩,.nil⟩⟩ (.cons ⟨_,_,_,rfl,⟨.inr ⟨rfl,rfl⟩,.nil⟩⟩ (.cons ⟨_,_,_,rfl,⟨.inr ⟨rfl,rfl⟩,.nil⟩⟩ (.cons ⟨_,_,_,rfl,⟨.inr ⟨rfl,rfl⟩,.nil⟩⟩ .nil))))))⟩)) (.cons (Fin.of (p:=rJ 3) .I rfl) .nil))).2⟩
 refine cF hc69 ?_
 refine skip ?_
 refine seq ?_
 refine sr ?_
 refine q (J 0) ?_
 refine nl ?_
 refine meet (σ:=(List Bool) × (List (List Push)) × (List (List (List Int))) × (List (List Int)) × (Nat→Bool) × AV × KT × AV × KT × AV × KT × AV × KT × St × (List (List BX))) (fun (m76,m80,m84,m88,w75,h77,k78,h81,k82,h85,k86,h89,k90,s92,Ls93) tm os=>⟨updL tm [(4,(ptr b31 0)),(9,(ptr b60 0))],updL os [],s92⟩) (fun (m76,m80,m84,m88,w75,h77,k78,h81,k82,h85,k86,h89,k90,s92,Ls93)=>(h77.one=true)∧(h81.one=true)∧(h85.one=true)∧(h89.one=true)∧(HS [] false s s92 (([⟨some b31,[(J 0),(J 0),(sl 0 true []),(sl 0 true []),(sl 0 true []),(sl 0 true [])],(fun _=>false)⟩,⟨some b60,[(J (W (p1.Stack*p1_14.Stack))),(J (W ((W (p1.Start*(p1_14.Accept.length:Int)))+p1_14.Start))),h77,h81,h85,h89],w75⟩]:List BX)++Ls93.flatten))∧(AllG [OS oE4 h77 k78 m76,OS oE63 h81 k82 m80,OS oE30 h85 k86 m84,OS oE64 h89 k90 m88] Ls93)∧spec_PreimageChecker_J1 p1 p1_14 m76 m80 m84 m88=some r) ?_ ?_
 ·rintro ⟨m76,m80,m84,m88,w75,h77,k78,h81,k82,h85,k86,h89,k90,s92,Ls93⟩ tm os ⟨ho79,ho83,ho87,ho91,hH94,hG95,h⟩
  unfold spec_PreimageChecker_J1 at h
  refine sr ?_
  refine ldB (i:=1) (v:=(agg [(J (W (p1.Stack*p1_14.Stack))),(J (W ((W (p1.Start*(p1_14.Accept.length:Int)))+p1_14.Start))),h77,h81,h85,h89])) hH94 rfl rfl rfl rfl rfl rfl rfl rfl rfl ?_
  refine stE (i:=0) (v:=(agg [(J (W (p1.Stack*p1_14.Stack))),(J (W ((W (p1.Start*(p1_14.Accept.length:Int)))+p1_14.Start))),h77,h81,h85,h89])) hH94 hl rfl rfl rfl rfl rfl rfl rfl (lay_cons rfl (lay_cons rfl (lay_cons ho79 (lay_cons ho83 (lay_cons ho87 (lay_cons ho91 lay_nil)))))) rfl (lt_b rfl) (le_b rfl) rfl ?_
  intro w97 s98 h99 h100 hH101
  change HS [] false s s98 (([⟨some b31,[(J (W (p1.Stack*p1_14.Stack))),(J (W ((W (p1.Start*(p1_14.Accept.length:Int)))+p1_14.Start))),h77,h81,h85,h89],w97⟩,⟨some b60,[(J (W (p1.Stack*p1_14.Stack))),(J (W ((W (p1.Start*(p1_14.Accept.length:Int)))+p1_14.Start))),h77,h81,h85,h89],w75⟩]:List BX)++Ls93.flatten) at hH101
  refine q (J 0) ?_
  refine nl ?_
  cases h
  exact ret ⟨⟨_,hH101⟩,_,_,(RM.res rfl (RM.cell rfl rfl (HS.atE hH101 (i:=0) rfl rfl) rfl (RM.cons rfl RM.nil))),(Fin.T (k:=8) (.cons (Fin.A (.cons (Fin.of (p:=rJ (W (p1.Stack*p1_14.Stack))) .I rfl) (.cons (Fin.of (p:=rJ (W ((W (p1.Start*(p1_14.Accept.length:Int)))+p1_14.Start))) .I rfl) (.cons (Fin.up (by decide) (HS.finO hH101 hG95 (j:=0) rfl (Or.inr ⟨rfl,rfl⟩))) (.cons (Fin.up (by decide) (HS.finO hH101 hG95 (j:=1) rfl (Or.inr ⟨rfl,rfl⟩))) (.cons (Fin.up (by decide) (HS.finO hH101 hG95 (j:=2) rfl (Or.inr ⟨rfl,rfl⟩))) (.cons (Fin.up (by decide) (HS.finO hH101 hG95 (j:=3) rfl (Or.inr ⟨rfl,rfl⟩))) .nil))))))) (.cons (Fin.of (p:=rJ 0) .I rfl) .nil))).2⟩
 intro KJ96
 refine block ?_
 obtain ⟨Ls432,hG433,hH434⟩:=selEG hH67 hG0 [some 1,some 0] [none,none,none,none]
 change HS [] false s s64 (([⟨some b31,[(J 0),(J 0),(sl 0 true []),(sl 0 true []),(sl 0 true []),(sl 0 true [])],(fun _=>false)⟩,⟨some b60,[(J (W (p1.Stack*p1_14.Stack))),(J (W ((W (p1.Start*(p1_14.Accept.length:Int)))+p1_14.Start))),(sl 0 true []),(sl 0 true []),(sl 0 true []),(sl 0 true [])],w63⟩]:List BX)++Ls432.flatten) at hH434
 change AllG [Non,Non,Non,Non] Ls432 at hG433
 have hG435:=AllG.imp hG433 0 rfl (P':=OS oE4 (sl 0 true []) (fun _=>AV.undef) []) (fun L hL=>by cases hL; exact OS.nil (Or.inr rfl))
 change AllG [OS oE4 (sl 0 true []) (fun _=>AV.undef) ([]:List Bool),Non,Non,Non] Ls432 at hG435
 have hG436:=AllG.imp hG435 1 rfl (P':=OS oE63 (sl 0 true []) (fun _=>AV.undef) []) (fun L hL=>by cases hL; exact OS.nil (Or.inr rfl))
 change AllG [OS oE4 (sl 0 true []) (fun _=>AV.undef) ([]:List Bool),OS oE63 (sl 0 true []) (fun _=>AV.undef) ([]:List (List Push)),Non,Non] Ls432 at hG436
 have hG437:=AllG.imp hG436 2 rfl (P':=OS oE30 (sl 0 true []) (fun _=>AV.undef) []) (fun L hL=>by cases hL; exact OS.nil (Or.inr rfl))
 change AllG [OS oE4 (sl 0 true []) (fun _=>AV.undef) ([]:List Bool),OS oE63 (sl 0 true []) (fun _=>AV.undef) ([]:List (List Push)),OS oE30 (sl 0 true []) (fun _=>AV.undef) ([]:List (List (List Int))),Non] Ls432 at hG437
 have hG438:=AllG.imp hG437 3 rfl (P':=OS oE64 (sl 0 true []) (fun _=>AV.undef) []) (fun L hL=>by cases hL; exact OS.nil (Or.inr rfl))
 change AllG [OS oE4 (sl 0 true []) (fun _=>AV.undef) ([]:List Bool),OS oE63 (sl 0 true []) (fun _=>AV.undef) ([]:List (List Push)),OS oE30 (sl 0 true []) (fun _=>AV.undef) ([]:List (List (List Int))),OS oE64 (sl 0 true []) (fun _=>AV.undef) ([]:List (List Int))] Ls432 at hG438
 refine res [(2,(eptr [(J p1.Stack),(J p1.Start),(sl z2 f3 e4),(sl z6 f7 e8),(sl z10 f11 e12)] 0)),(3,(eptr [(J p1_14.Stack),(J p1_14.Start),(sl z15 f16 e17),(sl z19 f20 e21),(sl z23 f24 e25),(sl z27 f28 e29)] 0)),(4,(ptr b31 0)),(6,(J (p1_14.Accept.length:Int))),(7,(J p1_14.Stack)),(8,(J (W ((p1.Call.length:Int)*(p1_14.Accept.length:Int))))),(9,(ptr b60 0)),(10,(J 0))] [] ⟨rfl,rfl,rfl,rfl,rfl,rfl,rfl,rfl,tv⟩ tv ?_
 refine loopF (σ:=(List Bool) × (List (List Push)) × (List (List (List Int))) × (List (List Int)) × Int) (τ:=(Nat→Bool) × AV × KT × AV × KT × AV × KT × AV × KT × St × (List (List BX))) (fun (m103,m107,m111,m115,t119) (w102,h104,k105,h108,k109,h112,k113,h116,k117,s120,Ls121)=>(h104.one=true)∧(h108.one=true)∧(h112.one=true)∧(h116.one=true)∧(HS [] false s s120 (([⟨some b31,[(J 0),(J 0),(sl 0 true []),(sl 0 true []),(sl 0 true []),(sl 0 true [])],(fun _=>false)⟩,⟨some b60,[(J (W (p1.Stack*p1_14.Stack))),(J (W ((W (p1.Start*(p1_14.Accept.length:Int)))+p1_14.Start))),h104,h108,h112,h116],w102⟩]:List BX)++Ls121.flatten))∧(AllG [OS oE4 h104 k105 m103,OS oE63 h108 k109 m107,OS oE30 h112 k113 m111,OS oE64 h116 k117 m115] Ls121)) (fun (m103,m107,m111,m115,t119) (w102,h104,k105,h108,k109,h112,k113,h116,k117,s120,Ls121) tm os=>⟨updL tm [(2,(eptr [(J p1.Stack),(J p1.Start),(sl z2 f3 e4),(sl z6 f7 e8),(sl z10 f11 e12)] 0)),(3,(eptr [(J p1_14.Stack),(J p1_14.Start),(sl z15 f16 e17),(sl z19 f20 e21),(sl z23 f24 e25),(sl z27 f28 e29)] 0)),(4,(ptr b31 0)),(6,(J (p1_14.Accept.length:Int))),(7,(J p1_14.Stack)),(8,(J (W ((p1.Call.length:Int)*(p1_14.Accept.length:Int))))),(9,(ptr b60 0)),(10,(J t119))],updL os [],s120⟩) ?_ (x:=(([]:List Bool),([]:List (List Push)),([]:List (List (List Int))),([]:List (List Int)),0)) (y:=(w63,(sl 0 true []),(fun _=>AV.undef),(sl 0 true []),(fun _=>AV.undef),(sl 0 true []),(fun _=>AV.undef),(sl 0 true []),(fun _=>AV.undef),s64,Ls432)) h ⟨rfl,rfl,rfl,rfl,hH434,hG438⟩
 clear h
 rintro ⟨m103,m107,m111,m115,t119⟩ ⟨w102,h104,k105,h108,k109,h112,k113,h116,k117,s120,Ls121⟩ tm os ⟨ho106,ho110,ho114,ho118,hH122,hG123⟩ ee1 h hL1 hR1
 unfold spec_PreimageChecker_S1 at h
 dsimp only at h
 refine seq ?_
 refine sr ?_
 refine q (J t119) ?_
 refine q (J (W ((p1.Call.length:Int)*(p1_14.Accept.length:Int)))) ?_
 refine q (bool (decide ((t119:Int)<(W ((p1.Call.length:Int)*(p1_14.Accept.length:Int)))))) ?_
 refine nl ?_
 rcases oite h with ⟨hc124,h⟩ | ⟨hc124,h⟩
 ·refine cT hc124 ?_
  refine skip ?_
  refine seq ?_
  refine block ?_
  refine sr ?_
  refine q (J t119) ?_
  refine q (J (p1_14.Accept.length:Int)) ?_
  obtain ⟨q125,h126,h⟩:=obind h
  refine pureR rfl rfl rfl (quo_ok h126) rfl (rfl:_=(J q125)) ?_
  refine aq (J q125) ?_
  refine ns ?_
  refine q (J t119) ?_
  refine q (J (p1_14.Accept.length:Int)) ?_
  obtain ⟨q127,h128,h⟩:=obind h
  refine pureR rfl rfl rfl (rem_ok h128) rfl (rfl:_=(J q127)) ?_
  refine aq (J q127) ?_
  refine ns ?_
  refine q (ptr b60 2) ?_
  refine ldB (i:=1) (v:=h104) hH122 rfl rfl rfl rfl rfl rfl rfl rfl rfl ?_
  refine q (eptr [(J p1_14.Stack),(J p1_14.Start),(sl z15 f16 e17),(sl z19 f20 e21),(sl z23 f24 e25),(sl z27 f28 e29)] 2) ?_
  refine lE (sl z15 f16 e17) ?_
  refine q (J q127) ?_
  obtain ⟨x129,h130,h⟩:=obind h
  obtain ⟨v133,h131,h132⟩:=idx_sl h18 h130
  cases h131
  refine pureR rfl rfl rfl h132 rfl (rfl:_=(eptr [(bool x129)] 0)) ?_
  refine lE (bool x129) ?_
  refine makeR rfl rfl rfl rfl rfl rfl (rfl:_=(sl 1 true [(bool x129)])) ?_
  obtain ⟨l134,h135,h⟩:=obind h
  refine appLf (j:=0) (z':=1) (f':=true) (e':=[(bool x129)]) hH122 hG123 rfl rfl rfl rfl rfl rfl rfl rfl (appSrc_sl (LR.z (LR.lit (r:=rB) (sz:=1) (.cons rfl .nil))) rfl) ⟨by decide,by decide,rfl,rfl⟩ ⟨rfl,rfl⟩ rfl rfl h135 (LR.el (LR.lit (r:=rB) (sz:=1) (.cons rfl .nil))).len (fun i=>OL.leaf (LR.el (LR.lit (r:=rB) (sz:=1) (.cons rfl .nil))) i) ?_
  intro h136 k138 Ls139 s140 ho137 hG141 hH142
  change HS [] false s s140 (([⟨some b31,[(J 0),(J 0),(sl 0 true []),(sl 0 true []),(sl 0 true []),(sl 0 true [])],(fun _=>false)⟩,⟨some b60,[(J (W (p1.Stack*p1_14.Stack))),(J (W ((W (p1.Start*(p1_14.Accept.length:Int)))+p1_14.Start))),h104,h108,h112,h116],w102⟩]:List BX)++Ls139.flatten) at hH142
  change AllG [OS oE4 h136 k138 l134,OS oE63 h108 k109 m107,OS oE30 h112 k113 m111,OS oE64 h116 k117 m115] Ls139 at hG141
  refine q (ptr b60 2) ?_
  refine stE (i:=1) (v:=h136) hH142 hl rfl rfl rfl rfl rfl rfl rfl (one_lay ho137) (one_len ho137) (lt_b rfl) (le_b rfl) rfl ?_
  intro w143 s144 h145 h146 hH147
  rw[AV.cells_one ho137] at hH147
  change HS [] false s s144 (([⟨some b31,[(J 0),(J 0),(sl 0 true []),(sl 0 true []),(sl 0 true []),(sl 0 true [])],(fun _=>false)⟩,⟨some b60,[(J (W (p1.Stack*p1_14.Stack))),(J (W ((W (p1.Start*(p1_14.Accept.length:Int)))+p1_14.Start))),h136,h108,h112,h116],w143⟩]:List BX)++Ls139.flatten) at hH147
  refine ns ?_
  refine makeR rfl rfl rfl rfl rfl rfl (rfl:_=(sl 2 true [])) ?_
  refine aq (sl 2 true []) ?_
  refine ns ?_
  refine makeR rfl rfl rfl rfl rfl rfl (rfl:_=(sl 1 true [])) ?_
  refine aq (sl 1 true []) ?_
  refine ns ?_
  refine makeR rfl rfl rfl rfl rfl rfl (rfl:_=(sl 1 true [])) ?_
  refine aq (sl 1 true []) ?_
  refine nl ?_
  refine seq ?_
  refine sr ?_
  refine q (J 0) ?_
  refine nl ?_
  refine meet (σ:=(List Push) × (List Int) × (List (List Int)) × AV × KT × AV × KT × AV × KT × St × (List (List BX))) (fun (t148,t152,t156,h149,k150,h153,k154,h157,k158,s160,Ls161) tm os=>⟨updL tm [(2,(eptr [(J p1.Stack),(J p1.Start),(sl z2 f3 e4),(sl z6 f7 e8),(sl z10 f11 e12)] 0)),(3,(eptr [(J p1_14.Stack),(J p1_14.Start),(sl z15 f16 e17),(sl z19 f20 e21),(sl z23 f24 e25),(sl z27 f28 e29)] 0)),(4,(ptr b31 0)),(6,(J (p1_14.Accept.length:Int))),(7,(J p1_14.Stack)),(8,(J (W ((p1.Call.length:Int)*(p1_14.Accept.length:Int))))),(9,(ptr b60 0)),(10,(J t119)),(13,h149),(14,h153),(15,h157)],updL os [],s160⟩) (fun (t148,t152,t156,h149,k150,h153,k154,h157,k158,s160,Ls161)=>(h149.one=true)∧(h153.one=true)∧(h157.one=true)∧(HS [] false s s160 (([⟨some b31,[(J 0),(J 0),(sl 0 true []),(sl 0 true []),(sl 0 true []),(sl 0 true [])],(fun _=>false)⟩,⟨some b60,[(J (W (p1.Stack*p1_14.Stack))),(J (W ((W (p1.Start*(p1_14.Accept.length:Int)))+p1_14.Start))),h136,h108,h112,h116],w143⟩]:List BX)++Ls161.flatten))∧(AllG [OS oE4 h136 k138 l134,OS oE63 h108 k109 m107,OS oE30 h112 k113 m111,OS oE64 h116 k117 m115,OS oE71 h149 k150 t148,OS oE2 h153 k154 t152,OS oE64 h157 k158 t156] Ls161)∧spec_PreimageChecker_J2 m107 m111 m115 t119 l134 t148 t152 t156=some ee1) ?_ ?_
  ·rintro ⟨t148,t152,t156,h149,k150,h153,k154,h157,k158,s160,Ls161⟩ tm os ⟨ho151,ho155,ho159,hH162,hG163,h⟩
   unfold spec_PreimageChecker_J2 at h
   refine sr ?_
   refine q (ptr b60 3) ?_
   refine ldB (i:=1) (v:=h108) hH162 rfl rfl rfl rfl rfl rfl rfl rfl rfl ?_
   refine q h149 ?_
   refine lit1 rfl rfl rfl rfl rfl rfl ho151 rfl rfl ?_
   obtain ⟨l165,h166,h⟩:=obind h
   refine appO (j:=1) (j2:=4) hH162 hG163 rfl rfl (by decide) rfl rfl rfl rfl rfl rfl rfl rfl ⟨by decide,by decide,rfl,rfl⟩ ⟨rfl,rfl⟩ rfl rfl h166 ?_
   intro h167 k169 Ls170 s171 ho168 hG172 hH173
   change HS [] false s s171 (([⟨some b31,[(J 0),(J 0),(sl 0 true []),(sl 0 true []),(sl 0 true []),(sl 0 true [])],(fun _=>false)⟩,⟨some b60,[(J (W (p1.Stack*p1_14.Stack))),(J (W ((W (p1.Start*(p1_14.Accept.length:Int)))+p1_14.Start))),h136,h108,h112,h116],w143⟩]:List BX)++Ls170.flatten) at hH173
   change AllG [OS oE4 h136 k138 l134,OS oE63 h167 k169 l165,OS oE30 h112 k113 m111,OS oE64 h116 k117 m115,Non,OS oE2 h153 k154 t152,OS oE64 h157 k158 t156] Ls170 at hG172
   refine q (ptr b60 3) ?_
   refine stE (i:=1) (v:=h167) hH173 hl rfl rfl rfl rfl rfl rfl rfl (one_lay ho168) (one_len ho168) (lt_b rfl) (le_b rfl) rfl ?_
   intro w174 s175 h176 h177 hH178
   rw[AV.cells_one ho168] at hH178
   change HS [] false s s175 (([⟨some b31,[(J 0),(J 0),(sl 0 true []),(sl 0 true []),(sl 0 true []),(sl 0 true [])],(fun _=>false)⟩,⟨some b60,[(J (W (p1.Stack*p1_14.Stack))),(J (W ((W (p1.Start*(p1_14.Accept.length:Int)))+p1_14.Start))),h136,h167,h112,h116],w174⟩]:List BX)++Ls170.flatten) at hH178
   refine ns ?_
   refine q (ptr b60 5) ?_
   refine ldB (i:=1) (v:=h116) hH178 rfl rfl rfl rfl rfl rfl rfl rfl rfl ?_
   refine q h153 ?_
   refine lit1 rfl rfl rfl rfl rfl rfl ho155 rfl rfl ?_
   obtain ⟨l179,h180,h⟩:=obind h
   refine appO (j:=3) (j2:=5) hH178 hG172 rfl rfl (by decide) rfl rfl rfl rfl rfl rfl rfl rfl ⟨by decide,by decide,rfl,rfl⟩ ⟨rfl,rfl⟩ rfl rfl h180 ?_
   intro h181 k183 Ls184 s185 ho182 hG186 hH187
   change HS [] false s s185 (([⟨some b31,[(J 0),(J 0),(sl 0 true []),(sl 0 true []),(sl 0 true []),(sl 0 true [])],(fun _=>false)⟩,⟨some b60,[(J (W (p1.Stack*p1_14.Stack))),(J (W ((W (p1.Start*(p1_14.Accept.length:Int)))+p1_14.Start))),h136,h167,h112,h116],w174⟩]:List BX)++Ls184.flatten) at hH187
   change AllG [OS oE4 h136 k138 l134,OS oE63 h167 k169 l165,OS oE30 h112 k113 m111,OS oE64 h181 k183 l179,Non,Non,OS oE64 h157 k158 t156] Ls184 at hG186
   refine q (ptr b60 5) ?_
   refine stE (i:=1) (v:=h181) hH187 hl rfl rfl rfl rfl rfl rfl rfl (one_lay ho182) (one_len ho182) (lt_b rfl) (le_b rfl) rfl ?_
   intro w188 s189 h190 h191 hH192
   rw[AV.cells_one ho182] at hH192
   change HS [] false s s189 (([⟨some b31,[(J 0),(J 0),(sl 0 true []),(sl 0 true []),(sl 0 true []),(sl 0 true [])],(fun _=>false)⟩,⟨some b60,[(J (W (p1.Stack*p1_14.Stack))),(J (W ((W (p1.Start*(p1_14.Accept.length:Int)))+p1_14.Start))),h136,h167,h112,h181],w188⟩]:List BX)++Ls184.flatten) at hH192
   refine nl ?_
   refine region ?_
   refine q (ptr b60 4) ?_
   refine ldB (i:=1) (v:=h112) hH192 rfl rfl rfl rfl rfl rfl rfl rfl rfl ?_
   refine q h157 ?_
   refine lit1 rfl rfl rfl rfl rfl rfl ho159 rfl rfl ?_
   obtain ⟨l193,h194,h⟩:=obind h
   refine appO (j:=2) (j2:=6) hH192 hG186 rfl rfl (by decide) rfl rfl rfl rfl rfl rfl rfl rfl ⟨by decide,by decide,rfl,rfl⟩ ⟨rfl,rfl⟩ rfl rfl h194 ?_
   intro h195 k197 Ls198 s199 ho196 hG200 hH201
   change HS [] false s s199 (([⟨some b31,[(J 0),(J 0),(sl 0 true []),(sl 0 true []),(sl 0 true []),(sl 0 true [])],(fun _=>false)⟩,⟨some b60,[(J (W (p1.Stack*p1_14.Stack))),(J (W ((W (p1.Start*(p1_14.Accept.length:Int)))+p1_14.Start))),h136,h167,h112,h181],w188⟩]:List BX)++Ls198.flatten) at hH201
   change AllG [OS oE4 h136 k138 l134,OS oE63 h167 k169 l165,OS oE30 h195 k197 l193,OS oE64 h181 k183 l179,Non,Non,Non] Ls198 at hG200
   refine q (ptr b60 4) ?_
   refine stE (i:=1) (v:=h195) hH201 hl rfl rfl rfl rfl rfl rfl rfl (one_lay ho196) (one_len ho196) (lt_b rfl) (le_b rfl) rfl ?_
   intro w202 s203 h204 h205 hH206
   rw[AV.cells_one ho196] at hH206
   change HS [] false s s203 (([⟨some b31,[(J 0),(J 0),(sl 0 true []),(sl 0 true []),(sl 0 true []),(sl 0 true [])],(fun _=>false)⟩,⟨some b60,[(J (W (p1.Stack*p1_14.Stack))),(J (W ((W (p1.Start*(p1_14.Accept.length:Int)))+p1_14.Start))),h136,h167,h195,h181],w202⟩]:List BX)++Ls198.flatten) at hH206
   refine nl ?_
   refine inBlock ?_
   refine region ?_
   refine q (J t119) ?_
   refine q (J (W (t119+1))) ?_
   refine aq (J (W (t119+1))) ?_
   refine nl ?_
   cases h
   obtain ⟨Ls207,hG208,hH209⟩:=selEG hH206 hG200 [some 0,some 1] [some 0,some 1,some 2,some 3]
   change HS [] false s s203 (([⟨some b31,[(J 0),(J 0),(sl 0 true []),(sl 0 true []),(sl 0 true []),(sl 0 true [])],(fun _=>false)⟩,⟨some b60,[(J (W (p1.Stack*p1_14.Stack))),(J (W ((W (p1.Start*(p1_14.Accept.length:Int)))+p1_14.Start))),h136,h167,h195,h181],w202⟩]:List BX)++Ls207.flatten) at hH209
   change AllG [OS oE4 h136 k138 l134,OS oE63 h167 k169 l165,OS oE30 h195 k197 l193,OS oE64 h181 k183 l179] Ls207 at hG208
   exact res [(2,(eptr [(J p1.Stack),(J p1.Start),(sl z2 f3 e4),(sl z6 f7 e8),(sl z10 f11 e12)] 0)),(3,(eptr [(J p1_14.Stack),(J p1_14.Start),(sl z15 f16 e17),(sl z19 f20 e21),(sl z23 f24 e25),(sl z27 f28 e29)] 0)),(4,(ptr b31 0)),(6,(J (p1_14.Accept.length:Int))),(7,(J p1_14.Stack)),(8,(J (W ((p1.Call.length:Int)*(p1_14.Accept.length:Int))))),(9,(ptr b60 0)),(10,(J (W (t119+1))))] [] ⟨rfl,rfl,rfl,rfl,rfl,rfl,rfl,rfl,tv⟩ tv (hL1 _ rfl (w202,h136,k138,h167,k169,h195,k197,h181,k183,s203,Ls207) _ _ ⟨ho137,ho168,ho196,ho182,hH209,hG208⟩)
  intro KJ164
  refine block ?_
  obtain ⟨Ls425,hG426,hH427⟩:=selEG hH147 hG141 [some 0,some 1] [some 0,some 1,some 2,some 3,none,none,none]
  change HS [] false s s144 (([⟨some b31,[(J 0),(J 0),(sl 0 true []),(sl 0 true []),(sl 0 true []),(sl 0 true [])],(fun _=>false)⟩,⟨some b60,[(J (W (p1.Stack*p1_14.Stack))),(J (W ((W (p1.Start*(p1_14.Accept.length:Int)))+p1_14.Start))),h136,h108,h112,h116],w143⟩]:List BX)++Ls425.flatten) at hH427
  change AllG [OS oE4 h136 k138 l134,OS oE63 h108 k109 m107,OS oE30 h112 k113 m111,OS oE64 h116 k117 m115,Non,Non,Non] Ls425 at hG426
  have hG428:=AllG.imp hG426 4 rfl (P':=OS oE71 (sl 2 true []) (fun _=>AV.undef) []) (fun L hL=>by cases hL; exact OS.nil (Or.inl rfl))
  change AllG [OS oE4 h136 k138 l134,OS oE63 h108 k109 m107,OS oE30 h112 k113 m111,OS oE64 h116 k117 m115,OS oE71 (sl 2 true []) (fun _=>AV.undef) ([]:List Push),Non,Non] Ls425 at hG428
  have hG429:=AllG.imp hG428 5 rfl (P':=OS oE2 (sl 1 true []) (fun _=>AV.undef) []) (fun L hL=>by cases hL; exact OS.nil (Or.inl rfl))
  change AllG [OS oE4 h136 k138 l134,OS oE63 h108 k109 m107,OS oE30 h112 k113 m111,OS oE64 h116 k117 m115,OS oE71 (sl 2 true []) (fun _=>AV.undef) ([]:List Push),OS oE2 (sl 1 true []) (fun _=>AV.undef) ([]:List Int),Non] Ls425 at hG429
  have hG430:=AllG.imp hG429 6 rfl (P':=OS oE64 (sl 1 true []) (fun _=>AV.undef) []) (fun L hL=>by cases hL; exact OS.nil (Or.inl rfl))
  change AllG [OS oE4 h136 k138 l134,OS oE63 h108 k109 m107,OS oE30 h112 k113 m111,OS oE64 h116 k117 m115,OS oE71 (sl 2 true []) (fun _=>AV.undef) ([]:List Push),OS oE2 (sl 1 true []) (fun _=>AV.undef) ([]:List Int),OS oE64 (sl 1 true []) (fun _=>AV.undef) ([]:List (List Int))] Ls425 at hG430
  refine res [(2,(eptr [(J p1.Stack),(J p1.Start),(sl z2 f3 e4),(sl z6 f7 e8),(sl z10 f11 e12)] 0)),(3,(eptr [(J p1_14.Stack),(J p1_14.Start),(sl z15 f16 e17),(sl z19 f20 e21),(sl z23 f24 e25),(sl z27 f28 e29)] 0)),(4,(ptr b31 0)),(6,(J (p1_14.Accept.length:Int))),(7,(J p1_14.Stack)),(8,(J (W ((p1.Call.length:Int)*(p1_14.Accept.length:Int))))),(9,(ptr b60 0)),(10,(J t119)),(11,(J q125)),(12,(J q127)),(13,(sl 2 true [])),(14,(sl 1 true [])),(15,(sl 1 true [])),(16,(J 0))] [] ⟨rfl,rfl,rfl,rfl,rfl,rfl,rfl,rfl,rfl,rfl,rfl,rfl,rfl,rfl,tv⟩ tv ?_
  refine loopF (σ:=(List Push) × (List Int) × (List (List Int)) × Int) (τ:=AV × KT × AV × KT × AV × KT × St × (List (List BX))) (fun (t210,t214,t218,t222) (h211,k212,h215,k216,h219,k220,s223,Ls224)=>(h211.one=true)∧(h215.one=true)∧(h219.one=true)∧(HS [] false s s223 (([⟨some b31,[(J 0),(J 0),(sl 0 true []),(sl 0 true []),(sl 0 true []),(sl 0 true [])],(fun _=>false)⟩,⟨some b60,[(J (W (p1.Stack*p1_14.Stack))),(J (W ((W (p1.Start*(p1_14.Accept.length:Int)))+p1_14.Start))),h136,h108,h112,h116],w143⟩]:List BX)++Ls224.flatten))∧(AllG [OS oE4 h136 k138 l134,OS oE63 h108 k109 m107,OS oE30 h112 k113 m111,OS oE64 h116 k117 m115,OS oE71 h211 k212 t210,OS oE2 h215 k216 t214,OS oE64 h219 k220 t218] Ls224)) (fun (t210,t214,t218,t222) (h211,k212,h215,k216,h219,k220,s223,Ls224) tm os=>⟨updL tm [(2,(eptr [(J p1.Stack),(J p1.Start),(sl z2 f3 e4),(sl z6 f7 e8),(sl z10 f11 e12)] 0)),(3,(eptr [(J p1_14.Stack),(J p1_14.Start),(sl z15 f16 e17),(sl z19 f20 e21),(sl z23 f24 e25),(sl z27 f28 e29)] 0)),(4,(ptr b31 0)),(6,(J (p1_14.Accept.length:Int))),(7,(J p1_14.Stack)),(8,(J (W ((p1.Call.length:Int)*(p1_14.Accept.length:Int))))),(9,(ptr b60 0)),(10,(J t119)),(11,(J q125)),(12,(J q127)),(13,h211),(14,h215),(15,h219),(16,(J t222))],updL os [],s223⟩) ?_ (x:=(([]:List Push),([]:List Int),([]:List (List Int)),0)) (y:=((sl 2 true []),(fun _=>AV.undef),(sl 1 true []),(fun _=>AV.undef),(sl 1 true []),(fun _=>AV.undef),s144,Ls425)) h ⟨rfl,rfl,rfl,hH427,hG430⟩
  clear h
  rintro ⟨t210,t214,t218,t222⟩ ⟨h211,k212,h215,k216,h219,k220,s223,Ls224⟩ tm os ⟨ho213,ho217,ho221,hH225,hG226⟩ ee2 h hL2 hR2
  unfold spec_PreimageChecker_S2 at h
  dsimp only at h
  refine seq ?_
  refine sr ?_
  refine q (J t222) ?_
  refine q (bool (decide ((t222:Int)<2))) ?_
  refine nl ?_
  rcases oite h with ⟨hc227,h⟩ | ⟨hc227,h⟩
  ·refine cT hc227 ?_
   refine skip ?_
   refine seq ?_
   refine block ?_
   refine sr ?_
   refine q (eptr [(J p1.Stack),(J p1.Start),(sl z2 f3 e4),(sl z6 f7 e8),(sl z10 f11 e12)] 2) ?_
   refine lE (sl z2 f3 e4) ?_
   refine q (J q125) ?_
   obtain ⟨x228,h229,h⟩:=obind h
   obtain ⟨v232,h230,h231⟩:=idx_sl h5 h229
   obtain ⟨z233,f234,e235,rfl,h236⟩:=h230
   refine pureR rfl rfl rfl h231 rfl (rfl:_=(eptr [(sl z233 f234 e235)] 0)) ?_
   refine lE (sl z233 f234 e235) ?_
   refine q (J t222) ?_
   obtain ⟨x237,h238,h⟩:=obind h
   obtain ⟨v241,h239,h240⟩:=idx_sl h236 h238
   obtain ⟨_,rfl,h242⟩:=h239
   obtain ⟨_,_,rfl,h243,h244⟩:=Cs_cons h242
   cases h243
   obtain ⟨_,_,rfl,h245,h246⟩:=Cs_cons h244
   cases h245
   obtain ⟨_,_,rfl,h247,h248⟩:=Cs_cons h246
   cases h247
   cases Cs_nil h248
   refine pureR rfl rfl rfl h240 rfl (rfl:_=(eptr [(J x237.To),(J x237.Put),(str x237.Out)] 0)) ?_
   refine lE (agg [(J x237.To),(J x237.Put),(str x237.Out)]) ?_
   refine allocP rfl rfl rfl rfl ⟨rfl,rfl⟩ rfl ?_
   refine stP (v:=(agg [(J x237.To),(J x237.Put),(str x237.Out)])) rfl rfl rfl rfl rfl rfl rfl rfl rfl (lt_b rfl) rfl ?_
   refine ns ?_
   refine q (J q127) ?_
   refine makeR rfl rfl rfl rfl rfl rfl (rfl:_=(sl 1 true [])) ?_
   refine q (eptr [(J x237.To),(J x237.Put),(str x237.Out)] 2) ?_
   refine lE (str x237.Out) ?_
   obtain ⟨y249,h250,h⟩:=obind h
   refine cP (spec_l02Go_ok h18 h22 h26 h30 (⟨.inl rfl,.nil⟩) h250 (wf' hH225)) ?_
   intro _ o261 h251
   obtain ⟨_,rfl,h252⟩:=h251
   obtain ⟨_,_,rfl,h253,h254⟩:=Cs_cons h252
   cases h253
   obtain ⟨_,_,rfl,h255,h256⟩:=Cs_cons h254
   obtain ⟨z257,f258,e259,rfl,h260⟩:=h255
   cases Cs_nil h256
   refine q (AV.tup [(J y249.1),(sl z257 f258 e259)]) ?_
   refine q (J y249.1) ?_
   refine q (sl z257 f258 e259) ?_
   refine aq (J y249.1) ?_
   refine aq (sl z257 f258 e259) ?_
   refine ns ?_
   refine q h211 ?_
   refine q (eptr [(J x237.To),(J x237.Put),(str x237.Out)] 0) ?_
   refine lE (J x237.To) ?_
   refine q (J (p1_14.Accept.length:Int)) ?_
   refine q (J (W (x237.To*(p1_14.Accept.length:Int)))) ?_
   refine q (J y249.1) ?_
   refine q (J (W ((W (x237.To*(p1_14.Accept.length:Int)))+y249.1))) ?_
   refine q (eptr [(J x237.To),(J x237.Put),(str x237.Out)] 1) ?_
   refine lE (J x237.Put) ?_
   refine q (J p1_14.Stack) ?_
   refine q (J (W (x237.Put*p1_14.Stack))) ?_
   refine q (sl z257 f258 e259) ?_
   obtain ⟨x262,h263,h⟩:=obind h
   obtain ⟨v266,h264,h265⟩:=idx_sl h260 h263
   cases h264
   refine pureR rfl rfl rfl h265 rfl (rfl:_=(eptr [(J x262)] 0)) ?_
   refine lE (J x262) ?_
   refine q (J (W ((W (x237.Put*p1_14.Stack))+x262))) ?_
   refine q (agg [(J (W ((W (x237.To*(p1_14.Accept.length:Int)))+y249.1))),(J (W ((W (x237.Put*p1_14.Stack))+x262)))]) ?_
   refine makeR rfl rfl rfl rfl rfl rfl (rfl:_=(sl 2 true [(agg [(J (W ((W (x237.To*(p1_14.Accept.length:Int)))+y249.1))),(J (W ((W (x237.Put*p1_14.Stack))+x262)))])])) ?_
   obtain ⟨l267,h268,h⟩:=obind h
   refine appLf (j:=4) (z':=2) (f':=true) (e':=[(agg [(J (W ((W (x237.To*(p1_14.Accept.length:Int)))+y249.1))),(J (W ((W (x237.Put*p1_14.Stack))+x262)))])]) hH225 hG226 rfl rfl rfl rfl rfl rfl rfl rfl (appSrc_sl (LR.z (show LR rPush 2 (([(⟨W ((W (x237.To*(p1_14.Accept.length:Int)))+y249.1),W ((W (x237.Put*p1_14.Stack))+x262)⟩:Push)]:List Push):List Push) 2 [(agg [(J (W ((W (x237.To*(p1_14.Accept.length:Int)))+y249.1))),(J (W ((W (x237.Put*p1_14.Stack))+x262)))])] from LR.lit (r:=rPush) (sz:=2) (.cons ⟨_,rfl,(.cons rfl (.cons rfl .nil))⟩ .nil))) rfl) ⟨by decide,by decide,rfl,rfl⟩ ⟨rfl,rfl⟩ rfl rfl h268 (LR.el (show LR rPush 2 (([(⟨W ((W (x237.To*(p1_14.Accept.length:Int)))+y249.1),W ((W (x237.Put*p1_14.Stack))+x262)⟩:Push)]:List Push):List Push) 2 [(agg [(J (W ((W (x237.To*(p1_14.Accept.length:Int)))+y249.1))),(J (W ((W (x237.Put*p1_14.Stack))+x262)))])] from LR.lit (r:=rPush) (sz:=2) (.cons ⟨_,rfl,(.cons rfl (.cons rfl .nil))⟩ .nil))).len (fun i=>OL.leaf (LR.el (show LR rPush 2 (([(⟨W ((W (x237.To*(p1_14.Accept.length:Int)))+y249.1),W ((W (x237.Put*p1_14.Stack))+x262)⟩:Push)]:List Push):List Push) 2 [(agg [(J (W ((W (x237.To*(p1_14.Accept.length:Int)))+y249.1))),(J (W ((W (x237.Put*p1_14.Stack))+x262)))])] from LR.lit (r:=rPush) (sz:=2) (.cons ⟨_,rfl,(.cons rfl (.cons rfl .nil))⟩ .nil))) i) ?_
   intro h269 k271 Ls272 s273 ho270 hG274 hH275
   change HS [] false s s273 (([⟨some b31,[(J 0),(J 0),(sl 0 true []),(sl 0 true []),(sl 0 true []),(sl 0 true [])],(fun _=>false)⟩,⟨some b60,[(J (W (p1.Stack*p1_14.Stack))),(J (W ((W (p1.Start*(p1_14.Accept.length:Int)))+p1_14.Start))),h136,h108,h112,h116],w143⟩]:List BX)++Ls272.flatten) at hH275
   change AllG [OS oE4 h136 k138 l134,OS oE63 h108 k109 m107,OS oE30 h112 k113 m111,OS oE64 h116 k117 m115,OS oE71 h269 k271 l267,OS oE2 h215 k216 t214,OS oE64 h219 k220 t218] Ls272 at hG274
   refine aq h269 ?_
   refine ns ?_
   refine q (eptr [(J p1.Stack),(J p1.Start),(sl z2 f3 e4),(sl z6 f7 e8),(sl z10 f11 e12)] 4) ?_
   refine lE (sl z10 f11 e12) ?_
   refine q (J q125) ?_
   obtain ⟨x276,h277,h⟩:=obind h
   obtain ⟨v280,h278,h279⟩:=idx_sl h13 h277
   obtain ⟨z281,f282,e283,rfl,h284⟩:=h278
   refine pureR rfl rfl rfl h279 rfl (rfl:_=(eptr [(sl z281 f282 e283)] 0)) ?_
   refine lE (sl z281 f282 e283) ?_
   refine q (J t222) ?_
   obtain ⟨x285,h286,h⟩:=obind h
   obtain ⟨v289,h287,h288⟩:=idx_sl h284 h286
   obtain ⟨_,rfl,h290⟩:=h287
   obtain ⟨_,_,rfl,h291,h292⟩:=Cs_cons h290
   cases h291
   obtain ⟨_,_,rfl,h293,h294⟩:=Cs_cons h292
   cases h293
   cases Cs_nil h294
   refine pureR rfl rfl rfl h288 rfl (rfl:_=(eptr [(J x285.To),(str x285.Out)] 0)) ?_
   refine lE (agg [(J x285.To),(str x285.Out)]) ?_
   refine allocP rfl rfl rfl rfl ⟨rfl,rfl⟩ rfl ?_
   refine stP (v:=(agg [(J x285.To),(str x285.Out)])) rfl rfl rfl rfl rfl rfl rfl rfl rfl (lt_b rfl) rfl ?_
   refine ns ?_
   refine q (J q127) ?_
   refine makeR rfl rfl rfl rfl rfl rfl (rfl:_=(sl 1 true [])) ?_
   refine q (eptr [(J x285.To),(str x285.Out)] 1) ?_
   refine lE (str x285.Out) ?_
   obtain ⟨y295,h296,h⟩:=obind h
   refine cP (spec_l02Go_ok h18 h22 h26 h30 (⟨.inl rfl,.nil⟩) h296 (wf' hH275)) ?_
   intro _ o307 h297
   obtain ⟨_,rfl,h298⟩:=h297
   obtain ⟨_,_,rfl,h299,h300⟩:=Cs_cons h298
   cases h299
   obtain ⟨_,_,rfl,h301,h302⟩:=Cs_cons h300
   obtain ⟨z303,f304,e305,rfl,h306⟩:=h301
   cases Cs_nil h302
   refine q (AV.tup [(J y295.1),(sl z303 f304 e305)]) ?_
   refine q (J y295.1) ?_
   refine q (sl z303 f304 e305) ?_
   refine aq (J y295.1) ?_
   refine aq (sl z303 f304 e305) ?_
   refine ns ?_
   refine q h215 ?_
   refine q (eptr [(J x285.To),(str x285.Out)] 0) ?_
   refine lE (J x285.To) ?_
   refine q (J (p1_14.Accept.length:Int)) ?_
   refine q (J (W (x285.To*(p1_14.Accept.length:Int)))) ?_
   refine q (J y295.1) ?_
   refine q (J (W ((W (x285.To*(p1_14.Accept.length:Int)))+y295.1))) ?_
   refine makeR rfl rfl rfl rfl rfl rfl (rfl:_=(sl 1 true [(J (W ((W (x285.To*(p1_14.Accept.length:Int)))+y295.1)))])) ?_
   obtain ⟨l308,h309,h⟩:=obind h
   refine appLf (j:=5) (z':=1) (f':=true) (e':=[(J (W ((W (x285.To*(p1_14.Accept.length:Int)))+y295.1)))]) hH275 hG274 rfl rfl rfl rfl rfl rfl rfl rfl (appSrc_sl (LR.z (LR.lit (r:=rI .i64) (sz:=1) (.cons rfl .nil))) rfl) ⟨by decide,by decide,rfl,rfl⟩ ⟨rfl,rfl⟩ rfl rfl h309 (LR.el (LR.lit (r:=rI .i64) (sz:=1) (.cons rfl .nil))).len (fun i=>OL.leaf (LR.el (LR.lit (r:=rI .i64) (sz:=1) (.cons rfl .nil))) i) ?_
   intro h310 k312 Ls313 s314 ho311 hG315 hH316
   change HS [] false s s314 (([⟨some b31,[(J 0),(J 0),(sl 0 true []),(sl 0 true []),(sl 0 true []),(sl 0 true [])],(fun _=>false)⟩,⟨some b60,[(J (W (p1.Stack*p1_14.Stack))),(J (W ((W (p1.Start*(p1_14.Accept.length:Int)))+p1_14.Start))),h136,h108,h112,h116],w143⟩]:List BX)++Ls313.flatten) at hH316
   change AllG [OS oE4 h136 k138 l134,OS oE63 h108 k109 m107,OS oE30 h112 k113 m111,OS oE64 h116 k117 m115,OS oE71 h269 k271 l267,OS oE2 h310 k312 l308,OS oE64 h219 k220 t218] Ls313 at hG315
   refine aq h310 ?_
   refine ns ?_
   refine makeR rfl rfl rfl rfl rfl rfl (rfl:_=(sl 1 true [])) ?_
   refine aq (sl 1 true []) ?_
   refine nl ?_
   refine seq ?_
   refine sr ?_
   refine q (J 0) ?_
   refine nl ?_
   refine meet (σ:=(List Int) × AV × KT × St × (List (List BX))) (fun (t317,h318,k319,s321,Ls322) tm os=>⟨updL tm [(2,(eptr [(J p1.Stack),(J p1.Start),(sl z2 f3 e4),(sl z6 f7 e8),(sl z10 f11 e12)] 0)),(3,(eptr [(J p1_14.Stack),(J p1_14.Start),(sl z15 f16 e17),(sl z19 f20 e21),(sl z23 f24 e25),(sl z27 f28 e29)] 0)),(4,(ptr b31 0)),(6,(J (p1_14.Accept.length:Int))),(7,(J p1_14.Stack)),(8,(J (W ((p1.Call.length:Int)*(p1_14.Accept.length:Int))))),(9,(ptr b60 0)),(10,(J t119)),(11,(J q125)),(12,(J q127)),(13,h269),(14,h310),(15,h219),(16,(J t222)),(23,h318)],updL os [],s321⟩) (fun (t317,h318,k319,s321,Ls322)=>(h318.one=true)∧(HS [] false s s321 (([⟨some b31,[(J 0),(J 0),(sl 0 true []),(sl 0 true []),(sl 0 true []),(sl 0 true [])],(fun _=>false)⟩,⟨some b60,[(J (W (p1.Stack*p1_14.Stack))),(J (W ((W (p1.Start*(p1_14.Accept.length:Int)))+p1_14.Start))),h136,h108,h112,h116],w143⟩]:List BX)++Ls322.flatten))∧(AllG [OS oE4 h136 k138 l134,OS oE63 h108 k109 m107,OS oE30 h112 k113 m111,OS oE64 h116 k117 m115,OS oE71 h269 k271 l267,OS oE2 h310 k312 l308,OS oE64 h219 k220 t218,OS oE2 h318 k319 t317] Ls322)∧spec_PreimageChecker_J3 t218 t222 l267 l308 t317=some ee2) ?_ ?_
   ·rintro ⟨t317,h318,k319,s321,Ls322⟩ tm os ⟨ho320,hH323,hG324,h⟩
    unfold spec_PreimageChecker_J3 at h
    refine region ?_
    refine q h219 ?_
    refine q h318 ?_
    refine lit1 rfl rfl rfl rfl rfl rfl ho320 rfl rfl ?_
    obtain ⟨l326,h327,h⟩:=obind h
    refine appO (j:=6) (j2:=7) hH323 hG324 rfl rfl (by decide) rfl rfl rfl rfl rfl rfl rfl rfl ⟨by decide,by decide,rfl,rfl⟩ ⟨rfl,rfl⟩ rfl rfl h327 ?_
    intro h328 k330 Ls331 s332 ho329 hG333 hH334
    change HS [] false s s332 (([⟨some b31,[(J 0),(J 0),(sl 0 true []),(sl 0 true []),(sl 0 true []),(sl 0 true [])],(fun _=>false)⟩,⟨some b60,[(J (W (p1.Stack*p1_14.Stack))),(J (W ((W (p1.Start*(p1_14.Accept.length:Int)))+p1_14.Start))),h136,h108,h112,h116],w143⟩]:List BX)++Ls331.flatten) at hH334
    change AllG [OS oE4 h136 k138 l134,OS oE63 h108 k109 m107,OS oE30 h112 k113 m111,OS oE64 h116 k117 m115,OS oE71 h269 k271 l267,OS oE2 h310 k312 l308,OS oE64 h328 k330 l326,Non] Ls331 at hG333
    refine aq h328 ?_
    refine nl ?_
    refine inBlock ?_
    refine region ?_
    refine q (J t222) ?_
    refine q (J (W (t222+1))) ?_
    refine aq (J (W (t222+1))) ?_
    refine nl ?_
    cases h
    obtain ⟨Ls335,hG336,hH337⟩:=selEG hH334 hG333 [some 0,some 1] [some 0,some 1,some 2,some 3,some 4,some 5,some 6]
    change HS [] false s s332 (([⟨some b31,[(J 0),(J 0),(sl 0 true []),(sl 0 true []),(sl 0 true []),(sl 0 true [])],(fun _=>false)⟩,⟨some b60,[(J (W (p1.Stack*p1_14.Stack))),(J (W ((W (p1.Start*(p1_14.Accept.length:Int)))+p1_14.Start))),h136,h108,h112,h116],w143⟩]:List BX)++Ls335.flatten) at hH337
    change AllG [OS oE4 h136 k138 l134,OS oE63 h108 k109 m107,OS oE30 h112 k113 m111,OS oE64 h116 k117 m115,OS oE71 h269 k271 l267,OS oE2 h310 k312 l308,OS oE64 h328 k330 l326] Ls335 at hG336
    exact res [(2,(eptr [(J p1.Stack),(J p1.Start),(sl z2 f3 e4),(sl z6 f7 e8),(sl z10 f11 e12)] 0)),(3,(eptr [(J p1_14.Stack),(J p1_14.Start),(sl z15 f16 e17),(sl z19 f20 e21),(sl z23 f24 e25),(sl z27 f28 e29)] 0)),(4,(ptr b31 0)),(6,(J (p1_14.Accept.length:Int))),(7,(J p1_14.Stack)),(8,(J (W ((p1.Call.length:Int)*(p1_14.Accept.length:Int))))),(9,(ptr b60 0)),(10,(J t119)),(11,(J q125)),(12,(J q127)),(13,h269),(14,h310),(15,h328),(16,(J (W (t222+1))))] [] ⟨rfl,rfl,rfl,rfl,rfl,rfl,rfl,rfl,rfl,rfl,rfl,rfl,rfl,rfl,tv⟩ tv (hL2 _ rfl (h269,k271,h310,k312,h328,k330,s332,Ls335) _ _ ⟨ho270,ho311,ho329,hH337,hG336⟩)
   intro KJ325
   refine block ?_
   obtain ⟨Ls420,hG421,hH422⟩:=selEG hH316 hG315 [some 0,some 1] [some 0,some 1,some 2,some 3,some 4,some 5,some 6,none]
   change HS [] false s s314 (([⟨some b31,[(J 0),(J 0),(sl 0 true []),(sl 0 true []),(sl 0 true []),(sl 0 true [])],(fun _=>false)⟩,⟨some b60,[(J (W (p1.Stack*p1_14.Stack))),(J (W ((W (p1.Start*(p1_14.Accept.length:Int)))+p1_14.Start))),h136,h108,h112,h116],w143⟩]:List BX)++Ls420.flatten) at hH422
   change AllG [OS oE4 h136 k138 l134,OS oE63 h108 k109 m107,OS oE30 h112 k113 m111,OS oE64 h116 k117 m115,OS oE71 h269 k271 l267,OS oE2 h310 k312 l308,OS oE64 h219 k220 t218,Non] Ls420 at hG421
   have hG423:=AllG.imp hG421 7 rfl (P':=OS oE2 (sl 1 true []) (fun _=>AV.undef) []) (fun L hL=>by cases hL; exact OS.nil (Or.inl rfl))
   change AllG [OS oE4 h136 k138 l134,OS oE63 h108 k109 m107,OS oE30 h112 k113 m111,OS oE64 h116 k117 m115,OS oE71 h269 k271 l267,OS oE2 h310 k312 l308,OS oE64 h219 k220 t218,OS oE2 (sl 1 true []) (fun _=>AV.undef) ([]:List Int)] Ls420 at hG423
   refine res [(2,(eptr [(J p1.Stack),(J p1.Start),(sl z2 f3 e4),(sl z6 f7 e8),(sl z10 f11 e12)] 0)),(3,(eptr [(J p1_14.Stack),(J p1_14.Start),(sl z15 f16 e17),(sl z19 f20 e21),(sl z23 f24 e25),(sl z27 f28 e29)] 0)),(4,(ptr b31 0)),(6,(J (p1_14.Accept.length:Int))),(7,(J p1_14.Stack)),(8,(J (W ((p1.Call.length:Int)*(p1_14.Accept.length:Int))))),(9,(ptr b60 0)),(10,(J t119)),(11,(J q125)),(12,(J q127)),(13,h269),(14,h310),(15,h219),(16,(J t222)),(23,(sl 1 true [])),(24,(J 0))] [] ⟨rfl,rfl,rfl,rfl,rfl,rfl,rfl,rfl,rfl,rfl,rfl,rfl,rfl,rfl,rfl,rfl,tv⟩ tv ?_
   refine loopF (σ:=(List Int) × Int) (τ:=AV × KT × St × (List (List BX))) (fun (t338,t342) (h339,k340,s343,Ls344)=>(h339.one=true)∧(HS [] false s s343 (([⟨some b31,[(J 0),(J 0),(sl 0 true []),(sl 0 true []),(sl 0 true []),(sl 0 true [])],(fun _=>false)⟩,⟨some b60,[(J (W (p1.Stack*p1_14.Stack))),(J (W ((W (p1.Start*(p1_14.Accept.length:Int)))+p1_14.Start))),h136,h108,h112,h116],w143⟩]:List BX)++Ls344.flatten))∧(AllG [OS oE4 h136 k138 l134,OS oE63 h108 k109 m107,OS oE30 h112 k113 m111,OS oE64 h116 k117 m115,OS oE71 h269 k271 l267,OS oE2 h310 k312 l308,OS oE64 h219 k220 t218,OS oE2 h339 k340 t338] Ls344)) (fun (t338,t342) (h339,k340,s343,Ls344) tm os=>⟨updL tm [(2,(eptr [(J p1.Stack),(J p1.Start),(sl z2 f3 e4),(sl z6 f7 e8),(sl z10 f11 e12)] 0)),(3,(eptr [(J p1_14.Stack),(J p1_14.Start),(sl z15 f16 e17),(sl z19 f20 e21),(sl z23 f24 e25),(sl z27 f28 e29)] 0)),(4,(ptr b31 0)),(6,(J (p1_14.Accept.length:Int))),(7,(J p1_14.Stack)),(8,(J (W ((p1.Call.length:Int)*(p1_14.Accept.length:Int))))),(9,(ptr b60 0)),(10,(J t119)),(11,(J q125)),(12,(J q127)),(13,h269),(14,h310),(15,h219),(16,(J t222)),(23,h339),(24,(J t342))],updL os [],s343⟩) ?_ (x:=(([]:List Int),0)) (y:=((sl 1 true []),(fun _=>AV.undef),s314,Ls420)) h ⟨rfl,hH422,hG423⟩
   clear h
   rintro ⟨t338,t342⟩ ⟨h339,k340,s343,Ls344⟩ tm os ⟨ho341,hH345,hG346⟩ ee3 h hL3 hR3
   unfold spec_PreimageChecker_S3 at h
   dsimp only at h
   refine seq ?_
   refine sr ?_
   refine q (J t342) ?_
   refine q (ptr b60 0) ?_
   refine ldB (i:=1) (v:=(J (W (p1.Stack*p1_14.Stack)))) hH345 rfl rfl rfl rfl rfl rfl rfl rfl rfl ?_
   refine q (bool (decide ((t342:Int)≤(W (p1.Stack*p1_14.Stack))))) ?_
   refine nl ?_
   rcases oite h with ⟨hc347,h⟩ | ⟨hc347,h⟩
   ·refine cT hc347 ?_
    refine skip ?_
    refine seq ?_
    refine block ?_
    refine sr ?_
    refine makeR rfl rfl rfl rfl rfl rfl (rfl:_=(sl 1 true [])) ?_
    refine aq (sl 1 true []) ?_
    refine nl ?_
    refine seq ?_
    refine sr ?_
    refine q (J t342) ?_
    refine q (ptr b60 0) ?_
    refine ldB (i:=1) (v:=(J (W (p1.Stack*p1_14.Stack)))) hH345 rfl rfl rfl rfl rfl rfl rfl rfl rfl ?_
    refine q (bool (decide ((t342:Int)<(W (p1.Stack*p1_14.Stack))))) ?_
    refine nl ?_
    refine meet (σ:=(List Int) × Nat × Bool × (List AV) × Bool × St × (List (List BX))) (fun (t348,z349,f350,e351,o353,s355,Ls356) tm os=>⟨updL tm [(2,(eptr [(J p1.Stack),(J p1.Start),(sl z2 f3 e4),(sl z6 f7 e8),(sl z10 f11 e12)] 0)),(3,(eptr [(J p1_14.Stack),(J p1_14.Start),(sl z15 f16 e17),(sl z19 f20 e21),(sl z23 f24 e25),(sl z27 f28 e29)] 0)),(4,(ptr b31 0)),(6,(J (p1_14.Accept.length:Int))),(7,(J p1_14.Stack)),(8,(J (W ((p1.Call.length:Int)*(p1_14.Accept.length:Int))))),(9,(ptr b60 0)),(10,(J t119)),(11,(J q125)),(12,(J q127)),(13,h269),(14,h310),(15,h219),(16,(J t222)),(23,h339),(24,(J t342)),(25,(sl z349 f350 e351))],updL os [(25,o353)],s355⟩) (fun (t348,z349,f350,e351,o353,s355,Ls356)=>(LR rJ 1 t348 z349 e351)∧(f350=true∨o353=true)∧(HS [] false s s355 (([⟨some b31,[(J 0),(J 0),(sl 0 true []),(sl 0 true []),(sl 0 true []),(sl 0 true [])],(fun _=>false)⟩,⟨some b60,[(J (W (p1.Stack*p1_14.Stack))),(J (W ((W (p1.Start*(p1_14.Accept.length:Int)))+p1_14.Start))),h136,h108,h112,h116],w143⟩]:List BX)++Ls356.flatten))∧(AllG [OS oE4 h136 k138 l134,OS oE63 h108 k109 m107,OS oE30 h112 k113 m111,OS oE64 h116 k117 m115,OS oE71 h269 k271 l267,OS oE2 h310 k312 l308,OS oE64 h219 k220 t218,OS oE2 h339 k340 t338] Ls356)∧spec_PreimageChecker_J4 p1 p1_14 q125 q127 t222 t338 t342 t348=some ee3) ?_ ?_
    ·rintro ⟨t348,z349,f350,e351,o353,s355,Ls356⟩ tm os ⟨h352,h354,hH357,hG358,h⟩
     unfold spec_PreimageChecker_J4 at h
     refine sr ?_
     refine q (eptr [(J p1.Stack),(J p1.Start),(sl z2 f3 e4),(sl z6 f7 e8),(sl z10 f11 e12)] 3) ?_
     refine lE (sl z6 f7 e8) ?_
     refine q (J q125) ?_
     obtain ⟨x360,h361,h⟩:=obind h
     obtain ⟨v364,h362,h363⟩:=idx_sl h9 h361
     obtain ⟨z365,f366,e367,rfl,h368⟩:=h362
     refine pureR rfl rfl rfl h363 rfl (rfl:_=(eptr [(sl z365 f366 e367)] 0)) ?_
     refine lE (sl z365 f366 e367) ?_
     refine q (J t222) ?_
     obtain ⟨x369,h370,h⟩:=obind h
     obtain ⟨v373,h371,h372⟩:=idx_sl h368 h370
     obtain ⟨z374,f375,e376,rfl,h377⟩:=h371
     refine pureR rfl rfl rfl h372 rfl (rfl:_=(eptr [(sl z374 f375 e376)] 0)) ?_
     refine lE (sl z374 f375 e376) ?_
     refine q (J t342) ?_
     refine q (J p1_14.Stack) ?_
     obtain ⟨q378,h379,h⟩:=obind h
     refine pureR rfl rfl rfl (quo_ok h379) rfl (rfl:_=(J q378)) ?_
     obtain ⟨x380,h381,h⟩:=obind h
     obtain ⟨v384,h382,h383⟩:=idx_sl h377 h381
     obtain ⟨_,rfl,h385⟩:=h382
     obtain ⟨_,_,rfl,h386,h387⟩:=Cs_cons h385
     cases h386
     obtain ⟨_,_,rfl,h388,h389⟩:=Cs_cons h387
     cases h388
     cases Cs_nil h389
     refine pureR rfl rfl rfl h383 rfl (rfl:_=(eptr [(J x380.To),(str x380.Out)] 0)) ?_
     refine lE (agg [(J x380.To),(str x380.Out)]) ?_
     refine allocP rfl rfl rfl rfl ⟨rfl,rfl⟩ rfl ?_
     refine stP (v:=(agg [(J x380.To),(str x380.Out)])) rfl rfl rfl rfl rfl rfl rfl rfl rfl (lt_b rfl) rfl ?_
     refine ns ?_
     refine q (J q127) ?_
     refine q (sl z349 f350 e351) ?_
     refine q (eptr [(J x380.To),(str x380.Out)] 1) ?_
     refine lE (str x380.Out) ?_
     obtain ⟨y390,h391,h⟩:=obind h
     refine cP (spec_l02Go_ok h18 h22 h26 h30 h352 h391 (wf' hH357)) ?_
     intro _ o402 h392
     obtain ⟨_,rfl,h393⟩:=h392
     obtain ⟨_,_,rfl,h394,h395⟩:=Cs_cons h393
     cases h394
     obtain ⟨_,_,rfl,h396,h397⟩:=Cs_cons h395
     obtain ⟨z398,f399,e400,rfl,h401⟩:=h396
     cases Cs_nil h397
     refine q (AV.tup [(J y390.1),(sl z398 f399 e400)]) ?_
     refine q (J y390.1) ?_
     refine q (sl z398 f399 e400) ?_
     refine aq (J y390.1) ?_
     refine aq (sl z398 f399 e400) ?_
     refine nl ?_
     refine region ?_
     refine q h339 ?_
     refine q (eptr [(J x380.To),(str x380.Out)] 0) ?_
     refine lE (J x380.To) ?_
     refine q (J (p1_14.Accept.length:Int)) ?_
     refine q (J (W (x380.To*(p1_14.Accept.length:Int)))) ?_
     refine q (J y390.1) ?_
     refine q (J (W ((W (x380.To*(p1_14.Accept.length:Int)))+y390.1))) ?_
     refine makeR rfl rfl rfl rfl rfl rfl (rfl:_=(sl 1 true [(J (W ((W (x380.To*(p1_14.Accept.length:Int)))+y390.1)))])) ?_
     obtain ⟨l403,h404,h⟩:=obind h
     refine appLf (j:=7) (z':=1) (f':=true) (e':=[(J (W ((W (x380.To*(p1_14.Accept.length:Int)))+y390.1)))]) hH357 hG358 rfl rfl rfl rfl rfl rfl rfl rfl (appSrc_sl (LR.z (LR.lit (r:=rI .i64) (sz:=1) (.cons rfl .nil))) rfl) ⟨by decide,by decide,rfl,rfl⟩ ⟨rfl,rfl⟩ rfl rfl h404 (LR.el (LR.lit (r:=rI .i64) (sz:=1) (.cons rfl .nil))).len (fun i=>OL.leaf (LR.el (LR.lit (r:=rI .i64) (sz:=1) (.cons rfl .nil))) i) ?_
     intro h405 k407 Ls408 s409 ho406 hG410 hH411
     change HS [] false s s409 (([⟨some b31,[(J 0),(J 0),(sl 0 true []),(sl 0 true []),(sl 0 true []),(sl 0 true [])],(fun _=>false)⟩,⟨some b60,[(J (W (p1.Stack*p1_14.Stack))),(J (W ((W (p1.Start*(p1_14.Accept.length:Int)))+p1_14.Start))),h136,h108,h112,h116],w143⟩]:List BX)++Ls408.flatten) at hH411
     change AllG [OS oE4 h136 k138 l134,OS oE63 h108 k109 m107,OS oE30 h112 k113 m111,OS oE64 h116 k117 m115,OS oE71 h269 k271 l267,OS oE2 h310 k312 l308,OS oE64 h219 k220 t218,OS oE2 h405 k407 l403] Ls408 at hG410
     refine aq h405 ?_
     refine nl ?_
     refine inBlock ?_
     refine region ?_
     refine q (J t342) ?_
     refine q (J (W (t342+1))) ?_
     refine aq (J (W (t342+1))) ?_
     refine nl ?_
     cases h
     exact res [(2,(eptr [(J p1.Stack),(J p1.Start),(sl z2 f3 e4),(sl z6 f7 e8),(sl z10 f11 e12)] 0)),(3,(eptr [(J p1_14.Stack),(J p1_14.Start),(sl z15 f16 e17),(sl z19 f20 e21),(sl z23 f24 e25),(sl z27 f28 e29)] 0)),(4,(ptr b31 0)),(6,(J (p1_14.Accept.length:Int))),(7,(J p1_14.Stack)),(8,(J (W ((p1.Call.length:Int)*(p1_14.Accept.length:Int))))),(9,(ptr b60 0)),(10,(J t119)),(11,(J q125)),(12,(J q127)),(13,h269),(14,h310),(15,h219),(16,(J t222)),(23,h405),(24,(J (W (t342+1))))] [] ⟨rfl,rfl,rfl,rfl,rfl,rfl,rfl,rfl,rfl,rfl,rfl,rfl,rfl,rfl,rfl,rfl,tv⟩ tv (hL3 _ rfl (h405,k407,s409,Ls408) _ _ ⟨ho406,hH411,hG410⟩)
    intro KJ359
    rcases oite h with ⟨hc412,h⟩ | ⟨hc412,h⟩
    ·refine cT hc412 ?_
     refine region ?_
     refine q (sl 1 true []) ?_
     refine q (J t342) ?_
     refine q (J p1_14.Stack) ?_
     obtain ⟨q413,h414,h⟩:=obind h
     refine pureR rfl rfl rfl (rem_ok h414) rfl (rfl:_=(J q413)) ?_
     refine makeR rfl rfl rfl rfl rfl rfl (rfl:_=(sl 1 true [(J q413)])) ?_
     obtain ⟨l415,h416,h⟩:=obind h
     obtain ⟨h417,h418⟩:=app_LR (show LR rJ 1 (([]:List Int):List Int) 1 [] from ⟨.inl rfl,.nil⟩) (LR.lit (r:=rI .i64) (sz:=1) (.cons rfl .nil)) h416
     refine AOps.appL (z:=1) (f:=true) (e:=[]) (z':=1) (f':=true) (e':=[(J q413)]) rfl rfl rfl rfl rfl rfl rfl (appSrc_sl (LR.z (LR.lit (r:=rI .i64) (sz:=1) (.cons rfl .nil))) rfl) (LR.z (show LR rJ 1 (([]:List Int):List Int) 1 [] from ⟨.inl rfl,.nil⟩)) ⟨by decide,by decide,rfl,rfl⟩ rfl rfl h418 (Or.inl rfl) ?_
     refine aq (sl 1 false ([]++[(J q413)])) ?_
     refine nl ?_
     exact res [(2,(eptr [(J p1.Stack),(J p1.Start),(sl z2 f3 e4),(sl z6 f7 e8),(sl z10 f11 e12)] 0)),(3,(eptr [(J p1_14.Stack),(J p1_14.Start),(sl z15 f16 e17),(sl z19 f20 e21),(sl z23 f24 e25),(sl z27 f28 e29)] 0)),(4,(ptr b31 0)),(6,(J (p1_14.Accept.length:Int))),(7,(J p1_14.Stack)),(8,(J (W ((p1.Call.length:Int)*(p1_14.Accept.length:Int))))),(9,(ptr b60 0)),(10,(J t119)),(11,(J q125)),(12,(J q127)),(13,h269),(14,h310),(15,h219),(16,(J t222)),(23,h339),(24,(J t342)),(25,(sl 1 false ([]++[(J q413)])))] [(25,true)] ⟨rfl,rfl,rfl,rfl,rfl,rfl,rfl,rfl,rfl,rfl,rfl,rfl,rfl,rfl,rfl,rfl,rfl,tv⟩ ⟨rfl,tv⟩ (KJ359 (l415,1,false,([]++[(J q413)]),true,s343,Ls344) _ _ ⟨h417,(Or.inr rfl),hH345,hG346,h⟩)
    refine cF hc412 ?_
    refine skip ?_
    exact res [(2,(eptr [(J p1.Stack),(J p1.Start),(sl z2 f3 e4),(sl z6 f7 e8),(sl z10 f11 e12)] 0)),(3,(eptr [(J p1_14.Stack),(J p1_14.Start),(sl z15 f16 e17),(sl z19 f20 e21),(sl z23 f24 e25),(sl z27 f28 e29)] 0)),(4,(ptr b31 0)),(6,(J (p1_14.Accept.length:Int))),(7,(J p1_14.Stack)),(8,(J (W ((p1.Call.length:Int)*(p1_14.Accept.length:Int))))),(9,(ptr b60 0)),(10,(J t119)),(11,(J q125)),(12,(J q127)),(13,h269),(14,h310),(15,h219),(16,(J t222)),(23,h339),(24,(J t342)),(25,(sl 1 true []))] [(25,false)] ⟨rfl,rfl,rfl,rfl,rfl,rfl,rfl,rfl,rfl,rfl,rfl,rfl,rfl,rfl,rfl,rfl,rfl,tv⟩ ⟨rfl,tv⟩ (KJ359 (([]:List Int),1,true,[],false,s343,Ls344) _ _ ⟨⟨.inl rfl,.nil⟩,(Or.inl rfl),hH345,hG346,h⟩)
   refine cF hc347 ?_
   refine exit rfl ?_
   obtain ⟨r419,hm,hx⟩:=omap h
   clear h
   subst hx
   have hx:=hR3 _ rfl
   rw[hx] at hm
   have h:=hm
   exact res [(2,(eptr [(J p1.Stack),(J p1.Start),(sl z2 f3 e4),(sl z6 f7 e8),(sl z10 f11 e12)] 0)),(3,(eptr [(J p1_14.Stack),(J p1_14.Start),(sl z15 f16 e17),(sl z19 f20 e21),(sl z23 f24 e25),(sl z27 f28 e29)] 0)),(4,(ptr b31 0)),(6,(J (p1_14.Accept.length:Int))),(7,(J p1_14.Stack)),(8,(J (W ((p1.Call.length:Int)*(p1_14.Accept.length:Int))))),(9,(ptr b60 0)),(10,(J t119)),(11,(J q125)),(12,(J q127)),(13,h269),(14,h310),(15,h219),(16,(J t222)),(23,h339)] [] ⟨rfl,rfl,rfl,rfl,rfl,rfl,rfl,rfl,rfl,rfl,rfl,rfl,rfl,rfl,rfl,tv⟩ tv (KJ325 (t338,h339,k340,s343,Ls344) _ _ ⟨ho341,hH345,hG346,h⟩)
  refine cF hc227 ?_
  refine exit rfl ?_
  obtain ⟨r424,hm,hx⟩:=omap h
  clear h
  subst hx
  have hx:=hR2 _ rfl
  rw[hx] at hm
  have h:=hm
  exact res [(2,(eptr [(J p1.Stack),(J p1.Start),(sl z2 f3 e4),(sl z6 f7 e8),(sl z10 f11 e12)] 0)),(3,(eptr [(J p1_14.Stack),(J p1_14.Start),(sl z15 f16 e17),(sl z19 f20 e21),(sl z23 f24 e25),(sl z27 f28 e29)] 0)),(4,(ptr b31 0)),(6,(J (p1_14.Accept.length:Int))),(7,(J p1_14.Stack)),(8,(J (W ((p1.Call.length:Int)*(p1_14.Accept.length:Int))))),(9,(ptr b60 0)),(10,(J t119)),(13,h211),(14,h215),(15,h219)] [] ⟨rfl,rfl,rfl,rfl,rfl,rfl,rfl,rfl,rfl,rfl,rfl,tv⟩ tv (KJ164 (t210,t214,t218,h211,k212,h215,k216,h219,k220,s223,Ls224) _ _ ⟨ho213,ho217,ho221,hH225,hG226,h⟩)
 refine cF hc124 ?_
 refine exit rfl ?_
 obtain ⟨r431,hm,hx⟩:=omap h
 clear h
 subst hx
 have hx:=hR1 _ rfl
 rw[hx] at hm
 have h:=hm
 exact res [(4,(ptr b31 0)),(9,(ptr b60 0))] [] ⟨rfl,rfl,tv⟩ tv (KJ96 (m103,m107,m111,m115,w102,h104,k105,h108,k109,h112,k113,h116,k117,s120,Ls121) _ _ ⟨ho106,ho110,ho114,ho118,hH122,hG123,h⟩)
theorem impl_size_bool_ok {list1:List Bool} {z2:Nat} {f3:Bool} {e4:List AV} {s:St} (h5:LR rB 1 list1 z2 e4) {r:Int} (h:impl_size_bool list1=some r) (hs:WF s):ACall Cf 33 [(sl z2 f3 e4)] s fun v _ s'=>rJ r v∧s'=s:=by
 refine ACall.pure rfl rfl rfl .I ?_
 have hWF:=hs.lo'
 unfold impl_size_bool at h
 refine sr<|q (J 0)<|ns ?_
 refine q (sl z2 f3 e4)<|AOps.p rfl (len_eq h5) ?_
 refine aq (J (list1.length:Int))<|nl ?_
 cases h
 exact ret ⟨rfl,_,_,rfl,rfl⟩
theorem impl_size_simpl_OutPush_ok {list1:List (List OutPush)} {z2:Nat} {f3:Bool} {e4:List AV} {s:St} (h5:LR (rL rOutPush 3) 1 list1 z2 e4) {r:Int} (h:impl_size_simpl_OutPush list1=some r) (hs:WF s):ACall Cf 37 [(sl z2 f3 e4)] s fun v _ s'=>rJ r v∧s'=s:=by
 refine ACall.pure rfl rfl rfl .I ?_
 have hWF:=hs.lo'
 unfold impl_size_simpl_OutPush at h
 refine sr<|q (J 0)<|ns ?_
 refine q (sl z2 f3 e4)<|AOps.p rfl (len_eq h5) ?_
 refine aq (J (list1.length:Int))<|nl ?_
 cases h
 exact ret ⟨rfl,_,_,rfl,rfl⟩
theorem impl_within_ok {n1 low2 high3:Int} {s:St} {r:Bool} (h:impl_within n1 low2 high3=some r) (hs:WF s):ACall Cf 78 [(J n1),(J low2),(J high3)] s fun v _ s'=>(rB) r v∧s'=s:=by
 refine ACall.pure rfl rfl rfl .B ?_
 have hWF:=hs.lo'
 unfold impl_within at h
 refine sr<|q (bool false)<|ns ?_
 refine q (J n1) ?_
 refine q (J low2) ?_
 refine q (bool (decide ((n1:Int)≥low2))) ?_
 refine q (bool (decide ((n1:Int)≥low2))) ?_
 refine split 4 (fun f'=>∃ tm' os',f'=⟨updL tm' [(14,(bool ((decide ((n1:Int)≥low2))&&(decide ((n1:Int)≤high3)))))],updL os' [],s.M⟩) ?_ ?_
 ·rcases Bool.eq_false_or_eq_true (decide ((n1:Int)≥low2)) with hc4 | hc4
  ·refine kn 10 hc4<|q (J n1) ?_
   refine q (J high3) ?_
   refine q (bool (decide ((n1:Int)≤high3))) ?_
   refine q (bool (decide ((n1:Int)≤high3))) ?_
   exact rR ⟨congrArg bool (and_t hc4),tv⟩
  ·refine kn 10 hc4<|sk ?_
   refine sk ?_
   refine sk ?_
   refine q (bool false) ?_
   exact rR ⟨congrArg bool (and_f hc4),tv⟩
 rintro _ ⟨tm,os,rfl⟩
 refine aq (bool ((decide ((n1:Int)≥low2))&&(decide ((n1:Int)≤high3))))<|nl ?_
 cases h
 exact ret ⟨rfl,_,_,rfl,rfl⟩
theorem internal_stringslite_IndexByte_ok {s1:List UInt8} {c2 r:Int} {s:St} (h:internal_stringslite_IndexByte s1 c2=some r) (hs:WF s):ACall Cf 136 [(str s1),(int .u8 c2)] s fun v _ s'=>rJ r v∧s'=s:=by
 refine ACall.pure rfl rfl rfl .I ?_
 have hWF:=hs.lo'
 unfold internal_stringslite_IndexByte at h
 refine sr<|q (J 0)<|ns ?_
 refine q (str s1) ?_
 refine q (int .u8 c2) ?_
 obtain ⟨y3,h4,h⟩:=obind h
 refine cP (ext_byte_ok h4 hWF) ?_
 intro _ o6 h5
 cases h5
 refine aq (J y3)<|nl ?_
 cases h
 exact ret ⟨rfl,_,_,rfl,rfl⟩
theorem strings_IndexByte_ok {s1:List UInt8} {c2 r:Int} {s:St} (h:strings_IndexByte s1 c2=some r) (hs:WF s):ACall Cf 130 [(str s1),(int .u8 c2)] s fun v _ s'=>rJ r v∧s'=s:=by
 refine ACall.pure rfl rfl rfl .I ?_
 have hWF:=hs.lo'
 unfold strings_IndexByte at h
 refine sr<|q (J 0)<|ns ?_
 refine q (str s1) ?_
 refine q (int .u8 c2) ?_
 obtain ⟨y3,h4,h⟩:=obind h
 refine cP (internal_stringslite_IndexByte_ok  h4 hWF) ?_
 intro _ o6 h5
 cases h5
 refine aq (J y3)<|nl ?_
 cases h
 exact ret ⟨rfl,_,_,rfl,rfl⟩
theorem impl_ValidWord_ok {w1:List UInt8} {s:St} {r:Bool} (h:impl_ValidWord w1=some r) (hs:WF s):ACall Cf 118 [(str w1)] s fun v _ s'=>(rB) r v∧s'=s:=by
 refine ACall.pure rfl rfl rfl .B ?_
 have hWF:=hs.lo'
 unfold impl_ValidWord at h
 refine sr<|q (bool false)<|nl ?_
 refine seq<|sr<|q (str w1) ?_
 refine q (J (w1.length:Int))<|q (J 0)<|nl ?_
 refine meet (σ:=Unit) (fun _ tm os=>⟨updL tm [(0,(str w1))],updL os [],s.M⟩) (fun _=>impl_ValidWord_J1 w1=some r) ?_ ?_
 ·rintro _ tm os h
  unfold impl_ValidWord_J1 at h
  refine sr<|q (str w1) ?_
  refine q (J (w1.length:Int)) ?_
  refine q (bool (decide (((w1.length:Int):Int)≤60))) ?_
  refine aq (bool (decide (((w1.length:Int):Int)≤60)))<|nl ?_
  cases h
  exact ret ⟨rfl,_,_,rfl,rfl⟩
 intro KJ2
 refine block<|res [(0,(str w1)),(5,(J (w1.length:Int))),(6,(J 0))] [] ⟨rfl,rfl,rfl,tv⟩ tv ?_
 refine loopF (σ:=Int) (τ:=Unit) (fun t3 _=>True) (fun t3 _ tm os=>⟨updL tm [(0,(str w1)),(5,(J (w1.length:Int))),(6,(J t3))],updL os [],s.M⟩) ?_ (x:=(0)) (y:=()) h tv
 clear h
 rintro t3 _ tm os - ee1 h hL1 hR1
 unfold impl_ValidWord_S1 at h
 refine sr<|q (bool (decide ((t3:Int)<(w1.length:Int))))<|nl ?_
 refine seq ?_
 rcases oite h with ⟨hc4,h⟩ | ⟨hc4,h⟩
 ·refine cT hc4<|skip<|seq<|block<|sr<|q (J t3) ?_
  refine aq (J t3)<|ns ?_
  refine q (str w1) ?_
  refine q (J t3) ?_
  obtain ⟨c5,h6,h⟩:=obind h
  refine pureR rfl rfl rfl (chr_str h6) rfl (rfl:_=(int .u8 c5)) ?_
  obtain ⟨y7,h8,h⟩:=obind h
  refine cP (strings_IndexByte_ok  h8 hWF) ?_
  intro _ o10 h9
  cases h9
  refine q (bool (decide ((y7:Int)<0)))<|nl ?_
  rcases oite h with ⟨hc11,h⟩ | ⟨hc11,h⟩
  ·refine cT hc11<|sr<|q (bool false)<|nl ?_
   cases h
   have hr:=hR1 _ rfl
   subst hr
   exact ret ⟨rfl,_,_,rfl,rfl⟩
  refine cF hc11<|skip<|inBlock<|region<|q (J (W (t3+1))) ?_
  refine q (J (W (t3+1)))<|nl ?_
  cases h
  exact res [(0,(str w1)),(5,(J (w1.length:Int))),(6,(J (W (t3+1))))] [] ⟨rfl,rfl,rfl,tv⟩ tv (hL1 _ rfl () _ _ tv)
 refine cF hc4<|exit rfl ?_
 obtain ⟨r12,hm,hx⟩:=omap h
 clear h
 subst hx
 have hx:=hR1 _ rfl
 rw[hx] at hm
 have h:=hm
 exact res [(0,(str w1))] [] ⟨rfl,tv⟩ tv (KJ2 () _ _ h)
theorem impl_isOut_ok {p0_1:List UInt8} {s:St} {r:Bool} (h:impl_isOut p0_1=some r) (hs:WF s):ACall Cf 79 [(str p0_1)] s fun v _ s'=>(rB) r v∧s'=s:=by
 refine ACall.pure rfl rfl rfl .B ?_
 have hWF:=hs.lo'
 unfold impl_isOut at h
 refine sr<|q (bool false)<|ns ?_
 refine q (str p0_1) ?_
 obtain ⟨y2,h3,h⟩:=obind h
 refine cP (impl_ValidWord_ok  h3 hWF) ?_
 intro _ o5 h4
 cases h4
 refine q (bool y2) ?_
 refine split 4 (fun f'=>∃ tm' os',f'=⟨updL tm' [(9,(bool (y2&&(decide (((p0_1.length:Int):Int)≤4)))))],updL os' [],s.M⟩) ?_ ?_
 ·rcases Bool.eq_false_or_eq_true y2 with hc6 | hc6
  ·refine kn 5 hc6<|q (str p0_1) ?_
   refine q (J (p0_1.length:Int)) ?_
   refine q (bool (decide (((p0_1.length:Int):Int)≤4))) ?_
   refine q (bool (decide (((p0_1.length:Int):Int)≤4))) ?_
   exact rR ⟨congrArg bool (and_t hc6),tv⟩
  ·refine kn 5 hc6<|sk ?_
   refine sk ?_
   refine sk ?_
   refine q (bool false) ?_
   exact rR ⟨congrArg bool (and_f hc6),tv⟩
 rintro _ ⟨tm,os,rfl⟩
 refine aq (bool (y2&&(decide (((p0_1.length:Int):Int)≤4))))<|nl ?_
 cases h
 exact ret ⟨rfl,_,_,rfl,rfl⟩
theorem impl_ValidRewriter_1_ok {m1:OutMove} {c2:Int} {s:St} {r:Bool} (h:impl_ValidRewriter_1 m1 c2=some r) (hs:WF s):ACall Cf 77 [(agg [(J m1.To),(str m1.Out)]),(eptr [(J c2)] 0)] s fun v _ s'=>(rB) r v∧s'=s:=by
 refine ACall.pure rfl rfl rfl .B ?_
 have hWF:=hs.lo'
 unfold impl_ValidRewriter_1 at h
 refine sr<|makeR rfl rfl rfl rfl rfl rfl (rfl:_=(eptr [(J m1.To),(str m1.Out)] 0))<|q (bool false)<|ns ?_
 refine q (eptr [(J m1.To),(str m1.Out)] 0) ?_
 refine lE (J m1.To) ?_
 refine lE (J c2) ?_
 refine q (J (W (c2 - 1))) ?_
 obtain ⟨y3,h4,h⟩:=obind h
 refine cP (impl_within_ok  h4 hWF) ?_
 intro _ o6 h5
 cases h5
 refine q (bool y3) ?_
 obtain ⟨b8,hb,h⟩:=obind h
 refine split 4 (fun f'=>∃ tm' os',f'=⟨updL tm' [(13,(bool b8))],updL os' [],s.M⟩) ?_ ?_
 ·rcases oite hb with ⟨hc7,hb⟩ | ⟨hc7,hb⟩
  ·have h:=hb
   refine kn 9 hc7<|q (eptr [(J m1.To),(str m1.Out)] 1) ?_
   refine lE (str m1.Out) ?_
   obtain ⟨y9,h10,h⟩:=obind h
   refine cP (impl_isOut_ok  h10 hWF) ?_
   intro _ o12 h11
   cases h11
   refine q (bool y9) ?_
   exact rR ⟨bJ h,tv⟩
  ·refine kn 9 hc7<|sk ?_
   refine sk ?_
   refine sk ?_
   refine q (bool false) ?_
   exact rR ⟨bJ hb,tv⟩
 rintro _ ⟨tm,os,rfl⟩
 refine aq (bool b8)<|nl ?_
 cases h
 exact ret ⟨rfl,_,_,rfl,rfl⟩
theorem impl_size_s_impl_OutMove_ok {list1:List (List (List OutMove))} {z2:Nat} {f3:Bool} {e4:List AV} {s:St} (h5:LR (rL (rL rOutMove 2) 1) 1 list1 z2 e4) {r:Int} (h:impl_size_s_impl_OutMove list1=some r) (hs:WF s):ACall Cf 84 [(sl z2 f3 e4)] s fun v _ s'=>rJ r v∧s'=s:=by
 refine ACall.pure rfl rfl rfl .I ?_
 have hWF:=hs.lo'
 unfold impl_size_s_impl_OutMove at h
 refine sr<|q (J 0)<|ns ?_
 refine q (sl z2 f3 e4)<|AOps.p rfl (len_eq h5) ?_
 refine aq (J (list1.length:Int))<|nl ?_
 cases h
 exact ret ⟨rfl,_,_,rfl,rfl⟩
theorem impl_size_simpl_OutMove_ok {list1:List (List OutMove)} {z2:Nat} {f3:Bool} {e4:List AV} {s:St} (h5:LR (rL rOutMove 2) 1 list1 z2 e4) {r:Int} (h:impl_size_simpl_OutMove list1=some r) (hs:WF s):ACall Cf 85 [(sl z2 f3 e4)] s fun v _ s'=>rJ r v∧s'=s:=by
 refine ACall.pure rfl rfl rfl .I ?_
 have hWF:=hs.lo'
 unfold impl_size_simpl_OutMove at h
 refine sr<|q (J 0)<|ns ?_
 refine q (sl z2 f3 e4)<|AOps.p rfl (len_eq h5) ?_
 refine aq (J (list1.length:Int))<|nl ?_
 cases h
 exact ret ⟨rfl,_,_,rfl,rfl⟩
theorem impl_size_impl_OutMove_ok {list1:List OutMove} {z2:Nat} {f3:Bool} {e4:List AV} {s:St} (h5:LR rOutMove 2 list1 z2 e4) {r:Int} (h:impl_size_impl_OutMove list1=some r) (hs:WF s):ACall Cf 81 [(sl z2 f3 e4)] s fun v _ s'=>rJ r v∧s'=s:=by
 refine ACall.pure rfl rfl rfl .I ?_
 have hWF:=hs.lo'
 unfold impl_size_impl_OutMove at h
 refine sr<|q (J 0)<|ns ?_
 refine q (sl z2 f3 e4)<|AOps.p rfl (len_eq h5) ?_
 refine aq (J (list1.length:Int))<|nl ?_
 cases h
 exact ret ⟨rfl,_,_,rfl,rfl⟩
theorem slices_IndexFunc_simpl_OutMove_impl_OutMove_ok {s1:List OutMove} {f6:OutMove→Option Bool} {z2 g7:Nat} {f3:Bool} {e4 cap8:List AV} {s:St} (h5:LR rOutMove 2 s1 z2 e4) (h9:∀ x vs y,Cs [rOutMove x] vs→f6 x=some y→∀ s,WF s→ACall Cf g7 (vs++cap8) s fun v _ s'=>(rB) y v∧s'=s) {r:Int} (h:slices_IndexFunc_simpl_OutMove_impl_OutMove s1 f6=some r) (hs:WF s):ACall Cf 119 [(sl z2 f3 e4),(AV.fn g7 cap8)] s fun v _ s'=>rJ r v∧s'=s:=by
 refine ACall.pure rfl rfl rfl .I ?_
 have hWF:=hs.lo'
 unfold slices_IndexFunc_simpl_OutMove_impl_OutMove at h
 refine sr<|q (J 0)<|nl ?_
 refine seq<|sr<|q (sl z2 f3 e4)<|AOps.p rfl (len_eq h5)<|q (J 0)<|nl ?_
 refine meet (σ:=Unit) (fun _ tm os=>⟨updL tm [],updL os [],s.M⟩) (fun _=>slices_IndexFunc_simpl_OutMove_impl_OutMove_J1=some r) ?_ ?_
 ·rintro _ tm os h
  unfold slices_IndexFunc_simpl_OutMove_impl_OutMove_J1 at h
  refine sr<|q (J (-1))<|nl ?_
  cases h
  exact ret ⟨rfl,_,_,rfl,rfl⟩
 intro KJ10
 refine block<|res [(0,(sl z2 f3 e4)),(1,(AV.fn g7 cap8)),(7,(J (s1.length:Int))),(8,(J 0))] [] ⟨rfl,rfl,rfl,rfl,tv⟩ tv ?_
 refine loopF (σ:=Int) (τ:=Unit) (fun t11 _=>True) (fun t11 _ tm os=>⟨updL tm [(0,(sl z2 f3 e4)),(1,(AV.fn g7 cap8)),(7,(J (s1.length:Int))),(8,(J t11))],updL os [],s.M⟩) ?_ (x:=(0)) (y:=()) h tv
 clear h
 rintro t11 _ tm os - ee1 h hL1 hR1
 unfold slices_IndexFunc_simpl_OutMove_impl_OutMove_S1 at h
 refine sr<|q (bool (decide ((t11:Int)<(s1.length:Int))))<|nl ?_
 refine seq ?_
 rcases oite h with ⟨hc12,h⟩ | ⟨hc12,h⟩
 ·refine cT hc12<|skip<|seq<|block<|sr<|q (J t11) ?_
  refine aq (J t11)<|ns ?_
  refine q (AV.fn g7 cap8) ?_
  refine q (sl z2 f3 e4) ?_
  refine q (J t11) ?_
  obtain ⟨x13,h14,h⟩:=obind h
  obtain ⟨v17,h15,h16⟩:=idx_sl h5 h14
  obtain ⟨_,rfl,h18⟩:=h15
  obtain ⟨_,_,rfl,h19,h20⟩:=Cs_cons h18
  cases h19
  obtain ⟨_,_,rfl,h21,h22⟩:=Cs_cons h20
  cases h21
  cases Cs_nil h22
  refine pureR rfl rfl rfl h16 rfl (rfl:_=(eptr [(J x13.To),(str x13.Out)] 0))<|lE (agg [(J x13.To),(str x13.Out)]) ?_
  obtain ⟨y23,h24,h⟩:=obind h
  refine callP (g:=g7) (args:=([(agg [(J x13.To),(str x13.Out)])]++cap8)) (p:=(rB) y23) rfl rfl rfl (h9 x13 _ _ (.cons ⟨_,rfl,(.cons rfl (.cons rfl .nil))⟩ .nil) h24 _ hWF) ?_
  intro _ o26 h25
  cases h25
  refine nl ?_
  rcases oite h with ⟨hc27,h⟩ | ⟨hc27,h⟩
  ·refine cT hc27<|sr<|q (J t11) ?_
   refine aq (J t11)<|nl ?_
   cases h
   have hr:=hR1 _ rfl
   subst hr
   exact ret ⟨rfl,_,_,rfl,rfl⟩
  refine cF hc27<|skip<|inBlock<|region<|q (J (W (t11+1))) ?_
  refine q (J (W (t11+1)))<|nl ?_
  cases h
  exact res [(0,(sl z2 f3 e4)),(1,(AV.fn g7 cap8)),(7,(J (s1.length:Int))),(8,(J (W (t11+1))))] [] ⟨rfl,rfl,rfl,rfl,tv⟩ tv (hL1 _ rfl () _ _ tv)
 refine cF hc12<|exit rfl ?_
 obtain ⟨r28,hm,hx⟩:=omap h
 clear h
 subst hx
 have hx:=hR1 _ rfl
 rw[hx] at hm
 have h:=hm
 exact res [] [] tv tv (KJ10 () _ _ h)
theorem slices_ContainsFunc_simpl_OutMove_impl_OutMove_ok {s1:List OutMove} {f6:OutMove→Option Bool} {z2 g7:Nat} {f3:Bool} {e4 cap8:List AV} {s:St} (h5:LR rOutMove 2 s1 z2 e4) (h9:∀ x vs y,Cs [rOutMove x] vs→f6 x=some y→∀ s,WF s→ACall Cf g7 (vs++cap8) s fun v _ s'=>(rB) y v∧s'=s) {r:Bool} (h:slices_ContainsFunc_simpl_OutMove_impl_OutMove s1 f6=some r) (hs:WF s):ACall Cf 82 [(sl z2 f3 e4),(AV.fn g7 cap8)] s fun v _ s'=>(rB) r v∧s'=s:=by
 refine ACall.pure rfl rfl rfl .B ?_
 have hWF:=hs.lo'
 unfold slices_ContainsFunc_simpl_OutMove_impl_OutMove at h
 refine sr<|q (bool false)<|ns ?_
 refine q (sl z2 f3 e4) ?_
 refine q (AV.fn g7 cap8) ?_
 obtain ⟨y10,h11,h⟩:=obind h
 refine cP (slices_IndexFunc_simpl_OutMove_impl_OutMove_ok h5 h9 h11 hWF) ?_
 intro _ o13 h12
 cases h12
 refine q (bool (decide ((y10:Int)≥0))) ?_
 refine aq (bool (decide ((y10:Int)≥0)))<|nl ?_
 cases h
 exact ret ⟨rfl,_,_,rfl,rfl⟩
theorem impl_ValidRewriter_2_1_ok {m1:OutMove} {c2:OutMove→Option Bool} {g3:Nat} {cap4:List AV} {s:St} (h5:∀ x vs y,Cs [rOutMove x] vs→c2 x=some y→∀ s,WF s→ACall Cf g3 (vs++cap4) s fun v _ s'=>(rB) y v∧s'=s) {r:Bool} (h:impl_ValidRewriter_2_1 m1 c2=some r) (hs:WF s):ACall Cf 83 [(agg [(J m1.To),(str m1.Out)]),(eptr [(AV.fn g3 cap4)] 0)] s fun v _ s'=>(rB) r v∧s'=s:=by
 refine ACall.pure rfl rfl rfl .B ?_
 have hWF:=hs.lo'
 unfold impl_ValidRewriter_2_1 at h
 refine sr<|makeR rfl rfl rfl rfl rfl rfl (rfl:_=(eptr [(J m1.To),(str m1.Out)] 0))<|q (bool false)<|ns ?_
 refine lE (AV.fn g3 cap4) ?_
 refine lE (agg [(J m1.To),(str m1.Out)]) ?_
 obtain ⟨y6,h7,h⟩:=obind h
 refine callP (g:=g3) (args:=([(agg [(J m1.To),(str m1.Out)])]++cap4)) (p:=(rB) y6) rfl rfl rfl (h5 m1 _ _ (.cons ⟨_,rfl,(.cons rfl (.cons rfl .nil))⟩ .nil) h7 _ hWF) ?_
 intro _ o9 h8
 cases h8
 refine q (bool (!y6)) ?_
 refine aq (bool (!y6))<|nl ?_
 cases h
 exact ret ⟨rfl,_,_,rfl,rfl⟩
theorem impl_ValidRewriter_2_ok {list1:List OutMove} {many6:Int} {c7:OutMove→Option Bool} {z2 g8:Nat} {f3:Bool} {e4 cap9:List AV} {s:St} (h5:LR rOutMove 2 list1 z2 e4) (h10:∀ x vs y,Cs [rOutMove x] vs→c7 x=some y→∀ s,WF s→ACall Cf g8 (vs++cap9) s fun v _ s'=>(rB) y v∧s'=s) {r:Bool} (h:impl_ValidRewriter_2 list1 many6 c7=some r) (hs:WF s):ACall Cf 80 [(sl z2 f3 e4),(J many6),(eptr [(AV.fn g8 cap9)] 0)] s fun v _ s'=>(rB) r v∧s'=s:=by
 refine ACall.pure rfl rfl rfl .B ?_
 have hWF:=hs.lo'
 unfold impl_ValidRewriter_2 at h
 refine sr<|q (bool false)<|ns ?_
 refine q (sl z2 f3 e4) ?_
 obtain ⟨y11,h12,h⟩:=obind h
 refine cP (impl_size_impl_OutMove_ok h5 h12 hWF) ?_
 intro _ o14 h13
 cases h13
 refine q (J many6) ?_
 refine q (bool (y11 == many6)) ?_
 refine q (bool (y11 == many6)) ?_
 obtain ⟨b16,hb,h⟩:=obind h
 refine split 5 (fun f'=>∃ tm' os',f'=⟨updL tm' [(15,(bool b16))],updL os' [],s.M⟩) ?_ ?_
 ·rcases oite hb with ⟨hc15,hb⟩ | ⟨hc15,hb⟩
  ·have h:=hb
   refine kn 10 hc15<|q (sl z2 f3 e4) ?_
   refine q (AV.fn 83 [(eptr [(AV.fn g8 cap9)] 0)]) ?_
   obtain ⟨y22,h23,h⟩:=obind h
   refine cP (slices_ContainsFunc_simpl_OutMove_impl_OutMove_ok h5 (by intro x vs y hc hx s hs; obtain ⟨_,_,rfl,hv0,hd0⟩:=Cs_cons hc; obtain ⟨_,rfl,h17⟩:=hv0; obtain ⟨_,_,rfl,h18,h19⟩:=Cs_cons h17; cases h18; obtain ⟨_,_,rfl,h20,h21⟩:=Cs_cons h19; cases h20; cases Cs_nil h21; cases Cs_nil hd0; exact impl_ValidRewriter_2_1_ok h10 hx hs) h23 hWF) ?_
   intro _ o25 h24
   cases h24
   refine q (bool (!y22)) ?_
   refine q (bool (!y22)) ?_
   exact rR ⟨bJ h,tv⟩
  ·refine kn 10 hc15<|sk ?_
   refine sk ?_
   refine sk ?_
   refine sk ?_
   refine q (bool false) ?_
   exact rR ⟨bJ hb,tv⟩
 rintro _ ⟨tm,os,rfl⟩
 refine aq (bool b16)<|nl ?_
 cases h
 exact ret ⟨rfl,_,_,rfl,rfl⟩
end Go.Proofs.YtpchecdlbagedaaGreat.law
