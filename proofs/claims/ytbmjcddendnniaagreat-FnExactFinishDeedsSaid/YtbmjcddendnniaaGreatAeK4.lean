import Derived.Test.YtbmjcddendnniaaGreatAeD
import Derived.Test.YtbmjcddendnniaaGreatAe4
import Derived.Test.YtbmjcddendnniaaGreatAeK3
set_option linter.unusedVariables false
set_option linter.unusedSimpArgs false
namespace Go.Proofs.YtbmjcddendnniaaGreat.law
open Go Go.Proofs Ae
open Ae.AV (int sl eptr agg ptr bool str)
set_option maxRecDepth 100000
set_option linter.unusedVariables false
theorem laws_eqChecker_okN {a1 b18:Checker} {z2 z6 z10 z14 z19 z23 z27 z31:Nat} {f3 f7 f11 f15 f20 f24 f28 f32:Bool} {e4 e8 e12 e16 e21 e25 e29 e33:List AV} {s:St} (h5:LR rB 1 a1.Accept z2 e4) (h9:LR (rL rPush 2) 1 a1.Call z6 e8) (h13:LR (rL (rL rJ 1) 1) 1 a1.Return z10 e12) (h17:LR (rL rJ 1) 1 a1.Inner z14 e16) (h22:LR rB 1 b18.Accept z19 e21) (h26:LR (rL rPush 2) 1 b18.Call z23 e25) (h30:LR (rL (rL rJ 1) 1) 1 b18.Return z27 e29) (h34:LR (rL rJ 1) 1 b18.Inner z31 e33) {r:Bool} (h:laws_eqChecker a1 b18=some r) (hs:WF s):ACallN Cf 27 [(agg [(J a1.Stack),(J a1.Start),(sl z2 f3 e4),(sl z6 f7 e8),(sl z10 f11 e12),(sl z14 f15 e16)]),(agg [(J b18.Stack),(J b18.Start),(sl z19 f20 e21),(sl z23 f24 e25),(sl z27 f28 e29),(sl z31 f32 e33)])] s fun v _ s'=>(rB) r v∧s'=s:=by
 refine ACallN.pure rfl rfl rfl .B ?_
 have hWF:=hs.lo'
 unfold laws_eqChecker at h
 refine sr ?_
 refine AOps.makeR rfl rfl rfl rfl rfl rfl (rfl:_=(eptr [(J a1.Stack),(J a1.Start),(sl z2 f3 e4),(sl z6 f7 e8),(sl z10 f11 e12),(sl z14 f15 e16)] 0)) ?_
 refine AOps.makeR rfl rfl rfl rfl rfl rfl (rfl:_=(eptr [(J b18.Stack),(J b18.Start),(sl z19 f20 e21),(sl z23 f24 e25),(sl z27 f28 e29),(sl z31 f32 e33)] 0)) ?_
 refine q (bool false) ?_
 refine nl ?_
 refine AW.seq ?_
 refine sr ?_
 refine q (eptr [(J a1.Stack),(J a1.Start),(sl z2 f3 e4),(sl z6 f7 e8),(sl z10 f11 e12),(sl z14 f15 e16)] 0) ?_
 refine lE (J a1.Stack) ?_
 refine q (eptr [(J b18.Stack),(J b18.Start),(sl z19 f20 e21),(sl z23 f24 e25),(sl z27 f28 e29),(sl z31 f32 e33)] 0) ?_
 refine lE (J b18.Stack) ?_
 refine q (bool (a1.Stack != b18.Stack)) ?_
 refine nl ?_
 rcases oite h with ⟨hc35,h⟩ | ⟨hc35,h⟩
 ·refine cT hc35 ?_
  refine sr ?_
  refine q (bool false) ?_
  refine nl ?_
  cases h
  exact AW.ret ⟨rfl,_,_,rfl,rfl⟩
 refine cF hc35 ?_
 refine AW.skip ?_
 refine AW.seq ?_
 refine sr ?_
 refine q (eptr [(J a1.Stack),(J a1.Start),(sl z2 f3 e4),(sl z6 f7 e8),(sl z10 f11 e12),(sl z14 f15 e16)] 1) ?_
 refine lE (J a1.Start) ?_
 refine q (eptr [(J b18.Stack),(J b18.Start),(sl z19 f20 e21),(sl z23 f24 e25),(sl z27 f28 e29),(sl z31 f32 e33)] 1) ?_
 refine lE (J b18.Start) ?_
 refine q (bool (a1.Start != b18.Start)) ?_
 refine nl ?_
 rcases oite h with ⟨hc36,h⟩ | ⟨hc36,h⟩
 ·refine cT hc36 ?_
  refine sr ?_
  refine q (bool false) ?_
  refine nl ?_
  cases h
  exact AW.ret ⟨rfl,_,_,rfl,rfl⟩
 refine cF hc36 ?_
 refine AW.skip ?_
 refine AW.seq ?_
 refine sr ?_
 refine q (eptr [(J a1.Stack),(J a1.Start),(sl z2 f3 e4),(sl z6 f7 e8),(sl z10 f11 e12),(sl z14 f15 e16)] 2) ?_
 refine lE (sl z2 f3 e4) ?_
 refine q (eptr [(J b18.Stack),(J b18.Start),(sl z19 f20 e21),(sl z23 f24 e25),(sl z27 f28 e29),(sl z31 f32 e33)] 2) ?_
 refine lE (sl z19 f20 e21) ?_
 obtain ⟨y37,h38,h⟩:=obind h
 refine AOps.lendP (g:=52) (args:=[(sl z2 f3 e4),(sl z19 f20 e21)]) (ps:=[(rL rB 1) a1.Accept,(rL rB 1) b18.Accept]) (p:=(rB) y37) rfl rfl rfl rfl rfl rfl rfl (.cons (Fin.of (p:=(rL rB 1) a1.Accept) (.L fun _=>.B) (⟨_,_,_,rfl,h5⟩)) (.cons (Fin.of (p:=(rL rB 1) b18.Accept) (.L fun _=>.B) (⟨_,_,_,rfl,h22⟩)) .nil)) (fun args' hc=>by obtain ⟨_,_,rfl,hv0,hd0⟩:=Cs_cons hc; obtain ⟨z39,f40,e41,rfl,h42⟩:=hv0; obtain ⟨_,_,rfl,hv1,hd1⟩:=Cs_cons hd0; obtain ⟨z43,f44,e45,rfl,h46⟩:=hv1; cases Cs_nil hd1; exact laws_eqBoolS_okN h42 h46 h38 WF.blind) (fun v n hv=>by cases hv; rfl) ?_
 intro _ h47
 cases h47
 refine q (bool (!y37)) ?_
 refine nl ?_
 rcases oite h with ⟨hc48,h⟩ | ⟨hc48,h⟩
 ·refine cT hc48 ?_
  refine sr ?_
  refine q (bool false) ?_
  refine nl ?_
  cases h
  exact AW.ret ⟨rfl,_,_,rfl,rfl⟩
 refine cF hc48 ?_
 refine AW.skip ?_
 refine AW.seq ?_
 refine sr ?_
 refine q (eptr [(J a1.Stack),(J a1.Start),(sl z2 f3 e4),(sl z6 f7 e8),(sl z10 f11 e12),(sl z14 f15 e16)] 3) ?_
 refine lE (sl z6 f7 e8) ?_
 refine q (eptr [(J b18.Stack),(J b18.Start),(sl z19 f20 e21),(sl z23 f24 e25),(sl z27 f28 e29),(sl z31 f32 e33)] 3) ?_
 refine lE (sl z23 f24 e25) ?_
 obtain ⟨y49,h50,h⟩:=obind h
 refine AOps.lendP (g:=53) (args:=[(sl z6 f7 e8),(sl z23 f24 e25)]) (ps:=[(rL (rL rPush 2) 1) a1.Call,(rL (rL rPush 2) 1) b18.Call]) (p:=(rB) y49) rfl rfl rfl rfl rfl rfl rfl (.cons (Fin.of (p:=(rL (rL rPush 2) 1) a1.Call) (.L fun _=>(.L fun _=>(.A (.cons .I (.cons .I .nil))))) (⟨_,_,_,rfl,h9⟩)) (.cons (Fin.of (p:=(rL (rL rPush 2) 1) b18.Call) (.L fun _=>(.L fun _=>(.A (.cons .I (.cons .I .nil))))) (⟨_,_,_,rfl,h26⟩)) .nil)) (fun args' hc=>by obtain ⟨_,_,rfl,hv0,hd0⟩:=Cs_cons hc; obtain ⟨z51,f52,e53,rfl,h54⟩:=hv0; obtain ⟨_,_,rfl,hv1,hd1⟩:=Cs_cons hd0; obtain ⟨z55,f56,e57,rfl,h58⟩:=hv1; cases Cs_nil hd1; exact laws_eqPushSS_okN h54 h58 h50 WF.blind) (fun v n hv=>by cases hv; rfl) ?_
 intro _ h59
 cases h59
 refine q (bool (!y49)) ?_
 refine nl ?_
 rcases oite h with ⟨hc60,h⟩ | ⟨hc60,h⟩
 ·refine cT hc60 ?_
  refine sr ?_
  refine q (bool false) ?_
  refine nl ?_
  cases h
  exact AW.ret ⟨rfl,_,_,rfl,rfl⟩
 refine cF hc60 ?_
 refine AW.skip ?_
 refine AW.seq ?_
 refine sr ?_
 refine q (eptr [(J a1.Stack),(J a1.Start),(sl z2 f3 e4),(sl z6 f7 e8),(sl z10 f11 e12),(sl z14 f15 e16)] 4) ?_
 refine lE (sl z10 f11 e12) ?_
 refine q (eptr [(J b18.Stack),(J b18.Start),(sl z19 f20 e21),(sl z23 f24 e25),(sl z27 f28 e29),(sl z31 f32 e33)] 4) ?_
 refine lE (sl z27 f28 e29) ?_
 obtain ⟨y61,h62,h⟩:=obind h
 refine AOps.lendP (g:=54) (args:=[(sl z10 f11 e12),(sl z27 f28 e29)]) (ps:=[(rL (rL (rL rJ 1) 1) 1) a1.Return,(rL (rL (rL rJ 1) 1) 1) b18.Return]) (p:=(rB) y61) rfl rfl rfl rfl rfl rfl rfl (.cons (Fin.of (p:=(rL (rL (rL rJ 1) 1) 1) a1.Return) (.L fun _=>(.L fun _=>(.L fun _=>.I))) (⟨_,_,_,rfl,h13⟩)) (.cons (Fin.of (p:=(rL (rL (rL rJ 1) 1) 1) b18.Return) (.L fun _=>(.L fun _=>(.L fun _=>.I))) (⟨_,_,_,rfl,h30⟩)) .nil)) (fun args' hc=>by obtain ⟨_,_,rfl,hv0,hd0⟩:=Cs_cons hc; obtain ⟨z63,f64,e65,rfl,h66⟩:=hv0; obtain ⟨_,_,rfl,hv1,hd1⟩:=Cs_cons hd0; obtain ⟨z67,f68,e69,rfl,h70⟩:=hv1; cases Cs_nil hd1; exact laws_eqInt64SSS_okN h66 h70 h62 WF.blind) (fun v n hv=>by cases hv; rfl) ?_
 intro _ h71
 cases h71
 refine q (bool (!y61)) ?_
 refine nl ?_
 rcases oite h with ⟨hc72,h⟩ | ⟨hc72,h⟩
 ·refine cT hc72 ?_
  refine sr ?_
  refine q (bool false) ?_
  refine nl ?_
  cases h
  exact AW.ret ⟨rfl,_,_,rfl,rfl⟩
 refine cF hc72 ?_
 refine AW.skip ?_
 refine AW.seq ?_
 refine sr ?_
 refine q (eptr [(J a1.Stack),(J a1.Start),(sl z2 f3 e4),(sl z6 f7 e8),(sl z10 f11 e12),(sl z14 f15 e16)] 5) ?_
 refine lE (sl z14 f15 e16) ?_
 refine q (eptr [(J b18.Stack),(J b18.Start),(sl z19 f20 e21),(sl z23 f24 e25),(sl z27 f28 e29),(sl z31 f32 e33)] 5) ?_
 refine lE (sl z31 f32 e33) ?_
 obtain ⟨y73,h74,h⟩:=obind h
 refine AOps.lendP (g:=55) (args:=[(sl z14 f15 e16),(sl z31 f32 e33)]) (ps:=[(rL (rL rJ 1) 1) a1.Inner,(rL (rL rJ 1) 1) b18.Inner]) (p:=(rB) y73) rfl rfl rfl rfl rfl rfl rfl (.cons (Fin.of (p:=(rL (rL rJ 1) 1) a1.Inner) (.L fun _=>(.L fun _=>.I)) (⟨_,_,_,rfl,h17⟩)) (.cons (Fin.of (p:=(rL (rL rJ 1) 1) b18.Inner) (.L fun _=>(.L fun _=>.I)) (⟨_,_,_,rfl,h34⟩)) .nil)) (fun args' hc=>by obtain ⟨_,_,rfl,hv0,hd0⟩:=Cs_cons hc; obtain ⟨z75,f76,e77,rfl,h78⟩:=hv0; obtain ⟨_,_,rfl,hv1,hd1⟩:=Cs_cons hd0; obtain ⟨z79,f80,e81,rfl,h82⟩:=hv1; cases Cs_nil hd1; exact laws_eqInt64SS_okN h78 h82 h74 WF.blind) (fun v n hv=>by cases hv; rfl) ?_
 intro _ h83
 cases h83
 refine q (bool (!y73)) ?_
 refine nl ?_
 rcases oite h with ⟨hc84,h⟩ | ⟨hc84,h⟩
 ·refine cT hc84 ?_
  refine sr ?_
  refine q (bool false) ?_
  refine nl ?_
  cases h
  exact AW.ret ⟨rfl,_,_,rfl,rfl⟩
 refine cF hc84 ?_
 refine AW.skip ?_
 refine sr ?_
 refine q (bool true) ?_
 refine nl ?_
 cases h
 exact AW.ret ⟨rfl,_,_,rfl,rfl⟩
theorem laws_eqStringS_okN {a1 b6:List (List UInt8)} {z2 z7:Nat} {f3 f8:Bool} {e4 e9:List AV} {s:St} (h5:LR rS 1 a1 z2 e4) (h10:LR rS 1 b6 z7 e9) {r:Bool} (h:laws_eqStringS a1 b6=some r) (hs:WF s):ACallN Cf 28 [(sl z2 f3 e4),(sl z7 f8 e9)] s fun v _ s'=>(rB) r v∧s'=s:=by
 refine ACallN.pure rfl rfl rfl .B ?_
 have hWF:=hs.lo'
 unfold laws_eqStringS at h
 refine sr ?_
 refine q (bool false) ?_
 refine nl ?_
 refine AW.seq ?_
 refine sr ?_
 refine q (sl z2 f3 e4) ?_
 refine AOps.p rfl (len_eq h5) ?_
 refine q (sl z7 f8 e9) ?_
 refine AOps.p rfl (len_eq h10) ?_
 refine q (bool ((a1.length:Int) != (b6.length:Int))) ?_
 refine nl ?_
 rcases oite h with ⟨hc11,h⟩ | ⟨hc11,h⟩
 ·refine cT hc11 ?_
  refine sr ?_
  refine q (bool false) ?_
  refine nl ?_
  cases h
  exact AW.ret ⟨rfl,_,_,rfl,rfl⟩
 refine cF hc11 ?_
 refine AW.skip ?_
 refine AW.seq ?_
 refine sr ?_
 refine q (J 0) ?_
 refine nl ?_
 refine AW.meet (σ:=Unit) (fun _ tm os=>⟨updL tm [],updL os [],{ s with lo:=s.n }⟩) (fun _=>laws_eqStringS_J1=some r) ?_ ?_
 ·rintro _ tm os h
  unfold laws_eqStringS_J1 at h
  refine sr ?_
  refine q (bool true) ?_
  refine nl ?_
  cases h
  exact AW.ret ⟨rfl,_,_,rfl,rfl⟩
 intro KJ12
 refine AW.block ?_
 refine AW.res [(0,(sl z2 f3 e4)),(1,(sl z7 f8 e9)),(5,(J 0))] [] ⟨rfl,rfl,rfl,trivial⟩ trivial ?_
 refine AW.loopF (σ:=Int) (τ:=Unit) (fun i13 _=>True) (fun i13 _ tm os=>⟨updL tm [(0,(sl z2 f3 e4)),(1,(sl z7 f8 e9)),(5,(J i13))],updL os [],{ s with lo:=s.n }⟩) ?_ (x:=(0)) (y:=()) h trivial
 clear h
 rintro i13 _ tm os - ee1 h hL1 hR1
 unfold laws_eqStringS_S1 at h
 refine AW.seq ?_
 refine sr ?_
 refine q (J i13) ?_
 refine q (sl z2 f3 e4) ?_
 refine AOps.p rfl (len_eq h5) ?_
 refine q (bool (decide ((i13:Int)<(a1.length:Int)))) ?_
 refine nl ?_
 rcases oite h with ⟨hc14,h⟩ | ⟨hc14,h⟩
 ·refine cT hc14 ?_
  refine AW.skip ?_
  refine AW.seq ?_
  refine AW.block ?_
  refine sr ?_
  refine q (sl z2 f3 e4) ?_
  refine q (J i13) ?_
  obtain ⟨x15,h16,h⟩:=obind h
  obtain ⟨v19,h17,h18⟩:=idx_sl h5 h16
  cases h17
  refine AOps.pureR rfl rfl rfl h18 rfl (rfl:_=(eptr [(str x15)] 0)) ?_
  refine lE (str x15) ?_
  refine q (sl z7 f8 e9) ?_
  refine q (J i13) ?_
  obtain ⟨x20,h21,h⟩:=obind h
  obtain ⟨v24,h22,h23⟩:=idx_sl h10 h21
  cases h22
  refine AOps.pureR rfl rfl rfl h23 rfl (rfl:_=(eptr [(str x20)] 0)) ?_
  refine lE (str x20) ?_
  refine q (bool (!(x15 == x20))) ?_
  refine nl ?_
  rcases oite h with ⟨hc25,h⟩ | ⟨hc25,h⟩
  ·refine cT hc25 ?_
   refine sr ?_
   refine q (bool false) ?_
   refine nl ?_
   cases h
   have hr:=hR1 _ rfl
   subst hr
   exact AW.ret ⟨rfl,_,_,rfl,rfl⟩
  refine cF hc25 ?_
  refine AW.skip ?_
  refine AW.inBlock ?_
  refine AW.region ?_
  refine q (J i13) ?_
  refine q (J (IntKind.wrap .i64 (i13+1))) ?_
  refine aq (J (IntKind.wrap .i64 (i13+1))) ?_
  refine nl ?_
  cases h
  exact AW.res [(0,(sl z2 f3 e4)),(1,(sl z7 f8 e9)),(5,(J (IntKind.wrap .i64 (i13+1))))] [] ⟨rfl,rfl,rfl,trivial⟩ trivial (hL1 _ rfl () _ _ trivial)
 refine cF hc14 ?_
 refine AW.exit rfl ?_
 obtain ⟨r26,hm,hx⟩:=omap h
 clear h
 subst hx
 have hx:=hR1 _ rfl
 rw[hx] at hm
 have h:=hm
 exact AW.res [] [] trivial trivial (KJ12 () _ _ h)
theorem laws_eqStream_okN {a1 b22:Stream} {z2 z6 z10 z14 z18 z23 z27 z31 z35 z39:Nat} {f3 f7 f11 f15 f19 f24 f28 f32 f36 f40:Bool} {e4 e8 e12 e16 e20 e25 e29 e33 e37 e41:List AV} {s:St} (h5:LR rB 1 a1.Checker.Accept z2 e4) (h9:LR (rL rPush 2) 1 a1.Checker.Call z6 e8) (h13:LR (rL (rL rJ 1) 1) 1 a1.Checker.Return z10 e12) (h17:LR (rL rJ 1) 1 a1.Checker.Inner z14 e16) (h21:LR rS 1 a1.Pieces z18 e20) (h26:LR rB 1 b22.Checker.Accept z23 e25) (h30:LR (rL rPush 2) 1 b22.Checker.Call z27 e29) (h34:LR (rL (rL rJ 1) 1) 1 b22.Checker.Return z31 e33) (h38:LR (rL rJ 1) 1 b22.Checker.Inner z35 e37) (h42:LR rS 1 b22.Pieces z39 e41) {r:Bool} (h:laws_eqStream a1 b22=some r) (hs:WF s):ACallN Cf 11 [(agg [(J a1.Checker.Stack),(J a1.Checker.Start),(sl z2 f3 e4),(sl z6 f7 e8),(sl z10 f11 e12),(sl z14 f15 e16),(sl z18 f19 e20)]),(agg [(J b22.Checker.Stack),(J b22.Checker.Start),(sl z23 f24 e25),(sl z27 f28 e29),(sl z31 f32 e33),(sl z35 f36 e37),(sl z39 f40 e41)])] s fun v _ s'=>(rB) r v∧s'=s:=by
 refine ACallN.pure rfl rfl rfl .B ?_
 have hWF:=hs.lo'
 unfold laws_eqStream at h
 refine sr ?_
 refine AOps.makeR rfl rfl rfl rfl rfl rfl (rfl:_=(eptr [(J a1.Checker.Stack),(J a1.Checker.Start),(sl z2 f3 e4),(sl z6 f7 e8),(sl z10 f11 e12),(sl z14 f15 e16),(sl z18 f19 e20)] 0)) ?_
 refine AOps.makeR rfl rfl rfl rfl rfl rfl (rfl:_=(eptr [(J b22.Checker.Stack),(J b22.Checker.Start),(sl z23 f24 e25),(sl z27 f28 e29),(sl z31 f32 e33),(sl z35 f36 e37),(sl z39 f40 e41)] 0)) ?_
 refine q (bool false) ?_
 refine nl ?_
 refine AW.seq ?_
 refine sr ?_
 refine q (eptr [(J a1.Checker.Stack),(J a1.Checker.Start),(sl z2 f3 e4),(sl z6 f7 e8),(sl z10 f11 e12),(sl z14 f15 e16),(sl z18 f19 e20)] 0) ?_
 refine lE (agg [(J a1.Checker.Stack),(J a1.Checker.Start),(sl z2 f3 e4),(sl z6 f7 e8),(sl z10 f11 e12),(sl z14 f15 e16)]) ?_
 refine q (eptr [(J b22.Checker.Stack),(J b22.Checker.Start),(sl z23 f24 e25),(sl z27 f28 e29),(sl z31 f32 e33),(sl z35 f36 e37),(sl z39 f40 e41)] 0) ?_
 refine lE (agg [(J b22.Checker.Stack),(J b22.Checker.Start),(sl z23 f24 e25),(sl z27 f28 e29),(sl z31 f32 e33),(sl z35 f36 e37)]) ?_
 obtain ⟨y43,h44,h⟩:=obind h
 refine AOps.lendP (g:=27) (args:=[(agg [(J a1.Checker.Stack),(J a1.Checker.Start),(sl z2 f3 e4),(sl z6 f7 e8),(sl z10 f11 e12),(sl z14 f15 e16)]),(agg [(J b22.Checker.Stack),(J b22.Checker.Start),(sl z23 f24 e25),(sl z27 f28 e29),(sl z31 f32 e33),(sl z35 f36 e37)])]) (ps:=[(rChecker) a1.Checker,(rChecker) b22.Checker]) (p:=(rB) y43) rfl rfl rfl rfl rfl rfl rfl (.cons (Fin.of (p:=(rChecker) a1.Checker) (.A (.cons .I (.cons .I (.cons (.L fun _=>.B) (.cons (.L fun _=>(.L fun _=>(.A (.cons .I (.cons .I .nil))))) (.cons (.L fun _=>(.L fun _=>(.L fun _=>.I))) (.cons (.L fun _=>(.L fun _=>.I)) .nil))))))) (⟨_,rfl,(.cons rfl (.cons rfl (.cons ⟨_,_,_,rfl,h5⟩ (.cons ⟨_,_,_,rfl,h9⟩ (.cons ⟨_,_,_,rfl,h13⟩ (.cons ⟨_,_,_,rfl,h17⟩ .nil))))))⟩)) (.cons (Fin.of (p:=(rChecker) b22.Checker) (.A (.cons .I (.cons .I (.cons (.L fun _=>.B) (.cons (.L fun _=>(.L fun _=>(.A (.cons .I (.cons .I .nil))))) (.cons (.L fun _=>(.L fun _=>(.L fun _=>.I))) (.cons (.L fun _=>(.L fun _=>.I)) .nil))))))) (⟨_,rfl,(.cons rfl (.cons rfl (.cons ⟨_,_,_,rfl,h26⟩ (.cons ⟨_,_,_,rfl,h30⟩ (.cons ⟨_,_,_,rfl,h34⟩ (.cons ⟨_,_,_,rfl,h38⟩ .nil))))))⟩)) .nil)) (fun args' hc=>by obtain ⟨_,_,rfl,hv0,hd0⟩:=Cs_cons hc; obtain ⟨_,rfl,h45⟩:=hv0; obtain ⟨_,_,rfl,h46,h47⟩:=Cs_cons h45; cases h46; obtain ⟨_,_,rfl,h48,h49⟩:=Cs_cons h47; cases h48; obtain ⟨_,_,rfl,h50,h51⟩:=Cs_cons h49; obtain ⟨z52,f53,e54,rfl,h55⟩:=h50; obtain ⟨_,_,rfl,h56,h57⟩:=Cs_cons h51; obtain ⟨z58,f59,e60,rfl,h61⟩:=h56; obtain ⟨_,_,rfl,h62,h63⟩:=Cs_cons h57; obtain ⟨z64,f65,e66,rfl,h67⟩:=h62; obtain ⟨_,_,rfl,h68,h69⟩:=Cs_cons h63; obtain ⟨z70,f71,e72,rfl,h73⟩:=h68; cases Cs_nil h69; obtain ⟨_,_,rfl,hv1,hd1⟩:=Cs_cons hd0; obtain ⟨_,rfl,h74⟩:=hv1; obtain ⟨_,_,rfl,h75,h76⟩:=Cs_cons h74; cases h75; obtain ⟨_,_,rfl,h77,h78⟩:=Cs_cons h76; cases h77; obtain ⟨_,_,rfl,h79,h80⟩:=Cs_cons h78; obtain ⟨z81,f82,e83,rfl,h84⟩:=h79; obtain ⟨_,_,rfl,h85,h86⟩:=Cs_cons h80; obtain ⟨z87,f88,e89,rfl,h90⟩:=h85; obtain ⟨_,_,rfl,h91,h92⟩:=Cs_cons h86; obtain ⟨z93,f94,e95,rfl,h96⟩:=h91; obtain ⟨_,_,rfl,h97,h98⟩:=Cs_cons h92; obtain ⟨z99,f100,e101,rfl,h102⟩:=h97; cases Cs_nil h98; cases Cs_nil hd1; exact laws_eqChecker_okN h55 h61 h67 h73 h84 h90 h96 h102 h44 WF.blind) (fun v n hv=>by cases hv; rfl) ?_
 intro _ h103
 cases h103
 refine q (bool (!y43)) ?_
 refine nl ?_
 rcases oite h with ⟨hc104,h⟩ | ⟨hc104,h⟩
 ·refine cT hc104 ?_
  refine sr ?_
  refine q (bool false) ?_
  refine nl ?_
  cases h
  exact AW.ret ⟨rfl,_,_,rfl,rfl⟩
 refine cF hc104 ?_
 refine AW.skip ?_
 refine AW.seq ?_
 refine sr ?_
 refine q (eptr [(J a1.Checker.Stack),(J a1.Checker.Start),(sl z2 f3 e4),(sl z6 f7 e8),(sl z10 f11 e12),(sl z14 f15 e16),(sl z18 f19 e20)] 6) ?_
 refine lE (sl z18 f19 e20) ?_
 refine q (eptr [(J b22.Checker.Stack),(J b22.Checker.Start),(sl z23 f24 e25),(sl z27 f28 e29),(sl z31 f32 e33),(sl z35 f36 e37),(sl z39 f40 e41)] 6) ?_
 refine lE (sl z39 f40 e41) ?_
 obtain ⟨y105,h106,h⟩:=obind h
 refine AOps.lendP (g:=28) (args:=[(sl z18 f19 e20),(sl z39 f40 e41)]) (ps:=[(rL rS 1) a1.Pieces,(rL rS 1) b22.Pieces]) (p:=(rB) y105) rfl rfl rfl rfl rfl rfl rfl (.cons (Fin.of (p:=(rL rS 1) a1.Pieces) (.L fun _=>.S) (⟨_,_,_,rfl,h21⟩)) (.cons (Fin.of (p:=(rL rS 1) b22.Pieces) (.L fun _=>.S) (⟨_,_,_,rfl,h42⟩)) .nil)) (fun args' hc=>by obtain ⟨_,_,rfl,hv0,hd0⟩:=Cs_cons hc; obtain ⟨z107,f108,e109,rfl,h110⟩:=hv0; obtain ⟨_,_,rfl,hv1,hd1⟩:=Cs_cons hd0; obtain ⟨z111,f112,e113,rfl,h114⟩:=hv1; cases Cs_nil hd1; exact laws_eqStringS_okN h110 h114 h106 WF.blind) (fun v n hv=>by cases hv; rfl) ?_
 intro _ h115
 cases h115
 refine q (bool (!y105)) ?_
 refine nl ?_
 rcases oite h with ⟨hc116,h⟩ | ⟨hc116,h⟩
 ·refine cT hc116 ?_
  refine sr ?_
  refine q (bool false) ?_
  refine nl ?_
  cases h
  exact AW.ret ⟨rfl,_,_,rfl,rfl⟩
 refine cF hc116 ?_
 refine AW.skip ?_
 refine sr ?_
 refine q (bool true) ?_
 refine nl ?_
 cases h
 exact AW.ret ⟨rfl,_,_,rfl,rfl⟩
theorem laws_markBoolS_K10_ok {a4:List Bool} {k5:Int} {h1:AV} {k2:KT} {s:St} (ho3:h1.one=true) {ex:List Nat} {Ls0:List (List BX)} (hH0:HS ex true s s (([]:List BX)++Ls0.flatten)) (hG0:AllG [OS oE4 h1 k2 a4] Ls0) (hl:LoOK ex true s) {r:Int × (List Bool)} (h:laws_markBoolS_K10 a4 k5=some r) (hs:WF s):ACall Cf 56 [h1,(J k5)] s (fun v _ s'=>∃ (Ls':List (List BX)),v=(J r.1)∧HS ex true s s' (([]:List BX)++Ls'.flatten)∧AllG [OS oE4 h1 k2 r.2] Ls') true:=by
 refine ACall.keepR rfl rfl rfl ?_
 unfold laws_markBoolS_K10 at h
 refine sr ?_
 refine q (J 0) ?_
 refine nl ?_
 refine AW.seq ?_
 refine sr ?_
 refine q (J 0) ?_
 refine nl ?_
 refine AW.meet (σ:=(List Bool) × Int × St × (List (List BX))) (fun (m6,k7,s8,Ls9) tm os=>⟨updL tm [(1,(J k7))],updL os [],s8⟩) (fun (m6,k7,s8,Ls9)=>(HS ex true s s8 (([]:List BX)++Ls9.flatten))∧(AllG [OS oE4 h1 k2 m6] Ls9)∧laws_markBoolS_K10_J1 m6 k7=some r) ?_ ?_
 ·rintro ⟨m6,k7,s8,Ls9⟩ tm os ⟨hH10,hG11,h⟩
  unfold laws_markBoolS_K10_J1 at h
  refine sr ?_
  refine q (J k7) ?_
  refine aq (J k7) ?_
  refine nl ?_
  cases h
  exact AW.ret ⟨_,_,rfl,⟨Ls9,rfl,hH10,hG11⟩⟩
 intro KJ12
 refine AW.block ?_
 refine AW.res [(0,h1),(1,(J k5)),(5,(J 0))] [] ⟨rfl,rfl,rfl,trivial⟩ trivial ?_
 refine AW.loopF (σ:=(List Bool) × Int × Int) (τ:=St × (List (List BX))) (fun (m13,k14,i15) (s16,Ls17)=>(HS ex true s s16 (([]:List BX)++Ls17.flatten))∧(AllG [OS oE4 h1 k2 m13] Ls17)) (fun (m13,k14,i15) (s16,Ls17) tm os=>⟨updL tm [(0,h1),(1,(J k14)),(5,(J i15))],updL os [],s16⟩) ?_ (x:=(a4,k5,0)) (y:=(s,Ls0)) h ⟨hH0,hG0⟩
 clear h
 rintro ⟨m13,k14,i15⟩ ⟨s16,Ls17⟩ tm os ⟨hH18,hG19⟩ ee1 h hL1 hR1
 unfold laws_markBoolS_K10_S1 at h
 dsimp only at h
 refine AW.seq ?_
 refine sr ?_
 refine q (J i15) ?_
 refine q h1 ?_
 refine AOps.lenO (j:=0) hG19 rfl Sub.here rfl rfl rfl rfl rfl ?_
 refine q (bool (decide ((i15:Int)<(m13.length:Int)))) ?_
 refine nl ?_
 rcases oite h with ⟨hc20,h⟩ | ⟨hc20,h⟩
 ·refine cT hc20 ?_
  refine AW.skip ?_
  refine AW.seq ?_
  refine AW.block ?_
  refine sr ?_
  refine q h1 ?_
  refine q (J i15) ?_
  refine q (J k14) ?_
  obtain ⟨q21,h22,h⟩:=obind h
  refine AOps.pureR rfl rfl rfl (rem_ok h22) rfl (rfl:_=(J q21)) ?_
  refine q (bool (q21 == 0)) ?_
  obtain ⟨x25,h26,h⟩:=obind h
  refine AOps.idxO (j:=0) hG19 rfl Sub.here h26 rfl rfl rfl rfl rfl rfl rfl rfl rfl ?_
  intro b23 hb24
  refine AOps.stO (j:=0) (q:=0) (v:=(bool (q21 == 0))) (y':=(q21 == 0)) hH18 hG19 hl rfl Sub.here h26 hb24 rfl rfl rfl rfl rfl rfl rfl rfl (lt_b rfl) (le_b rfl) rfl (fun c B hc=>oLeaf_set hc rfl) ?_
  intro Ls27 s28 hG29 hH30
  refine nl ?_
  refine AW.region ?_
  refine q (J k14) ?_
  refine q (J (IntKind.wrap .i64 (k14+1))) ?_
  refine aq (J (IntKind.wrap .i64 (k14+1))) ?_
  refine nl ?_
  refine AW.inBlock ?_
  refine AW.region ?_
  refine q (J i15) ?_
  refine q (J (IntKind.wrap .i64 (i15+1))) ?_
  refine aq (J (IntKind.wrap .i64 (i15+1))) ?_
  refine nl ?_
  cases h
  exact AW.res [(0,h1),(1,(J (IntKind.wrap .i64 (k14+1)))),(5,(J (IntKind.wrap .i64 (i15+1))))] [] ⟨rfl,rfl,rfl,trivial⟩ trivial (hL1 _ rfl (s28,Ls27) _ _ ⟨hH30,hG29⟩)
 refine cF hc20 ?_
 refine AW.exit rfl ?_
 obtain ⟨r31,hm,hx⟩:=omap h
 clear h
 subst hx
 have hx:=hR1 _ rfl
 rw[hx] at hm
 have h:=hm
 exact AW.res [(1,(J k14))] [] ⟨rfl,trivial⟩ trivial (KJ12 (m13,k14,s16,Ls17) _ _ ⟨hH18,hG19,h⟩)
theorem laws_markPushS_K10_ok {a4:List Push} {k5:Int} {h1:AV} {k2:KT} {s:St} (ho3:h1.one=true) {ex:List Nat} {Ls0:List (List BX)} (hH0:HS ex true s s (([]:List BX)++Ls0.flatten)) (hG0:AllG [OS oE139 h1 k2 a4] Ls0) (hl:LoOK ex true s) {r:Int × (List Push)} (h:laws_markPushS_K10 a4 k5=some r) (hs:WF s):ACall Cf 87 [h1,(J k5)] s (fun v _ s'=>∃ (Ls':List (List BX)),v=(J r.1)∧HS ex true s s' (([]:List BX)++Ls'.flatten)∧AllG [OS oE139 h1 k2 r.2] Ls') true:=by
 refine ACall.keepR rfl rfl rfl ?_
 unfold laws_markPushS_K10 at h
 refine sr ?_
 refine q (J 0) ?_
 refine nl ?_
 refine AW.seq ?_
 refine sr ?_
 refine q (J 0) ?_
 refine nl ?_
 refine AW.meet (σ:=(List Push) × Int × St × (List (List BX))) (fun (m6,k7,s8,Ls9) tm os=>⟨updL tm [(1,(J k7))],updL os [],s8⟩) (fun (m6,k7,s8,Ls9)=>(HS ex true s s8 (([]:List BX)++Ls9.flatten))∧(AllG [OS oE139 h1 k2 m6] Ls9)∧laws_markPushS_K10_J1 m6 k7=some r) ?_ ?_
 ·rintro ⟨m6,k7,s8,Ls9⟩ tm os ⟨hH10,hG11,h⟩
  unfold laws_markPushS_K10_J1 at h
  refine sr ?_
  refine q (J k7) ?_
  refine aq (J k7) ?_
  refine nl ?_
  cases h
  exact AW.ret ⟨_,_,rfl,⟨Ls9,rfl,hH10,hG11⟩⟩
 intro KJ12
 refine AW.block ?_
 refine AW.res [(0,h1),(1,(J k5)),(5,(J 0))] [] ⟨rfl,rfl,rfl,trivial⟩ trivial ?_
 refine AW.loopF (σ:=(List Push) × Int × Int) (τ:=St × (List (List BX))) (fun (m13,k14,i15) (s16,Ls17)=>(HS ex true s s16 (([]:List BX)++Ls17.flatten))∧(AllG [OS oE139 h1 k2 m13] Ls17)) (fun (m13,k14,i15) (s16,Ls17) tm os=>⟨updL tm [(0,h1),(1,(J k14)),(5,(J i15))],updL os [],s16⟩) ?_ (x:=(a4,k5,0)) (y:=(s,Ls0)) h ⟨hH0,hG0⟩
 clear h
 rintro ⟨m13,k14,i15⟩ ⟨s16,Ls17⟩ tm os ⟨hH18,hG19⟩ ee1 h hL1 hR1
 unfold laws_markPushS_K10_S1 at h
 dsimp only at h
 refine AW.seq ?_
 refine sr ?_
 refine q (J i15) ?_
 refine q h1 ?_
 refine AOps.lenO (j:=0) hG19 rfl Sub.here rfl rfl rfl rfl rfl ?_
 refine q (bool (decide ((i15:Int)<(m13.length:Int)))) ?_
 refine nl ?_
 rcases oite h with ⟨hc20,h⟩ | ⟨hc20,h⟩
 ·refine cT hc20 ?_
  refine AW.skip ?_
  refine AW.seq ?_
  refine AW.block ?_
  refine sr ?_
  refine q h1 ?_
  refine q (J i15) ?_
  refine q (J k14) ?_
  obtain ⟨x23,h24,h⟩:=obind h
  refine AOps.idxO (j:=0) hG19 rfl Sub.here h24 rfl rfl rfl rfl rfl rfl rfl rfl rfl ?_
  intro b21 hb22
  refine q (ptr b21 (0+Int.toNat i15*2)) ?_
  refine AOps.stO (j:=0) (q:=0) (v:=(J k14)) (y':=({ x23 with To:=k14 }:Push)) hH18 hG19 hl rfl Sub.here h24 hb22 rfl rfl rfl rfl rfl rfl rfl rfl (lt_b rfl) (le_b rfl) rfl (fun c B hc=>by obtain ⟨⟨_,hr,rfl⟩,rfl⟩:=hc; obtain ⟨_,rfl,h29⟩:=hr; obtain ⟨_,_,rfl,h30,h31⟩:=Cs_cons h29; cases h30; obtain ⟨_,_,rfl,h32,h33⟩:=Cs_cons h31; cases h32; cases Cs_nil h33; exact ⟨⟨(agg [(J k14),(J x23.Put)]),⟨_,rfl,(.cons rfl (.cons rfl .nil))⟩,rfl⟩,rfl⟩) ?_
  intro Ls25 s26 hG27 hH28
  refine ns ?_
  refine q (J k14) ?_
  refine q (J (IntKind.wrap .i64 (k14+1))) ?_
  refine aq (J (IntKind.wrap .i64 (k14+1))) ?_
  refine ns ?_
  refine q h1 ?_
  refine q (J i15) ?_
  refine q (J (IntKind.wrap .i64 (k14+1))) ?_
  refine AOps.idxO (j:=0) hG27 rfl Sub.here (ix_set h24) rfl rfl rfl rfl rfl rfl rfl rfl rfl ?_
  intro b34 hb35
  refine q (ptr b34 (0+Int.toNat i15*2+1)) ?_
  refine AOps.stO (j:=0) (q:=1) (v:=(J (IntKind.wrap .i64 (k14+1)))) (y':=({ ({ x23 with To:=k14 }:Push) with Put:=IntKind.wrap .i64 (k14+1) }:Push)) hH28 hG27 hl rfl Sub.here (ix_set h24) hb35 rfl rfl rfl rfl rfl rfl rfl rfl (lt_b rfl) (le_b rfl) rfl (fun c B hc=>by obtain ⟨⟨_,hr,rfl⟩,rfl⟩:=hc; obtain ⟨_,rfl,h40⟩:=hr; obtain ⟨_,_,rfl,h41,h42⟩:=Cs_cons h40; cases h41; obtain ⟨_,_,rfl,h43,h44⟩:=Cs_cons h42; cases h43; cases Cs_nil h44; exact ⟨⟨(agg [(J (({ x23 with To:=k14 }:Push).To)),(J (IntKind.wrap .i64 (k14+1)))]),⟨_,rfl,(.cons rfl (.cons rfl .nil))⟩,rfl⟩,rfl⟩) ?_
  intro Ls36 s37 hG38 hH39
  refine nl ?_
  refine AW.region ?_
  refine q (J (IntKind.wrap .i64 (k14+1))) ?_
  refine q (J (IntKind.wrap .i64 ((IntKind.wrap .i64 (k14+1))+1))) ?_
  refine aq (J (IntKind.wrap .i64 ((IntKind.wrap .i64 (k14+1))+1))) ?_
  refine nl ?_
  refine AW.inBlock ?_
  refine AW.region ?_
  refine q (J i15) ?_
  refine q (J (IntKind.wrap .i64 (i15+1))) ?_
  refine aq (J (IntKind.wrap .i64 (i15+1))) ?_
  refine nl ?_
  cases h
  exact AW.res [(0,h1),(1,(J (IntKind.wrap .i64 ((IntKind.wrap .i64 (k14+1))+1)))),(5,(J (IntKind.wrap .i64 (i15+1))))] [] ⟨rfl,rfl,rfl,trivial⟩ trivial (hL1 _ rfl (s37,Ls36) _ _ ⟨hH39,hG38⟩)
 refine cF hc20 ?_
 refine AW.exit rfl ?_
 obtain ⟨r45,hm,hx⟩:=omap h
 clear h
 subst hx
 have hx:=hR1 _ rfl
 rw[hx] at hm
 have h:=hm
 exact AW.res [(1,(J k14))] [] ⟨rfl,trivial⟩ trivial (KJ12 (m13,k14,s16,Ls17) _ _ ⟨hH18,hG19,h⟩)
theorem laws_markPushSS_K10_ok {a4:List (List Push)} {k5:Int} {h1:AV} {k2:KT} {s:St} (ho3:h1.one=true) {ex:List Nat} {Ls0:List (List BX)} (hH0:HS ex true s s (([]:List BX)++Ls0.flatten)) (hG0:AllG [OS oE119 h1 k2 a4] Ls0) (hl:LoOK ex true s) {r:Int × (List (List Push))} (h:laws_markPushSS_K10 a4 k5=some r) (hs:WF s):ACall Cf 57 [h1,(J k5)] s (fun v _ s'=>∃ (Ls':List (List BX)),v=(J r.1)∧HS ex true s s' (([]:List BX)++Ls'.flatten)∧AllG [OS oE119 h1 k2 r.2] Ls') true:=by
 refine ACall.keepR rfl rfl rfl ?_
 unfold laws_markPushSS_K10 at h
 refine sr ?_
 refine q (J 0) ?_
 refine nl ?_
 refine AW.seq ?_
 refine sr ?_
 refine q (J 0) ?_
 refine nl ?_
 refine AW.meet (σ:=(List (List Push)) × Int × St × (List (List BX))) (fun (m6,k7,s8,Ls9) tm os=>⟨updL tm [(1,(J k7))],updL os [],s8⟩) (fun (m6,k7,s8,Ls9)=>(HS ex true s s8 (([]:List BX)++Ls9.flatten))∧(AllG [OS oE119 h1 k2 m6] Ls9)∧laws_markPushSS_K10_J1 m6 k7=some r) ?_ ?_
 ·rintro ⟨m6,k7,s8,Ls9⟩ tm os ⟨hH10,hG11,h⟩
  unfold laws_markPushSS_K10_J1 at h
  refine sr ?_
  refine q (J k7) ?_
  refine aq (J k7) ?_
  refine nl ?_
  cases h
  exact AW.ret ⟨_,_,rfl,⟨Ls9,rfl,hH10,hG11⟩⟩
 intro KJ12
 refine AW.block ?_
 refine AW.res [(0,h1),(1,(J k5)),(5,(J 0))] [] ⟨rfl,rfl,rfl,trivial⟩ trivial ?_
 refine AW.loopF (σ:=(List (List Push)) × Int × Int) (τ:=St × (List (List BX))) (fun (m13,k14,i15) (s16,Ls17)=>(HS ex true s s16 (([]:List BX)++Ls17.flatten))∧(AllG [OS oE119 h1 k2 m13] Ls17)) (fun (m13,k14,i15) (s16,Ls17) tm os=>⟨updL tm [(0,h1),(1,(J k14)),(5,(J i15))],updL os [],s16⟩) ?_ (x:=(a4,k5,0)) (y:=(s,Ls0)) h ⟨hH0,hG0⟩
 clear h
 rintro ⟨m13,k14,i15⟩ ⟨s16,Ls17⟩ tm os ⟨hH18,hG19⟩ ee1 h hL1 hR1
 unfold laws_markPushSS_K10_S1 at h
 dsimp only at h
 refine AW.seq ?_
 refine sr ?_
 refine q (J i15) ?_
 refine q h1 ?_
 refine AOps.lenO (j:=0) hG19 rfl Sub.here rfl rfl rfl rfl rfl ?_
 refine q (bool (decide ((i15:Int)<(m13.length:Int)))) ?_
 refine nl ?_
 rcases oite h with ⟨hc20,h⟩ | ⟨hc20,h⟩
 ·refine cT hc20 ?_
  refine AW.skip ?_
  refine AW.seq ?_
  refine AW.block ?_
  refine AW.region ?_
  refine q h1 ?_
  refine q (J i15) ?_
  obtain ⟨x23,h24,h⟩:=obind h
  refine AOps.idxO (j:=0) hG19 rfl Sub.here h24 rfl rfl rfl rfl rfl rfl rfl rfl rfl ?_
  intro b21 hb22
  refine AOps.ldO (j:=0) (q:=0) hH18 hG19 rfl Sub.here h24 hb22 rfl rfl rfl rfl rfl (lt_b rfl) (le_b rfl) rfl rfl ?_ (fun c B hc=>by obtain ⟨rfl,_⟩:=hc; exact ⟨_,rfl⟩)
  intro c25 B26 v27 h28 h29
  obtain ⟨rfl,_⟩:=h28
  cases h29
  refine q (J k14) ?_
  obtain ⟨y30,h31,h⟩:=obind h
  have hP32:=HS.pop0 hH18
  have hF0:AllG ([]:List (List BX→Prop)) []:=AllG.nil
  obtain ⟨Ls33,Lf34,hG35,hF36,hP37⟩:=HS.popS hP32 hG19 hF0 (j:=0) rfl (Sub.down Sub.here h24)
  refine AOps.callF (al:=true) (g:=87) (args:=[((KT.at k2 (Int.toNat i15)) []),(J k14)]) rfl rfl rfl (laws_markPushS_K10_ok (Sub.one hG19 (j:=0) rfl (Sub.down Sub.here h24)) (HS.enterK hP37) hF36 (HS.enterLo hP37 hl) h31 (HS.wf' hH18)) ?_
  rintro _ _ s38 ⟨Ls40,rfl,hH41,hG42⟩
  have hJ43:=HS.joinK hP37 hH41
  obtain ⟨Ls44,Lf45,hG46,hF47,hP48⟩:=HS.pushS hJ43 hG35 hG42 (j:=0) rfl
  cases hF47
  have hH49:=HS.push0 hP48
  refine aq (J y30.1) ?_
  refine nl ?_
  refine AW.inBlock ?_
  refine AW.region ?_
  refine q (J i15) ?_
  refine q (J (IntKind.wrap .i64 (i15+1))) ?_
  refine aq (J (IntKind.wrap .i64 (i15+1))) ?_
  refine nl ?_
  cases h
  exact AW.res [(0,h1),(1,(J y30.1)),(5,(J (IntKind.wrap .i64 (i15+1))))] [] ⟨rfl,rfl,rfl,trivial⟩ trivial (hL1 _ rfl (s38,Ls44) _ _ ⟨hH49,hG46⟩)
 refine cF hc20 ?_
 refine AW.exit rfl ?_
 obtain ⟨r50,hm,hx⟩:=omap h
 clear h
 subst hx
 have hx:=hR1 _ rfl
 rw[hx] at hm
 have h:=hm
 exact AW.res [(1,(J k14))] [] ⟨rfl,trivial⟩ trivial (KJ12 (m13,k14,s16,Ls17) _ _ ⟨hH18,hG19,h⟩)
theorem laws_markInt64S_K10_ok {a4:List Int} {k5:Int} {h1:AV} {k2:KT} {s:St} (ho3:h1.one=true) {ex:List Nat} {Ls0:List (List BX)} (hH0:HS ex true s s (([]:List BX)++Ls0.flatten)) (hG0:AllG [OS oE2 h1 k2 a4] Ls0) (hl:LoOK ex true s) {r:Int × (List Int)} (h:laws_markInt64S_K10 a4 k5=some r) (hs:WF s):ACall Cf 88 [h1,(J k5)] s (fun v _ s'=>∃ (Ls':List (List BX)),v=(J r.1)∧HS ex true s s' (([]:List BX)++Ls'.flatten)∧AllG [OS oE2 h1 k2 r.2] Ls') true:=by
 refine ACall.keepR rfl rfl rfl ?_
 unfold laws_markInt64S_K10 at h
 refine sr ?_
 refine q (J 0) ?_
 refine nl ?_
 refine AW.seq ?_
 refine sr ?_
 refine q (J 0) ?_
 refine nl ?_
 refine AW.meet (σ:=(List Int) × Int × St × (List (List BX))) (fun (m6,k7,s8,Ls9) tm os=>⟨updL tm [(1,(J k7))],updL os [],s8⟩) (fun (m6,k7,s8,Ls9)=>(HS ex true s s8 (([]:List BX)++Ls9.flatten))∧(AllG [OS oE2 h1 k2 m6] Ls9)∧laws_markInt64S_K10_J1 m6 k7=some r) ?_ ?_
 ·rintro ⟨m6,k7,s8,Ls9⟩ tm os ⟨hH10,hG11,h⟩
  unfold laws_markInt64S_K10_J1 at h
  refine sr ?_
  refine q (J k7) ?_
  refine aq (J k7) ?_
  refine nl ?_
  cases h
  exact AW.ret ⟨_,_,rfl,⟨Ls9,rfl,hH10,hG11⟩⟩
 intro KJ12
 refine AW.block ?_
 refine AW.res [(0,h1),(1,(J k5)),(5,(J 0))] [] ⟨rfl,rfl,rfl,trivial⟩ trivial ?_
 refine AW.loopF (σ:=(List Int) × Int × Int) (τ:=St × (List (List BX))) (fun (m13,k14,i15) (s16,Ls17)=>(HS ex true s s16 (([]:List BX)++Ls17.flatten))∧(AllG [OS oE2 h1 k2 m13] Ls17)) (fun (m13,k14,i15) (s16,Ls17) tm os=>⟨updL tm [(0,h1),(1,(J k14)),(5,(J i15))],updL os [],s16⟩) ?_ (x:=(a4,k5,0)) (y:=(s,Ls0)) h ⟨hH0,hG0⟩
 clear h
 rintro ⟨m13,k14,i15⟩ ⟨s16,Ls17⟩ tm os ⟨hH18,hG19⟩ ee1 h hL1 hR1
 unfold laws_markInt64S_K10_S1 at h
 dsimp only at h
 refine AW.seq ?_
 refine sr ?_
 refine q (J i15) ?_
 refine q h1 ?_
 refine AOps.lenO (j:=0) hG19 rfl Sub.here rfl rfl rfl rfl rfl ?_
 refine q (bool (decide ((i15:Int)<(m13.length:Int)))) ?_
 refine nl ?_
 rcases oite h with ⟨hc20,h⟩ | ⟨hc20,h⟩
 ·refine cT hc20 ?_
  refine AW.skip ?_
  refine AW.seq ?_
  refine AW.block ?_
  refine sr ?_
  refine q h1 ?_
  refine q (J i15) ?_
  refine q (J k14) ?_
  obtain ⟨x23,h24,h⟩:=obind h
  refine AOps.idxO (j:=0) hG19 rfl Sub.here h24 rfl rfl rfl rfl rfl rfl rfl rfl rfl ?_
  intro b21 hb22
  refine AOps.stO (j:=0) (q:=0) (v:=(J k14)) (y':=k14) hH18 hG19 hl rfl Sub.here h24 hb22 rfl rfl rfl rfl rfl rfl rfl rfl (lt_b rfl) (le_b rfl) rfl (fun c B hc=>oLeaf_set hc rfl) ?_
  intro Ls25 s26 hG27 hH28
  refine nl ?_
  refine AW.region ?_
  refine q (J k14) ?_
  refine q (J (IntKind.wrap .i64 (k14+1))) ?_
  refine aq (J (IntKind.wrap .i64 (k14+1))) ?_
  refine nl ?_
  refine AW.inBlock ?_
  refine AW.region ?_
  refine q (J i15) ?_
  refine q (J (IntKind.wrap .i64 (i15+1))) ?_
  refine aq (J (IntKind.wrap .i64 (i15+1))) ?_
  refine nl ?_
  cases h
  exact AW.res [(0,h1),(1,(J (IntKind.wrap .i64 (k14+1)))),(5,(J (IntKind.wrap .i64 (i15+1))))] [] ⟨rfl,rfl,rfl,trivial⟩ trivial (hL1 _ rfl (s26,Ls25) _ _ ⟨hH28,hG27⟩)
 refine cF hc20 ?_
 refine AW.exit rfl ?_
 obtain ⟨r29,hm,hx⟩:=omap h
 clear h
 subst hx
 have hx:=hR1 _ rfl
 rw[hx] at hm
 have h:=hm
 exact AW.res [(1,(J k14))] [] ⟨rfl,trivial⟩ trivial (KJ12 (m13,k14,s16,Ls17) _ _ ⟨hH18,hG19,h⟩)
theorem laws_markInt64SS_K10_ok {a4:List (List Int)} {k5:Int} {h1:AV} {k2:KT} {s:St} (ho3:h1.one=true) {ex:List Nat} {Ls0:List (List BX)} (hH0:HS ex true s s (([]:List BX)++Ls0.flatten)) (hG0:AllG [OS oE54 h1 k2 a4] Ls0) (hl:LoOK ex true s) {r:Int × (List (List Int))} (h:laws_markInt64SS_K10 a4 k5=some r) (hs:WF s):ACall Cf 59 [h1,(J k5)] s (fun v _ s'=>∃ (Ls':List (List BX)),v=(J r.1)∧HS ex true s s' (([]:List BX)++Ls'.flatten)∧AllG [OS oE54 h1 k2 r.2] Ls') true:=by
 refine ACall.keepR rfl rfl rfl ?_
 unfold laws_markInt64SS_K10 at h
 refine sr ?_
 refine q (J 0) ?_
 refine nl ?_
 refine AW.seq ?_
 refine sr ?_
 refine q (J 0) ?_
 refine nl ?_
 refine AW.meet (σ:=(List (List Int)) × Int × St × (List (List BX))) (fun (m6,k7,s8,Ls9) tm os=>⟨updL tm [(1,(J k7))],updL os [],s8⟩) (fun (m6,k7,s8,Ls9)=>(HS ex true s s8 (([]:List BX)++Ls9.flatten))∧(AllG [OS oE54 h1 k2 m6] Ls9)∧laws_markInt64SS_K10_J1 m6 k7=some r) ?_ ?_
 ·rintro ⟨m6,k7,s8,Ls9⟩ tm os ⟨hH10,hG11,h⟩
  unfold laws_markInt64SS_K10_J1 at h
  refine sr ?_
  refine q (J k7) ?_
  refine aq (J k7) ?_
  refine nl ?_
  cases h
  exact AW.ret ⟨_,_,rfl,⟨Ls9,rfl,hH10,hG11⟩⟩
 intro KJ12
 refine AW.block ?_
 refine AW.res [(0,h1),(1,(J k5)),(5,(J 0))] [] ⟨rfl,rfl,rfl,trivial⟩ trivial ?_
 refine AW.loopF (σ:=(List (List Int)) × Int × Int) (τ:=St × (List (List BX))) (fun (m13,k14,i15) (s16,Ls17)=>(HS ex true s s16 (([]:List BX)++Ls17.flatten))∧(AllG [OS oE54 h1 k2 m13] Ls17)) (fun (m13,k14,i15) (s16,Ls17) tm os=>⟨updL tm [(0,h1),(1,(J k14)),(5,(J i15))],updL os [],s16⟩) ?_ (x:=(a4,k5,0)) (y:=(s,Ls0)) h ⟨hH0,hG0⟩
 clear h
 rintro ⟨m13,k14,i15⟩ ⟨s16,Ls17⟩ tm os ⟨hH18,hG19⟩ ee1 h hL1 hR1
 unfold laws_markInt64SS_K10_S1 at h
 dsimp only at h
 refine AW.seq ?_
 refine sr ?_
 refine q (J i15) ?_
 refine q h1 ?_
 refine AOps.lenO (j:=0) hG19 rfl Sub.here rfl rfl rfl rfl rfl ?_
 refine q (bool (decide ((i15:Int)<(m13.length:Int)))) ?_
 refine nl ?_
 rcases oite h with ⟨hc20,h⟩ | ⟨hc20,h⟩
 ·refine cT hc20 ?_
  refine AW.skip ?_
  refine AW.seq ?_
  refine AW.block ?_
  refine AW.region ?_
  refine q h1 ?_
  refine q (J i15) ?_
  obtain ⟨x23,h24,h⟩:=obind h
  refine AOps.idxO (j:=0) hG19 rfl Sub.here h24 rfl rfl rfl rfl rfl rfl rfl rfl rfl ?_
  intro b21 hb22
  refine AOps.ldO (j:=0) (q:=0) hH18 hG19 rfl Sub.here h24 hb22 rfl rfl rfl rfl rfl (lt_b rfl) (le_b rfl) rfl rfl ?_ (fun c B hc=>by obtain ⟨rfl,_⟩:=hc; exact ⟨_,rfl⟩)
  intro c25 B26 v27 h28 h29
  obtain ⟨rfl,_⟩:=h28
  cases h29
  refine q (J k14) ?_
  obtain ⟨y30,h31,h⟩:=obind h
  have hP32:=HS.pop0 hH18
  have hF0:AllG ([]:List (List BX→Prop)) []:=AllG.nil
  obtain ⟨Ls33,Lf34,hG35,hF36,hP37⟩:=HS.popS hP32 hG19 hF0 (j:=0) rfl (Sub.down Sub.here h24)
  refine AOps.callF (al:=true) (g:=88) (args:=[((KT.at k2 (Int.toNat i15)) []),(J k14)]) rfl rfl rfl (laws_markInt64S_K10_ok (Sub.one hG19 (j:=0) rfl (Sub.down Sub.here h24)) (HS.enterK hP37) hF36 (HS.enterLo hP37 hl) h31 (HS.wf' hH18)) ?_
  rintro _ _ s38 ⟨Ls40,rfl,hH41,hG42⟩
  have hJ43:=HS.joinK hP37 hH41
  obtain ⟨Ls44,Lf45,hG46,hF47,hP48⟩:=HS.pushS hJ43 hG35 hG42 (j:=0) rfl
  cases hF47
  have hH49:=HS.push0 hP48
  refine aq (J y30.1) ?_
  refine nl ?_
  refine AW.inBlock ?_
  refine AW.region ?_
  refine q (J i15) ?_
  refine q (J (IntKind.wrap .i64 (i15+1))) ?_
  refine aq (J (IntKind.wrap .i64 (i15+1))) ?_
  refine nl ?_
  cases h
  exact AW.res [(0,h1),(1,(J y30.1)),(5,(J (IntKind.wrap .i64 (i15+1))))] [] ⟨rfl,rfl,rfl,trivial⟩ trivial (hL1 _ rfl (s38,Ls44) _ _ ⟨hH49,hG46⟩)
 refine cF hc20 ?_
 refine AW.exit rfl ?_
 obtain ⟨r50,hm,hx⟩:=omap h
 clear h
 subst hx
 have hx:=hR1 _ rfl
 rw[hx] at hm
 have h:=hm
 exact AW.res [(1,(J k14))] [] ⟨rfl,trivial⟩ trivial (KJ12 (m13,k14,s16,Ls17) _ _ ⟨hH18,hG19,h⟩)
theorem laws_markInt64SSS_K10_ok {a4:List (List (List Int))} {k5:Int} {h1:AV} {k2:KT} {s:St} (ho3:h1.one=true) {ex:List Nat} {Ls0:List (List BX)} (hH0:HS ex true s s (([]:List BX)++Ls0.flatten)) (hG0:AllG [OS oE25 h1 k2 a4] Ls0) (hl:LoOK ex true s) {r:Int × (List (List (List Int)))} (h:laws_markInt64SSS_K10 a4 k5=some r) (hs:WF s):ACall Cf 58 [h1,(J k5)] s (fun v _ s'=>∃ (Ls':List (List BX)),v=(J r.1)∧HS ex true s s' (([]:List BX)++Ls'.flatten)∧AllG [OS oE25 h1 k2 r.2] Ls') true:=by
 refine ACall.keepR rfl rfl rfl ?_
 unfold laws_markInt64SSS_K10 at h
 refine sr ?_
 refine q (J 0) ?_
 refine nl ?_
 refine AW.seq ?_
 refine sr ?_
 refine q (J 0) ?_
 refine nl ?_
 refine AW.meet (σ:=(List (List (List Int))) × Int × St × (List (List BX))) (fun (m6,k7,s8,Ls9) tm os=>⟨updL tm [(1,(J k7))],updL os [],s8⟩) (fun (m6,k7,s8,Ls9)=>(HS ex true s s8 (([]:List BX)++Ls9.flatten))∧(AllG [OS oE25 h1 k2 m6] Ls9)∧laws_markInt64SSS_K10_J1 m6 k7=some r) ?_ ?_
 ·rintro ⟨m6,k7,s8,Ls9⟩ tm os ⟨hH10,hG11,h⟩
  unfold laws_markInt64SSS_K10_J1 at h
  refine sr ?_
  refine q (J k7) ?_
  refine aq (J k7) ?_
  refine nl ?_
  cases h
  exact AW.ret ⟨_,_,rfl,⟨Ls9,rfl,hH10,hG11⟩⟩
 intro KJ12
 refine AW.block ?_
 refine AW.res [(0,h1),(1,(J k5)),(5,(J 0))] [] ⟨rfl,rfl,rfl,trivial⟩ trivial ?_
 refine AW.loopF (σ:=(List (List (List Int))) × Int × Int) (τ:=St × (List (List BX))) (fun (m13,k14,i15) (s16,Ls17)=>(HS ex true s s16 (([]:List BX)++Ls17.flatten))∧(AllG [OS oE25 h1 k2 m13] Ls17)) (fun (m13,k14,i15) (s16,Ls17) tm os=>⟨updL tm [(0,h1),(1,(J k14)),(5,(J i15))],updL os [],s16⟩) ?_ (x:=(a4,k5,0)) (y:=(s,Ls0)) h ⟨hH0,hG0⟩
 clear h
 rintro ⟨m13,k14,i15⟩ ⟨s16,Ls17⟩ tm os ⟨hH18,hG19⟩ ee1 h hL1 hR1
 unfold laws_markInt64SSS_K10_S1 at h
 dsimp only at h
 refine AW.seq ?_
 refine sr ?_
 refine q (J i15) ?_
 refine q h1 ?_
 refine AOps.lenO (j:=0) hG19 rfl Sub.here rfl rfl rfl rfl rfl ?_
 refine q (bool (decide ((i15:Int)<(m13.length:Int)))) ?_
 refine nl ?_
 rcases oite h with ⟨hc20,h⟩ | ⟨hc20,h⟩
 ·refine cT hc20 ?_
  refine AW.skip ?_
  refine AW.seq ?_
  refine AW.block ?_
  refine AW.region ?_
  refine q h1 ?_
  refine q (J i15) ?_
  obtain ⟨x23,h24,h⟩:=obind h
  refine AOps.idxO (j:=0) hG19 rfl Sub.here h24 rfl rfl rfl rfl rfl rfl rfl rfl rfl ?_
  intro b21 hb22
  refine AOps.ldO (j:=0) (q:=0) hH18 hG19 rfl Sub.here h24 hb22 rfl rfl rfl rfl rfl (lt_b rfl) (le_b rfl) rfl rfl ?_ (fun c B hc=>by obtain ⟨rfl,_⟩:=hc; exact ⟨_,rfl⟩)
  intro c25 B26 v27 h28 h29
  obtain ⟨rfl,_⟩:=h28
  cases h29
  refine q (J k14) ?_
  obtain ⟨y30,h31,h⟩:=obind h
  have hP32:=HS.pop0 hH18
  have hF0:AllG ([]:List (List BX→Prop)) []:=AllG.nil
  obtain ⟨Ls33,Lf34,hG35,hF36,hP37⟩:=HS.popS hP32 hG19 hF0 (j:=0) rfl (Sub.down Sub.here h24)
  refine AOps.callF (al:=true) (g:=59) (args:=[((KT.at k2 (Int.toNat i15)) []),(J k14)]) rfl rfl rfl (laws_markInt64SS_K10_ok (Sub.one hG19 (j:=0) rfl (Sub.down Sub.here h24)) (HS.enterK hP37) hF36 (HS.enterLo hP37 hl) h31 (HS.wf' hH18)) ?_
  rintro _ _ s38 ⟨Ls40,rfl,hH41,hG42⟩
  have hJ43:=HS.joinK hP37 hH41
  obtain ⟨Ls44,Lf45,hG46,hF47,hP48⟩:=HS.pushS hJ43 hG35 hG42 (j:=0) rfl
  cases hF47
  have hH49:=HS.push0 hP48
  refine aq (J y30.1) ?_
  refine nl ?_
  refine AW.inBlock ?_
  refine AW.region ?_
  refine q (J i15) ?_
  refine q (J (IntKind.wrap .i64 (i15+1))) ?_
  refine aq (J (IntKind.wrap .i64 (i15+1))) ?_
  refine nl ?_
  cases h
  exact AW.res [(0,h1),(1,(J y30.1)),(5,(J (IntKind.wrap .i64 (i15+1))))] [] ⟨rfl,rfl,rfl,trivial⟩ trivial (hL1 _ rfl (s38,Ls44) _ _ ⟨hH49,hG46⟩)
 refine cF hc20 ?_
 refine AW.exit rfl ?_
 obtain ⟨r50,hm,hx⟩:=omap h
 clear h
 subst hx
 have hx:=hR1 _ rfl
 rw[hx] at hm
 have h:=hm
 exact AW.res [(1,(J k14))] [] ⟨rfl,trivial⟩ trivial (KJ12 (m13,k14,s16,Ls17) _ _ ⟨hH18,hG19,h⟩)
theorem laws_markChecker_K10_ok {a1:Checker} {k14:Int} {h2 h5 h8 h11:AV} {k3 k6 k9 k12:KT} {s:St} (ho4:h2.one=true) (ho7:h5.one=true) (ho10:h8.one=true) (ho13:h11.one=true) {ex:List Nat} {Ls0:List (List BX)} (hH0:HS ex true s s (([]:List BX)++Ls0.flatten)) (hG0:AllG [OS oE4 h2 k3 a1.Accept,OS oE119 h5 k6 a1.Call,OS oE25 h8 k9 a1.Return,OS oE54 h11 k12 a1.Inner] Ls0) (hl:LoOK ex true s) {r:Int × (List Bool) × (List (List Push)) × (List (List (List Int))) × (List (List Int))} (h:laws_markChecker_K10 a1 k14=some r) (hs:WF s):ACall Cf 29 [(agg [(J a1.Stack),(J a1.Start),h2,h5,h8,h11]),(J k14)] s (fun v _ s'=>∃ (Ls':List (List BX)),v=(J r.1)∧HS ex true s s' (([]:List BX)++Ls'.flatten)∧AllG [OS oE4 h2 k3 r.2.1,OS oE119 h5 k6 r.2.2.1,OS oE25 h8 k9 r.2.2.2.1,OS oE54 h11 k12 r.2.2.2.2] Ls') true:=by
 refine ACall.keepR rfl rfl rfl ?_
 unfold laws_markChecker_K10 at h
 refine sr ?_
 refine AOps.boxR (v:=(agg [(J a1.Stack),(J a1.Start),h2,h5,h8,h11])) rfl rfl rfl rfl rfl (lay_cons rfl (lay_cons rfl (lay_cons ho4 (lay_cons ho7 (lay_cons ho10 (lay_cons ho13 lay_nil)))))) rfl rfl ?_
 refine q (J 0) ?_
 refine ns ?_
 refine q (eptr [(J a1.Stack),(J a1.Start),h2,h5,h8,h11] 2) ?_
 refine lE h2 ?_
 refine q (J k14) ?_
 obtain ⟨y15,h16,h⟩:=obind h
 have hP17:=HS.pop0 hH0
 have hF0:AllG ([]:List (List BX→Prop)) []:=AllG.nil
 obtain ⟨Ls18,Lf19,hG20,hF21,hP22⟩:=HS.popG hP17 hG0 hF0 (j:=0) rfl
 refine AOps.callF (al:=true) (g:=56) (args:=[h2,(J k14)]) rfl rfl rfl (laws_markBoolS_K10_ok ho4 (HS.enterK hP22) hF21 (HS.enterLo hP22 hl) h16 (HS.wf' hH0)) ?_
 rintro _ _ s23 ⟨Ls25,rfl,hH26,hG27⟩
 have hJ28:=HS.joinK hP22 hH26
 obtain ⟨Ls29,Lf30,hG31,hF32,hP33⟩:=HS.putG hJ28 hG20 hG27 (j:=0) rfl
 cases hF32
 have hH34:=HS.push0 hP33
 refine aq (J y15.1) ?_
 refine ns ?_
 refine q (eptr [(J a1.Stack),(J a1.Start),h2,h5,h8,h11] 3) ?_
 refine lE h5 ?_
 refine q (J y15.1) ?_
 obtain ⟨y35,h36,h⟩:=obind h
 have hP37:=HS.pop0 hH34
 have hF0:AllG ([]:List (List BX→Prop)) []:=AllG.nil
 obtain ⟨Ls38,Lf39,hG40,hF41,hP42⟩:=HS.popG hP37 hG31 hF0 (j:=1) rfl
 refine AOps.callF (al:=true) (g:=57) (args:=[h5,(J y15.1)]) rfl rfl rfl (laws_markPushSS_K10_ok ho7 (HS.enterK hP42) hF41 (HS.enterLo hP42 hl) h36 (HS.wf' hH34)) ?_
 rintro _ _ s43 ⟨Ls45,rfl,hH46,hG47⟩
 have hJ48:=HS.joinK hP42 hH46
 obtain ⟨Ls49,Lf50,hG51,hF52,hP53⟩:=HS.putG hJ48 hG40 hG47 (j:=1) rfl
 cases hF52
 have hH54:=HS.push0 hP53
 refine aq (J y35.1) ?_
 refine ns ?_
 refine q (eptr [(J a1.Stack),(J a1.Start),h2,h5,h8,h11] 4) ?_
 refine lE h8 ?_
 refine q (J y35.1) ?_
 obtain ⟨y55,h56,h⟩:=obind h
 have hP57:=HS.pop0 hH54
 have hF0:AllG ([]:List (List BX→Prop)) []:=AllG.nil
 obtain ⟨Ls58,Lf59,hG60,hF61,hP62⟩:=HS.popG hP57 hG51 hF0 (j:=2) rfl
 refine AOps.callF (al:=true) (g:=58) (args:=[h8,(J y35.1)]) rfl rfl rfl (laws_markInt64SSS_K10_ok ho10 (HS.enterK hP62) hF61 (HS.enterLo hP62 hl) h56 (HS.wf' hH54)) ?_
 rintro _ _ s63 ⟨Ls65,rfl,hH66,hG67⟩
 have hJ68:=HS.joinK hP62 hH66
 obtain ⟨Ls69,Lf70,hG71,hF72,hP73⟩:=HS.putG hJ68 hG60 hG67 (j:=2) rfl
 cases hF72
 have hH74:=HS.push0 hP73
 refine aq (J y55.1) ?_
 refine ns ?_
 refine q (eptr [(J a1.Stack),(J a1.Start),h2,h5,h8,h11] 5) ?_
 refine lE h11 ?_
 refine q (J y55.1) ?_
 obtain ⟨y75,h76,h⟩:=obind h
 have hP77:=HS.pop0 hH74
 have hF0:AllG ([]:List (List BX→Prop)) []:=AllG.nil
 obtain ⟨Ls78,Lf79,hG80,hF81,hP82⟩:=HS.popG hP77 hG71 hF0 (j:=3) rfl
 refine AOps.callF (al:=true) (g:=59) (args:=[h11,(J y55.1)]) rfl rfl rfl (laws_markInt64SS_K10_ok ho13 (HS.enterK hP82) hF81 (HS.enterLo hP82 hl) h76 (HS.wf' hH74)) ?_
 rintro _ _ s83 ⟨Ls85,rfl,hH86,hG87⟩
 have hJ88:=HS.joinK hP82 hH86
 obtain ⟨Ls89,Lf90,hG91,hF92,hP93⟩:=HS.putG hJ88 hG80 hG87 (j:=3) rfl
 cases hF92
 have hH94:=HS.push0 hP93
 refine aq (J y75.1) ?_
 refine ns ?_
 refine q (J y75.1) ?_
 refine aq (J y75.1) ?_
 refine nl ?_
 cases h
 exact AW.ret ⟨_,_,rfl,⟨Ls89,rfl,hH94,hG91⟩⟩
theorem laws_markText_ok {k1:Int} {s:St} {r:(List UInt8)} (h:laws_markText k1=some r) (hs:WF s):ACall Cf 60 [(J k1)] s fun v _ s'=>(rS) r v∧s'=s:=by
 refine ACall.pure rfl rfl rfl .S ?_
 have hWF:=hs.lo'
 unfold laws_markText at h
 refine sr ?_
 refine q (str ([]:List UInt8)) ?_
 refine nl ?_
 refine AW.seq ?_
 refine sr ?_
 refine q (J k1) ?_
 refine q (bool (decide ((k1:Int)≤0))) ?_
 refine nl ?_
 rcases oite h with ⟨hc2,h⟩ | ⟨hc2,h⟩
 ·refine cT hc2 ?_
  refine sr ?_
  refine q (str ([109,48]:List UInt8)) ?_
  refine nl ?_
  cases h
  exact AW.ret ⟨rfl,_,_,rfl,rfl⟩
 refine cF hc2 ?_
 refine AW.skip ?_
 refine sr ?_
 refine q (str ([]:List UInt8)) ?_
 refine nl ?_
 refine AW.seq ?_
 refine AW.meet (σ:=(List UInt8)) (fun out3 tm os=>⟨updL tm [(3,(str out3))],updL os [],{ s with lo:=s.n }⟩) (fun out3=>laws_markText_J1 out3=some r) ?_ ?_
 ·rintro out3 tm os h
  unfold laws_markText_J1 at h
  refine sr ?_
  refine q (str out3) ?_
  obtain ⟨w5,h6,h⟩:=obind h
  refine AOps.pureR rfl rfl rfl (add_str h6) rfl (rfl:_=(str w5)) ?_
  refine aq (str w5) ?_
  refine nl ?_
  cases h
  exact AW.ret ⟨rfl,_,_,rfl,rfl⟩
 intro KJ4
 refine AW.block ?_
 refine AW.res [(0,(J k1)),(3,(str ([]:List UInt8)))] [] ⟨rfl,rfl,trivial⟩ trivial ?_
 refine AW.loopF (σ:=Int × (List UInt8)) (τ:=Unit) (fun (k7,out8) _=>True) (fun (k7,out8) _ tm os=>⟨updL tm [(0,(J k7)),(3,(str out8))],updL os [],{ s with lo:=s.n }⟩) ?_ (x:=(k1,([]:List UInt8))) (y:=()) h trivial
 clear h
 rintro ⟨k7,out8⟩ _ tm os - ee1 h hL1 hR1
 unfold laws_markText_S1 at h
 dsimp only at h
 refine AW.seq ?_
 refine sr ?_
 refine q (J k7) ?_
 refine q (bool (decide ((k7:Int)>0))) ?_
 refine nl ?_
 rcases oite h with ⟨hc9,h⟩ | ⟨hc9,h⟩
 ·refine cT hc9 ?_
  refine AW.skip ?_
  refine AW.block ?_
  refine sr ?_
  refine q (J k7) ?_
  obtain ⟨q10,h11,h⟩:=obind h
  refine AOps.pureR rfl rfl rfl (rem_ok h11) rfl (rfl:_=(J q10)) ?_
  refine q (J (IntKind.wrap .i64 (48+q10))) ?_
  refine q (int .u8 (IntKind.wrap .u8 (IntKind.wrap .i64 (48+q10)))) ?_
  refine AOps.makeR rfl rfl rfl rfl rfl rfl (rfl:_=(sl 1 true [(int .u8 (IntKind.wrap .u8 (IntKind.wrap .i64 (48+q10))))])) ?_
  refine AOps.pureR rfl rfl rfl (bytes_str (l:=([IntKind.wrap .u8 (IntKind.wrap .i64 (48+q10))]:List Int)) (z:=1) (e:=[(int .u8 (IntKind.wrap .u8 (IntKind.wrap .i64 (48+q10))))]) (LR.lit (r:=rI .u8) (sz:=1) (.cons rfl .nil))) rfl (rfl:_=(str (bytesOf ([IntKind.wrap .u8 (IntKind.wrap .i64 (48+q10))]:List Int)))) ?_
  refine q (str out8) ?_
  obtain ⟨w12,h13,h⟩:=obind h
  refine AOps.pureR rfl rfl rfl (add_str h13) rfl (rfl:_=(str w12)) ?_
  refine aq (str w12) ?_
  refine nl ?_
  refine AW.region ?_
  refine q (J k7) ?_
  obtain ⟨q14,h15,h⟩:=obind h
  refine AOps.pureR rfl rfl rfl (quo_ok h15) rfl (rfl:_=(J q14)) ?_
  refine aq (J q14) ?_
  refine nl ?_
  refine AW.inBlock ?_
  cases h
  exact AW.res [(0,(J q14)),(3,(str w12))] [] ⟨rfl,rfl,trivial⟩ trivial (hL1 _ rfl () _ _ trivial)
 refine cF hc9 ?_
 refine AW.exit rfl ?_
 obtain ⟨r16,hm,hx⟩:=omap h
 clear h
 subst hx
 have hx:=hR1 _ rfl
 rw[hx] at hm
 have h:=hm
 exact AW.res [(3,(str out8))] [] ⟨rfl,trivial⟩ trivial (KJ4 (out8) _ _ h)
theorem laws_markStringS_K10_ok {a4:List (List UInt8)} {k5:Int} {h1:AV} {k2:KT} {s:St} (ho3:h1.one=true) {ex:List Nat} {Ls0:List (List BX)} (hH0:HS ex true s s (([]:List BX)++Ls0.flatten)) (hG0:AllG [OS oE9 h1 k2 a4] Ls0) (hl:LoOK ex true s) {r:Int × (List (List UInt8))} (h:laws_markStringS_K10 a4 k5=some r) (hs:WF s):ACall Cf 30 [h1,(J k5)] s (fun v _ s'=>∃ (Ls':List (List BX)),v=(J r.1)∧HS ex true s s' (([]:List BX)++Ls'.flatten)∧AllG [OS oE9 h1 k2 r.2] Ls') true:=by
 refine ACall.keepR rfl rfl rfl ?_
 unfold laws_markStringS_K10 at h
 refine sr ?_
 refine q (J 0) ?_
 refine nl ?_
 refine AW.seq ?_
 refine sr ?_
 refine q (J 0) ?_
 refine nl ?_
 refine AW.meet (σ:=(List (List UInt8)) × Int × St × (List (List BX))) (fun (m6,k7,s8,Ls9) tm os=>⟨updL tm [(1,(J k7))],updL os [],s8⟩) (fun (m6,k7,s8,Ls9)=>(HS ex true s s8 (([]:List BX)++Ls9.flatten))∧(AllG [OS oE9 h1 k2 m6] Ls9)∧laws_markStringS_K10_J1 m6 k7=some r) ?_ ?_
 ·rintro ⟨m6,k7,s8,Ls9⟩ tm os ⟨hH10,hG11,h⟩
  unfold laws_markStringS_K10_J1 at h
  refine sr ?_
  refine q (J k7) ?_
  refine aq (J k7) ?_
  refine nl ?_
  cases h
  exact AW.ret ⟨_,_,rfl,⟨Ls9,rfl,hH10,hG11⟩⟩
 intro KJ12
 refine AW.block ?_
 refine AW.res [(0,h1),(1,(J k5)),(5,(J 0))] [] ⟨rfl,rfl,rfl,trivial⟩ trivial ?_
 refine AW.loopF (σ:=(List (List UInt8)) × Int × Int) (τ:=St × (List (List BX))) (fun (m13,k14,i15) (s16,Ls17)=>(HS ex true s s16 (([]:List BX)++Ls17.flatten))∧(AllG [OS oE9 h1 k2 m13] Ls17)) (fun (m13,k14,i15) (s16,Ls17) tm os=>⟨updL tm [(0,h1),(1,(J k14)),(5,(J i15))],updL os [],s16⟩) ?_ (x:=(a4,k5,0)) (y:=(s,Ls0)) h ⟨hH0,hG0⟩
 clear h
 rintro ⟨m13,k14,i15⟩ ⟨s16,Ls17⟩ tm os ⟨hH18,hG19⟩ ee1 h hL1 hR1
 unfold laws_markStringS_K10_S1 at h
 dsimp only at h
 refine AW.seq ?_
 refine sr ?_
 refine q (J i15) ?_
 refine q h1 ?_
 refine AOps.lenO (j:=0) hG19 rfl Sub.here rfl rfl rfl rfl rfl ?_
 refine q (bool (decide ((i15:Int)<(m13.length:Int)))) ?_
 refine nl ?_
 rcases oite h with ⟨hc20,h⟩ | ⟨hc20,h⟩
 ·refine cT hc20 ?_
  refine AW.skip ?_
  refine AW.seq ?_
  refine AW.block ?_
  refine sr ?_
  refine q h1 ?_
  refine q (J i15) ?_
  refine q (J k14) ?_
  obtain ⟨y21,h22,h⟩:=obind h
  refine cP (laws_markText_ok  h22 (HS.wf' hH18)) ?_
  intro _ o24 h23
  cases h23
  obtain ⟨x27,h28,h⟩:=obind h
  refine AOps.idxO (j:=0) hG19 rfl Sub.here h28 rfl rfl rfl rfl rfl rfl rfl rfl rfl ?_
  intro b25 hb26
  refine AOps.stO (j:=0) (q:=0) (v:=(str y21)) (y':=y21) hH18 hG19 hl rfl Sub.here h28 hb26 rfl rfl rfl rfl rfl rfl rfl rfl (lt_b rfl) (le_b rfl) rfl (fun c B hc=>oLeaf_set hc rfl) ?_
  intro Ls29 s30 hG31 hH32
  refine nl ?_
  refine AW.region ?_
  refine q (J k14) ?_
  refine q (J (IntKind.wrap .i64 (k14+1))) ?_
  refine aq (J (IntKind.wrap .i64 (k14+1))) ?_
  refine nl ?_
  refine AW.inBlock ?_
  refine AW.region ?_
  refine q (J i15) ?_
  refine q (J (IntKind.wrap .i64 (i15+1))) ?_
  refine aq (J (IntKind.wrap .i64 (i15+1))) ?_
  refine nl ?_
  cases h
  exact AW.res [(0,h1),(1,(J (IntKind.wrap .i64 (k14+1)))),(5,(J (IntKind.wrap .i64 (i15+1))))] [] ⟨rfl,rfl,rfl,trivial⟩ trivial (hL1 _ rfl (s30,Ls29) _ _ ⟨hH32,hG31⟩)
 refine cF hc20 ?_
 refine AW.exit rfl ?_
 obtain ⟨r33,hm,hx⟩:=omap h
 clear h
 subst hx
 have hx:=hR1 _ rfl
 rw[hx] at hm
 have h:=hm
 exact AW.res [(1,(J k14))] [] ⟨rfl,trivial⟩ trivial (KJ12 (m13,k14,s16,Ls17) _ _ ⟨hH18,hG19,h⟩)
theorem laws_markStream_K10_ok {a1:Stream} {k17:Int} {h2 h5 h8 h11 h14:AV} {k3 k6 k9 k12 k15:KT} {s:St} (ho4:h2.one=true) (ho7:h5.one=true) (ho10:h8.one=true) (ho13:h11.one=true) (ho16:h14.one=true) {ex:List Nat} {Ls0:List (List BX)} (hH0:HS ex true s s (([]:List BX)++Ls0.flatten)) (hG0:AllG [OS oE4 h2 k3 a1.Checker.Accept,OS oE119 h5 k6 a1.Checker.Call,OS oE25 h8 k9 a1.Checker.Return,OS oE54 h11 k12 a1.Checker.Inner,OS oE9 h14 k15 a1.Pieces] Ls0) (hl:LoOK ex true s) {r:Int × (List Bool) × (List (List Push)) × (List (List (List Int))) × (List (List Int)) × (List (List UInt8))} (h:laws_markStream_K10 a1 k17=some r) (hs:WF s):ACall Cf 12 [(agg [(J a1.Checker.Stack),(J a1.Checker.Start),h2,h5,h8,h11,h14]),(J k17)] s (fun v _ s'=>∃ (Ls':List (List BX)),v=(J r.1)∧HS ex true s s' (([]:List BX)++Ls'.flatten)∧AllG [OS oE4 h2 k3 r.2.1,OS oE119 h5 k6 r.2.2.1,OS oE25 h8 k9 r.2.2.2.1,OS oE54 h11 k12 r.2.2.2.2.1,OS oE9 h14 k15 r.2.2.2.2.2] Ls') true:=by
 refine ACall.keepR rfl rfl rfl ?_
 unfold laws_markStream_K10 at h
 refine sr ?_
 refine AOps.boxR (v:=(agg [(J a1.Checker.Stack),(J a1.Checker.Start),h2,h5,h8,h11,h14])) rfl rfl rfl rfl rfl (lay_cons rfl (lay_cons rfl (lay_cons ho4 (lay_cons ho7 (lay_cons ho10 (lay_cons ho13 (lay_cons ho16 lay_nil))))))) rfl rfl ?_
 refine q (J 0) ?_
 refine ns ?_
 refine q (eptr [(J a1.Checker.Stack),(J a1.Checker.Start),h2,h5,h8,h11,h14] 0) ?_
 refine lE (agg [(J a1.Checker.Stack),(J a1.Checker.Start),h2,h5,h8,h11]) ?_
 refine q (J k17) ?_
 obtain ⟨y18,h19,h⟩:=obind h
 have hP20:=HS.pop0 hH0
 have hF0:AllG ([]:List (List BX→Prop)) []:=AllG.nil
 obtain ⟨Ls21,Lf22,hG23,hF24,hP25⟩:=HS.popG hP20 hG0 hF0 (j:=0) rfl
 obtain ⟨Ls26,Lf27,hG28,hF29,hP30⟩:=HS.popG hP25 hG23 hF24 (j:=1) rfl
 obtain ⟨Ls31,Lf32,hG33,hF34,hP35⟩:=HS.popG hP30 hG28 hF29 (j:=2) rfl
 obtain ⟨Ls36,Lf37,hG38,hF39,hP40⟩:=HS.popG hP35 hG33 hF34 (j:=3) rfl
 refine AOps.callF (al:=true) (g:=29) (args:=[(agg [(J a1.Checker.Stack),(J a1.Checker.Start),h2,h5,h8,h11]),(J k17)]) rfl rfl rfl (laws_markChecker_K10_ok (a1:=a1.Checker) ho4 ho7 ho10 ho13 (HS.enterK hP40) hF39 (HS.enterLo hP40 hl) h19 (HS.wf' hH0)) ?_
 rintro _ _ s41 ⟨Ls43,rfl,hH44,hG45⟩
 have hJ46:=HS.joinK hP40 hH44
 obtain ⟨Ls47,Lf48,hG49,hF50,hP51⟩:=HS.putG hJ46 hG38 hG45 (j:=0) rfl
 obtain ⟨Ls52,Lf53,hG54,hF55,hP56⟩:=HS.putG hP51 hG49 hF50 (j:=1) rfl
 obtain ⟨Ls57,Lf58,hG59,hF60,hP61⟩:=HS.putG hP56 hG54 hF55 (j:=2) rfl
 obtain ⟨Ls62,Lf63,hG64,hF65,hP66⟩:=HS.putG hP61 hG59 hF60 (j:=3) rfl
 cases hF65
 have hH67:=HS.push0 hP66
 refine aq (J y18.1) ?_
 refine ns ?_
 refine q (eptr [(J a1.Checker.Stack),(J a1.Checker.Start),h2,h5,h8,h11,h14] 6) ?_
 refine lE h14 ?_
 refine q (J y18.1) ?_
 obtain ⟨y68,h69,h⟩:=obind h
 have hP70:=HS.pop0 hH67
 have hF0:AllG ([]:List (List BX→Prop)) []:=AllG.nil
 obtain ⟨Ls71,Lf72,hG73,hF74,hP75⟩:=HS.popG hP70 hG64 hF0 (j:=4) rfl
 refine AOps.callF (al:=true) (g:=30) (args:=[h14,(J y18.1)]) rfl rfl rfl (laws_markStringS_K10_ok ho16 (HS.enterK hP75) hF74 (HS.enterLo hP75 hl) h69 (HS.wf' hH67)) ?_
 rintro _ _ s76 ⟨Ls78,rfl,hH79,hG80⟩
 have hJ81:=HS.joinK hP75 hH79
 obtain ⟨Ls82,Lf83,hG84,hF85,hP86⟩:=HS.putG hJ81 hG73 hG80 (j:=4) rfl
 cases hF85
 have hH87:=HS.push0 hP86
 refine aq (J y68.1) ?_
 refine ns ?_
 refine q (J y68.1) ?_
 refine aq (J y68.1) ?_
 refine nl ?_
 cases h
 exact AW.ret ⟨_,_,rfl,⟨Ls82,rfl,hH87,hG84⟩⟩
theorem laws_markDeedS_K10_ok {a4:List Deed} {k5:Int} {h1:AV} {k2:KT} {s:St} (ho3:h1.one=true) {ex:List Nat} {Ls0:List (List BX)} (hH0:HS ex true s s (([]:List BX)++Ls0.flatten)) (hG0:AllG [OS oE65 h1 k2 a4] Ls0) (hl:LoOK ex true s) {r:Int × (List Deed)} (h:laws_markDeedS_K10 a4 k5=some r) (hs:WF s):ACall Cf 13 [h1,(J k5)] s (fun v _ s'=>∃ (Ls':List (List BX)),v=(J r.1)∧HS ex true s s' (([]:List BX)++Ls'.flatten)∧AllG [OS oE65 h1 k2 r.2] Ls') true:=by
 refine ACall.keepR rfl rfl rfl ?_
 unfold laws_markDeedS_K10 at h
 refine sr ?_
 refine q (J 0) ?_
 refine nl ?_
 refine AW.seq ?_
 refine sr ?_
 refine q (J 0) ?_
 refine nl ?_
 refine AW.meet (σ:=(List Deed) × Int × St × (List (List BX))) (fun (m6,k7,s8,Ls9) tm os=>⟨updL tm [(1,(J k7))],updL os [],s8⟩) (fun (m6,k7,s8,Ls9)=>(HS ex true s s8 (([]:List BX)++Ls9.flatten))∧(AllG [OS oE65 h1 k2 m6] Ls9)∧laws_markDeedS_K10_J1 m6 k7=some r) ?_ ?_
 ·rintro ⟨m6,k7,s8,Ls9⟩ tm os ⟨hH10,hG11,h⟩
  unfold laws_markDeedS_K10_J1 at h
  refine sr ?_
  refine q (J k7) ?_
  refine aq (J k7) ?_
  refine nl ?_
  cases h
  exact AW.ret ⟨_,_,rfl,⟨Ls9,rfl,hH10,hG11⟩⟩
 intro KJ12
 refine AW.block ?_
 refine AW.res [(0,h1),(1,(J k5)),(5,(J 0))] [] ⟨rfl,rfl,rfl,trivial⟩ trivial ?_
 refine AW.loopF (σ:=(List Deed) × Int × Int) (τ:=St × (List (List BX))) (fun (m13,k14,i15) (s16,Ls17)=>(HS ex true s s16 (([]:List BX)++Ls17.flatten))∧(AllG [OS oE65 h1 k2 m13] Ls17)) (fun (m13,k14,i15) (s16,Ls17) tm os=>⟨updL tm [(0,h1),(1,(J k14)),(5,(J i15))],updL os [],s16⟩) ?_ (x:=(a4,k5,0)) (y:=(s,Ls0)) h ⟨hH0,hG0⟩
 clear h
 rintro ⟨m13,k14,i15⟩ ⟨s16,Ls17⟩ tm os ⟨hH18,hG19⟩ ee1 h hL1 hR1
 unfold laws_markDeedS_K10_S1 at h
 dsimp only at h
 refine AW.seq ?_
 refine sr ?_
 refine q (J i15) ?_
 refine q h1 ?_
 refine AOps.lenO (j:=0) hG19 rfl Sub.here rfl rfl rfl rfl rfl ?_
 refine q (bool (decide ((i15:Int)<(m13.length:Int)))) ?_
 refine nl ?_
 rcases oite h with ⟨hc20,h⟩ | ⟨hc20,h⟩
 ·refine cT hc20 ?_
  refine AW.skip ?_
  refine AW.seq ?_
  refine AW.block ?_
  refine sr ?_
  refine q h1 ?_
  refine q (J i15) ?_
  refine q (J k14) ?_
  obtain ⟨x23,h24,h⟩:=obind h
  refine AOps.idxO (j:=0) hG19 rfl Sub.here h24 rfl rfl rfl rfl rfl rfl rfl rfl rfl ?_
  intro b21 hb22
  refine q (ptr b21 (0+Int.toNat i15*3)) ?_
  refine AOps.stO (j:=0) (q:=0) (v:=(J k14)) (y':=({ x23 with Kind:=k14 }:Deed)) hH18 hG19 hl rfl Sub.here h24 hb22 rfl rfl rfl rfl rfl rfl rfl rfl (lt_b rfl) (le_b rfl) rfl (fun c B hc=>by obtain ⟨⟨_,hr,rfl⟩,rfl⟩:=hc; obtain ⟨_,rfl,h29⟩:=hr; obtain ⟨_,_,rfl,h30,h31⟩:=Cs_cons h29; cases h30; obtain ⟨_,_,rfl,h32,h33⟩:=Cs_cons h31; cases h32; obtain ⟨_,_,rfl,h34,h35⟩:=Cs_cons h33; cases h34; cases Cs_nil h35; exact ⟨⟨(agg [(J k14),(J x23.A),(J x23.B)]),⟨_,rfl,(.cons rfl (.cons rfl (.cons rfl .nil)))⟩,rfl⟩,rfl⟩) ?_
  intro Ls25 s26 hG27 hH28
  refine ns ?_
  refine q (J k14) ?_
  refine q (J (IntKind.wrap .i64 (k14+1))) ?_
  refine aq (J (IntKind.wrap .i64 (k14+1))) ?_
  refine ns ?_
  refine q h1 ?_
  refine q (J i15) ?_
  refine q (J (IntKind.wrap .i64 (k14+1))) ?_
  refine AOps.idxO (j:=0) hG27 rfl Sub.here (ix_set h24) rfl rfl rfl rfl rfl rfl rfl rfl rfl ?_
  intro b36 hb37
  refine q (ptr b36 (0+Int.toNat i15*3+1)) ?_
  refine AOps.stO (j:=0) (q:=1) (v:=(J (IntKind.wrap .i64 (k14+1)))) (y':=({ ({ x23 with Kind:=k14 }:Deed) with A:=IntKind.wrap .i64 (k14+1) }:Deed)) hH28 hG27 hl rfl Sub.here (ix_set h24) hb37 rfl rfl rfl rfl rfl rfl rfl rfl (lt_b rfl) (le_b rfl) rfl (fun c B hc=>by obtain ⟨⟨_,hr,rfl⟩,rfl⟩:=hc; obtain ⟨_,rfl,h42⟩:=hr; obtain ⟨_,_,rfl,h43,h44⟩:=Cs_cons h42; cases h43; obtain ⟨_,_,rfl,h45,h46⟩:=Cs_cons h44; cases h45; obtain ⟨_,_,rfl,h47,h48⟩:=Cs_cons h46; cases h47; cases Cs_nil h48; exact ⟨⟨(agg [(J (({ x23 with Kind:=k14 }:Deed).Kind)),(J (IntKind.wrap .i64 (k14+1))),(J (({ x23 with Kind:=k14 }:Deed).B))]),⟨_,rfl,(.cons rfl (.cons rfl (.cons rfl .nil)))⟩,rfl⟩,rfl⟩) ?_
  intro Ls38 s39 hG40 hH41
  refine ns ?_
  refine q (J (IntKind.wrap .i64 (k14+1))) ?_
  refine q (J (IntKind.wrap .i64 ((IntKind.wrap .i64 (k14+1))+1))) ?_
  refine aq (J (IntKind.wrap .i64 ((IntKind.wrap .i64 (k14+1))+1))) ?_
  refine ns ?_
  refine q h1 ?_
  refine q (J i15) ?_
  refine q (J (IntKind.wrap .i64 ((IntKind.wrap .i64 (k14+1))+1))) ?_
  refine AOps.idxO (j:=0) hG40 rfl Sub.here (ix_set (ix_set h24)) rfl rfl rfl rfl rfl rfl rfl rfl rfl ?_
  intro b49 hb50
  refine q (ptr b49 (0+Int.toNat i15*3+2)) ?_
  refine AOps.stO (j:=0) (q:=2) (v:=(J (IntKind.wrap .i64 ((IntKind.wrap .i64 (k14+1))+1)))) (y':=({ ({ ({ x23 with Kind:=k14 }:Deed) with A:=IntKind.wrap .i64 (k14+1) }:Deed) with B:=IntKind.wrap .i64 ((IntKind.wrap .i64 (k14+1))+1) }:Deed)) hH41 hG40 hl rfl Sub.here (ix_set (ix_set h24)) hb50 rfl rfl rfl rfl rfl rfl rfl rfl (lt_b rfl) (le_b rfl) rfl (fun c B hc=>by obtain ⟨⟨_,hr,rfl⟩,rfl⟩:=hc; obtain ⟨_,rfl,h55⟩:=hr; obtain ⟨_,_,rfl,h56,h57⟩:=Cs_cons h55; cases h56; obtain ⟨_,_,rfl,h58,h59⟩:=Cs_cons h57; cases h58; obtain ⟨_,_,rfl,h60,h61⟩:=Cs_cons h59; cases h60; cases Cs_nil h61; exact ⟨⟨(agg [(J (({ ({ x23 with Kind:=k14 }:Deed) with A:=IntKind.wrap .i64 (k14+1) }:Deed).Kind)),(J (({ ({ x23 with Kind:=k14 }:Deed) with A:=IntKind.wrap .i64 (k14+1) }:Deed).A)),(J (IntKind.wrap .i64 ((IntKind.wrap .i64 (k14+1))+1)))]),⟨_,rfl,(.cons rfl (.cons rfl (.cons rfl .nil)))⟩,rfl⟩,rfl⟩) ?_
  intro Ls51 s52 hG53 hH54
  refine nl ?_
  refine AW.region ?_
  refine q (J (IntKind.wrap .i64 ((IntKind.wrap .i64 (k14+1))+1))) ?_
  refine q (J (IntKind.wrap .i64 ((IntKind.wrap .i64 ((IntKind.wrap .i64 (k14+1))+1))+1))) ?_
  refine aq (J (IntKind.wrap .i64 ((IntKind.wrap .i64 ((IntKind.wrap .i64 (k14+1))+1))+1))) ?_
  refine nl ?_
  refine AW.inBlock ?_
  refine AW.region ?_
  refine q (J i15) ?_
  refine q (J (IntKind.wrap .i64 (i15+1))) ?_
  refine aq (J (IntKind.wrap .i64 (i15+1))) ?_
  refine nl ?_
  cases h
  exact AW.res [(0,h1),(1,(J (IntKind.wrap .i64 ((IntKind.wrap .i64 ((IntKind.wrap .i64 (k14+1))+1))+1)))),(5,(J (IntKind.wrap .i64 (i15+1))))] [] ⟨rfl,rfl,rfl,trivial⟩ trivial (hL1 _ rfl (s52,Ls51) _ _ ⟨hH54,hG53⟩)
 refine cF hc20 ?_
 refine AW.exit rfl ?_
 obtain ⟨r62,hm,hx⟩:=omap h
 clear h
 subst hx
 have hx:=hR1 _ rfl
 rw[hx] at hm
 have h:=hm
 exact AW.res [(1,(J k14))] [] ⟨rfl,trivial⟩ trivial (KJ12 (m13,k14,s16,Ls17) _ _ ⟨hH18,hG19,h⟩)
theorem laws_heldDeedS_okN {a1:List Deed} {k6:Int} {z2:Nat} {f3:Bool} {e4:List AV} {s:St} (h5:LR rDeed 3 a1 z2 e4) {r:Int} (h:laws_heldDeedS a1 k6=some r) (hs:WF s):ACallN Cf 14 [(sl z2 f3 e4),(J k6)] s fun v _ s'=>rJ r v∧s'=s:=by
 refine ACallN.pure rfl rfl rfl .I ?_
 have hWF:=hs.lo'
 unfold laws_heldDeedS at h
 refine sr ?_
 refine q (J 0) ?_
 refine nl ?_
 refine AW.seq ?_
 refine sr ?_
 refine q (J 0) ?_
 refine nl ?_
 refine AW.meet (σ:=Int) (fun k7 tm os=>⟨updL tm [(1,(J k7))],updL os [],{ s with lo:=s.n }⟩) (fun k7=>laws_heldDeedS_J1 k7=some r) ?_ ?_
 ·rintro k7 tm os h
  unfold laws_heldDeedS_J1 at h
  refine sr ?_
  refine q (J k7) ?_
  refine aq (J k7) ?_
  refine nl ?_
  cases h
  exact AW.ret ⟨rfl,_,_,rfl,rfl⟩
 intro KJ8
 refine AW.block ?_
 refine AW.res [(0,(sl z2 f3 e4)),(1,(J k6)),(5,(J 0))] [] ⟨rfl,rfl,rfl,trivial⟩ trivial ?_
 refine AW.loopF (σ:=Int × Int) (τ:=Unit) (fun (k9,i10) _=>True) (fun (k9,i10) _ tm os=>⟨updL tm [(0,(sl z2 f3 e4)),(1,(J k9)),(5,(J i10))],updL os [],{ s with lo:=s.n }⟩) ?_ (x:=(k6,0)) (y:=()) h trivial
 clear h
 rintro ⟨k9,i10⟩ _ tm os - ee1 h hL1 hR1
 unfold laws_heldDeedS_S1 at h
 dsimp only at h
 refine AW.seq ?_
 refine sr ?_
 refine q (J i10) ?_
 refine q (sl z2 f3 e4) ?_
 refine AOps.p rfl (len_eq h5) ?_
 refine q (bool (decide ((i10:Int)<(a1.length:Int)))) ?_
 refine nl ?_
 rcases oite h with ⟨hc11,h⟩ | ⟨hc11,h⟩
 ·refine cT hc11 ?_
  refine AW.skip ?_
  refine AW.seq ?_
  refine AW.block ?_
  refine AW.seq ?_
  refine sr ?_
  refine q (sl z2 f3 e4) ?_
  refine q (J i10) ?_
  obtain ⟨x12,h13,h⟩:=obind h
  obtain ⟨v16,h14,h15⟩:=idx_sl h5 h13
  obtain ⟨_,rfl,h17⟩:=h14
  obtain ⟨_,_,rfl,h18,h19⟩:=Cs_cons h17
  cases h18
  obtain ⟨_,_,rfl,h20,h21⟩:=Cs_cons h19
  cases h20
  obtain ⟨_,_,rfl,h22,h23⟩:=Cs_cons h21
  cases h22
  cases Cs_nil h23
  refine AOps.pureR rfl rfl rfl h15 rfl (rfl:_=(eptr [(J x12.Kind),(J x12.A),(J x12.B)] 0)) ?_
  refine q (eptr [(J x12.Kind),(J x12.A),(J x12.B)] 0) ?_
  refine lE (J x12.Kind) ?_
  refine q (J k9) ?_
  refine q (bool (x12.Kind != k9)) ?_
  refine nl ?_
  rcases oite h with ⟨hc24,h⟩ | ⟨hc24,h⟩
  ·refine cT hc24 ?_
   refine sr ?_
   refine q (J (-1)) ?_
   refine nl ?_
   cases h
   have hr:=hR1 _ rfl
   subst hr
   exact AW.ret ⟨rfl,_,_,rfl,rfl⟩
  refine cF hc24 ?_
  refine AW.skip ?_
  refine sr ?_
  refine q (J k9) ?_
  refine q (J (IntKind.wrap .i64 (k9+1))) ?_
  refine aq (J (IntKind.wrap .i64 (k9+1))) ?_
  refine nl ?_
  refine AW.seq ?_
  refine sr ?_
  refine q (sl z2 f3 e4) ?_
  refine q (J i10) ?_
  obtain ⟨x25,h26,h⟩:=obind h
  obtain ⟨v29,h27,h28⟩:=idx_sl h5 h26
  obtain ⟨_,rfl,h30⟩:=h27
  obtain ⟨_,_,rfl,h31,h32⟩:=Cs_cons h30
  cases h31
  obtain ⟨_,_,rfl,h33,h34⟩:=Cs_cons h32
  cases h33
  obtain ⟨_,_,rfl,h35,h36⟩:=Cs_cons h34
  cases h35
  cases Cs_nil h36
  refine AOps.pureR rfl rfl rfl h28 rfl (rfl:_=(eptr [(J x25.Kind),(J x25.A),(J x25.B)] 0)) ?_
  refine q (eptr [(J x25.Kind),(J x25.A),(J x25.B)] 1) ?_
  refine lE (J x25.A) ?_
  refine q (J (IntKind.wrap .i64 (k9+1))) ?_
  refine q (bool (x25.A != (IntKind.wrap .i64 (k9+1)))) ?_
  refine nl ?_
  rcases oite h with ⟨hc37,h⟩ | ⟨hc37,h⟩
  ·refine cT hc37 ?_
   refine sr ?_
   refine q (J (-1)) ?_
   refine nl ?_
   cases h
   have hr:=hR1 _ rfl
   subst hr
   exact AW.ret ⟨rfl,_,_,rfl,rfl⟩
  refine cF hc37 ?_
  refine AW.skip ?_
  refine sr ?_
  refine q (J (IntKind.wrap .i64 (k9+1))) ?_
  refine q (J (IntKind.wrap .i64 ((IntKind.wrap .i64 (k9+1))+1))) ?_
  refine aq (J (IntKind.wrap .i64 ((IntKind.wrap .i64 (k9+1))+1))) ?_
  refine nl ?_
  refine AW.seq ?_
  refine sr ?_
  refine q (sl z2 f3 e4) ?_
  refine q (J i10) ?_
  obtain ⟨x38,h39,h⟩:=obind h
  obtain ⟨v42,h40,h41⟩:=idx_sl h5 h39
  obtain ⟨_,rfl,h43⟩:=h40
  obtain ⟨_,_,rfl,h44,h45⟩:=Cs_cons h43
  cases h44
  obtain ⟨_,_,rfl,h46,h47⟩:=Cs_cons h45
  cases h46
  obtain ⟨_,_,rfl,h48,h49⟩:=Cs_cons h47
  cases h48
  cases Cs_nil h49
  refine AOps.pureR rfl rfl rfl h41 rfl (rfl:_=(eptr [(J x38.Kind),(J x38.A),(J x38.B)] 0)) ?_
  refine q (eptr [(J x38.Kind),(J x38.A),(J x38.B)] 2) ?_
  refine lE (J x38.B) ?_
  refine q (J (IntKind.wrap .i64 ((IntKind.wrap .i64 (k9+1))+1))) ?_
  refine q (bool (x38.B != (IntKind.wrap .i64 ((IntKind.wrap .i64 (k9+1))+1)))) ?_
  refine nl ?_
  rcases oite h with ⟨hc50,h⟩ | ⟨hc50,h⟩
  ·refine cT hc50 ?_
   refine sr ?_
   refine q (J (-1)) ?_
   refine nl ?_
   cases h
   have hr:=hR1 _ rfl
   subst hr
   exact AW.ret ⟨rfl,_,_,rfl,rfl⟩
  refine cF hc50 ?_
  refine AW.skip ?_
  refine AW.region ?_
  refine q (J (IntKind.wrap .i64 ((IntKind.wrap .i64 (k9+1))+1))) ?_
  refine q (J (IntKind.wrap .i64 ((IntKind.wrap .i64 ((IntKind.wrap .i64 (k9+1))+1))+1))) ?_
  refine aq (J (IntKind.wrap .i64 ((IntKind.wrap .i64 ((IntKind.wrap .i64 (k9+1))+1))+1))) ?_
  refine nl ?_
  refine AW.inBlock ?_
  refine AW.region ?_
  refine q (J i10) ?_
  refine q (J (IntKind.wrap .i64 (i10+1))) ?_
  refine aq (J (IntKind.wrap .i64 (i10+1))) ?_
  refine nl ?_
  cases h
  exact AW.res [(0,(sl z2 f3 e4)),(1,(J (IntKind.wrap .i64 ((IntKind.wrap .i64 ((IntKind.wrap .i64 (k9+1))+1))+1)))),(5,(J (IntKind.wrap .i64 (i10+1))))] [] ⟨rfl,rfl,rfl,trivial⟩ trivial (hL1 _ rfl () _ _ trivial)
 refine cF hc11 ?_
 refine AW.exit rfl ?_
 obtain ⟨r51,hm,hx⟩:=omap h
 clear h
 subst hx
 have hx:=hR1 _ rfl
 rw[hx] at hm
 have h:=hm
 exact AW.res [(1,(J k9))] [] ⟨rfl,trivial⟩ trivial (KJ8 (k9) _ _ h)
theorem laws_FnExactFinishDeeds_ok {p1:Stream} {p1_22:List Deed} {z2 z6 z10 z14 z18 z23:Nat} {f3 f7 f11 f15 f19 f24:Bool} {e4 e8 e12 e16 e20 e25:List AV} {s:St} (h5:LR rB 1 p1.Checker.Accept z2 e4) (h9:LR (rL rPush 2) 1 p1.Checker.Call z6 e8) (h13:LR (rL (rL rJ 1) 1) 1 p1.Checker.Return z10 e12) (h17:LR (rL rJ 1) 1 p1.Checker.Inner z14 e16) (h21:LR rS 1 p1.Pieces z18 e20) (h26:LR rDeed 3 p1_22 z23 e25) {r:Bool} (h:laws_FnExactFinishDeeds p1 p1_22=some r) (hs:WF s) (hz:s.n=0∧s.ro=0):ACall Cf 3 [(agg [(J p1.Checker.Stack),(J p1.Checker.Start),(sl z2 f3 e4),(sl z6 f7 e8),(sl z10 f11 e12),(sl z14 f15 e16),(sl z18 f19 e20)]),(sl z23 f24 e25)] s fun v _ s'=>(rB) r v∧s'=s:=by
 refine ACall.boxes rfl rfl rfl ?_
 have hH0:=HS.g0 (HS.init hs)
 have hG0:=AllG.nil
 have hl:LoOK [] false s:=LoOK.nil
 unfold laws_FnExactFinishDeeds at h
 refine sr ?_
 refine AOps.makeR rfl rfl rfl rfl rfl rfl (rfl:_=(eptr [(J p1.Checker.Stack),(J p1.Checker.Start),(sl z2 f3 e4),(sl z6 f7 e8),(sl z10 f11 e12),(sl z14 f15 e16),(sl z18 f19 e20)] 0)) ?_
 refine q (bool false) ?_
 refine ns ?_
 refine q (J 1048576) ?_
 refine ns ?_
 refine lE (agg [(J p1.Checker.Stack),(J p1.Checker.Start),(sl z2 f3 e4),(sl z6 f7 e8),(sl z10 f11 e12),(sl z14 f15 e16),(sl z18 f19 e20)]) ?_
 refine q (J 1048576) ?_
 obtain ⟨y27,h28,h⟩:=obind h
 refine cP (laws_szStream_ok h5 h9 h13 h17 h21 h28 (HS.wf' hH0)) ?_
 intro _ o30 h29
 cases h29
 refine aq (J y27) ?_
 refine nl ?_
 refine AW.seq ?_
 refine sr ?_
 refine q (J y27) ?_
 refine q (bool (decide ((y27:Int)<0))) ?_
 refine nl ?_
 rcases oite h with ⟨hc31,h⟩ | ⟨hc31,h⟩
 ·refine cT hc31 ?_
  refine sr ?_
  refine q (bool true) ?_
  refine nl ?_
  cases h
  exact AW.ret ⟨⟨_,hH0⟩,_,_,rfl,(Fin.of (p:=(rB) true) .B rfl).2⟩
 refine cF hc31 ?_
 refine AW.skip ?_
 refine sr ?_
 refine q (sl z23 f24 e25) ?_
 refine q (J y27) ?_
 obtain ⟨y32,h33,h⟩:=obind h
 refine cP (laws_szDeedS_ok h26 h33 (HS.wf' hH0)) ?_
 intro _ o35 h34
 cases h34
 refine aq (J y32) ?_
 refine nl ?_
 refine AW.seq ?_
 refine sr ?_
 refine q (J y32) ?_
 refine q (bool (decide ((y32:Int)<0))) ?_
 refine nl ?_
 rcases oite h with ⟨hc36,h⟩ | ⟨hc36,h⟩
 ·refine cT hc36 ?_
  refine sr ?_
  refine q (bool true) ?_
  refine nl ?_
  cases h
  exact AW.ret ⟨⟨_,hH0⟩,_,_,rfl,(Fin.of (p:=(rB) true) .B rfl).2⟩
 refine cF hc36 ?_
 refine AW.skip ?_
 refine sr ?_
 refine lE (agg [(J p1.Checker.Stack),(J p1.Checker.Start),(sl z2 f3 e4),(sl z6 f7 e8),(sl z10 f11 e12),(sl z14 f15 e16),(sl z18 f19 e20)]) ?_
 obtain ⟨y37,h38,h⟩:=obind h
 refine cP (laws_toStream_ok h5 h9 h13 h17 h21 h38 (HS.wf' hH0)) ?_
 intro _ o75 h39
 obtain ⟨_,rfl,h40⟩:=h39
 obtain ⟨_,_,rfl,h41,h42⟩:=Cs_cons h40
 cases h41
 obtain ⟨_,_,rfl,h43,h44⟩:=Cs_cons h42
 cases h43
 obtain ⟨_,_,rfl,h45,h46⟩:=Cs_cons h44
 obtain ⟨z47,f48,e49,rfl,h50⟩:=h45
 obtain ⟨_,_,rfl,h51,h52⟩:=Cs_cons h46
 obtain ⟨z53,f54,e55,rfl,h56⟩:=h51
 obtain ⟨_,_,rfl,h57,h58⟩:=Cs_cons h52
 obtain ⟨z59,f60,e61,rfl,h62⟩:=h57
 obtain ⟨_,_,rfl,h63,h64⟩:=Cs_cons h58
 obtain ⟨z65,f66,e67,rfl,h68⟩:=h63
 obtain ⟨_,_,rfl,h69,h70⟩:=Cs_cons h64
 obtain ⟨z71,f72,e73,rfl,h74⟩:=h69
 cases Cs_nil h70
 refine q (sl z23 f24 e25) ?_
 obtain ⟨y76,h77,h⟩:=obind h
 refine cP (laws_toDeedS_ok h26 h77 (HS.wf' hH0)) ?_
 intro _ o83 h78
 obtain ⟨z79,f80,e81,rfl,h82⟩:=h78
 obtain ⟨y84,h85,h⟩:=obind h
 refine cP (spec_FinishDeeds_ok h50 h56 h62 h68 h74 h82 h85 (HS.wf' hH0)) ?_
 intro _ o96 h86
 obtain ⟨_,rfl,h87⟩:=h86
 obtain ⟨_,_,rfl,h88,h89⟩:=Cs_cons h87
 obtain ⟨z90,f91,e92,rfl,h93⟩:=h88
 obtain ⟨_,_,rfl,h94,h95⟩:=Cs_cons h89
 cases h94
 cases Cs_nil h95
 refine q (AV.tup [(sl z90 f91 e92),(J y84.2)]) ?_
 refine q (sl z90 f91 e92) ?_
 refine q (J y84.2) ?_
 refine aq (sl z90 f91 e92) ?_
 refine aq (J y84.2) ?_
 refine ns ?_
 refine lE (agg [(J p1.Checker.Stack),(J p1.Checker.Start),(sl z2 f3 e4),(sl z6 f7 e8),(sl z10 f11 e12),(sl z14 f15 e16),(sl z18 f19 e20)]) ?_
 obtain ⟨y97,h98,h⟩:=obind h
 have hP114:=HS.pop0 hH0
 refine AOps.callF (al:=true) (g:=7) (args:=[(agg [(J p1.Checker.Stack),(J p1.Checker.Start),(sl z2 f3 e4),(sl z6 f7 e8),(sl z10 f11 e12),(sl z14 f15 e16),(sl z18 f19 e20)])]) rfl rfl rfl (laws_toStream_K0_ok h5 h9 h13 h17 h21  h98 (HS.wf' hH0)) ?_
 rintro _ _ s115 ⟨h99,k100,h102,k103,h105,k106,h108,k109,h111,k112,Ls117,rfl,hH118,hG119,ho101,ho104,ho107,ho110,ho113⟩
 have hJ120:=HS.joinK1 hP114 hH118
 obtain ⟨Ls121,Lf122,hG123,hF124,hP125⟩:=HS.pushN hJ120 hG0 hG119
 obtain ⟨Ls126,Lf127,hG128,hF129,hP130⟩:=HS.pushN hP125 hG123 hF124
 obtain ⟨Ls131,Lf132,hG133,hF134,hP135⟩:=HS.pushN hP130 hG128 hF129
 obtain ⟨Ls136,Lf137,hG138,hF139,hP140⟩:=HS.pushN hP135 hG133 hF134
 obtain ⟨Ls141,Lf142,hG143,hF144,hP145⟩:=HS.pushN hP140 hG138 hF139
 cases hF144
 have hH146:=HS.push0 hP145
 change HS [] false s s115 (([]:List BX)++Ls141.flatten) at hH146
 change AllG [OS oE9 h111 k112 y97.Pieces,OS oE54 h108 k109 y97.Checker.Inner,OS oE25 h105 k106 y97.Checker.Return,OS oE119 h102 k103 y97.Checker.Call,OS oE4 h99 k100 y97.Checker.Accept] Ls141 at hG143
 refine AOps.allocP rfl rfl rfl rfl ⟨rfl,rfl⟩ rfl ?_
 refine AOps.stP (v:=(agg [(J y97.Checker.Stack),(J y97.Checker.Start),h99,h102,h105,h108,h111])) rfl rfl rfl rfl rfl rfl rfl (lay_cons rfl (lay_cons rfl (lay_cons ho101 (lay_cons ho104 (lay_cons ho107 (lay_cons ho110 (lay_cons ho113 lay_nil))))))) rfl (lt_b rfl) rfl ?_
 refine ns ?_
 refine q (sl z23 f24 e25) ?_
 obtain ⟨y147,h148,h⟩:=obind h
 have hP152:=HS.pop0 hH146
 refine AOps.callF (al:=true) (g:=8) (args:=[(sl z23 f24 e25)]) rfl rfl rfl (laws_toDeedS_K0_ok h26  h148 (HS.wf' hH146)) ?_
 rintro h149 _ s153 ⟨_,k150,Ls155,rfl,hH156,hG157,ho151⟩
 have hJ158:=HS.joinK1 hP152 hH156
 obtain ⟨Ls159,Lf160,hG161,hF162,hP163⟩:=HS.pushN hJ158 hG143 hG157
 cases hF162
 have hH164:=HS.push0 hP163
 change HS [] false s s153 (([]:List BX)++Ls159.flatten) at hH164
 change AllG [OS oE65 h149 k150 y147,OS oE9 h111 k112 y97.Pieces,OS oE54 h108 k109 y97.Checker.Inner,OS oE25 h105 k106 y97.Checker.Return,OS oE119 h102 k103 y97.Checker.Call,OS oE4 h99 k100 y97.Checker.Accept] Ls159 at hG161
 refine aq h149 ?_
 refine ns ?_
 refine lE (agg [(J y97.Checker.Stack),(J y97.Checker.Start),h99,h102,h105,h108,h111]) ?_
 refine q h149 ?_
 obtain ⟨y165,h166,h⟩:=obind h
 refine AOps.lendK (al:=true) (g:=9) (args:=[(agg [(J y97.Checker.Stack),(J y97.Checker.Start),h99,h102,h105,h108,h111]),h149]) (ps:=[(rStream) y97,(rL rDeed 3) y147]) (p:=fun v s'=>∃ (h206:AV) (k207:KT) (Ls':List (List BX)),v=(AV.tup [h206,(J y165.2)])∧HS [] true s153.blind s' (([]:List BX)++Ls'.flatten)∧AllG [OS oE65 h206 k207 y165.1] Ls'∧h206.one=true) rfl rfl rfl rfl rfl rfl rfl (.cons (Fin.A (.cons (Fin.of (p:=rJ y97.Checker.Stack) .I rfl) (.cons (Fin.of (p:=rJ y97.Checker.Start) .I rfl) (.cons (Fin.up (by decide) (HS.finS hH164 hG161 (j:=5) rfl Sub.here (Or.inl rfl))) (.cons (Fin.up (by decide) (HS.finS hH164 hG161 (j:=4) rfl Sub.here (Or.inl rfl))) (.cons (Fin.up (by decide) (HS.finS hH164 hG161 (j:=3) rfl Sub.here (Or.inl rfl))) (.cons (Fin.up (by decide) (HS.finS hH164 hG161 (j:=2) rfl Sub.here (Or.inl rfl))) (.cons (Fin.up (by decide) (HS.finS hH164 hG161 (j:=1) rfl Sub.here (Or.inl rfl))) .nil)))))))) (.cons (Fin.up (by decide) (HS.finS hH164 hG161 (j:=0) rfl Sub.here (Or.inl rfl))) .nil)) (fun args' hc=>by obtain ⟨_,_,rfl,hv0,hd0⟩:=Cs_cons hc; obtain ⟨_,rfl,h167⟩:=hv0; obtain ⟨_,_,rfl,h168,h169⟩:=Cs_cons h167; cases h168; obtain ⟨_,_,rfl,h170,h171⟩:=Cs_cons h169; cases h170; obtain ⟨_,_,rfl,h172,h173⟩:=Cs_cons h171; obtain ⟨z174,f175,e176,rfl,h177⟩:=h172; obtain ⟨_,_,rfl,h178,h179⟩:=Cs_cons h173; obtain ⟨z180,f181,e182,rfl,h183⟩:=h178; obtain ⟨_,_,rfl,h184,h185⟩:=Cs_cons h179; obtain ⟨z186,f187,e188,rfl,h189⟩:=h184; obtain ⟨_,_,rfl,h190,h191⟩:=Cs_cons h185; obtain ⟨z192,f193,e194,rfl,h195⟩:=h190; obtain ⟨_,_,rfl,h196,h197⟩:=Cs_cons h191; obtain ⟨z198,f199,e200,rfl,h201⟩:=h196; cases Cs_nil h197; obtain ⟨_,_,rfl,hv1,hd1⟩:=Cs_cons hd0; obtain ⟨z202,f203,e204,rfl,h205⟩:=hv1; cases Cs_nil hd1; exact impl_FinishDeeds_K00_okN h177 h183 h189 h195 h201 h205 h166 WF.blind) (by rintro v s1 ⟨_,_,Lq,rfl,hHq,hGq,_⟩; simp[AV.flatB,AV.flatL,HS.flatB0 hHq hGq (j:=0) rfl (Flt.leaf (fun x v n hr=>by obtain ⟨_,rfl,h216⟩:=hr; obtain ⟨_,_,rfl,h217,h218⟩:=Cs_cons h216; cases h217; obtain ⟨_,_,rfl,h219,h220⟩:=Cs_cons h218; cases h219; obtain ⟨_,_,rfl,h221,h222⟩:=Cs_cons h220; cases h221; cases Cs_nil h222; rfl))]) ?_
 rintro _ s209 ⟨h206,k207,Ls211,rfl,hH212,hG213,ho208⟩
 have hH214:=HS.joinL (Lf:=Ls211) hH164 (by simpa using hH212) hG213 (FG.cons (Flt.leaf (fun x v n hr=>by obtain ⟨_,rfl,h223⟩:=hr; obtain ⟨_,_,rfl,h224,h225⟩:=Cs_cons h223; cases h224; obtain ⟨_,_,rfl,h226,h227⟩:=Cs_cons h225; cases h226; obtain ⟨_,_,rfl,h228,h229⟩:=Cs_cons h227; cases h228; cases Cs_nil h229; rfl)) FG.nil)
 have hG215:=AllG.app hG213 hG161
 have hH230:=HS.reL hH214
 change HS [] false s (St.join s153 s209) (([]:List BX)++List.flatten (Ls211++Ls159)) at hH230
 change AllG [OS oE65 h206 k207 y165.1,OS oE65 h149 k150 y147,OS oE9 h111 k112 y97.Pieces,OS oE54 h108 k109 y97.Checker.Inner,OS oE25 h105 k106 y97.Checker.Return,OS oE119 h102 k103 y97.Checker.Call,OS oE4 h99 k100 y97.Checker.Accept] (Ls211++Ls159) at hG215
 refine q (AV.tup [h206,(J y165.2)]) ?_
 refine q h206 ?_
 refine q (J y165.2) ?_
 refine aq h206 ?_
 refine aq (J y165.2) ?_
 refine nl ?_
 refine AW.seq ?_
 refine sr ?_
 refine q h206 ?_
 refine q (sl z90 f91 e92) ?_
 obtain ⟨y231,h232,h⟩:=obind h
 refine AOps.lendP (g:=10) (args:=[h206,(sl z90 f91 e92)]) (ps:=[(rL rDeed 3) y165.1,(rL rDeed 3) y84.1]) (p:=(rB) y231) rfl rfl rfl rfl rfl rfl rfl (.cons (Fin.up (by decide) (HS.finS hH230 hG215 (j:=0) rfl Sub.here (Or.inl rfl))) (.cons (Fin.of (p:=(rL rDeed 3) y84.1) (.L fun _=>(.A (.cons .I (.cons .I (.cons .I .nil))))) (⟨_,_,_,rfl,h93⟩)) .nil)) (fun args' hc=>by obtain ⟨_,_,rfl,hv0,hd0⟩:=Cs_cons hc; obtain ⟨z233,f234,e235,rfl,h236⟩:=hv0; obtain ⟨_,_,rfl,hv1,hd1⟩:=Cs_cons hd0; obtain ⟨z237,f238,e239,rfl,h240⟩:=hv1; cases Cs_nil hd1; exact laws_eqDeedS_okN h236 h240 h232 WF.blind) (fun v n hv=>by cases hv; rfl) ?_
 intro _ h241
 cases h241
 refine q (bool (!y231)) ?_
 refine q (bool (!y231)) ?_
 refine AOps.split 4 (fun f'=>∃ tm' os',f'=⟨updL tm' [(1,(sl z23 f24 e25)),(2,(eptr [(J p1.Checker.Stack),(J p1.Checker.Start),(sl z2 f3 e4),(sl z6 f7 e8),(sl z10 f11 e12),(sl z14 f15 e16),(sl z18 f19 e20)] 0)),(6,(sl z90 f91 e92)),(7,(J y84.2)),(8,(eptr [(J y97.Checker.Stack),(J y97.Checker.Start),h99,h102,h105,h108,h111] 0)),(9,h149),(10,h206),(11,(J y165.2)),(53,(bool ((!y231)||(y165.2 != y84.2))))],updL os' [],(St.join s153 s209)⟩) ?_ ?_
 ·rcases Bool.eq_false_or_eq_true (!y231) with hc242 | hc242
  ·refine kn 49 hc242 ?_
   refine sk ?_
   refine sk ?_
   refine sk ?_
   refine q (bool true) ?_
   exact rR ⟨rfl,rfl,rfl,rfl,rfl,rfl,rfl,rfl,congrArg bool (or_t hc242),trivial⟩
  ·refine kn 49 hc242 ?_
   refine q (J y165.2) ?_
   refine q (J y84.2) ?_
   refine q (bool (y165.2 != y84.2)) ?_
   refine q (bool (y165.2 != y84.2)) ?_
   exact rR ⟨rfl,rfl,rfl,rfl,rfl,rfl,rfl,rfl,congrArg bool (or_f hc242),trivial⟩
 rintro _ ⟨tm,os,rfl⟩
 refine nl ?_
 rcases oite h with ⟨hc243,h⟩ | ⟨hc243,h⟩
 ·refine cT hc243 ?_
  refine sr ?_
  refine q (bool false) ?_
  refine nl ?_
  cases h
  exact AW.ret ⟨⟨_,hH230⟩,_,_,rfl,(Fin.of (p:=(rB) false) .B rfl).2⟩
 refine cF hc243 ?_
 refine AW.skip ?_
 refine AW.seq ?_
 refine sr ?_
 refine lE (agg [(J y97.Checker.Stack),(J y97.Checker.Start),h99,h102,h105,h108,h111]) ?_
 refine lE (agg [(J p1.Checker.Stack),(J p1.Checker.Start),(sl z2 f3 e4),(sl z6 f7 e8),(sl z10 f11 e12),(sl z14 f15 e16),(sl z18 f19 e20)]) ?_
 obtain ⟨y244,h245,h⟩:=obind h
 refine AOps.callDP (g:=7) (args:=[(agg [(J p1.Checker.Stack),(J p1.Checker.Start),(sl z2 f3 e4),(sl z6 f7 e8),(sl z10 f11 e12),(sl z14 f15 e16),(sl z18 f19 e20)])]) (p:=(rStream) y244) rfl rfl rfl (laws_toStream_ok h5 h9 h13 h17 h21 h245 ((HS.wf' hH230).still)) (fun v hv=>Nice.pure (k:=FINK) (p:=(rStream) y244) (.A (.cons .I (.cons .I (.cons (.L fun _=>.B) (.cons (.L fun _=>(.L fun _=>(.A (.cons .I (.cons .I .nil))))) (.cons (.L fun _=>(.L fun _=>(.L fun _=>.I))) (.cons (.L fun _=>(.L fun _=>.I)) (.cons (.L fun _=>.S) .nil)))))))) _ v hv) ?_
 intro _ o282 h246
 obtain ⟨_,rfl,h247⟩:=h246
 obtain ⟨_,_,rfl,h248,h249⟩:=Cs_cons h247
 cases h248
 obtain ⟨_,_,rfl,h250,h251⟩:=Cs_cons h249
 cases h250
 obtain ⟨_,_,rfl,h252,h253⟩:=Cs_cons h251
 obtain ⟨z254,f255,e256,rfl,h257⟩:=h252
 obtain ⟨_,_,rfl,h258,h259⟩:=Cs_cons h253
 obtain ⟨z260,f261,e262,rfl,h263⟩:=h258
 obtain ⟨_,_,rfl,h264,h265⟩:=Cs_cons h259
 obtain ⟨z266,f267,e268,rfl,h269⟩:=h264
 obtain ⟨_,_,rfl,h270,h271⟩:=Cs_cons h265
 obtain ⟨z272,f273,e274,rfl,h275⟩:=h270
 obtain ⟨_,_,rfl,h276,h277⟩:=Cs_cons h271
 obtain ⟨z278,f279,e280,rfl,h281⟩:=h276
 cases Cs_nil h277
 obtain ⟨y283,h284,h⟩:=obind h
 refine AOps.lendD (g:=11) (args:=[(agg [(J y97.Checker.Stack),(J y97.Checker.Start),h99,h102,h105,h108,h111]),(agg [(J y244.Checker.Stack),(J y244.Checker.Start),(sl z254 f255 e256),(sl z260 f261 e262),(sl z266 f267 e268),(sl z272 f273 e274),(sl z278 f279 e280)])]) (ps:=[(rStream) y97,(rStream) y244]) (p:=(rB) y283) rfl rfl rfl rfl rfl rfl rfl (.cons (Fin.A (.cons (Fin.of (p:=rJ y97.Checker.Stack) .I rfl) (.cons (Fin.of (p:=rJ y97.Checker.Start) .I rfl) (.cons (Fin.up (by decide) (HS.finSt hH230 hG215 (j:=6) rfl Sub.here)) (.cons (Fin.up (by decide) (HS.finSt hH230 hG215 (j:=5) rfl Sub.here)) (.cons (Fin.up (by decide) (HS.finSt hH230 hG215 (j:=4) rfl Sub.here)) (.cons (Fin.up (by decide) (HS.finSt hH230 hG215 (j:=3) rfl Sub.here)) (.cons (Fin.up (by decide) (HS.finSt hH230 hG215 (j:=2) rfl Sub.here)) .nil)))))))) (.cons (Fin.of (p:=(rStream) y244) (.A (.cons .I (.cons .I (.cons (.L fun _=>.B) (.cons (.L fun _=>(.L fun _=>(.A (.cons .I (.cons .I .nil))))) (.cons (.L fun _=>(.L fun _=>(.L fun _=>.I))) (.cons (.L fun _=>(.L fun _=>.I)) (.cons (.L fun _=>.S) .nil)))))))) (⟨_,rfl,(.cons rfl (.cons rfl (.cons ⟨_,_,_,rfl,h257⟩ (.cons ⟨_,_,_,rfl,h263⟩ (.cons ⟨_,_,_,rfl,h269⟩ (.cons ⟨_,_,_,rfl,h275⟩ (.cons ⟨_,_,_,rfl,h281⟩ .nil)))))))⟩)) .nil)) (fun args' hc=>by obtain ⟨_,_,rfl,hv0,hd0⟩:=Cs_cons hc; obtain ⟨_,rfl,h285⟩:=hv0; obtain ⟨_,_,rfl,h286,h287⟩:=Cs_cons h285; cases h286; obtain ⟨_,_,rfl,h288,h289⟩:=Cs_cons h287; cases h288; obtain ⟨_,_,rfl,h290,h291⟩:=Cs_cons h289; obtain ⟨z292,f293,e294,rfl,h295⟩:=h290; obtain ⟨_,_,rfl,h296,h297⟩:=Cs_cons h291; obtain ⟨z298,f299,e300,rfl,h301⟩:=h296; obtain ⟨_,_,rfl,h302,h303⟩:=Cs_cons h297; obtain ⟨z304,f305,e306,rfl,h307⟩:=h302; obtain ⟨_,_,rfl,h308,h309⟩:=Cs_cons h303; obtain ⟨z310,f311,e312,rfl,h313⟩:=h308; obtain ⟨_,_,rfl,h314,h315⟩:=Cs_cons h309; obtain ⟨z316,f317,e318,rfl,h319⟩:=h314; cases Cs_nil h315; obtain ⟨_,_,rfl,hv1,hd1⟩:=Cs_cons hd0; obtain ⟨_,rfl,h320⟩:=hv1; obtain ⟨_,_,rfl,h321,h322⟩:=Cs_cons h320; cases h321; obtain ⟨_,_,rfl,h323,h324⟩:=Cs_cons h322; cases h323; obtain ⟨_,_,rfl,h325,h326⟩:=Cs_cons h324; obtain ⟨z327,f328,e329,rfl,h330⟩:=h325; obtain ⟨_,_,rfl,h331,h332⟩:=Cs_cons h326; obtain ⟨z333,f334,e335,rfl,h336⟩:=h331; obtain ⟨_,_,rfl,h337,h338⟩:=Cs_cons h332; obtain ⟨z339,f340,e341,rfl,h342⟩:=h337; obtain ⟨_,_,rfl,h343,h344⟩:=Cs_cons h338; obtain ⟨z345,f346,e347,rfl,h348⟩:=h343; obtain ⟨_,_,rfl,h349,h350⟩:=Cs_cons h344; obtain ⟨z351,f352,e353,rfl,h354⟩:=h349; cases Cs_nil h350; cases Cs_nil hd1; exact laws_eqStream_okN h295 h301 h307 h313 h319 h330 h336 h342 h348 h354 h284 WF.blind) (fun v n hv=>by cases hv; rfl) (fun v hv=>Nice.pure (k:=FINK) (p:=(rB) y283) .B _ v hv) ?_
 intro _ h355
 cases h355
 refine q (bool (!y283)) ?_
 refine nl ?_
 rcases oite h with ⟨hc356,h⟩ | ⟨hc356,h⟩
 ·refine cT hc356 ?_
  refine sr ?_
  refine q (bool false) ?_
  refine nl ?_
  cases h
  exact AW.ret ⟨⟨_,hH230⟩,_,_,rfl,(Fin.of (p:=(rB) false) .B rfl).2⟩
 refine cF hc356 ?_
 refine AW.skip ?_
 refine AW.seq ?_
 refine sr ?_
 refine q h149 ?_
 refine q (sl z23 f24 e25) ?_
 obtain ⟨y357,h358,h⟩:=obind h
 refine cP (laws_toDeedS_ok h26 h358 (HS.wf' hH230)) ?_
 intro _ o364 h359
 obtain ⟨z360,f361,e362,rfl,h363⟩:=h359
 obtain ⟨y365,h366,h⟩:=obind h
 refine AOps.lendP (g:=10) (args:=[h149,(sl z360 f361 e362)]) (ps:=[(rL rDeed 3) y147,(rL rDeed 3) y357]) (p:=(rB) y365) rfl rfl rfl rfl rfl rfl rfl (.cons (Fin.up (by decide) (HS.finS hH230 hG215 (j:=1) rfl Sub.here (Or.inl rfl))) (.cons (Fin.of (p:=(rL rDeed 3) y357) (.L fun _=>(.A (.cons .I (.cons .I (.cons .I .nil))))) (⟨_,_,_,rfl,h363⟩)) .nil)) (fun args' hc=>by obtain ⟨_,_,rfl,hv0,hd0⟩:=Cs_cons hc; obtain ⟨z367,f368,e369,rfl,h370⟩:=hv0; obtain ⟨_,_,rfl,hv1,hd1⟩:=Cs_cons hd0; obtain ⟨z371,f372,e373,rfl,h374⟩:=hv1; cases Cs_nil hd1; exact laws_eqDeedS_okN h370 h374 h366 WF.blind) (fun v n hv=>by cases hv; rfl) ?_
 intro _ h375
 cases h375
 refine q (bool (!y365)) ?_
 refine nl ?_
 rcases oite h with ⟨hc376,h⟩ | ⟨hc376,h⟩
 ·refine cT hc376 ?_
  refine sr ?_
  refine q (bool false) ?_
  refine nl ?_
  cases h
  exact AW.ret ⟨⟨_,hH230⟩,_,_,rfl,(Fin.of (p:=(rB) false) .B rfl).2⟩
 refine cF hc376 ?_
 refine AW.skip ?_
 refine sr ?_
 refine q (J 1) ?_
 refine ns ?_
 refine lE (agg [(J y97.Checker.Stack),(J y97.Checker.Start),h99,h102,h105,h108,h111]) ?_
 refine q (J 1) ?_
 obtain ⟨y377,h378,h⟩:=obind h
 have hP379:=HS.pop0 hH230
 have hF0:AllG ([]:List (List BX→Prop)) []:=AllG.nil
 obtain ⟨Ls380,Lf381,hG382,hF383,hP384⟩:=HS.popG hP379 hG215 hF0 (j:=6) rfl
 obtain ⟨Ls385,Lf386,hG387,hF388,hP389⟩:=HS.popG hP384 hG382 hF383 (j:=5) rfl
 obtain ⟨Ls390,Lf391,hG392,hF393,hP394⟩:=HS.popG hP389 hG387 hF388 (j:=4) rfl
 obtain ⟨Ls395,Lf396,hG397,hF398,hP399⟩:=HS.popG hP394 hG392 hF393 (j:=3) rfl
 obtain ⟨Ls400,Lf401,hG402,hF403,hP404⟩:=HS.popG hP399 hG397 hF398 (j:=2) rfl
 refine AOps.callF (al:=true) (g:=12) (args:=[(agg [(J y97.Checker.Stack),(J y97.Checker.Start),h99,h102,h105,h108,h111]),(J 1)]) rfl rfl rfl (laws_markStream_K10_ok (a1:=y97) ho101 ho104 ho107 ho110 ho113 (HS.enterK hP404) hF403 (HS.enterLo hP404 hl) h378 (HS.wf' hH230)) ?_
 rintro _ _ s405 ⟨Ls407,rfl,hH408,hG409⟩
 have hJ410:=HS.joinK hP404 hH408
 obtain ⟨Ls411,Lf412,hG413,hF414,hP415⟩:=HS.putG hJ410 hG402 hG409 (j:=6) rfl
 obtain ⟨Ls416,Lf417,hG418,hF419,hP420⟩:=HS.putG hP415 hG413 hF414 (j:=5) rfl
 obtain ⟨Ls421,Lf422,hG423,hF424,hP425⟩:=HS.putG hP420 hG418 hF419 (j:=4) rfl
 obtain ⟨Ls426,Lf427,hG428,hF429,hP430⟩:=HS.putG hP425 hG423 hF424 (j:=3) rfl
 obtain ⟨Ls431,Lf432,hG433,hF434,hP435⟩:=HS.putG hP430 hG428 hF429 (j:=2) rfl
 cases hF434
 have hH436:=HS.push0 hP435
 change HS [] false s s405 (([]:List BX)++Ls431.flatten) at hH436
 change AllG [OS oE65 h206 k207 y165.1,OS oE65 h149 k150 y147,OS oE9 h111 k112 y377.2.2.2.2.2,OS oE54 h108 k109 y377.2.2.2.2.1,OS oE25 h105 k106 y377.2.2.2.1,OS oE119 h102 k103 y377.2.2.1,OS oE4 h99 k100 y377.2.1] Ls431 at hG433
 refine aq (J y377.1) ?_
 refine ns ?_
 refine q h149 ?_
 refine q (J y377.1) ?_
 obtain ⟨y437,h438,h⟩:=obind h
 have hP439:=HS.pop0 hH436
 have hF0:AllG ([]:List (List BX→Prop)) []:=AllG.nil
 obtain ⟨Ls440,Lf441,hG442,hF443,hP444⟩:=HS.popG hP439 hG433 hF0 (j:=1) rfl
 refine AOps.callF (al:=true) (g:=13) (args:=[h149,(J y377.1)]) rfl rfl rfl (laws_markDeedS_K10_ok ho151 (HS.enterK hP444) hF443 (HS.enterLo hP444 hl) h438 (HS.wf' hH436)) ?_
 rintro _ _ s445 ⟨Ls447,rfl,hH448,hG449⟩
 have hJ450:=HS.joinK hP444 hH448
 obtain ⟨Ls451,Lf452,hG453,hF454,hP455⟩:=HS.putG hJ450 hG442 hG449 (j:=1) rfl
 cases hF454
 have hH456:=HS.push0 hP455
 change HS [] false s s445 (([]:List BX)++Ls451.flatten) at hH456
 change AllG [OS oE65 h206 k207 y165.1,OS oE65 h149 k150 y437.2,OS oE9 h111 k112 y377.2.2.2.2.2,OS oE54 h108 k109 y377.2.2.2.2.1,OS oE25 h105 k106 y377.2.2.2.1,OS oE119 h102 k103 y377.2.2.1,OS oE4 h99 k100 y377.2.1] Ls451 at hG453
 refine aq (J y437.1) ?_
 refine nl ?_
 refine AW.seq ?_
 refine sr ?_
 refine q (J y437.1) ?_
 refine q (bool (decide ((y437.1:Int)<0))) ?_
 refine q (bool (decide ((y437.1:Int)<0))) ?_
 obtain ⟨b458,hb,h⟩:=obind h
 refine AOps.split 5 (fun f'=>∃ tm' os',f'=⟨updL tm' [(1,(sl z23 f24 e25)),(2,(eptr [(J p1.Checker.Stack),(J p1.Checker.Start),(sl z2 f3 e4),(sl z6 f7 e8),(sl z10 f11 e12),(sl z14 f15 e16),(sl z18 f19 e20)] 0)),(6,(sl z90 f91 e92)),(7,(J y84.2)),(10,h206),(11,(J y165.2)),(77,(bool b458))],updL os' [],s445⟩) ?_ ?_
 ·rcases oite hb with ⟨hc457,hb⟩ | ⟨hc457,hb⟩
  ·refine kn 72 hc457 ?_
   refine sk ?_
   refine sk ?_
   refine sk ?_
   refine sk ?_
   refine q (bool true) ?_
   exact rR ⟨rfl,rfl,rfl,rfl,rfl,rfl,congrArg bool (Option.some.inj hb),trivial⟩
  ·have h:=hb
   refine kn 72 hc457 ?_
   refine q h206 ?_
   refine q (sl z90 f91 e92) ?_
   obtain ⟨y459,h460,h⟩:=obind h
   refine AOps.lendP (g:=10) (args:=[h206,(sl z90 f91 e92)]) (ps:=[(rL rDeed 3) y165.1,(rL rDeed 3) y84.1]) (p:=(rB) y459) rfl rfl rfl rfl rfl rfl rfl (.cons (Fin.up (by decide) (HS.finS hH456 hG453 (j:=0) rfl Sub.here (Or.inl rfl))) (.cons (Fin.of (p:=(rL rDeed 3) y84.1) (.L fun _=>(.A (.cons .I (.cons .I (.cons .I .nil))))) (⟨_,_,_,rfl,h93⟩)) .nil)) (fun args' hc=>by obtain ⟨_,_,rfl,hv0,hd0⟩:=Cs_cons hc; obtain ⟨z461,f462,e463,rfl,h464⟩:=hv0; obtain ⟨_,_,rfl,hv1,hd1⟩:=Cs_cons hd0; obtain ⟨z465,f466,e467,rfl,h468⟩:=hv1; cases Cs_nil hd1; exact laws_eqDeedS_okN h464 h468 h460 WF.blind) (fun v n hv=>by cases hv; rfl) ?_
   intro _ h469
   cases h469
   refine q (bool (!y459)) ?_
   refine q (bool (!y459)) ?_
   exact rR ⟨rfl,rfl,rfl,rfl,rfl,rfl,congrArg bool (Option.some.inj h),trivial⟩
 rintro _ ⟨tm,os,rfl⟩
 refine q (bool b458) ?_
 refine AOps.split 4 (fun f'=>∃ tm' os',f'=⟨updL tm' [(1,(sl z23 f24 e25)),(2,(eptr [(J p1.Checker.Stack),(J p1.Checker.Start),(sl z2 f3 e4),(sl z6 f7 e8),(sl z10 f11 e12),(sl z14 f15 e16),(sl z18 f19 e20)] 0)),(6,(sl z90 f91 e92)),(7,(J y84.2)),(10,h206),(82,(bool (b458||(y165.2 != y84.2))))],updL os' [],s445⟩) ?_ ?_
 ·rcases Bool.eq_false_or_eq_true b458 with hc470 | hc470
  ·refine kn 78 hc470 ?_
   refine sk ?_
   refine sk ?_
   refine sk ?_
   refine q (bool true) ?_
   exact rR ⟨rfl,rfl,rfl,rfl,rfl,congrArg bool (or_t hc470),trivial⟩
  ·refine kn 78 hc470 ?_
   refine q (J y165.2) ?_
   refine q (J y84.2) ?_
   refine q (bool (y165.2 != y84.2)) ?_
   refine q (bool (y165.2 != y84.2)) ?_
   exact rR ⟨rfl,rfl,rfl,rfl,rfl,congrArg bool (or_f hc470),trivial⟩
 rintro _ ⟨tm,os,rfl⟩
 refine nl ?_
 rcases oite h with ⟨hc471,h⟩ | ⟨hc471,h⟩
 ·refine cT hc471 ?_
  refine sr ?_
  refine q (bool false) ?_
  refine nl ?_
  cases h
  exact AW.ret ⟨⟨_,hH456⟩,_,_,rfl,(Fin.of (p:=(rB) false) .B rfl).2⟩
 refine cF hc471 ?_
 refine AW.skip ?_
 refine sr ?_
 refine q (J 1) ?_
 refine ns ?_
 refine q h206 ?_
 refine q (J 1) ?_
 obtain ⟨y472,h473,h⟩:=obind h
 have hP474:=HS.pop0 hH456
 have hF0:AllG ([]:List (List BX→Prop)) []:=AllG.nil
 obtain ⟨Ls475,Lf476,hG477,hF478,hP479⟩:=HS.popG hP474 hG453 hF0 (j:=0) rfl
 refine AOps.callF (al:=true) (g:=13) (args:=[h206,(J 1)]) rfl rfl rfl (laws_markDeedS_K10_ok ho208 (HS.enterK hP479) hF478 (HS.enterLo hP479 hl) h473 (HS.wf' hH456)) ?_
 rintro _ _ s480 ⟨Ls482,rfl,hH483,hG484⟩
 have hJ485:=HS.joinK hP479 hH483
 obtain ⟨Ls486,Lf487,hG488,hF489,hP490⟩:=HS.putG hJ485 hG477 hG484 (j:=0) rfl
 cases hF489
 have hH491:=HS.push0 hP490
 change HS [] false s s480 (([]:List BX)++Ls486.flatten) at hH491
 change AllG [OS oE65 h206 k207 y472.2,OS oE65 h149 k150 y437.2,OS oE9 h111 k112 y377.2.2.2.2.2,OS oE54 h108 k109 y377.2.2.2.2.1,OS oE25 h105 k106 y377.2.2.2.1,OS oE119 h102 k103 y377.2.2.1,OS oE4 h99 k100 y377.2.1] Ls486 at hG488
 refine aq (J y472.1) ?_
 refine ns ?_
 refine q (J 1) ?_
 refine ns ?_
 refine q h206 ?_
 refine q (J 1) ?_
 obtain ⟨y492,h493,h⟩:=obind h
 refine AOps.lendP (g:=14) (args:=[h206,(J 1)]) (ps:=[(rL rDeed 3) y472.2,rJ 1]) (p:=rJ y492) rfl rfl rfl rfl rfl rfl rfl (.cons (Fin.up (by decide) (HS.finS hH491 hG488 (j:=0) rfl Sub.here (Or.inl rfl))) (.cons (Fin.of (p:=rJ 1) .I rfl) .nil)) (fun args' hc=>by obtain ⟨_,_,rfl,hv0,hd0⟩:=Cs_cons hc; obtain ⟨z494,f495,e496,rfl,h497⟩:=hv0; obtain ⟨_,_,rfl,hv1,hd1⟩:=Cs_cons hd0; cases hv1; cases Cs_nil hd1; exact laws_heldDeedS_okN h497 h493 WF.blind) (fun v n hv=>by cases hv; rfl) ?_
 intro _ h498
 cases h498
 refine aq (J y492) ?_
 refine nl ?_
 refine AW.seq ?_
 refine sr ?_
 refine q (J y492) ?_
 refine q (bool (decide ((y492:Int)<0))) ?_
 refine nl ?_
 rcases oite h with ⟨hc499,h⟩ | ⟨hc499,h⟩
 ·refine cT hc499 ?_
  refine sr ?_
  refine q (bool false) ?_
  refine nl ?_
  cases h
  exact AW.ret ⟨⟨_,hH491⟩,_,_,rfl,(Fin.of (p:=(rB) false) .B rfl).2⟩
 refine cF hc499 ?_
 refine AW.skip ?_
 refine AW.seq ?_
 refine sr ?_
 refine q (J y492) ?_
 refine q (J y472.1) ?_
 refine q (bool (y492 != y472.1)) ?_
 refine nl ?_
 rcases oite h with ⟨hc500,h⟩ | ⟨hc500,h⟩
 ·refine cT hc500 ?_
  refine sr ?_
  refine q (bool false) ?_
  refine nl ?_
  cases h
  exact AW.ret ⟨⟨_,hH491⟩,_,_,rfl,(Fin.of (p:=(rB) false) .B rfl).2⟩
 refine cF hc500 ?_
 refine AW.skip ?_
 refine sr ?_
 refine lE (agg [(J p1.Checker.Stack),(J p1.Checker.Start),(sl z2 f3 e4),(sl z6 f7 e8),(sl z10 f11 e12),(sl z14 f15 e16),(sl z18 f19 e20)]) ?_
 obtain ⟨y501,h502,h⟩:=obind h
 have hP518:=HS.pop0 hH491
 refine AOps.callF (al:=true) (g:=7) (args:=[(agg [(J p1.Checker.Stack),(J p1.Checker.Start),(sl z2 f3 e4),(sl z6 f7 e8),(sl z10 f11 e12),(sl z14 f15 e16),(sl z18 f19 e20)])]) rfl rfl rfl (laws_toStream_K0_ok h5 h9 h13 h17 h21  h502 (HS.wf' hH491)) ?_
 rintro _ _ s519 ⟨h503,k504,h506,k507,h509,k510,h512,k513,h515,k516,Ls521,rfl,hH522,hG523,ho505,ho508,ho511,ho514,ho517⟩
 have hJ524:=HS.joinK1 hP518 hH522
 obtain ⟨Ls525,Lf526,hG527,hF528,hP529⟩:=HS.pushN hJ524 hG488 hG523
 obtain ⟨Ls530,Lf531,hG532,hF533,hP534⟩:=HS.pushN hP529 hG527 hF528
 obtain ⟨Ls535,Lf536,hG537,hF538,hP539⟩:=HS.pushN hP534 hG532 hF533
 obtain ⟨Ls540,Lf541,hG542,hF543,hP544⟩:=HS.pushN hP539 hG537 hF538
 obtain ⟨Ls545,Lf546,hG547,hF548,hP549⟩:=HS.pushN hP544 hG542 hF543
 cases hF548
 have hH550:=HS.push0 hP549
 change HS [] false s s519 (([]:List BX)++Ls545.flatten) at hH550
 change AllG [OS oE9 h515 k516 y501.Pieces,OS oE54 h512 k513 y501.Checker.Inner,OS oE25 h509 k510 y501.Checker.Return,OS oE119 h506 k507 y501.Checker.Call,OS oE4 h503 k504 y501.Checker.Accept,OS oE65 h206 k207 y472.2,OS oE65 h149 k150 y437.2,OS oE9 h111 k112 y377.2.2.2.2.2,OS oE54 h108 k109 y377.2.2.2.2.1,OS oE25 h105 k106 y377.2.2.2.1,OS oE119 h102 k103 y377.2.2.1,OS oE4 h99 k100 y377.2.1] Ls545 at hG547
 refine q (sl z23 f24 e25) ?_
 obtain ⟨y551,h552,h⟩:=obind h
 have hP556:=HS.pop0 hH550
 refine AOps.callF (al:=true) (g:=8) (args:=[(sl z23 f24 e25)]) rfl rfl rfl (laws_toDeedS_K0_ok h26  h552 (HS.wf' hH550)) ?_
 rintro h553 _ s557 ⟨_,k554,Ls559,rfl,hH560,hG561,ho555⟩
 have hJ562:=HS.joinK1 hP556 hH560
 obtain ⟨Ls563,Lf564,hG565,hF566,hP567⟩:=HS.pushN hJ562 hG547 hG561
 cases hF566
 have hH568:=HS.push0 hP567
 change HS [] false s s557 (([]:List BX)++Ls563.flatten) at hH568
 change AllG [OS oE65 h553 k554 y551,OS oE9 h515 k516 y501.Pieces,OS oE54 h512 k513 y501.Checker.Inner,OS oE25 h509 k510 y501.Checker.Return,OS oE119 h506 k507 y501.Checker.Call,OS oE4 h503 k504 y501.Checker.Accept,OS oE65 h206 k207 y472.2,OS oE65 h149 k150 y437.2,OS oE9 h111 k112 y377.2.2.2.2.2,OS oE54 h108 k109 y377.2.2.2.2.1,OS oE25 h105 k106 y377.2.2.2.1,OS oE119 h102 k103 y377.2.2.1,OS oE4 h99 k100 y377.2.1] Ls563 at hG565
 obtain ⟨y569,h570,h⟩:=obind h
 refine AOps.lendK (al:=true) (g:=9) (args:=[(agg [(J y501.Checker.Stack),(J y501.Checker.Start),h503,h506,h509,h512,h515]),h553]) (ps:=[(rStream) y501,(rL rDeed 3) y551]) (p:=fun v s'=>∃ (h610:AV) (k611:KT) (Ls':List (List BX)),v=(AV.tup [h610,(J y569.2)])∧HS [] true s557.blind s' (([]:List BX)++Ls'.flatten)∧AllG [OS oE65 h610 k611 y569.1] Ls'∧h610.one=true) rfl rfl rfl rfl rfl rfl rfl (.cons (Fin.A (.cons (Fin.of (p:=rJ y501.Checker.Stack) .I rfl) (.cons (Fin.of (p:=rJ y501.Checker.Start) .I rfl) (.cons (Fin.up (by decide) (HS.finS hH568 hG565 (j:=5) rfl Sub.here (Or.inl rfl))) (.cons (Fin.up (by decide) (HS.finS hH568 hG565 (j:=4) rfl Sub.here (Or.inl rfl))) (.cons (Fin.up (by decide) (HS.finS hH568 hG565 (j:=3) rfl Sub.here (Or.inl rfl))) (.cons (Fin.up (by decide) (HS.finS hH568 hG565 (j:=2) rfl Sub.here (Or.inl rfl))) (.cons (Fin.up (by decide) (HS.finS hH568 hG565 (j:=1) rfl Sub.here (Or.inl rfl))) .nil)))))))) (.cons (Fin.up (by decide) (HS.finS hH568 hG565 (j:=0) rfl Sub.here (Or.inl rfl))) .nil)) (fun args' hc=>by obtain ⟨_,_,rfl,hv0,hd0⟩:=Cs_cons hc; obtain ⟨_,rfl,h571⟩:=hv0; obtain ⟨_,_,rfl,h572,h573⟩:=Cs_cons h571; cases h572; obtain ⟨_,_,rfl,h574,h575⟩:=Cs_cons h573; cases h574; obtain ⟨_,_,rfl,h576,h577⟩:=Cs_cons h575; obtain ⟨z578,f579,e580,rfl,h581⟩:=h576; obtain ⟨_,_,rfl,h582,h583⟩:=Cs_cons h577; obtain ⟨z584,f585,e586,rfl,h587⟩:=h582; obtain ⟨_,_,rfl,h588,h589⟩:=Cs_cons h583; obtain ⟨z590,f591,e592,rfl,h593⟩:=h588; obtain ⟨_,_,rfl,h594,h595⟩:=Cs_cons h589; obtain ⟨z596,f597,e598,rfl,h599⟩:=h594; obtain ⟨_,_,rfl,h600,h601⟩:=Cs_cons h595; obtain ⟨z602,f603,e604,rfl,h605⟩:=h600; cases Cs_nil h601; obtain ⟨_,_,rfl,hv1,hd1⟩:=Cs_cons hd0; obtain ⟨z606,f607,e608,rfl,h609⟩:=hv1; cases Cs_nil hd1; exact impl_FinishDeeds_K00_okN h581 h587 h593 h599 h605 h609 h570 WF.blind) (by rintro v s1 ⟨_,_,Lq,rfl,hHq,hGq,_⟩; simp[AV.flatB,AV.flatL,HS.flatB0 hHq hGq (j:=0) rfl (Flt.leaf (fun x v n hr=>by obtain ⟨_,rfl,h620⟩:=hr; obtain ⟨_,_,rfl,h621,h622⟩:=Cs_cons h620; cases h621; obtain ⟨_,_,rfl,h623,h624⟩:=Cs_cons h622; cases h623; obtain ⟨_,_,rfl,h625,h626⟩:=Cs_cons h624; cases h625; cases Cs_nil h626; rfl))]) ?_
 rintro _ s613 ⟨h610,k611,Ls615,rfl,hH616,hG617,ho612⟩
 have hH618:=HS.joinL (Lf:=Ls615) hH568 (by simpa using hH616) hG617 (FG.cons (Flt.leaf (fun x v n hr=>by obtain ⟨_,rfl,h627⟩:=hr; obtain ⟨_,_,rfl,h628,h629⟩:=Cs_cons h627; cases h628; obtain ⟨_,_,rfl,h630,h631⟩:=Cs_cons h629; cases h630; obtain ⟨_,_,rfl,h632,h633⟩:=Cs_cons h631; cases h632; cases Cs_nil h633; rfl)) FG.nil)
 have hG619:=AllG.app hG617 hG565
 have hH634:=HS.reL hH618
 change HS [] false s (St.join s557 s613) (([]:List BX)++List.flatten (Ls615++Ls563)) at hH634
 change AllG [OS oE65 h610 k611 y569.1,OS oE65 h553 k554 y551,OS oE9 h515 k516 y501.Pieces,OS oE54 h512 k513 y501.Checker.Inner,OS oE25 h509 k510 y501.Checker.Return,OS oE119 h506 k507 y501.Checker.Call,OS oE4 h503 k504 y501.Checker.Accept,OS oE65 h206 k207 y472.2,OS oE65 h149 k150 y437.2,OS oE9 h111 k112 y377.2.2.2.2.2,OS oE54 h108 k109 y377.2.2.2.2.1,OS oE25 h105 k106 y377.2.2.2.1,OS oE119 h102 k103 y377.2.2.1,OS oE4 h99 k100 y377.2.1] (Ls615++Ls563) at hG619
 refine q (AV.tup [h610,(J y569.2)]) ?_
 refine q h610 ?_
 refine q (J y569.2) ?_
 refine aq h610 ?_
 refine aq (J y569.2) ?_
 refine nl ?_
 refine AW.seq ?_
 refine sr ?_
 refine q h610 ?_
 refine q (sl z90 f91 e92) ?_
 obtain ⟨y635,h636,h⟩:=obind h
 refine AOps.lendP (g:=10) (args:=[h610,(sl z90 f91 e92)]) (ps:=[(rL rDeed 3) y569.1,(rL rDeed 3) y84.1]) (p:=(rB) y635) rfl rfl rfl rfl rfl rfl rfl (.cons (Fin.up (by decide) (HS.finS hH634 hG619 (j:=0) rfl Sub.here (Or.inl rfl))) (.cons (Fin.of (p:=(rL rDeed 3) y84.1) (.L fun _=>(.A (.cons .I (.cons .I (.cons .I .nil))))) (⟨_,_,_,rfl,h93⟩)) .nil)) (fun args' hc=>by obtain ⟨_,_,rfl,hv0,hd0⟩:=Cs_cons hc; obtain ⟨z637,f638,e639,rfl,h640⟩:=hv0; obtain ⟨_,_,rfl,hv1,hd1⟩:=Cs_cons hd0; obtain ⟨z641,f642,e643,rfl,h644⟩:=hv1; cases Cs_nil hd1; exact laws_eqDeedS_okN h640 h644 h636 WF.blind) (fun v n hv=>by cases hv; rfl) ?_
 intro _ h645
 cases h645
 refine q (bool (!y635)) ?_
 refine q (bool (!y635)) ?_
 refine AOps.split 4 (fun f'=>∃ tm' os',f'=⟨updL tm' [(10,h206),(13,(J y472.1)),(110,(bool ((!y635)||(y569.2 != y84.2))))],updL os' [],(St.join s557 s613)⟩) ?_ ?_
 ·rcases Bool.eq_false_or_eq_true (!y635) with hc646 | hc646
  ·refine kn 106 hc646 ?_
   refine sk ?_
   refine sk ?_
   refine sk ?_
   refine q (bool true) ?_
   exact rR ⟨rfl,rfl,congrArg bool (or_t hc646),trivial⟩
  ·refine kn 106 hc646 ?_
   refine q (J y569.2) ?_
   refine q (J y84.2) ?_
   refine q (bool (y569.2 != y84.2)) ?_
   refine q (bool (y569.2 != y84.2)) ?_
   exact rR ⟨rfl,rfl,congrArg bool (or_f hc646),trivial⟩
 rintro _ ⟨tm,os,rfl⟩
 refine nl ?_
 rcases oite h with ⟨hc647,h⟩ | ⟨hc647,h⟩
 ·refine cT hc647 ?_
  refine sr ?_
  refine q (bool false) ?_
  refine nl ?_
  cases h
  exact AW.ret ⟨⟨_,hH634⟩,_,_,rfl,(Fin.of (p:=(rB) false) .B rfl).2⟩
 refine cF hc647 ?_
 refine AW.skip ?_
 refine sr ?_
 refine q (J 1) ?_
 refine ns ?_
 refine q h206 ?_
 refine q (J 1) ?_
 obtain ⟨y648,h649,h⟩:=obind h
 refine AOps.lendP (g:=14) (args:=[h206,(J 1)]) (ps:=[(rL rDeed 3) y472.2,rJ 1]) (p:=rJ y648) rfl rfl rfl rfl rfl rfl rfl (.cons (Fin.up (by decide) (HS.finS hH634 hG619 (j:=7) rfl Sub.here (Or.inl rfl))) (.cons (Fin.of (p:=rJ 1) .I rfl) .nil)) (fun args' hc=>by obtain ⟨_,_,rfl,hv0,hd0⟩:=Cs_cons hc; obtain ⟨z650,f651,e652,rfl,h653⟩:=hv0; obtain ⟨_,_,rfl,hv1,hd1⟩:=Cs_cons hd0; cases hv1; cases Cs_nil hd1; exact laws_heldDeedS_okN h653 h649 WF.blind) (fun v n hv=>by cases hv; rfl) ?_
 intro _ h654
 cases h654
 refine aq (J y648) ?_
 refine nl ?_
 refine AW.seq ?_
 refine sr ?_
 refine q (J y648) ?_
 refine q (bool (decide ((y648:Int)<0))) ?_
 refine nl ?_
 rcases oite h with ⟨hc655,h⟩ | ⟨hc655,h⟩
 ·refine cT hc655 ?_
  refine sr ?_
  refine q (bool false) ?_
  refine nl ?_
  cases h
  exact AW.ret ⟨⟨_,hH634⟩,_,_,rfl,(Fin.of (p:=(rB) false) .B rfl).2⟩
 refine cF hc655 ?_
 refine AW.skip ?_
 refine AW.seq ?_
 refine sr ?_
 refine q (J y648) ?_
 refine q (J y472.1) ?_
 refine q (bool (y648 != y472.1)) ?_
 refine nl ?_
 rcases oite h with ⟨hc656,h⟩ | ⟨hc656,h⟩
 ·refine cT hc656 ?_
  refine sr ?_
  refine q (bool false) ?_
  refine nl ?_
  cases h
  exact AW.ret ⟨⟨_,hH634⟩,_,_,rfl,(Fin.of (p:=(rB) false) .B rfl).2⟩
 refine cF hc656 ?_
 refine AW.skip ?_
 refine sr ?_
 refine q (bool true) ?_
 refine nl ?_
 cases h
 exact AW.ret ⟨⟨_,hH634⟩,_,_,rfl,(Fin.of (p:=(rB) true) .B rfl).2⟩
end Go.Proofs.YtbmjcddendnniaaGreat.law
