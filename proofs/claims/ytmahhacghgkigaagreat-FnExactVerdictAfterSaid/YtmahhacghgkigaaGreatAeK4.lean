import Derived.Test.YtmahhacghgkigaaGreatAeD
import Derived.Test.YtmahhacghgkigaaGreatAe4
import Derived.Test.YtmahhacghgkigaaGreatAeK3
set_option linter.unusedVariables false
set_option linter.unusedSimpArgs false
namespace Go.Proofs.YtmahhacghgkigaaGreat.law
open Go Go.Proofs Ae
open Ae.AV (int sl eptr agg ptr bool str)
set_option maxRecDepth 100000
set_option linter.unusedVariables false
theorem laws_eqDeedS_ok {a1 b6:List Deed} {z2 z7:Nat} {f3 f8:Bool} {e4 e9:List AV} {s:St} (h5:LR rDeed 3 a1 z2 e4) (h10:LR rDeed 3 b6 z7 e9) {r:Bool} (h:laws_eqDeedS a1 b6=some r) (hs:WF s):ACall Cf 11 [(sl z2 f3 e4),(sl z7 f8 e9)] s fun v _ s'=>(rB) r v∧s'=s:=by
 refine ACall.pure rfl rfl rfl .B ?_
 have hWF:=hs.lo'
 unfold laws_eqDeedS at h
 refine sr ?_
 refine q (bool false) ?_
 refine nl ?_
 refine AW.seq ?_
 refine sr ?_
 refine q (sl z2 f3 e4) ?_
 refine AOps.p rfl (len_eq h5) ?_
 refine q (sl z7 f8 e9) ?_
 refine AOps.p rfl (len_eq h10) ?_
 refine q (bool ((a1.length:Int) != (b6.length:Int))) ?_
 refine nl ?_
 rcases oite h with ⟨hc11,h⟩ | ⟨hc11,h⟩
 ·refine cT hc11 ?_
  refine sr ?_
  refine q (bool false) ?_
  refine nl ?_
  cases h
  exact AW.ret ⟨rfl,_,_,rfl,rfl⟩
 refine cF hc11 ?_
 refine AW.skip ?_
 refine AW.seq ?_
 refine sr ?_
 refine q (J 0) ?_
 refine nl ?_
 refine AW.meet (σ:=Unit) (fun _ tm os=>⟨updL tm [],updL os [],{ s with lo:=s.n }⟩) (fun _=>laws_eqDeedS_J1=some r) ?_ ?_
 ·rintro _ tm os h
  unfold laws_eqDeedS_J1 at h
  refine sr ?_
  refine q (bool true) ?_
  refine nl ?_
  cases h
  exact AW.ret ⟨rfl,_,_,rfl,rfl⟩
 intro KJ12
 refine AW.block ?_
 refine AW.res [(0,(sl z2 f3 e4)),(1,(sl z7 f8 e9)),(5,(J 0))] [] ⟨rfl,rfl,rfl,trivial⟩ trivial ?_
 refine AW.loopF (σ:=Int) (τ:=Unit) (fun i13 _=>True) (fun i13 _ tm os=>⟨updL tm [(0,(sl z2 f3 e4)),(1,(sl z7 f8 e9)),(5,(J i13))],updL os [],{ s with lo:=s.n }⟩) ?_ (x:=(0)) (y:=()) h trivial
 clear h
 rintro i13 _ tm os - ee1 h hL1 hR1
 unfold laws_eqDeedS_S1 at h
 refine AW.seq ?_
 refine sr ?_
 refine q (J i13) ?_
 refine q (sl z2 f3 e4) ?_
 refine AOps.p rfl (len_eq h5) ?_
 refine q (bool (decide ((i13:Int)<(a1.length:Int)))) ?_
 refine nl ?_
 rcases oite h with ⟨hc14,h⟩ | ⟨hc14,h⟩
 ·refine cT hc14 ?_
  refine AW.skip ?_
  refine AW.seq ?_
  refine AW.block ?_
  refine sr ?_
  refine q (sl z2 f3 e4) ?_
  refine q (J i13) ?_
  obtain ⟨x15,h16,h⟩:=obind h
  obtain ⟨v19,h17,h18⟩:=idx_sl h5 h16
  obtain ⟨_,rfl,h20⟩:=h17
  obtain ⟨_,_,rfl,h21,h22⟩:=Cs_cons h20
  cases h21
  obtain ⟨_,_,rfl,h23,h24⟩:=Cs_cons h22
  cases h23
  obtain ⟨_,_,rfl,h25,h26⟩:=Cs_cons h24
  cases h25
  cases Cs_nil h26
  refine AOps.pureR rfl rfl rfl h18 rfl (rfl:_=(eptr [(J x15.Kind),(J x15.A),(J x15.B)] 0)) ?_
  refine lE (agg [(J x15.Kind),(J x15.A),(J x15.B)]) ?_
  refine q (sl z7 f8 e9) ?_
  refine q (J i13) ?_
  obtain ⟨x27,h28,h⟩:=obind h
  obtain ⟨v31,h29,h30⟩:=idx_sl h10 h28
  obtain ⟨_,rfl,h32⟩:=h29
  obtain ⟨_,_,rfl,h33,h34⟩:=Cs_cons h32
  cases h33
  obtain ⟨_,_,rfl,h35,h36⟩:=Cs_cons h34
  cases h35
  obtain ⟨_,_,rfl,h37,h38⟩:=Cs_cons h36
  cases h37
  cases Cs_nil h38
  refine AOps.pureR rfl rfl rfl h30 rfl (rfl:_=(eptr [(J x27.Kind),(J x27.A),(J x27.B)] 0)) ?_
  refine lE (agg [(J x27.Kind),(J x27.A),(J x27.B)]) ?_
  obtain ⟨y39,h40,h⟩:=obind h
  refine AOps.callDP (g:=25) (args:=[(agg [(J x15.Kind),(J x15.A),(J x15.B)]),(agg [(J x27.Kind),(J x27.A),(J x27.B)])]) (p:=(rB) y39) rfl rfl rfl (laws_eqDeed_ok  h40 hWF.still) (fun v hv=>Nice.pure (k:=FINK) (p:=(rB) y39) .B _ v hv) ?_
  intro _ o42 h41
  cases h41
  refine q (bool (!y39)) ?_
  refine nl ?_
  rcases oite h with ⟨hc43,h⟩ | ⟨hc43,h⟩
  ·refine cT hc43 ?_
   refine sr ?_
   refine q (bool false) ?_
   refine nl ?_
   cases h
   have hr:=hR1 _ rfl
   subst hr
   exact AW.ret ⟨rfl,_,_,rfl,rfl⟩
  refine cF hc43 ?_
  refine AW.skip ?_
  refine AW.inBlock ?_
  refine AW.region ?_
  refine q (J i13) ?_
  refine q (J (IntKind.wrap .i64 (i13+1))) ?_
  refine aq (J (IntKind.wrap .i64 (i13+1))) ?_
  refine nl ?_
  cases h
  exact AW.res [(0,(sl z2 f3 e4)),(1,(sl z7 f8 e9)),(5,(J (IntKind.wrap .i64 (i13+1))))] [] ⟨rfl,rfl,rfl,trivial⟩ trivial (hL1 _ rfl () _ _ trivial)
 refine cF hc14 ?_
 refine AW.exit rfl ?_
 obtain ⟨r44,hm,hx⟩:=omap h
 clear h
 subst hx
 have hx:=hR1 _ rfl
 rw[hx] at hm
 have h:=hm
 exact AW.res [] [] trivial trivial (KJ12 () _ _ h)
theorem laws_FnExactVerdictAfter_ok {aV1:Stream} {aDeeds22:List Deed} {z2 z6 z10 z14 z18 z23:Nat} {f3 f7 f11 f15 f19 f24:Bool} {e4 e8 e12 e16 e20 e25:List AV} {s:St} (h5:LR rB 1 aV1.Checker.Accept z2 e4) (h9:LR (rL rPush 2) 1 aV1.Checker.Call z6 e8) (h13:LR (rL (rL rJ 1) 1) 1 aV1.Checker.Return z10 e12) (h17:LR (rL rJ 1) 1 aV1.Checker.Inner z14 e16) (h21:LR rS 1 aV1.Pieces z18 e20) (h26:LR rDeed 3 aDeeds22 z23 e25) {r:Bool} (h:laws_FnExactVerdictAfter aV1 aDeeds22=some r) (hs:WF s):ACall Cf 3 [(agg [(J aV1.Checker.Stack),(J aV1.Checker.Start),(sl z2 f3 e4),(sl z6 f7 e8),(sl z10 f11 e12),(sl z14 f15 e16),(sl z18 f19 e20)]),(sl z23 f24 e25)] s fun v _ s'=>(rB) r v∧s'=s:=by
 refine ACall.pure rfl rfl rfl .B ?_
 have hWF:=hs.lo'
 unfold laws_FnExactVerdictAfter at h
 refine sr ?_
 refine AOps.makeR rfl rfl rfl rfl rfl rfl (rfl:_=(eptr [(J aV1.Checker.Stack),(J aV1.Checker.Start),(sl z2 f3 e4),(sl z6 f7 e8),(sl z10 f11 e12),(sl z14 f15 e16),(sl z18 f19 e20)] 0)) ?_
 refine q (bool false) ?_
 refine ns ?_
 refine q (J 1048576) ?_
 refine ns ?_
 refine lE (agg [(J aV1.Checker.Stack),(J aV1.Checker.Start),(sl z2 f3 e4),(sl z6 f7 e8),(sl z10 f11 e12),(sl z14 f15 e16),(sl z18 f19 e20)]) ?_
 refine q (J 1048576) ?_
 obtain ⟨y27,h28,h⟩:=obind h
 refine cP (laws_szStream_ok h5 h9 h13 h17 h21 h28 hWF) ?_
 intro _ o30 h29
 cases h29
 refine aq (J y27) ?_
 refine nl ?_
 refine AW.seq ?_
 refine sr ?_
 refine q (J y27) ?_
 refine q (bool (decide ((y27:Int)<0))) ?_
 refine nl ?_
 rcases oite h with ⟨hc31,h⟩ | ⟨hc31,h⟩
 ·refine cT hc31 ?_
  refine sr ?_
  refine q (bool true) ?_
  refine nl ?_
  cases h
  exact AW.ret ⟨rfl,_,_,rfl,rfl⟩
 refine cF hc31 ?_
 refine AW.skip ?_
 refine sr ?_
 refine q (sl z23 f24 e25) ?_
 refine q (J y27) ?_
 obtain ⟨y32,h33,h⟩:=obind h
 refine cP (laws_szDeedS_ok h26 h33 hWF) ?_
 intro _ o35 h34
 cases h34
 refine aq (J y32) ?_
 refine nl ?_
 refine AW.seq ?_
 refine sr ?_
 refine q (J y32) ?_
 refine q (bool (decide ((y32:Int)<0))) ?_
 refine nl ?_
 rcases oite h with ⟨hc36,h⟩ | ⟨hc36,h⟩
 ·refine cT hc36 ?_
  refine sr ?_
  refine q (bool true) ?_
  refine nl ?_
  cases h
  exact AW.ret ⟨rfl,_,_,rfl,rfl⟩
 refine cF hc36 ?_
 refine AW.skip ?_
 refine sr ?_
 refine lE (agg [(J aV1.Checker.Stack),(J aV1.Checker.Start),(sl z2 f3 e4),(sl z6 f7 e8),(sl z10 f11 e12),(sl z14 f15 e16),(sl z18 f19 e20)]) ?_
 obtain ⟨y37,h38,h⟩:=obind h
 refine cP (laws_toStream_ok h5 h9 h13 h17 h21 h38 hWF) ?_
 intro _ o75 h39
 obtain ⟨_,rfl,h40⟩:=h39
 obtain ⟨_,_,rfl,h41,h42⟩:=Cs_cons h40
 cases h41
 obtain ⟨_,_,rfl,h43,h44⟩:=Cs_cons h42
 cases h43
 obtain ⟨_,_,rfl,h45,h46⟩:=Cs_cons h44
 obtain ⟨z47,f48,e49,rfl,h50⟩:=h45
 obtain ⟨_,_,rfl,h51,h52⟩:=Cs_cons h46
 obtain ⟨z53,f54,e55,rfl,h56⟩:=h51
 obtain ⟨_,_,rfl,h57,h58⟩:=Cs_cons h52
 obtain ⟨z59,f60,e61,rfl,h62⟩:=h57
 obtain ⟨_,_,rfl,h63,h64⟩:=Cs_cons h58
 obtain ⟨z65,f66,e67,rfl,h68⟩:=h63
 obtain ⟨_,_,rfl,h69,h70⟩:=Cs_cons h64
 obtain ⟨z71,f72,e73,rfl,h74⟩:=h69
 cases Cs_nil h70
 refine q (sl z23 f24 e25) ?_
 obtain ⟨y76,h77,h⟩:=obind h
 refine cP (laws_toDeedS_ok h26 h77 hWF) ?_
 intro _ o83 h78
 obtain ⟨z79,f80,e81,rfl,h82⟩:=h78
 obtain ⟨y84,h85,h⟩:=obind h
 refine cP (spec_VerdictAfter_ok h50 h56 h62 h68 h74 h82 h85 hWF) ?_
 intro _ o92 h86
 obtain ⟨_,rfl,h87⟩:=h86
 obtain ⟨_,_,rfl,h88,h89⟩:=Cs_cons h87
 cases h88
 obtain ⟨_,_,rfl,h90,h91⟩:=Cs_cons h89
 cases h90
 cases Cs_nil h91
 refine q (AV.tup [(J y84.1),(J y84.2)]) ?_
 refine q (J y84.1) ?_
 refine q (J y84.2) ?_
 refine aq (J y84.1) ?_
 refine aq (J y84.2) ?_
 refine ns ?_
 refine lE (agg [(J aV1.Checker.Stack),(J aV1.Checker.Start),(sl z2 f3 e4),(sl z6 f7 e8),(sl z10 f11 e12),(sl z14 f15 e16),(sl z18 f19 e20)]) ?_
 obtain ⟨y93,h94,h⟩:=obind h
 refine cP (laws_toStream_ok h5 h9 h13 h17 h21 h94 hWF) ?_
 intro _ o131 h95
 obtain ⟨_,rfl,h96⟩:=h95
 obtain ⟨_,_,rfl,h97,h98⟩:=Cs_cons h96
 cases h97
 obtain ⟨_,_,rfl,h99,h100⟩:=Cs_cons h98
 cases h99
 obtain ⟨_,_,rfl,h101,h102⟩:=Cs_cons h100
 obtain ⟨z103,f104,e105,rfl,h106⟩:=h101
 obtain ⟨_,_,rfl,h107,h108⟩:=Cs_cons h102
 obtain ⟨z109,f110,e111,rfl,h112⟩:=h107
 obtain ⟨_,_,rfl,h113,h114⟩:=Cs_cons h108
 obtain ⟨z115,f116,e117,rfl,h118⟩:=h113
 obtain ⟨_,_,rfl,h119,h120⟩:=Cs_cons h114
 obtain ⟨z121,f122,e123,rfl,h124⟩:=h119
 obtain ⟨_,_,rfl,h125,h126⟩:=Cs_cons h120
 obtain ⟨z127,f128,e129,rfl,h130⟩:=h125
 cases Cs_nil h126
 refine AOps.allocP rfl rfl rfl rfl ⟨rfl,rfl⟩ rfl ?_
 refine AOps.stP (v:=(agg [(J y93.Checker.Stack),(J y93.Checker.Start),(sl z103 f104 e105),(sl z109 f110 e111),(sl z115 f116 e117),(sl z121 f122 e123),(sl z127 f128 e129)])) rfl rfl rfl rfl rfl rfl rfl rfl rfl (lt_b rfl) rfl ?_
 refine ns ?_
 refine q (sl z23 f24 e25) ?_
 obtain ⟨y132,h133,h⟩:=obind h
 refine cP (laws_toDeedS_ok h26 h133 hWF) ?_
 intro _ o139 h134
 obtain ⟨z135,f136,e137,rfl,h138⟩:=h134
 refine aq (sl z135 f136 e137) ?_
 refine ns ?_
 refine lE (agg [(J y93.Checker.Stack),(J y93.Checker.Start),(sl z103 f104 e105),(sl z109 f110 e111),(sl z115 f116 e117),(sl z121 f122 e123),(sl z127 f128 e129)]) ?_
 refine q (sl z135 f136 e137) ?_
 obtain ⟨y140,h141,h⟩:=obind h
 refine cP (impl_VerdictAfter_ok h106 h112 h118 h124 h130 h138 h141 hWF) ?_
 intro _ o148 h142
 obtain ⟨_,rfl,h143⟩:=h142
 obtain ⟨_,_,rfl,h144,h145⟩:=Cs_cons h143
 cases h144
 obtain ⟨_,_,rfl,h146,h147⟩:=Cs_cons h145
 cases h146
 cases Cs_nil h147
 refine q (AV.tup [(J y140.1),(J y140.2)]) ?_
 refine q (J y140.1) ?_
 refine q (J y140.2) ?_
 refine aq (J y140.1) ?_
 refine aq (J y140.2) ?_
 refine nl ?_
 refine AW.seq ?_
 refine sr ?_
 refine q (J y140.1) ?_
 refine q (J y84.1) ?_
 refine q (bool (y140.1 != y84.1)) ?_
 refine q (bool (y140.1 != y84.1)) ?_
 refine AOps.split 4 (fun f'=>∃ tm' os',f'=⟨updL tm' [(1,(sl z23 f24 e25)),(2,(eptr [(J aV1.Checker.Stack),(J aV1.Checker.Start),(sl z2 f3 e4),(sl z6 f7 e8),(sl z10 f11 e12),(sl z14 f15 e16),(sl z18 f19 e20)] 0)),(8,(eptr [(J y93.Checker.Stack),(J y93.Checker.Start),(sl z103 f104 e105),(sl z109 f110 e111),(sl z115 f116 e117),(sl z121 f122 e123),(sl z127 f128 e129)] 0)),(9,(sl z135 f136 e137)),(47,(bool ((y140.1 != y84.1)||(y140.2 != y84.2))))],updL os' [],{ s with lo:=s.n }⟩) ?_ ?_
 ·rcases Bool.eq_false_or_eq_true (y140.1 != y84.1) with hc149 | hc149
  ·refine kn 43 hc149 ?_
   refine sk ?_
   refine sk ?_
   refine sk ?_
   refine q (bool true) ?_
   exact rR ⟨rfl,rfl,rfl,rfl,congrArg bool (or_t hc149),trivial⟩
  ·refine kn 43 hc149 ?_
   refine q (J y140.2) ?_
   refine q (J y84.2) ?_
   refine q (bool (y140.2 != y84.2)) ?_
   refine q (bool (y140.2 != y84.2)) ?_
   exact rR ⟨rfl,rfl,rfl,rfl,congrArg bool (or_f hc149),trivial⟩
 rintro _ ⟨tm,os,rfl⟩
 refine nl ?_
 rcases oite h with ⟨hc150,h⟩ | ⟨hc150,h⟩
 ·refine cT hc150 ?_
  refine sr ?_
  refine q (bool false) ?_
  refine nl ?_
  cases h
  exact AW.ret ⟨rfl,_,_,rfl,rfl⟩
 refine cF hc150 ?_
 refine AW.skip ?_
 refine AW.seq ?_
 refine sr ?_
 refine lE (agg [(J y93.Checker.Stack),(J y93.Checker.Start),(sl z103 f104 e105),(sl z109 f110 e111),(sl z115 f116 e117),(sl z121 f122 e123),(sl z127 f128 e129)]) ?_
 refine lE (agg [(J aV1.Checker.Stack),(J aV1.Checker.Start),(sl z2 f3 e4),(sl z6 f7 e8),(sl z10 f11 e12),(sl z14 f15 e16),(sl z18 f19 e20)]) ?_
 obtain ⟨y151,h152,h⟩:=obind h
 refine AOps.callDP (g:=7) (args:=[(agg [(J aV1.Checker.Stack),(J aV1.Checker.Start),(sl z2 f3 e4),(sl z6 f7 e8),(sl z10 f11 e12),(sl z14 f15 e16),(sl z18 f19 e20)])]) (p:=(rStream) y151) rfl rfl rfl (laws_toStream_ok h5 h9 h13 h17 h21 h152 hWF.still) (fun v hv=>Nice.pure (k:=FINK) (p:=(rStream) y151) (.A (.cons .I (.cons .I (.cons (.L fun _=>.B) (.cons (.L fun _=>(.L fun _=>(.A (.cons .I (.cons .I .nil))))) (.cons (.L fun _=>(.L fun _=>(.L fun _=>.I))) (.cons (.L fun _=>(.L fun _=>.I)) (.cons (.L fun _=>.S) .nil)))))))) _ v hv) ?_
 intro _ o189 h153
 obtain ⟨_,rfl,h154⟩:=h153
 obtain ⟨_,_,rfl,h155,h156⟩:=Cs_cons h154
 cases h155
 obtain ⟨_,_,rfl,h157,h158⟩:=Cs_cons h156
 cases h157
 obtain ⟨_,_,rfl,h159,h160⟩:=Cs_cons h158
 obtain ⟨z161,f162,e163,rfl,h164⟩:=h159
 obtain ⟨_,_,rfl,h165,h166⟩:=Cs_cons h160
 obtain ⟨z167,f168,e169,rfl,h170⟩:=h165
 obtain ⟨_,_,rfl,h171,h172⟩:=Cs_cons h166
 obtain ⟨z173,f174,e175,rfl,h176⟩:=h171
 obtain ⟨_,_,rfl,h177,h178⟩:=Cs_cons h172
 obtain ⟨z179,f180,e181,rfl,h182⟩:=h177
 obtain ⟨_,_,rfl,h183,h184⟩:=Cs_cons h178
 obtain ⟨z185,f186,e187,rfl,h188⟩:=h183
 cases Cs_nil h184
 obtain ⟨y190,h191,h⟩:=obind h
 refine AOps.callDP (g:=10) (args:=[(agg [(J y93.Checker.Stack),(J y93.Checker.Start),(sl z103 f104 e105),(sl z109 f110 e111),(sl z115 f116 e117),(sl z121 f122 e123),(sl z127 f128 e129)]),(agg [(J y151.Checker.Stack),(J y151.Checker.Start),(sl z161 f162 e163),(sl z167 f168 e169),(sl z173 f174 e175),(sl z179 f180 e181),(sl z185 f186 e187)])]) (p:=(rB) y190) rfl rfl rfl (laws_eqStream_ok h106 h112 h118 h124 h130 h164 h170 h176 h182 h188 h191 hWF.still) (fun v hv=>Nice.pure (k:=FINK) (p:=(rB) y190) .B _ v hv) ?_
 intro _ o193 h192
 cases h192
 refine q (bool (!y190)) ?_
 refine nl ?_
 rcases oite h with ⟨hc194,h⟩ | ⟨hc194,h⟩
 ·refine cT hc194 ?_
  refine sr ?_
  refine q (bool false) ?_
  refine nl ?_
  cases h
  exact AW.ret ⟨rfl,_,_,rfl,rfl⟩
 refine cF hc194 ?_
 refine AW.skip ?_
 refine AW.seq ?_
 refine sr ?_
 refine q (sl z135 f136 e137) ?_
 refine q (sl z23 f24 e25) ?_
 obtain ⟨y195,h196,h⟩:=obind h
 refine cP (laws_toDeedS_ok h26 h196 hWF) ?_
 intro _ o202 h197
 obtain ⟨z198,f199,e200,rfl,h201⟩:=h197
 obtain ⟨y203,h204,h⟩:=obind h
 refine cP (laws_eqDeedS_ok h138 h201 h204 hWF) ?_
 intro _ o206 h205
 cases h205
 refine q (bool (!y203)) ?_
 refine nl ?_
 rcases oite h with ⟨hc207,h⟩ | ⟨hc207,h⟩
 ·refine cT hc207 ?_
  refine sr ?_
  refine q (bool false) ?_
  refine nl ?_
  cases h
  exact AW.ret ⟨rfl,_,_,rfl,rfl⟩
 refine cF hc207 ?_
 refine AW.skip ?_
 refine sr ?_
 refine q (bool true) ?_
 refine nl ?_
 cases h
 exact AW.ret ⟨rfl,_,_,rfl,rfl⟩
end Go.Proofs.YtmahhacghgkigaaGreat.law
