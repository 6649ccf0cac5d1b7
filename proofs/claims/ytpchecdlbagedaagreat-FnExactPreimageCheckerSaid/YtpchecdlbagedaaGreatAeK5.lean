import Derived.Test.YtpchecdlbagedaaGreatAeD
import Derived.Test.YtpchecdlbagedaaGreatAe4
import Derived.Test.YtpchecdlbagedaaGreatAeK4
set_option linter.unusedVariables false
set_option linter.unusedSimpArgs false
namespace Go.Proofs.YtpchecdlbagedaaGreat.law
open Go Go.Proofs Ae
open Ae.AV (int sl eptr agg ptr bool str)
open Ae.AW (seq ret skip)
open Ae.AOps (makeR split callF stP allocP lendP lendD callFE)
open Ae.HS (wf' pushN finS push0 pop0 joinK1 putG popG joinK enterLo enterK finSt)
set_option maxRecDepth 100000
set_option linter.unusedVariables false
theorem laws_FnExactPreimageChecker_ok {p1:Rewriter} {p1_14:Checker} {z2 z6 z10 z15 z19 z23 z27:Nat} {f3 f7 f11 f16 f20 f24 f28:Bool} {e4 e8 e12 e17 e21 e25 e29:List AV} {s:St} (h5:LR (rL rOutPush 3) 1 p1.Call z2 e4) (h9:LR (rL (rL rOutMove 2) 1) 1 p1.Return z6 e8) (h13:LR (rL rOutMove 2) 1 p1.Inner z10 e12) (h18:LR rB 1 p1_14.Accept z15 e17) (h22:LR (rL rPush 2) 1 p1_14.Call z19 e21) (h26:LR (rL (rL rJ 1) 1) 1 p1_14.Return z23 e25) (h30:LR (rL rJ 1) 1 p1_14.Inner z27 e29) {r:Bool} (h:laws_FnExactPreimageChecker p1 p1_14=some r) (hs:WF s) (hz:s.n=0∧s.ro=0):ACall Cf 3 [(agg [(J p1.Stack),(J p1.Start),(sl z2 f3 e4),(sl z6 f7 e8),(sl z10 f11 e12)]),(agg [(J p1_14.Stack),(J p1_14.Start),(sl z15 f16 e17),(sl z19 f20 e21),(sl z23 f24 e25),(sl z27 f28 e29)])] s fun v _ s'=>(rB) r v∧s'=s:=by
 refine ACall.boxes rfl rfl rfl ?_
 have hH0:=HS.g0 (HS.init hs)
 have hG0:=AllG.nil
 have hl:LoOK [] false s:=LoOK.nil
 unfold laws_FnExactPreimageChecker at h
 refine sr ?_
 refine makeR rfl rfl rfl rfl rfl rfl (rfl:_=(eptr [(J p1.Stack),(J p1.Start),(sl z2 f3 e4),(sl z6 f7 e8),(sl z10 f11 e12)] 0)) ?_
 refine makeR rfl rfl rfl rfl rfl rfl (rfl:_=(eptr [(J p1_14.Stack),(J p1_14.Start),(sl z15 f16 e17),(sl z19 f20 e21),(sl z23 f24 e25),(sl z27 f28 e29)] 0)) ?_
 refine q (bool false) ?_
 refine ns ?_
 refine q (J 1048576) ?_
 refine ns ?_
 refine lE (agg [(J p1.Stack),(J p1.Start),(sl z2 f3 e4),(sl z6 f7 e8),(sl z10 f11 e12)]) ?_
 refine q (J 1048576) ?_
 obtain ⟨y31,h32,h⟩:=obind h
 refine cP (laws_szRewriter_ok h5 h9 h13 h32 (wf' hH0)) ?_
 intro _ o34 h33
 cases h33
 refine aq (J y31) ?_
 refine nl ?_
 refine seq ?_
 refine sr ?_
 refine q (J y31) ?_
 refine q (bool (decide ((y31:Int)<0))) ?_
 refine nl ?_
 rcases oite h with ⟨hc35,h⟩ | ⟨hc35,h⟩
 ·refine cT hc35 ?_
  refine sr ?_
  refine q (bool true) ?_
  refine nl ?_
  cases h
  exact ret ⟨⟨_,hH0⟩,_,_,rfl,(Fin.of (p:=(rB) true) .B rfl).2⟩
 refine cF hc35 ?_
 refine skip ?_
 refine sr ?_
 refine lE (agg [(J p1_14.Stack),(J p1_14.Start),(sl z15 f16 e17),(sl z19 f20 e21),(sl z23 f24 e25),(sl z27 f28 e29)]) ?_
 refine q (J y31) ?_
 obtain ⟨y36,h37,h⟩:=obind h
 refine cP (laws_szChecker_ok h18 h22 h26 h30 h37 (wf' hH0)) ?_
 intro _ o39 h38
 cases h38
 refine aq (J y36) ?_
 refine nl ?_
 refine seq ?_
 refine sr ?_
 refine q (J y36) ?_
 refine q (bool (decide ((y36:Int)<0))) ?_
 refine nl ?_
 rcases oite h with ⟨hc40,h⟩ | ⟨hc40,h⟩
 ·refine cT hc40 ?_
  refine sr ?_
  refine q (bool true) ?_
  refine nl ?_
  cases h
  exact ret ⟨⟨_,hH0⟩,_,_,rfl,(Fin.of (p:=(rB) true) .B rfl).2⟩
 refine cF hc40 ?_
 refine skip ?_
 refine sr ?_
 refine lE (agg [(J p1.Stack),(J p1.Start),(sl z2 f3 e4),(sl z6 f7 e8),(sl z10 f11 e12)]) ?_
 obtain ⟨y41,h42,h⟩:=obind h
 have hP52:=pop0 hH0
 refine callFE (al:=true) (g:=7) (args:=[(agg [(J p1.Stack),(J p1.Start),(sl z2 f3 e4),(sl z6 f7 e8),(sl z10 f11 e12)])]) rfl rfl rfl (laws_toRewriter_K0_ok h5 h9 h13  h42 (wf' hH0)) (by rintro _ _ ⟨_,_,_,_,_,_,_,_,hHq,_,_,_,_⟩; exact hHq.n) ?_
 rintro _ _ s53 ⟨h43,k44,h46,k47,h49,k50,Ls55,rfl,hH56,hG57,ho45,ho48,ho51⟩
 have hJ58:=joinK1 hP52 hH56
 obtain ⟨Ls59,Lf60,hG61,hF62,hP63⟩:=pushN hJ58 hG0 hG57
 obtain ⟨Ls64,Lf65,hG66,hF67,hP68⟩:=pushN hP63 hG61 hF62
 obtain ⟨Ls69,Lf70,hG71,hF72,hP73⟩:=pushN hP68 hG66 hF67
 cases hF72
 have hH74:=push0 hP73
 change HS [] false s s53 (([]:List BX)++Ls69.flatten) at hH74
 change AllG [OS oE74 h49 k50 y41.Inner,OS oE42 h46 k47 y41.Return,OS oE67 h43 k44 y41.Call] Ls69 at hG71
 refine lE (agg [(J p1_14.Stack),(J p1_14.Start),(sl z15 f16 e17),(sl z19 f20 e21),(sl z23 f24 e25),(sl z27 f28 e29)]) ?_
 obtain ⟨y75,h76,h⟩:=obind h
 have hP89:=pop0 hH74
 refine callFE (al:=true) (g:=8) (args:=[(agg [(J p1_14.Stack),(J p1_14.Start),(sl z15 f16 e17),(sl z19 f20 e21),(sl z23 f24 e25),(sl z27 f28 e29)])]) rfl rfl rfl (laws_toChecker_K0_ok h18 h22 h26 h30  h76 (wf' hH74)) (by rintro _ _ ⟨_,_,_,_,_,_,_,_,_,_,hHq,_,_,_,_,_⟩; exact hHq.n) ?_
 rintro _ _ s90 ⟨h77,k78,h80,k81,h83,k84,h86,k87,Ls92,rfl,hH93,hG94,ho79,ho82,ho85,ho88⟩
 have hJ95:=joinK1 hP89 hH93
 obtain ⟨Ls96,Lf97,hG98,hF99,hP100⟩:=pushN hJ95 hG71 hG94
 obtain ⟨Ls101,Lf102,hG103,hF104,hP105⟩:=pushN hP100 hG98 hF99
 obtain ⟨Ls106,Lf107,hG108,hF109,hP110⟩:=pushN hP105 hG103 hF104
 obtain ⟨Ls111,Lf112,hG113,hF114,hP115⟩:=pushN hP110 hG108 hF109
 cases hF114
 have hH116:=push0 hP115
 change HS [] false s s90 (([]:List BX)++Ls111.flatten) at hH116
 change AllG [OS oE64 h86 k87 y75.Inner,OS oE30 h83 k84 y75.Return,OS oE63 h80 k81 y75.Call,OS oE4 h77 k78 y75.Accept,OS oE74 h49 k50 y41.Inner,OS oE42 h46 k47 y41.Return,OS oE67 h43 k44 y41.Call] Ls111 at hG113
 obtain ⟨y117,h118,h⟩:=obind h
 refine AOps.giveE (g:=6) (args:=[(agg [(J y41.Stack),(J y41.Start),h43,h46,h49]),(agg [(J y75.Stack),(J y75.Start),h77,h80,h83,h86])]) (ps:=[(rRewriter) y41,(rChecker) y75]) (p:=(fun x=>rT [rChecker x.1,rJ x.2]) y117) rfl rfl rfl rfl rfl rfl (hH116.ro.trans hz.2) (.cons (Fin.A (.cons (Fin.of (p:=rJ y41.Stack) .I rfl) (.cons (Fin.of (p:=rJ y41.Start) .I rfl) (.cons (Fin.up (by decide) (finS hH116 hG113 (j:=6) rfl Sub.here (Or.inl rfl))) (.cons (Fin.up (by decide) (finS hH116 hG113 (j:=5) rfl Sub.here (Or.inl rfl))) (.cons (Fin.up (by decide) (finS hH116 hG113 (j:=4) rfl Sub.here (Or.inl rfl))) .nil)))))) (.cons (Fin.A (.cons (Fin.of (p:=rJ y75.Stack) .I rfl) (.cons (Fin.of (p:=rJ y75.Start) .I rfl) (.cons (Fin.up (by decide) (finS hH116 hG113 (j:=3) rfl Sub.here (Or.inl rfl))) (.cons (Fin.up (by decide) (finS hH116 hG113 (j:=2) rfl Sub.here (Or.inl rfl))) (.cons (Fin.up (by decide) (finS hH116 hG113 (j:=1) rfl Sub.here (Or.inl rfl))) (.cons (Fin.up (by decide) (finS hH116 hG113 (j:=0) rfl Sub.here (Or.inl rfl))) .nil))))))) .nil)) (fun args' hc=>by obtain ⟨_,_,rfl,hv0,hd0⟩:=Cs_cons hc; obtain ⟨_,rfl,h119⟩:=hv0; obtain ⟨_,_,rfl,h120,h121⟩:=Cs_cons h119; cases h120; obtain ⟨_,_,rfl,h122,h123⟩:=Cs_cons h121; cases h122; obtain ⟨_,_,rfl,h124,h125⟩:=Cs_cons h123; obtain ⟨z126,f127,e128,rfl,h129⟩:=h124; obtain ⟨_,_,rfl,h130,h131⟩:=Cs_cons h125; obtain ⟨z132,f133,e134,rfl,h135⟩:=h130; obtain ⟨_,_,rfl,h136,h137⟩:=Cs_cons h131; obtain ⟨z138,f139,e140,rfl,h141⟩:=h136; cases Cs_nil h137; obtain ⟨_,_,rfl,hv1,hd1⟩:=Cs_cons hd0; obtain ⟨_,rfl,h142⟩:=hv1; obtain ⟨_,_,rfl,h143,h144⟩:=Cs_cons h142; cases h143; obtain ⟨_,_,rfl,h145,h146⟩:=Cs_cons h144; cases h145; obtain ⟨_,_,rfl,h147,h148⟩:=Cs_cons h146; obtain ⟨z149,f150,e151,rfl,h152⟩:=h147; obtain ⟨_,_,rfl,h153,h154⟩:=Cs_cons h148; obtain ⟨z155,f156,e157,rfl,h158⟩:=h153; obtain ⟨_,_,rfl,h159,h160⟩:=Cs_cons h154; obtain ⟨z161,f162,e163,rfl,h164⟩:=h159; obtain ⟨_,_,rfl,h165,h166⟩:=Cs_cons h160; obtain ⟨z167,f168,e169,rfl,h170⟩:=h165; cases Cs_nil h166; cases Cs_nil hd1; exact spec_PreimageChecker_okN h129 h135 h141 h152 h158 h164 h170 h118 WF.blind) ?_
 intro _ o206 h171
 have hH207:=HS.g0 (HS.given hH116 hz.1)
 obtain ⟨_,rfl,h172⟩:=h171
 obtain ⟨_,_,rfl,h173,h174⟩:=Cs_cons h172
 obtain ⟨_,rfl,h175⟩:=h173
 obtain ⟨_,_,rfl,h176,h177⟩:=Cs_cons h175
 cases h176
 obtain ⟨_,_,rfl,h178,h179⟩:=Cs_cons h177
 cases h178
 obtain ⟨_,_,rfl,h180,h181⟩:=Cs_cons h179
 obtain ⟨z182,f183,e184,rfl,h185⟩:=h180
 obtain ⟨_,_,rfl,h186,h187⟩:=Cs_cons h181
 obtain ⟨z188,f189,e190,rfl,h191⟩:=h186
 obtain ⟨_,_,rfl,h192,h193⟩:=Cs_cons h187
 obtain ⟨z194,f195,e196,rfl,h197⟩:=h192
 obtain ⟨_,_,rfl,h198,h199⟩:=Cs_cons h193
 obtain ⟨z200,f201,e202,rfl,h203⟩:=h198
 cases Cs_nil h199
 obtain ⟨_,_,rfl,h204,h205⟩:=Cs_cons h174
 cases h204
 cases Cs_nil h205
 refine q (AV.tup [(agg [(J y117.1.Stack),(J y117.1.Start),(sl z182 f183 e184),(sl z188 f189 e190),(sl z194 f195 e196),(sl z200 f201 e202)]),(J y117.2)]) ?_
 refine q (agg [(J y117.1.Stack),(J y117.1.Start),(sl z182 f183 e184),(sl z188 f189 e190),(sl z194 f195 e196),(sl z200 f201 e202)]) ?_
 refine q (J y117.2) ?_
 refine allocP rfl rfl rfl rfl ⟨rfl,rfl⟩ rfl ?_
 refine stP (v:=(agg [(J y117.1.Stack),(J y117.1.Start),(sl z182 f183 e184),(sl z188 f189 e190),(sl z194 f195 e196),(sl z200 f201 e202)])) rfl rfl rfl rfl rfl rfl rfl rfl rfl (lt_b rfl) rfl ?_
 refine aq (J y117.2) ?_
 refine ns ?_
 refine lE (agg [(J p1.Stack),(J p1.Start),(sl z2 f3 e4),(sl z6 f7 e8),(sl z10 f11 e12)]) ?_
 obtain ⟨y208,h209,h⟩:=obind h
 have hP219:=pop0 hH207
 refine callF (al:=true) (g:=7) (args:=[(agg [(J p1.Stack),(J p1.Start),(sl z2 f3 e4),(sl z6 f7 e8),(sl z10 f11 e12)])]) rfl rfl rfl (laws_toRewriter_K0_ok h5 h9 h13  h209 (wf' hH207)) ?_
 rintro _ _ s220 ⟨h210,k211,h213,k214,h216,k217,Ls222,rfl,hH223,hG224,ho212,ho215,ho218⟩
 have hJ225:=joinK1 hP219 hH223
 obtain ⟨Ls226,Lf227,hG228,hF229,hP230⟩:=pushN hJ225 AllG.nil hG224
 obtain ⟨Ls231,Lf232,hG233,hF234,hP235⟩:=pushN hP230 hG228 hF229
 obtain ⟨Ls236,Lf237,hG238,hF239,hP240⟩:=pushN hP235 hG233 hF234
 cases hF239
 have hH241:=push0 hP240
 change HS [] false s s220 (([]:List BX)++Ls236.flatten) at hH241
 change AllG [OS oE74 h216 k217 y208.Inner,OS oE42 h213 k214 y208.Return,OS oE67 h210 k211 y208.Call] Ls236 at hG238
 refine allocP rfl rfl rfl rfl ⟨rfl,rfl⟩ rfl ?_
 refine stP (v:=(agg [(J y208.Stack),(J y208.Start),h210,h213,h216])) rfl rfl rfl rfl rfl rfl rfl (lay_cons rfl (lay_cons rfl (lay_cons ho212 (lay_cons ho215 (lay_cons ho218 lay_nil))))) rfl (lt_b rfl) rfl ?_
 refine ns ?_
 refine lE (agg [(J p1_14.Stack),(J p1_14.Start),(sl z15 f16 e17),(sl z19 f20 e21),(sl z23 f24 e25),(sl z27 f28 e29)]) ?_
 obtain ⟨y242,h243,h⟩:=obind h
 have hP256:=pop0 hH241
 refine callF (al:=true) (g:=8) (args:=[(agg [(J p1_14.Stack),(J p1_14.Start),(sl z15 f16 e17),(sl z19 f20 e21),(sl z23 f24 e25),(sl z27 f28 e29)])]) rfl rfl rfl (laws_toChecker_K0_ok h18 h22 h26 h30  h243 (wf' hH241)) ?_
 rintro _ _ s257 ⟨h244,k245,h247,k248,h250,k251,h253,k254,Ls259,rfl,hH260,hG261,ho246,ho249,ho252,ho255⟩
 have hJ262:=joinK1 hP256 hH260
 obtain ⟨Ls263,Lf264,hG265,hF266,hP267⟩:=pushN hJ262 hG238 hG261
 obtain ⟨Ls268,Lf269,hG270,hF271,hP272⟩:=pushN hP267 hG265 hF266
 obtain ⟨Ls273,Lf274,hG275,hF276,hP277⟩:=pushN hP272 hG270 hF271
 obtain ⟨Ls278,Lf279,hG280,hF281,hP282⟩:=pushN hP277 hG275 hF276
 cases hF281
 have hH283:=push0 hP282
 change HS [] false s s257 (([]:List BX)++Ls278.flatten) at hH283
 change AllG [OS oE64 h253 k254 y242.Inner,OS oE30 h250 k251 y242.Return,OS oE63 h247 k248 y242.Call,OS oE4 h244 k245 y242.Accept,OS oE74 h216 k217 y208.Inner,OS oE42 h213 k214 y208.Return,OS oE67 h210 k211 y208.Call] Ls278 at hG280
 refine allocP rfl rfl rfl rfl ⟨rfl,rfl⟩ rfl ?_
 refine stP (v:=(agg [(J y242.Stack),(J y242.Start),h244,h247,h250,h253])) rfl rfl rfl rfl rfl rfl rfl (lay_cons rfl (lay_cons rfl (lay_cons ho246 (lay_cons ho249 (lay_cons ho252 (lay_cons ho255 lay_nil)))))) rfl (lt_b rfl) rfl ?_
 refine ns ?_
 refine lE (agg [(J y208.Stack),(J y208.Start),h210,h213,h216]) ?_
 refine lE (agg [(J y242.Stack),(J y242.Start),h244,h247,h250,h253]) ?_
 obtain ⟨y284,h285,h⟩:=obind h
 refine AOps.lendK (al:=true) (g:=9) (args:=[(agg [(J y208.Stack),(J y208.Start),h210,h213,h216]),(agg [(J y242.Stack),(J y242.Start),h244,h247,h250,h253])]) (ps:=[(rRewriter) y208,(rChecker) y242]) (p:=fun v s'=>∃ (h338:AV) (k339:KT) (h341:AV) (k342:KT) (h344:AV) (k345:KT) (h347:AV) (k348:KT) (Ls':List (List BX)),v=(AV.tup [(agg [(J y284.1.Stack),(J y284.1.Start),h338,h341,h344,h347]),(J y284.2)])∧HS [] true s257.blind s' (([]:List BX)++Ls'.flatten)∧AllG [OS oE4 h338 k339 y284.1.Accept,OS oE63 h341 k342 y284.1.Call,OS oE30 h344 k345 y284.1.Return,OS oE64 h347 k348 y284.1.Inner] Ls'∧h338.one=true∧h341.one=true∧h344.one=true∧h347.one=true) rfl rfl rfl rfl rfl rfl rfl (.cons (Fin.A (.cons (Fin.of (p:=rJ y208.Stack) .I rfl) (.cons (Fin.of (p:=rJ y208.Start) .I rfl) (.cons (Fin.up (by decide) (finS hH283 hG280 (j:=6) rfl Sub.here (Or.inl rfl))) (.cons (Fin.up (by decide) (finS hH283 hG280 (j:=5) rfl Sub.here (Or.inl rfl))) (.cons (Fin.up (by decide) (finS hH283 hG280 (j:=4) rfl Sub.here (Or.inl rfl))) .nil)))))) (.cons (Fin.A (.cons (Fin.of (p:=rJ y242.Stack) .I rfl) (.cons (Fin.of (p:=rJ y242.Start) .I rfl) (.cons (Fin.up (by decide) (finS hH283 hG280 (j:=3) rfl Sub.here (Or.inl rfl))) (.cons (Fin.up (by decide) (finS hH283 hG280 (j:=2) rfl Sub.here (Or.inl rfl))) (.cons (Fin.up (by decide) (finS hH283 hG280 (j:=1) rfl Sub.here (Or.inl rfl))) (.cons (Fin.up (by decide) (finS hH283 hG280 (j:=0) rfl Sub.here (Or.inl rfl))) .nil))))))) .nil)) (fun args' hc=>by obtain ⟨_,_,rfl,hv0,hd0⟩:=Cs_cons hc; obtain ⟨_,rfl,h286⟩:=hv0; obtain ⟨_,_,rfl,h287,h288⟩:=Cs_cons h286; cases h287; obtain ⟨_,_,rfl,h289,h290⟩:=Cs_cons h288; cases h289; obtain ⟨_,_,rfl,h291,h292⟩:=Cs_cons h290; obtain ⟨z293,f294,e295,rfl,h296⟩:=h291; obtain ⟨_,_,rfl,h297,h298⟩:=Cs_cons h292; obtain ⟨z299,f300,e301,rfl,h302⟩:=h297; obtain ⟨_,_,rfl,h303,h304⟩:=Cs_cons h298; obtain ⟨z305,f306,e307,rfl,h308⟩:=h303; cases Cs_nil h304; obtain ⟨_,_,rfl,hv1,hd1⟩:=Cs_cons hd0; obtain ⟨_,rfl,h309⟩:=hv1; obtain ⟨_,_,rfl,h310,h311⟩:=Cs_cons h309; cases h310; obtain ⟨_,_,rfl,h312,h313⟩:=Cs_cons h311; cases h312; obtain ⟨_,_,rfl,h314,h315⟩:=Cs_cons h313; obtain ⟨z316,f317,e318,rfl,h319⟩:=h314; obtain ⟨_,_,rfl,h320,h321⟩:=Cs_cons h315; obtain ⟨z322,f323,e324,rfl,h325⟩:=h320; obtain ⟨_,_,rfl,h326,h327⟩:=Cs_cons h321; obtain ⟨z328,f329,e330,rfl,h331⟩:=h326; obtain ⟨_,_,rfl,h332,h333⟩:=Cs_cons h327; obtain ⟨z334,f335,e336,rfl,h337⟩:=h332; cases Cs_nil h333; cases Cs_nil hd1; exact impl_PreimageChecker_K00_okN h296 h302 h308 h319 h325 h331 h337 h285 WF.blind) (by rintro v s1 ⟨_,_,_,_,_,_,_,_,Lq,rfl,hHq,hGq,_,_,_,_⟩; simp[AV.flatB,AV.flatL,HS.flatB0 hHq hGq (j:=0) rfl (Flt.leaf (fun x v n hr=>by cases hr; rfl)),HS.flatB0 hHq hGq (j:=1) rfl (Flt.sl (e:=oE71) (Flt.leaf (fun x v n hr=>by obtain ⟨_,rfl,h357⟩:=hr; obtain ⟨_,_,rfl,h358,h359⟩:=Cs_cons h357; cases h358; obtain ⟨_,_,rfl,h360,h361⟩:=Cs_cons h359; cases h360; cases Cs_nil h361; rfl))),HS.flatB0 hHq hGq (j:=2) rfl (Flt.sl (e:=oE64) (Flt.sl (e:=oE2) (Flt.leaf (fun x v n hr=>by cases hr; rfl)))),HS.flatB0 hHq hGq (j:=3) rfl (Flt.sl (e:=oE2) (Flt.leaf (fun x v n hr=>by cases hr; rfl)))]) ?_
 rintro _ s350 ⟨h338,k339,h341,k342,h344,k345,h347,k348,Ls352,rfl,hH353,hG354,ho340,ho343,ho346,ho349⟩
 have hH355:=HS.joinL (Lf:=Ls352) hH283 (by simpa using hH353) hG354 (FG.cons (Flt.leaf (fun x v n hr=>by cases hr; rfl)) (FG.cons (Flt.sl (e:=oE71) (Flt.leaf (fun x v n hr=>by obtain ⟨_,rfl,h362⟩:=hr; obtain ⟨_,_,rfl,h363,h364⟩:=Cs_cons h362; cases h363; obtain ⟨_,_,rfl,h365,h366⟩:=Cs_cons h364; cases h365; cases Cs_nil h366; rfl))) (FG.cons (Flt.sl (e:=oE64) (Flt.sl (e:=oE2) (Flt.leaf (fun x v n hr=>by cases hr; rfl)))) (FG.cons (Flt.sl (e:=oE2) (Flt.leaf (fun x v n hr=>by cases hr; rfl))) FG.nil))))
 have hG356:=AllG.app hG354 hG280
 have hH367:=HS.reL hH355
 change HS [] false s (St.join s257 s350) (([]:List BX)++List.flatten (Ls352++Ls278)) at hH367
 change AllG [OS oE4 h338 k339 y284.1.Accept,OS oE63 h341 k342 y284.1.Call,OS oE30 h344 k345 y284.1.Return,OS oE64 h347 k348 y284.1.Inner,OS oE64 h253 k254 y242.Inner,OS oE30 h250 k251 y242.Return,OS oE63 h247 k248 y242.Call,OS oE4 h244 k245 y242.Accept,OS oE74 h216 k217 y208.Inner,OS oE42 h213 k214 y208.Return,OS oE67 h210 k211 y208.Call] (Ls352++Ls278) at hG356
 refine q (AV.tup [(agg [(J y284.1.Stack),(J y284.1.Start),h338,h341,h344,h347]),(J y284.2)]) ?_
 refine q (agg [(J y284.1.Stack),(J y284.1.Start),h338,h341,h344,h347]) ?_
 refine q (J y284.2) ?_
 refine allocP rfl rfl rfl rfl ⟨rfl,rfl⟩ rfl ?_
 refine stP (v:=(agg [(J y284.1.Stack),(J y284.1.Start),h338,h341,h344,h347])) rfl rfl rfl rfl rfl rfl rfl (lay_cons rfl (lay_cons rfl (lay_cons ho340 (lay_cons ho343 (lay_cons ho346 (lay_cons ho349 lay_nil)))))) rfl (lt_b rfl) rfl ?_
 refine aq (J y284.2) ?_
 refine nl ?_
 refine seq ?_
 refine sr ?_
 refine lE (agg [(J y284.1.Stack),(J y284.1.Start),h338,h341,h344,h347]) ?_
 refine lE (agg [(J y117.1.Stack),(J y117.1.Start),(sl z182 f183 e184),(sl z188 f189 e190),(sl z194 f195 e196),(sl z200 f201 e202)]) ?_
 obtain ⟨y368,h369,h⟩:=obind h
 refine lendP (g:=10) (args:=[(agg [(J y284.1.Stack),(J y284.1.Start),h338,h341,h344,h347]),(agg [(J y117.1.Stack),(J y117.1.Start),(sl z182 f183 e184),(sl z188 f189 e190),(sl z194 f195 e196),(sl z200 f201 e202)])]) (ps:=[(rChecker) y284.1,(rChecker) y117.1]) (p:=(rB) y368) rfl rfl rfl rfl rfl rfl rfl (.cons (Fin.A (.cons (Fin.of (p:=rJ y284.1.Stack) .I rfl) (.cons (Fin.of (p:=rJ y284.1.Start) .I rfl) (.cons (Fin.up (by decide) (finS hH367 hG356 (j:=0) rfl Sub.here (Or.inl rfl))) (.cons (Fin.up (by decide) (finS hH367 hG356 (j:=1) rfl Sub.here (Or.inl rfl))) (.cons (Fin.up (by decide) (finS hH367 hG356 (j:=2) rfl Sub.here (Or.inl rfl))) (.cons (Fin.up (by decide) (finS hH367 hG356 (j:=3) rfl Sub.here (Or.inl rfl))) .nil))))))) (.cons (Fin.of (p:=(rChecker) y117.1) (.A (.cons .I (.cons .I (.cons (.L fun _=>.B) (.cons (.L fun _=>(.L fun _=>(.A (.cons .I (.cons .I .nil))))) (.cons (.L fun _=>(.L fun _=>(.L fun _=>.I))) (.cons (.L fun _=>(.L fun _=>.I)) .nil))))))) (⟨_,rfl,(.cons rfl (.cons rfl (.cons ⟨_,_,_,rfl,h185⟩ (.cons ⟨_,_,_,rfl,h191⟩ (.cons ⟨_,_,_,rfl,h197⟩ (.cons ⟨_,_,_,rfl,h203⟩ .nil))))))⟩)) .nil)) (fun args' hc=>by obtain ⟨_,_,rfl,hv0,hd0⟩:=Cs_cons hc; obtain ⟨_,rfl,h370⟩:=hv0; obtain ⟨_,_,rfl,h371,h372⟩:=Cs_cons h370; cases h371; obtain ⟨_,_,rfl,h373,h374⟩:=Cs_cons h372; cases h373; obtain ⟨_,_,rfl,h375,h376⟩:=Cs_cons h374; obtain ⟨z377,f378,e379,rfl,h380⟩:=h375; obtain ⟨_,_,rfl,h381,h382⟩:=Cs_cons h376; obtain ⟨z383,f384,e385,rfl,h386⟩:=h381; obtain ⟨_,_,rfl,h387,h388⟩:=Cs_cons h382; obtain ⟨z389,f390,e391,rfl,h392⟩:=h387; obtain ⟨_,_,rfl,h393,h394⟩:=Cs_cons h388; obtain ⟨z395,f396,e397,rfl,h398⟩:=h393; cases Cs_nil h394; obtain ⟨_,_,rfl,hv1,hd1⟩:=Cs_cons hd0; obtain ⟨_,rfl,h399⟩:=hv1; obtain ⟨_,_,rfl,h400,h401⟩:=Cs_cons h399; cases h400; obtain ⟨_,_,rfl,h402,h403⟩:=Cs_cons h401; cases h402; obtain ⟨_,_,rfl,h404,h405⟩:=Cs_cons h403; obtain ⟨z406,f407,e408,rfl,h409⟩:=h404; obtain ⟨_,_,rfl,h410,h411⟩:=Cs_cons h405; obtain ⟨z412,f413,e414,rfl,h415⟩:=h410; obtain ⟨_,_,rfl,h416,h417⟩:=Cs_cons h411; obtain ⟨z418,f419,e420,rfl,h421⟩:=h416; obtain ⟨_,_,rfl,h422,h423⟩:=Cs_cons h417; obtain ⟨z424,f425,e426,rfl,h427⟩:=h422; cases Cs_nil h423; cases Cs_nil hd1; exact laws_eqChecker_okN h380 h386 h392 h398 h409 h415 h421 h427 h369 WF.blind) (fun v n hv=>by cases hv; rfl) ?_
 intro _ h428
 cases h428
 refine q (bool (!y368)) ?_
 refine q (bool (!y368)) ?_
 refine split 4 (fun f'=>∃ tm' os',f'=⟨updL tm' [(2,(eptr [(J p1.Stack),(J p1.Start),(sl z2 f3 e4),(sl z6 f7 e8),(sl z10 f11 e12)] 0)),(3,(eptr [(J p1_14.Stack),(J p1_14.Start),(sl z15 f16 e17),(sl z19 f20 e21),(sl z23 f24 e25),(sl z27 f28 e29)] 0)),(6,(eptr [(J y117.1.Stack),(J y117.1.Start),(sl z182 f183 e184),(sl z188 f189 e190),(sl z194 f195 e196),(sl z200 f201 e202)] 0)),(7,(J y117.2)),(8,(eptr [(J y208.Stack),(J y208.Start),h210,h213,h216] 0)),(9,(eptr [(J y242.Stack),(J y242.Start),h244,h247,h250,h253] 0)),(10,(eptr [(J y284.1.Stack),(J y284.1.Start),h338,h341,h344,h347] 0)),(11,(J y284.2)),(53,(bool ((!y368)||(y284.2 != y117.2))))],updL os' [],(St.join s257 s350)⟩) ?_ ?_
 ·rcases Bool.eq_false_or_eq_true (!y368) with hc429 | hc429
  ·refine kn 49 hc429 ?_
   refine sk ?_
   refine sk ?_
   refine sk ?_
   refine q (bool true) ?_
   exact rR ⟨rfl,rfl,rfl,rfl,rfl,rfl,rfl,rfl,congrArg bool (or_t hc429),tv⟩
  ·refine kn 49 hc429 ?_
   refine q (J y284.2) ?_
   refine q (J y117.2) ?_
   refine q (bool (y284.2 != y117.2)) ?_
   refine q (bool (y284.2 != y117.2)) ?_
   exact rR ⟨rfl,rfl,rfl,rfl,rfl,rfl,rfl,rfl,congrArg bool (or_f hc429),tv⟩
 rintro _ ⟨tm,os,rfl⟩
 refine nl ?_
 rcases oite h with ⟨hc430,h⟩ | ⟨hc430,h⟩
 ·refine cT hc430 ?_
  refine sr ?_
  refine q (bool false) ?_
  refine nl ?_
  cases h
  exact ret ⟨⟨_,hH367⟩,_,_,rfl,(Fin.of (p:=(rB) false) .B rfl).2⟩
 refine cF hc430 ?_
 refine skip ?_
 refine seq ?_
 refine sr ?_
 refine lE (agg [(J y208.Stack),(J y208.Start),h210,h213,h216]) ?_
 refine lE (agg [(J p1.Stack),(J p1.Start),(sl z2 f3 e4),(sl z6 f7 e8),(sl z10 f11 e12)]) ?_
 obtain ⟨y431,h432,h⟩:=obind h
 have hP442:=pop0 hH367
 refine callFE (al:=true) (g:=7) (args:=[(agg [(J p1.Stack),(J p1.Start),(sl z2 f3 e4),(sl z6 f7 e8),(sl z10 f11 e12)])]) rfl rfl rfl (laws_toRewriter_K0_ok h5 h9 h13  h432 (wf' hH367)) (by rintro _ _ ⟨_,_,_,_,_,_,_,_,hHq,_,_,_,_⟩; exact hHq.n) ?_
 rintro _ _ s443 ⟨h433,k434,h436,k437,h439,k440,Ls445,rfl,hH446,hG447,ho435,ho438,ho441⟩
 have hJ448:=joinK1 hP442 hH446
 obtain ⟨Ls449,Lf450,hG451,hF452,hP453⟩:=pushN hJ448 hG356 hG447
 obtain ⟨Ls454,Lf455,hG456,hF457,hP458⟩:=pushN hP453 hG451 hF452
 obtain ⟨Ls459,Lf460,hG461,hF462,hP463⟩:=pushN hP458 hG456 hF457
 cases hF462
 have hH464:=push0 hP463
 change HS [] false s s443 (([]:List BX)++Ls459.flatten) at hH464
 change AllG [OS oE74 h439 k440 y431.Inner,OS oE42 h436 k437 y431.Return,OS oE67 h433 k434 y431.Call,OS oE4 h338 k339 y284.1.Accept,OS oE63 h341 k342 y284.1.Call,OS oE30 h344 k345 y284.1.Return,OS oE64 h347 k348 y284.1.Inner,OS oE64 h253 k254 y242.Inner,OS oE30 h250 k251 y242.Return,OS oE63 h247 k248 y242.Call,OS oE4 h244 k245 y242.Accept,OS oE74 h216 k217 y208.Inner,OS oE42 h213 k214 y208.Return,OS oE67 h210 k211 y208.Call] Ls459 at hG461
 obtain ⟨y465,h466,h⟩:=obind h
 refine lendD (g:=11) (args:=[(agg [(J y208.Stack),(J y208.Start),h210,h213,h216]),(agg [(J y431.Stack),(J y431.Start),h433,h436,h439])]) (ps:=[(rRewriter) y208,(rRewriter) y431]) (p:=(rB) y465) rfl rfl rfl rfl rfl rfl rfl (.cons (Fin.A (.cons (Fin.of (p:=rJ y208.Stack) .I rfl) (.cons (Fin.of (p:=rJ y208.Start) .I rfl) (.cons (Fin.up (by decide) (finSt hH464 hG461 (j:=13) rfl Sub.here)) (.cons (Fin.up (by decide) (finSt hH464 hG461 (j:=12) rfl Sub.here)) (.cons (Fin.up (by decide) (finSt hH464 hG461 (j:=11) rfl Sub.here)) .nil)))))) (.cons (Fin.A (.cons (Fin.of (p:=rJ y431.Stack) .I rfl) (.cons (Fin.of (p:=rJ y431.Start) .I rfl) (.cons (Fin.up (by decide) (finSt hH464 hG461 (j:=2) rfl Sub.here)) (.cons (Fin.up (by decide) (finSt hH464 hG461 (j:=1) rfl Sub.here)) (.cons (Fin.up (by decide) (finSt hH464 hG461 (j:=0) rfl Sub.here)) .nil)))))) .nil)) (fun args' hc=>by obtain ⟨_,_,rfl,hv0,hd0⟩:=Cs_cons hc; obtain ⟨_,rfl,h467⟩:=hv0; obtain ⟨_,_,rfl,h468,h469⟩:=Cs_cons h467; cases h468; obtain ⟨_,_,rfl,h470,h471⟩:=Cs_cons h469; cases h470; obtain ⟨_,_,rfl,h472,h473⟩:=Cs_cons h471; obtain ⟨z474,f475,e476,rfl,h477⟩:=h472; obtain ⟨_,_,rfl,h478,h479⟩:=Cs_cons h473; obtain ⟨z480,f481,e482,rfl,h483⟩:=h478; obtain ⟨_,_,rfl,h484,h485⟩:=Cs_cons h479; obtain ⟨z486,f487,e488,rfl,h489⟩:=h484; cases Cs_nil h485; obtain ⟨_,_,rfl,hv1,hd1⟩:=Cs_cons hd0; obtain ⟨_,rfl,h490⟩:=hv1; obtain ⟨_,_,rfl,h491,h492⟩:=Cs_cons h490; cases h491; obtain ⟨_,_,rfl,h493,h494⟩:=Cs_cons h492; cases h493; obtain ⟨_,_,rfl,h495,h496⟩:=Cs_cons h494; obtain ⟨z497,f498,e499,rfl,h500⟩:=h495; obtain ⟨_,_,rfl,h501,h502⟩:=Cs_cons h496; obtain ⟨z503,f504,e505,rfl,h506⟩:=h501; obtain ⟨_,_,rfl,h507,h508⟩:=Cs_cons h502; obtain ⟨z509,f510,e511,rfl,h512⟩:=h507; cases Cs_nil h508; cases Cs_nil hd1; exact laws_eqRewriter_okN h477 h483 h489 h500 h506 h512 h466 WF.blind) (fun v n hv=>by cases hv; rfl) (fun v hv=>Nice.pure (k:=FINK) (p:=(rB) y465) .B _ v hv) ?_
 intro _ h513
 cases h513
 refine q (bool (!y465)) ?_
 refine nl ?_
 rcases oite h with ⟨hc514,h⟩ | ⟨hc514,h⟩
 ·refine cT hc514 ?_
  refine sr ?_
  refine q (bool false) ?_
  refine nl ?_
  cases h
  exact ret ⟨⟨_,hH464⟩,_,_,rfl,(Fin.of (p:=(rB) false) .B rfl).2⟩
 refine cF hc514 ?_
 refine skip ?_
 refine seq ?_
 refine sr ?_
 refine lE (agg [(J y242.Stack),(J y242.Start),h244,h247,h250,h253]) ?_
 refine lE (agg [(J p1_14.Stack),(J p1_14.Start),(sl z15 f16 e17),(sl z19 f20 e21),(sl z23 f24 e25),(sl z27 f28 e29)]) ?_
 obtain ⟨y515,h516,h⟩:=obind h
 have hP529:=pop0 hH464
 refine callFE (al:=true) (g:=8) (args:=[(agg [(J p1_14.Stack),(J p1_14.Start),(sl z15 f16 e17),(sl z19 f20 e21),(sl z23 f24 e25),(sl z27 f28 e29)])]) rfl rfl rfl (laws_toChecker_K0_ok h18 h22 h26 h30  h516 (wf' hH464)) (by rintro _ _ ⟨_,_,_,_,_,_,_,_,_,_,hHq,_,_,_,_,_⟩; exact hHq.n) ?_
 rintro _ _ s530 ⟨h517,k518,h520,k521,h523,k524,h526,k527,Ls532,rfl,hH533,hG534,ho519,ho522,ho525,ho528⟩
 have hJ535:=joinK1 hP529 hH533
 obtain ⟨Ls536,Lf537,hG538,hF539,hP540⟩:=pushN hJ535 hG461 hG534
 obtain ⟨Ls541,Lf542,hG543,hF544,hP545⟩:=pushN hP540 hG538 hF539
 obtain ⟨Ls546,Lf547,hG548,hF549,hP550⟩:=pushN hP545 hG543 hF544
 obtain ⟨Ls551,Lf552,hG553,hF554,hP555⟩:=pushN hP550 hG548 hF549
 cases hF554
 have hH556:=push0 hP555
 change HS [] false s s530 (([]:List BX)++Ls551.flatten) at hH556
 change AllG [OS oE64 h526 k527 y515.Inner,OS oE30 h523 k524 y515.Return,OS oE63 h520 k521 y515.Call,OS oE4 h517 k518 y515.Accept,OS oE74 h439 k440 y431.Inner,OS oE42 h436 k437 y431.Return,OS oE67 h433 k434 y431.Call,OS oE4 h338 k339 y284.1.Accept,OS oE63 h341 k342 y284.1.Call,OS oE30 h344 k345 y284.1.Return,OS oE64 h347 k348 y284.1.Inner,OS oE64 h253 k254 y242.Inner,OS oE30 h250 k251 y242.Return,OS oE63 h247 k248 y242.Call,OS oE4 h244 k245 y242.Accept,OS oE74 h216 k217 y208.Inner,OS oE42 h213 k214 y208.Return,OS oE67 h210 k211 y208.Call] Ls551 at hG553
 obtain ⟨y557,h558,h⟩:=obind h
 refine lendD (g:=10) (args:=[(agg [(J y242.Stack),(J y242.Start),h244,h247,h250,h253]),(agg [(J y515.Stack),(J y515.Start),h517,h520,h523,h526])]) (ps:=[(rChecker) y242,(rChecker) y515]) (p:=(rB) y557) rfl rfl rfl rfl rfl rfl rfl (.cons (Fin.A (.cons (Fin.of (p:=rJ y242.Stack) .I rfl) (.cons (Fin.of (p:=rJ y242.Start) .I rfl) (.cons (Fin.up (by decide) (finSt hH556 hG553 (j:=14) rfl Sub.here)) (.cons (Fin.up (by decide) (finSt hH556 hG553 (j:=13) rfl Sub.here)) (.cons (Fin.up (by decide) (finSt hH556 hG553 (j:=12) rfl Sub.here)) (.cons (Fin.up (by decide) (finSt hH556 hG553 (j:=11) rfl Sub.here)) .nil))))))) (.cons (Fin.A (.cons (Fin.of (p:=rJ y515.Stack) .I rfl) (.cons (Fin.of (p:=rJ y515.Start) .I rfl) (.cons (Fin.up (by decide) (finSt hH556 hG553 (j:=3) rfl Sub.here)) (.cons (Fin.up (by decide) (finSt hH556 hG553 (j:=2) rfl Sub.here)) (.cons (Fin.up (by decide) (finSt hH556 hG553 (j:=1) rfl Sub.here)) (.cons (Fin.up (by decide) (finSt hH556 hG553 (j:=0) rfl Sub.here)) .nil))))))) .nil)) (fun args' hc=>by obtain ⟨_,_,rfl,hv0,hd0⟩:=Cs_cons hc; obtain ⟨_,rfl,h559⟩:=hv0; obtain ⟨_,_,rfl,h560,h561⟩:=Cs_cons h559; cases h560; obtain ⟨_,_,rfl,h562,h563⟩:=Cs_cons h561; cases h562; obtain ⟨_,_,rfl,h564,h565⟩:=Cs_cons h563; obtain ⟨z566,f567,e568,rfl,h569⟩:=h564; obtain ⟨_,_,rfl,h570,h571⟩:=Cs_cons h565; obtain ⟨z572,f573,e574,rfl,h575⟩:=h570; obtain ⟨_,_,rfl,h576,h577⟩:=Cs_cons h571; obtain ⟨z578,f579,e580,rfl,h581⟩:=h576; obtain ⟨_,_,rfl,h582,h583⟩:=Cs_cons h577; obtain ⟨z584,f585,e586,rfl,h587⟩:=h582; cases Cs_nil h583; obtain ⟨_,_,rfl,hv1,hd1⟩:=Cs_cons hd0; obtain ⟨_,rfl,h588⟩:=hv1; obtain ⟨_,_,rfl,h589,h590⟩:=Cs_cons h588; cases h589; obtain ⟨_,_,rfl,h591,h592⟩:=Cs_cons h590; cases h591; obtain ⟨_,_,rfl,h593,h594⟩:=Cs_cons h592; obtain ⟨z595,f596,e597,rfl,h598⟩:=h593; obtain ⟨_,_,rfl,h599,h600⟩:=Cs_cons h594; obtain ⟨z601,f602,e603,rfl,h604⟩:=h599; obtain ⟨_,_,rfl,h605,h606⟩:=Cs_cons h600; obtain ⟨z607,f608,e609,rfl,h610⟩:=h605; obtain ⟨_,_,rfl,h611,h612⟩:=Cs_cons h606; obtain ⟨z613,f614,e615,rfl,h616⟩:=h611; cases Cs_nil h612; cases Cs_nil hd1; exact laws_eqChecker_okN h569 h575 h581 h587 h598 h604 h610 h616 h558 WF.blind) (fun v n hv=>by cases hv; rfl) (fun v hv=>Nice.pure (k:=FINK) (p:=(rB) y557) .B _ v hv) ?_
 intro _ h617
 cases h617
 refine q (bool (!y557)) ?_
 refine nl ?_
 rcases oite h with ⟨hc618,h⟩ | ⟨hc618,h⟩
 ·refine cT hc618 ?_
  refine sr ?_
  refine q (bool false) ?_
  refine nl ?_
  cases h
  exact ret ⟨⟨_,hH556⟩,_,_,rfl,(Fin.of (p:=(rB) false) .B rfl).2⟩
 refine cF hc618 ?_
 refine skip ?_
 refine sr ?_
 refine q (J 1) ?_
 refine ns ?_
 refine lE (agg [(J y208.Stack),(J y208.Start),h210,h213,h216]) ?_
 refine q (J 1) ?_
 obtain ⟨y619,h620,h⟩:=obind h
 have hP621:=pop0 hH556
 have hF0:AllG ([]:List (List BX→Prop)) []:=AllG.nil
 obtain ⟨Ls622,Lf623,hG624,hF625,hP626⟩:=popG hP621 hG553 hF0 (j:=17) rfl
 obtain ⟨Ls627,Lf628,hG629,hF630,hP631⟩:=popG hP626 hG624 hF625 (j:=16) rfl
 obtain ⟨Ls632,Lf633,hG634,hF635,hP636⟩:=popG hP631 hG629 hF630 (j:=15) rfl
 refine callF (al:=true) (g:=12) (args:=[(agg [(J y208.Stack),(J y208.Start),h210,h213,h216]),(J 1)]) rfl rfl rfl (laws_markRewriter_K10_ok (a1:=y208) ho212 ho215 ho218 (enterK hP636) hF635 (enterLo hP636 hl) h620 (wf' hH556)) ?_
 rintro _ _ s637 ⟨Ls639,rfl,hH640,hG641⟩
 have hJ642:=joinK hP636 hH640
 obtain ⟨Ls643,Lf644,hG645,hF646,hP647⟩:=putG hJ642 hG634 hG641 (j:=17) rfl
 obtain ⟨Ls648,Lf649,hG650,hF651,hP652⟩:=putG hP647 hG645 hF646 (j:=16) rfl
 obtain ⟨Ls653,Lf654,hG655,hF656,hP657⟩:=putG hP652 hG650 hF651 (j:=15) rfl
 cases hF656
 have hH658:=push0 hP657
 change HS [] false s s637 (([]:List BX)++Ls653.flatten) at hH658
 change AllG [OS oE64 h526 k527 y515.Inner,OS oE30 h523 k524 y515.Return,OS oE63 h520 k521 y515.Call,OS oE4 h517 k518 y515.Accept,OS oE74 h439 k440 y431.Inner,OS oE42 h436 k437 y431.Return,OS oE67 h433 k434 y431.Call,OS oE4 h338 k339 y284.1.Accept,OS oE63 h341 k342 y284.1.Call,OS oE30 h344 k345 y284.1.Return,OS oE64 h347 k348 y284.1.Inner,OS oE64 h253 k254 y242.Inner,OS oE30 h250 k251 y242.Return,OS oE63 h247 k248 y242.Call,OS oE4 h244 k245 y242.Accept,OS oE74 h216 k217 y619.2.2.2,OS oE42 h213 k214 y619.2.2.1,OS oE67 h210 k211 y619.2.1] Ls653 at hG655
 refine aq (J y619.1) ?_
 refine ns ?_
 refine lE (agg [(J y242.Stack),(J y242.Start),h244,h247,h250,h253]) ?_
 refine q (J y619.1) ?_
 obtain ⟨y659,h660,h⟩:=obind h
 have hP661:=pop0 hH658
 have hF0:AllG ([]:List (List BX→Prop)) []:=AllG.nil
 obtain ⟨Ls662,Lf663,hG664,hF665,hP666⟩:=popG hP661 hG655 hF0 (j:=14) rfl
 obtain ⟨Ls667,Lf668,hG669,hF670,hP671⟩:=popG hP666 hG664 hF665 (j:=13) rfl
 obtain ⟨Ls672,Lf673,hG674,hF675,hP676⟩:=popG hP671 hG669 hF670 (j:=12) rfl
 obtain ⟨Ls677,Lf678,hG679,hF680,hP681⟩:=popG hP676 hG674 hF675 (j:=11) rfl
 refine callF (al:=true) (g:=13) (args:=[(agg [(J y242.Stack),(J y242.Start),h244,h247,h250,h253]),(J y619.1)]) rfl rfl rfl (laws_markChecker_K10_ok (a1:=y242) ho246 ho249 ho252 ho255 (enterK hP681) hF680 (enterLo hP681 hl) h660 (wf' hH658)) ?_
 rintro _ _ s682 ⟨Ls684,rfl,hH685,hG686⟩
 have hJ687:=joinK hP681 hH685
 obtain ⟨Ls688,Lf689,hG690,hF691,hP692⟩:=putG hJ687 hG679 hG686 (j:=14) rfl
 obtain ⟨Ls693,Lf694,hG695,hF696,hP697⟩:=putG hP692 hG690 hF691 (j:=13) rfl
 obtain ⟨Ls698,Lf699,hG700,hF701,hP702⟩:=putG hP697 hG695 hF696 (j:=12) rfl
 obtain ⟨Ls703,Lf704,hG705,hF706,hP707⟩:=putG hP702 hG700 hF701 (j:=11) rfl
 cases hF706
 have hH708:=push0 hP707
 change HS [] false s s682 (([]:List BX)++Ls703.flatten) at hH708
 change AllG [OS oE64 h526 k527 y515.Inner,OS oE30 h523 k524 y515.Return,OS oE63 h520 k521 y515.Call,OS oE4 h517 k518 y515.Accept,OS oE74 h439 k440 y431.Inner,OS oE42 h436 k437 y431.Return,OS oE67 h433 k434 y431.Call,OS oE4 h338 k339 y284.1.Accept,OS oE63 h341 k342 y284.1.Call,OS oE30 h344 k345 y284.1.Return,OS oE64 h347 k348 y284.1.Inner,OS oE64 h253 k254 y659.2.2.2.2,OS oE30 h250 k251 y659.2.2.2.1,OS oE63 h247 k248 y659.2.2.1,OS oE4 h244 k245 y659.2.1,OS oE74 h216 k217 y619.2.2.2,OS oE42 h213 k214 y619.2.2.1,OS oE67 h210 k211 y619.2.1] Ls703 at hG705
 refine aq (J y659.1) ?_
 refine nl ?_
 refine seq ?_
 refine sr ?_
 refine q (J y659.1) ?_
 refine q (bool (decide ((y659.1:Int)<0))) ?_
 refine q (bool (decide ((y659.1:Int)<0))) ?_
 obtain ⟨b710,hb,h⟩:=obind h
 refine split 5 (fun f'=>∃ tm' os',f'=⟨updL tm' [(2,(eptr [(J p1.Stack),(J p1.Start),(sl z2 f3 e4),(sl z6 f7 e8),(sl z10 f11 e12)] 0)),(3,(eptr [(J p1_14.Stack),(J p1_14.Start),(sl z15 f16 e17),(sl z19 f20 e21),(sl z23 f24 e25),(sl z27 f28 e29)] 0)),(6,(eptr [(J y117.1.Stack),(J y117.1.Start),(sl z182 f183 e184),(sl z188 f189 e190),(sl z194 f195 e196),(sl z200 f201 e202)] 0)),(7,(J y117.2)),(10,(eptr [(J y284.1.Stack),(J y284.1.Start),h338,h341,h344,h347] 0)),(11,(J y284.2)),(77,(bool b710))],updL os' [],s682⟩) ?_ ?_
 ·rcases oite hb with ⟨hc709,hb⟩ | ⟨hc709,hb⟩
  ·refine kn 72 hc709 ?_
   refine sk ?_
   refine sk ?_
   refine sk ?_
   refine sk ?_
   refine q (bool true) ?_
   exact rR ⟨rfl,rfl,rfl,rfl,rfl,rfl,bJ hb,tv⟩
  ·have h:=hb
   refine kn 72 hc709 ?_
   refine lE (agg [(J y284.1.Stack),(J y284.1.Start),h338,h341,h344,h347]) ?_
   refine lE (agg [(J y117.1.Stack),(J y117.1.Start),(sl z182 f183 e184),(sl z188 f189 e190),(sl z194 f195 e196),(sl z200 f201 e202)]) ?_
   obtain ⟨y711,h712,h⟩:=obind h
   refine lendP (g:=10) (args:=[(agg [(J y284.1.Stack),(J y284.1.Start),h338,h341,h344,h347]),(agg [(J y117.1.Stack),(J y117.1.Start),(sl z182 f183 e184),(sl z188 f189 e190),(sl z194 f195 e196),(sl z200 f201 e202)])]) (ps:=[(rChecker) y284.1,(rChecker) y117.1]) (p:=(rB) y711) rfl rfl rfl rfl rfl rfl rfl (.cons (Fin.A (.cons (Fin.of (p:=rJ y284.1.Stack) .I rfl) (.cons (Fin.of (p:=rJ y284.1.Start) .I rfl) (.cons (Fin.up (by decide) (finS hH708 hG705 (j:=7) rfl Sub.here (Or.inl rfl))) (.cons (Fin.up (by decide) (finS hH708 hG705 (j:=8) rfl Sub.here (Or.inl rfl))) (.cons (Fin.up (by decide) (finS hH708 hG705 (j:=9) rfl Sub.here (Or.inl rfl))) (.cons (Fin.up (by decide) (finS hH708 hG705 (j:=10) rfl Sub.here (Or.inl rfl))) .nil))))))) (.cons (Fin.of (p:=(rChecker) y117.1) (.A (.cons .I (.cons .I (.cons (.L fun _=>.B) (.cons (.L fun _=>(.L fun _=>(.A (.cons .I (.cons .I .nil))))) (.cons (.L fun _=>(.L fun _=>(.L fun _=>.I))) (.cons (.L fun _=>(.L fun _=>.I)) .nil))))))) (⟨_,rfl,(.cons rfl (.cons rfl (.cons ⟨_,_,_,rfl,h185⟩ (.cons ⟨_,_,_,rfl,h191⟩ (.cons ⟨_,_,_,rfl,h197⟩ (.cons ⟨_,_,_,rfl,h203⟩ .nil))))))⟩)) .nil)) (fun args' hc=>by obtain ⟨_,_,rfl,hv0,hd0⟩:=Cs_cons hc; obtain ⟨_,rfl,h713⟩:=hv0; obtain ⟨_,_,rfl,h714,h715⟩:=Cs_cons h713; cases h714; obtain ⟨_,_,rfl,h716,h717⟩:=Cs_cons h715; cases h716; obtain ⟨_,_,rfl,h718,h719⟩:=Cs_cons h717; obtain ⟨z720,f721,e722,rfl,h723⟩:=h718; obtain ⟨_,_,rfl,h724,h725⟩:=Cs_cons h719; obtain ⟨z726,f727,e728,rfl,h729⟩:=h724; obtain ⟨_,_,rfl,h730,h731⟩:=Cs_cons h725; obtain ⟨z732,f733,e734,rfl,h735⟩:=h730; obtain ⟨_,_,rfl,h736,h737⟩:=Cs_cons h731; obtain ⟨z738,f739,e740,rfl,h741⟩:=h736; cases Cs_nil h737; obtain ⟨_,_,rfl,hv1,hd1⟩:=Cs_cons hd0; obtain ⟨_,rfl,h742⟩:=hv1; obtain ⟨_,_,rfl,h743,h744⟩:=Cs_cons h742; cases h743; obtain ⟨_,_,rfl,h745,h746⟩:=Cs_cons h744; cases h745; obtain ⟨_,_,rfl,h747,h748⟩:=Cs_cons h746; obtain ⟨z749,f750,e751,rfl,h752⟩:=h747; obtain ⟨_,_,rfl,h753,h754⟩:=Cs_cons h748; obtain ⟨z755,f756,e757,rfl,h758⟩:=h753; obtain ⟨_,_,rfl,h759,h760⟩:=Cs_cons h754; obtain ⟨z761,f762,e763,rfl,h764⟩:=h759; obtain ⟨_,_,rfl,h765,h766⟩:=Cs_cons h760; obtain ⟨z767,f768,e769,rfl,h770⟩:=h765; cases Cs_nil h766; cases Cs_nil hd1; exact laws_eqChecker_okN h723 h729 h735 h741 h752 h758 h764 h770 h712 WF.blind) (fun v n hv=>by cases hv; rfl) ?_
   intro _ h771
   cases h771
   refine q (bool (!y711)) ?_
   refine q (bool (!y711)) ?_
   exact rR ⟨rfl,rfl,rfl,rfl,rfl,rfl,bJ h,tv⟩
 rintro _ ⟨tm,os,rfl⟩
 refine q (bool b710) ?_
 refine split 4 (fun f'=>∃ tm' os',f'=⟨updL tm' [(2,(eptr [(J p1.Stack),(J p1.Start),(sl z2 f3 e4),(sl z6 f7 e8),(sl z10 f11 e12)] 0)),(3,(eptr [(J p1_14.Stack),(J p1_14.Start),(sl z15 f16 e17),(sl z19 f20 e21),(sl z23 f24 e25),(sl z27 f28 e29)] 0)),(6,(eptr [(J y117.1.Stack),(J y117.1.Start),(sl z182 f183 e184),(sl z188 f189 e190),(sl z194 f195 e196),(sl z200 f201 e202)] 0)),(7,(J y117.2)),(10,(eptr [(J y284.1.Stack),(J y284.1.Start),h338,h341,h344,h347] 0)),(82,(bool (b710||(y284.2 != y117.2))))],updL os' [],s682⟩) ?_ ?_
 ·rcases Bool.eq_false_or_eq_true b710 with hc772 | hc772
  ·refine kn 78 hc772 ?_
   refine sk ?_
   refine sk ?_
   refine sk ?_
   refine q (bool true) ?_
   exact rR ⟨rfl,rfl,rfl,rfl,rfl,congrArg bool (or_t hc772),tv⟩
  ·refine kn 78 hc772 ?_
   refine q (J y284.2) ?_
   refine q (J y117.2) ?_
   refine q (bool (y284.2 != y117.2)) ?_
   refine q (bool (y284.2 != y117.2)) ?_
   exact rR ⟨rfl,rfl,rfl,rfl,rfl,congrArg bool (or_f hc772),tv⟩
 rintro _ ⟨tm,os,rfl⟩
 refine nl ?_
 rcases oite h with ⟨hc773,h⟩ | ⟨hc773,h⟩
 ·refine cT hc773 ?_
  refine sr ?_
  refine q (bool false) ?_
  refine nl ?_
  cases h
  exact ret ⟨⟨_,hH708⟩,_,_,rfl,(Fin.of (p:=(rB) false) .B rfl).2⟩
 refine cF hc773 ?_
 refine skip ?_
 refine sr ?_
 refine q (J 1) ?_
 refine ns ?_
 refine lE (agg [(J y284.1.Stack),(J y284.1.Start),h338,h341,h344,h347]) ?_
 refine q (J 1) ?_
 obtain ⟨y774,h775,h⟩:=obind h
 have hP776:=pop0 hH708
 have hF0:AllG ([]:List (List BX→Prop)) []:=AllG.nil
 obtain ⟨Ls777,Lf778,hG779,hF780,hP781⟩:=popG hP776 hG705 hF0 (j:=7) rfl
 obtain ⟨Ls782,Lf783,hG784,hF785,hP786⟩:=popG hP781 hG779 hF780 (j:=8) rfl
 obtain ⟨Ls787,Lf788,hG789,hF790,hP791⟩:=popG hP786 hG784 hF785 (j:=9) rfl
 obtain ⟨Ls792,Lf793,hG794,hF795,hP796⟩:=popG hP791 hG789 hF790 (j:=10) rfl
 refine callF (al:=true) (g:=13) (args:=[(agg [(J y284.1.Stack),(J y284.1.Start),h338,h341,h344,h347]),(J 1)]) rfl rfl rfl (laws_markChecker_K10_ok (a1:=y284.1) ho340 ho343 ho346 ho349 (enterK hP796) hF795 (enterLo hP796 hl) h775 (wf' hH708)) ?_
 rintro _ _ s797 ⟨Ls799,rfl,hH800,hG801⟩
 have hJ802:=joinK hP796 hH800
 obtain ⟨Ls803,Lf804,hG805,hF806,hP807⟩:=putG hJ802 hG794 hG801 (j:=7) rfl
 obtain ⟨Ls808,Lf809,hG810,hF811,hP812⟩:=putG hP807 hG805 hF806 (j:=8) rfl
 obtain ⟨Ls813,Lf814,hG815,hF816,hP817⟩:=putG hP812 hG810 hF811 (j:=9) rfl
 obtain ⟨Ls818,Lf819,hG820,hF821,hP822⟩:=putG hP817 hG815 hF816 (j:=10) rfl
 cases hF821
 have hH823:=push0 hP822
 change HS [] false s s797 (([]:List BX)++Ls818.flatten) at hH823
 change AllG [OS oE64 h526 k527 y515.Inner,OS oE30 h523 k524 y515.Return,OS oE63 h520 k521 y515.Call,OS oE4 h517 k518 y515.Accept,OS oE74 h439 k440 y431.Inner,OS oE42 h436 k437 y431.Return,OS oE67 h433 k434 y431.Call,OS oE4 h338 k339 y774.2.1,OS oE63 h341 k342 y774.2.2.1,OS oE30 h344 k345 y774.2.2.2.1,OS oE64 h347 k348 y774.2.2.2.2,OS oE64 h253 k254 y659.2.2.2.2,OS oE30 h250 k251 y659.2.2.2.1,OS oE63 h247 k248 y659.2.2.1,OS oE4 h244 k245 y659.2.1,OS oE74 h216 k217 y619.2.2.2,OS oE42 h213 k214 y619.2.2.1,OS oE67 h210 k211 y619.2.1] Ls818 at hG820
 refine aq (J y774.1) ?_
 refine ns ?_
 refine q (J 1) ?_
 refine ns ?_
 refine lE (agg [(J y284.1.Stack),(J y284.1.Start),h338,h341,h344,h347]) ?_
 refine q (J 1) ?_
 obtain ⟨y824,h825,h⟩:=obind h
 refine lendP (g:=14) (args:=[(agg [(J y284.1.Stack),(J y284.1.Start),h338,h341,h344,h347]),(J 1)]) (ps:=[(rChecker) (⟨y284.1.Stack,y284.1.Start,y774.2.1,y774.2.2.1,y774.2.2.2.1,y774.2.2.2.2⟩:Checker),rJ 1]) (p:=rJ y824) rfl rfl rfl rfl rfl rfl rfl (.cons (Fin.A (.cons (Fin.of (p:=rJ y284.1.Stack) .I rfl) (.cons (Fin.of (p:=rJ y284.1.Start) .I rfl) (.cons (Fin.up (by decide) (finS hH823 hG820 (j:=7) rfl Sub.here (Or.inl rfl))) (.cons (Fin.up (by decide) (finS hH823 hG820 (j:=8) rfl Sub.here (Or.inl rfl))) (.cons (Fin.up (by decide) (finS hH823 hG820 (j:=9) rfl Sub.here (Or.inl rfl))) (.cons (Fin.up (by decide) (finS hH823 hG820 (j:=10) rfl Sub.here (Or.inl rfl))) .nil))))))) (.cons (Fin.of (p:=rJ 1) .I rfl) .nil)) (fun args' hc=>by obtain ⟨_,_,rfl,hv0,hd0⟩:=Cs_cons hc; obtain ⟨_,rfl,h826⟩:=hv0; obtain ⟨_,_,rfl,h827,h828⟩:=Cs_cons h826; cases h827; obtain ⟨_,_,rfl,h829,h830⟩:=Cs_cons h828; cases h829; obtain ⟨_,_,rfl,h831,h832⟩:=Cs_cons h830; obtain ⟨z833,f834,e835,rfl,h836⟩:=h831; obtain ⟨_,_,rfl,h837,h838⟩:=Cs_cons h832; obtain ⟨z839,f840,e841,rfl,h842⟩:=h837; obtain ⟨_,_,rfl,h843,h844⟩:=Cs_cons h838; obtain ⟨z845,f846,e847,rfl,h848⟩:=h843; obtain ⟨_,_,rfl,h849,h850⟩:=Cs_cons h844; obtain ⟨z851,f852,e853,rfl,h854⟩:=h849; cases Cs_nil h850; obtain ⟨_,_,rfl,hv1,hd1⟩:=Cs_cons hd0; cases hv1; cases Cs_nil hd1; exact laws_heldChecker_okN h836 h842 h848 h854 h825 WF.blind) (fun v n hv=>by cases hv; rfl) ?_
 intro _ h855
 cases h855
 refine aq (J y824) ?_
 refine nl ?_
 refine seq ?_
 refine sr ?_
 refine q (J y824) ?_
 refine q (bool (decide ((y824:Int)<0))) ?_
 refine nl ?_
 rcases oite h with ⟨hc856,h⟩ | ⟨hc856,h⟩
 ·refine cT hc856 ?_
  refine sr ?_
  refine q (bool false) ?_
  refine nl ?_
  cases h
  exact ret ⟨⟨_,hH823⟩,_,_,rfl,(Fin.of (p:=(rB) false) .B rfl).2⟩
 refine cF hc856 ?_
 refine skip ?_
 refine seq ?_
 refine sr ?_
 refine q (J y824) ?_
 refine q (J y774.1) ?_
 refine q (bool (y824 != y774.1)) ?_
 refine nl ?_
 rcases oite h with ⟨hc857,h⟩ | ⟨hc857,h⟩
 ·refine cT hc857 ?_
  refine sr ?_
  refine q (bool false) ?_
  refine nl ?_
  cases h
  exact ret ⟨⟨_,hH823⟩,_,_,rfl,(Fin.of (p:=(rB) false) .B rfl).2⟩
 refine cF hc857 ?_
 refine skip ?_
 refine sr ?_
 refine lE (agg [(J p1.Stack),(J p1.Start),(sl z2 f3 e4),(sl z6 f7 e8),(sl z10 f11 e12)]) ?_
 obtain ⟨y858,h859,h⟩:=obind h
 have hP869:=pop0 hH823
 refine callFE (al:=true) (g:=7) (args:=[(agg [(J p1.Stack),(J p1.Start),(sl z2 f3 e4),(sl z6 f7 e8),(sl z10 f11 e12)])]) rfl rfl rfl (laws_toRewriter_K0_ok h5 h9 h13  h859 (wf' hH823)) (by rintro _ _ ⟨_,_,_,_,_,_,_,_,hHq,_,_,_,_⟩; exact hHq.n) ?_
 rintro _ _ s870 ⟨h860,k861,h863,k864,h866,k867,Ls872,rfl,hH873,hG874,ho862,ho865,ho868⟩
 have hJ875:=joinK1 hP869 hH873
 obtain ⟨Ls876,Lf877,hG878,hF879,hP880⟩:=pushN hJ875 hG820 hG874
 obtain ⟨Ls881,Lf882,hG883,hF884,hP885⟩:=pushN hP880 hG878 hF879
 obtain ⟨Ls886,Lf887,hG888,hF889,hP890⟩:=pushN hP885 hG883 hF884
 cases hF889
 have hH891:=push0 hP890
 change HS [] false s s870 (([]:List BX)++Ls886.flatten) at hH891
 change AllG [OS oE74 h866 k867 y858.Inner,OS oE42 h863 k864 y858.Return,OS oE67 h860 k861 y858.Call,OS oE64 h526 k527 y515.Inner,OS oE30 h523 k524 y515.Return,OS oE63 h520 k521 y515.Call,OS oE4 h517 k518 y515.Accept,OS oE74 h439 k440 y431.Inner,OS oE42 h436 k437 y431.Return,OS oE67 h433 k434 y431.Call,OS oE4 h338 k339 y774.2.1,OS oE63 h341 k342 y774.2.2.1,OS oE30 h344 k345 y774.2.2.2.1,OS oE64 h347 k348 y774.2.2.2.2,OS oE64 h253 k254 y659.2.2.2.2,OS oE30 h250 k251 y659.2.2.2.1,OS oE63 h247 k248 y659.2.2.1,OS oE4 h244 k245 y659.2.1,OS oE74 h216 k217 y619.2.2.2,OS oE42 h213 k214 y619.2.2.1,OS oE67 h210 k211 y619.2.1] Ls886 at hG888
 refine lE (agg [(J p1_14.Stack),(J p1_14.Start),(sl z15 f16 e17),(sl z19 f20 e21),(sl z23 f24 e25),(sl z27 f28 e29)]) ?_
 obtain ⟨y892,h893,h⟩:=obind h
 have hP906:=pop0 hH891
 refine callFE (al:=true) (g:=8) (args:=[(agg [(J p1_14.Stack),(J p1_14.Start),(sl z15 f16 e17),(sl z19 f20 e21),(sl z23 f24 e25),(sl z27 f28 e29)])]) rfl rfl rfl (laws_toChecker_K0_ok h18 h22 h26 h30  h893 (wf' hH891)) (by rintro _ _ ⟨_,_,_,_,_,_,_,_,_,_,hHq,_,_,_,_,_⟩; exact hHq.n) ?_
 rintro _ _ s907 ⟨h894,k895,h897,k898,h900,k901,h903,k904,Ls909,rfl,hH910,hG911,ho896,ho899,ho902,ho905⟩
 have hJ912:=joinK1 hP906 hH910
 obtain ⟨Ls913,Lf914,hG915,hF916,hP917⟩:=pushN hJ912 hG888 hG911
 obtain ⟨Ls918,Lf919,hG920,hF921,hP922⟩:=pushN hP917 hG915 hF916
 obtain ⟨Ls923,Lf924,hG925,hF926,hP927⟩:=pushN hP922 hG920 hF921
 obtain ⟨Ls928,Lf929,hG930,hF931,hP932⟩:=pushN hP927 hG925 hF926
 cases hF931
 have hH933:=push0 hP932
 change HS [] false s s907 (([]:List BX)++Ls928.flatten) at hH933
 change AllG [OS oE64 h903 k904 y892.Inner,OS oE30 h900 k901 y892.Return,OS oE63 h897 k898 y892.Call,OS oE4 h894 k895 y892.Accept,OS oE74 h866 k867 y858.Inner,OS oE42 h863 k864 y858.Return,OS oE67 h860 k861 y858.Call,OS oE64 h526 k527 y515.Inner,OS oE30 h523 k524 y515.Return,OS oE63 h520 k521 y515.Call,OS oE4 h517 k518 y515.Accept,OS oE74 h439 k440 y431.Inner,OS oE42 h436 k437 y431.Return,OS oE67 h433 k434 y431.Call,OS oE4 h338 k339 y774.2.1,OS oE63 h341 k342 y774.2.2.1,OS oE30 h344 k345 y774.2.2.2.1,OS oE64 h347 k348 y774.2.2.2.2,OS oE64 h253 k254 y659.2.2.2.2,OS oE30 h250 k251 y659.2.2.2.1,OS oE63 h247 k248 y659.2.2.1,OS oE4 h244 k245 y659.2.1,OS oE74 h216 k217 y619.2.2.2,OS oE42 h213 k214 y619.2.2.1,OS oE67 h210 k211 y619.2.1] Ls928 at hG930
 obtain ⟨y934,h935,h⟩:=obind h
 refine AOps.lendKE (al:=true) (g:=9) (args:=[(agg [(J y858.Stack),(J y858.Start),h860,h863,h866]),(agg [(J y892.Stack),(J y892.Start),h894,h897,h900,h903])]) (ps:=[(rRewriter) y858,(rChecker) y892]) (p:=fun v s'=>∃ (h988:AV) (k989:KT) (h991:AV) (k992:KT) (h994:AV) (k995:KT) (h997:AV) (k998:KT) (Ls':List (List BX)),v=(AV.tup [(agg [(J y934.1.Stack),(J y934.1.Start),h988,h991,h994,h997]),(J y934.2)])∧HS [] true s907.blind s' (([]:List BX)++Ls'.flatten)∧AllG [OS oE4 h988 k989 y934.1.Accept,OS oE63 h991 k992 y934.1.Call,OS oE30 h994 k995 y934.1.Return,OS oE64 h997 k998 y934.1.Inner] Ls'∧h988.one=true∧h991.one=true∧h994.one=true∧h997.one=true) rfl rfl rfl rfl rfl rfl rfl (.cons (Fin.A (.cons (Fin.of (p:=rJ y858.Stack) .I rfl) (.cons (Fin.of (p:=rJ y858.Start) .I rfl) (.cons (Fin.up (by decide) (finS hH933 hG930 (j:=6) rfl Sub.here (Or.inl rfl))) (.cons (Fin.up (by decide) (finS hH933 hG930 (j:=5) rfl Sub.here (Or.inl rfl))) (.cons (Fin.up (by decide) (finS hH933 hG930 (j:=4) rfl Sub.here (Or.inl rfl))) .nil)))))) (.cons (Fin.A (.cons (Fin.of (p:=rJ y892.Stack) .I rfl) (.cons (Fin.of (p:=rJ y892.Start) .I rfl) (.cons (Fin.up (by decide) (finS hH933 hG930 (j:=3) rfl Sub.here (Or.inl rfl))) (.cons (Fin.up (by decide) (finS hH933 hG930 (j:=2) rfl Sub.here (Or.inl rfl))) (.cons (Fin.up (by decide) (finS hH933 hG930 (j:=1) rfl Sub.here (Or.inl rfl))) (.cons (Fin.up (by decide) (finS hH933 hG930 (j:=0) rfl Sub.here (Or.inl rfl))) .nil))))))) .nil)) (fun args' hc=>by obtain ⟨_,_,rfl,hv0,hd0⟩:=Cs_cons hc; obtain ⟨_,rfl,h936⟩:=hv0; obtain ⟨_,_,rfl,h937,h938⟩:=Cs_cons h936; cases h937; obtain ⟨_,_,rfl,h939,h940⟩:=Cs_cons h938; cases h939; obtain ⟨_,_,rfl,h941,h942⟩:=Cs_cons h940; obtain ⟨z943,f944,e945,rfl,h946⟩:=h941; obtain ⟨_,_,rfl,h947,h948⟩:=Cs_cons h942; obtain ⟨z949,f950,e951,rfl,h952⟩:=h947; obtain ⟨_,_,rfl,h953,h954⟩:=Cs_cons h948; obtain ⟨z955,f956,e957,rfl,h958⟩:=h953; cases Cs_nil h954; obtain ⟨_,_,rfl,hv1,hd1⟩:=Cs_cons hd0; obtain ⟨_,rfl,h959⟩:=hv1; obtain ⟨_,_,rfl,h960,h961⟩:=Cs_cons h959; cases h960; obtain ⟨_,_,rfl,h962,h963⟩:=Cs_cons h961; cases h962; obtain ⟨_,_,rfl,h964,h965⟩:=Cs_cons h963; obtain ⟨z966,f967,e968,rfl,h969⟩:=h964; obtain ⟨_,_,rfl,h970,h971⟩:=Cs_cons h965; obtain ⟨z972,f973,e974,rfl,h975⟩:=h970; obtain ⟨_,_,rfl,h976,h977⟩:=Cs_cons h971; obtain ⟨z978,f979,e980,rfl,h981⟩:=h976; obtain ⟨_,_,rfl,h982,h983⟩:=Cs_cons h977; obtain ⟨z984,f985,e986,rfl,h987⟩:=h982; cases Cs_nil h983; cases Cs_nil hd1; exact impl_PreimageChecker_K00_okN h946 h952 h958 h969 h975 h981 h987 h935 WF.blind) (by rintro v s1 ⟨_,_,_,_,_,_,_,_,Lq,rfl,hHq,hGq,_,_,_,_⟩; simp[AV.flatB,AV.flatL,HS.flatB0 hHq hGq (j:=0) rfl (Flt.leaf (fun x v n hr=>by cases hr; rfl)),HS.flatB0 hHq hGq (j:=1) rfl (Flt.sl (e:=oE71) (Flt.leaf (fun x v n hr=>by obtain ⟨_,rfl,h1007⟩:=hr; obtain ⟨_,_,rfl,h1008,h1009⟩:=Cs_cons h1007; cases h1008; obtain ⟨_,_,rfl,h1010,h1011⟩:=Cs_cons h1009; cases h1010; cases Cs_nil h1011; rfl))),HS.flatB0 hHq hGq (j:=2) rfl (Flt.sl (e:=oE64) (Flt.sl (e:=oE2) (Flt.leaf (fun x v n hr=>by cases hr; rfl)))),HS.flatB0 hHq hGq (j:=3) rfl (Flt.sl (e:=oE2) (Flt.leaf (fun x v n hr=>by cases hr; rfl)))]) (by rintro v s1 ⟨_,_,_,_,_,_,_,_,_,_,hHq,_,_,_,_,_⟩; exact hHq.n) ?_
 rintro _ s1000 ⟨h988,k989,h991,k992,h994,k995,h997,k998,Ls1002,rfl,hH1003,hG1004,ho990,ho993,ho996,ho999⟩
 have hH1005:=HS.joinL (Lf:=Ls1002) hH933 (by simpa using hH1003) hG1004 (FG.cons (Flt.leaf (fun x v n hr=>by cases hr; rfl)) (FG.cons (Flt.sl (e:=oE71) (Flt.leaf (fun x v n hr=>by obtain ⟨_,rfl,h1012⟩:=hr; obtain ⟨_,_,rfl,h1013,h1014⟩:=Cs_cons h1012; cases h1013; obtain ⟨_,_,rfl,h1015,h1016⟩:=Cs_cons h1014; cases h1015; cases Cs_nil h1016; rfl))) (FG.cons (Flt.sl (e:=oE64) (Flt.sl (e:=oE2) (Flt.leaf (fun x v n hr=>by cases hr; rfl)))) (FG.cons (Flt.sl (e:=oE2) (Flt.leaf (fun x v n hr=>by cases hr; rfl))) FG.nil))))
 have hG1006:=AllG.app hG1004 hG930
 have hH1017:=HS.reL hH1005
 change HS [] false s (St.join s907 s1000) (([]:List BX)++List.flatten (Ls1002++Ls928)) at hH1017
 change AllG [OS oE4 h988 k989 y934.1.Accept,OS oE63 h991 k992 y934.1.Call,OS oE30 h994 k995 y934.1.Return,OS oE64 h997 k998 y934.1.Inner,OS oE64 h903 k904 y892.Inner,OS oE30 h900 k901 y892.Return,OS oE63 h897 k898 y892.Call,OS oE4 h894 k895 y892.Accept,OS oE74 h866 k867 y858.Inner,OS oE42 h863 k864 y858.Return,OS oE67 h860 k861 y858.Call,OS oE64 h526 k527 y515.Inner,OS oE30 h523 k524 y515.Return,OS oE63 h520 k521 y515.Call,OS oE4 h517 k518 y515.Accept,OS oE74 h439 k440 y431.Inner,OS oE42 h436 k437 y431.Return,OS oE67 h433 k434 y431.Call,OS oE4 h338 k339 y774.2.1,OS oE63 h341 k342 y774.2.2.1,OS oE30 h344 k345 y774.2.2.2.1,OS oE64 h347 k348 y774.2.2.2.2,OS oE64 h253 k254 y659.2.2.2.2,OS oE30 h250 k251 y659.2.2.2.1,OS oE63 h247 k248 y659.2.2.1,OS oE4 h244 k245 y659.2.1,OS oE74 h216 k217 y619.2.2.2,OS oE42 h213 k214 y619.2.2.1,OS oE67 h210 k211 y619.2.1] (Ls1002++Ls928) at hG1006
 refine q (AV.tup [(agg [(J y934.1.Stack),(J y934.1.Start),h988,h991,h994,h997]),(J y934.2)]) ?_
 refine q (agg [(J y934.1.Stack),(J y934.1.Start),h988,h991,h994,h997]) ?_
 refine q (J y934.2) ?_
 refine allocP rfl rfl rfl rfl ⟨rfl,rfl⟩ rfl ?_
 refine stP (v:=(agg [(J y934.1.Stack),(J y934.1.Start),h988,h991,h994,h997])) rfl rfl rfl rfl rfl rfl rfl (lay_cons rfl (lay_cons rfl (lay_cons ho990 (lay_cons ho993 (lay_cons ho996 (lay_cons ho999 lay_nil)))))) rfl (lt_b rfl) rfl ?_
 refine aq (J y934.2) ?_
 refine nl ?_
 refine seq ?_
 refine sr ?_
 refine lE (agg [(J y934.1.Stack),(J y934.1.Start),h988,h991,h994,h997]) ?_
 refine lE (agg [(J y117.1.Stack),(J y117.1.Start),(sl z182 f183 e184),(sl z188 f189 e190),(sl z194 f195 e196),(sl z200 f201 e202)]) ?_
 obtain ⟨y1018,h1019,h⟩:=obind h
 refine lendP (g:=10) (args:=[(agg [(J y934.1.Stack),(J y934.1.Start),h988,h991,h994,h997]),(agg [(J y117.1.Stack),(J y117.1.Start),(sl z182 f183 e184),(sl z188 f189 e190),(sl z194 f195 e196),(sl z200 f201 e202)])]) (ps:=[(rChecker) y934.1,(rChecker) y117.1]) (p:=(rB) y1018) rfl rfl rfl rfl rfl rfl rfl (.cons (Fin.A (.cons (Fin.of (p:=rJ y934.1.Stack) .I rfl) (.cons (Fin.of (p:=rJ y934.1.Start) .I rfl) (.cons (Fin.up (by decide) (finS hH1017 hG1006 (j:=0) rfl Sub.here (Or.inl rfl))) (.cons (Fin.up (by decide) (finS hH1017 hG1006 (j:=1) rfl Sub.here (Or.inl rfl))) (.cons (Fin.up (by decide) (finS hH1017 hG1006 (j:=2) rfl Sub.here (Or.inl rfl))) (.cons (Fin.up (by decide) (finS hH1017 hG1006 (j:=3) rfl Sub.here (Or.inl rfl))) .nil))))))) (.cons (Fin.of (p:=(rChecker) y117.1) (.A (.cons .I (.cons .I (.cons (.L fun _=>.B) (.cons (.L fun _=>(.L fun _=>(.A (.cons .I (.cons .I .nil))))) (.cons (.L fun _=>(.L fun _=>(.L fun _=>.I))) (.cons (.L fun _=>(.L fun _=>.I)) .nil))))))) (⟨_,rfl,(.cons rfl (.cons rfl (.cons ⟨_,_,_,rfl,h185⟩ (.cons ⟨_,_,_,rfl,h191⟩ (.cons ⟨_,_,_,rfl,h197⟩ (.cons ⟨_,_,_,rfl,h203⟩ .nil))))))⟩)) .nil)) (fun args' hc=>by obtain ⟨_,_,rfl,hv0,hd0⟩:=Cs_cons hc; obtain ⟨_,rfl,h1020⟩:=hv0; obtain ⟨_,_,rfl,h1021,h1022⟩:=Cs_cons h1020; cases h1021; obtain ⟨_,_,rfl,h1023,h1024⟩:=Cs_cons h1022; cases h1023; obtain ⟨_,_,rfl,h1025,h1026⟩:=Cs_cons h1024; obtain ⟨z1027,f1028,e1029,rfl,h1030⟩:=h1025; obtain ⟨_,_,rfl,h1031,h1032⟩:=Cs_cons h1026; obtain ⟨z1033,f1034,e1035,rfl,h1036⟩:=h1031; obtain ⟨_,_,rfl,h1037,h1038⟩:=Cs_cons h1032; obtain ⟨z1039,f1040,e1041,rfl,h1042⟩:=h1037; obtain ⟨_,_,rfl,h1043,h1044⟩:=Cs_cons h1038; obtain ⟨z1045,f1046,e1047,rfl,h1048⟩:=h1043; cases Cs_nil h1044; obtain ⟨_,_,rfl,hv1,hd1⟩:=Cs_cons hd0; obtain ⟨_,rfl,h1049⟩:=hv1; obtain ⟨_,_,rfl,h1050,h1051⟩:=Cs_cons h1049; cases h1050; obtain ⟨_,_,rfl,h1052,h1053⟩:=Cs_cons h1051; cases h1052; obtain ⟨_,_,rfl,h1054,h1055⟩:=Cs_cons h1053; obtain ⟨z1056,f1057,e1058,rfl,h1059⟩:=h1054; obtain ⟨_,_,rfl,h1060,h1061⟩:=Cs_cons h1055; obtain ⟨z1062,f1063,e1064,rfl,h1065⟩:=h1060; obtain ⟨_,_,rfl,h1066,h1067⟩:=Cs_cons h1061; obtain ⟨z1068,f1069,e1070,rfl,h1071⟩:=h1066; obtain ⟨_,_,rfl,h1072,h1073⟩:=Cs_cons h1067; obtain ⟨z1074,f1075,e1076,rfl,h1077⟩:=h1072; cases Cs_nil h1073; cases Cs_nil hd1; exact laws_eqChecker_okN h1030 h1036 h1042 h1048 h1059 h1065 h1071 h1077 h1019 WF.blind) (fun v n hv=>by cases hv; rfl) ?_
 intro _ h1078
 cases h1078
 refine q (bool (!y1018)) ?_
 refine q (bool (!y1018)) ?_
 refine split 4 (fun f'=>∃ tm' os',f'=⟨updL tm' [(10,(eptr [(J y284.1.Stack),(J y284.1.Start),h338,h341,h344,h347] 0)),(13,(J y774.1)),(110,(bool ((!y1018)||(y934.2 != y117.2))))],updL os' [],(St.join s907 s1000)⟩) ?_ ?_
 ·rcases Bool.eq_false_or_eq_true (!y1018) with hc1079 | hc1079
  ·refine kn 106 hc1079 ?_
   refine sk ?_
   refine sk ?_
   refine sk ?_
   refine q (bool true) ?_
   exact rR ⟨rfl,rfl,congrArg bool (or_t hc1079),tv⟩
  ·refine kn 106 hc1079 ?_
   refine q (J y934.2) ?_
   refine q (J y117.2) ?_
   refine q (bool (y934.2 != y117.2)) ?_
   refine q (bool (y934.2 != y117.2)) ?_
   exact rR ⟨rfl,rfl,congrArg bool (or_f hc1079),tv⟩
 rintro _ ⟨tm,os,rfl⟩
 refine nl ?_
 rcases oite h with ⟨hc1080,h⟩ | ⟨hc1080,h⟩
 ·refine cT hc1080 ?_
  refine sr ?_
  refine q (bool false) ?_
  refine nl ?_
  cases h
  exact ret ⟨⟨_,hH1017⟩,_,_,rfl,(Fin.of (p:=(rB) false) .B rfl).2⟩
 refine cF hc1080 ?_
 refine skip ?_
 refine sr ?_
 refine q (J 1) ?_
 refine ns ?_
 refine lE (agg [(J y284.1.Stack),(J y284.1.Start),h338,h341,h344,h347]) ?_
 refine q (J 1) ?_
 obtain ⟨y1081,h1082,h⟩:=obind h
 refine lendP (g:=14) (args:=[(agg [(J y284.1.Stack),(J y284.1.Start),h338,h341,h344,h347]),(J 1)]) (ps:=[(rChecker) (⟨y284.1.Stack,y284.1.Start,y774.2.1,y774.2.2.1,y774.2.2.2.1,y774.2.2.2.2⟩:Checker),rJ 1]) (p:=rJ y1081) rfl rfl rfl rfl rfl rfl rfl (.cons (Fin.A (.cons (Fin.of (p:=rJ y284.1.Stack) .I rfl) (.cons (Fin.of (p:=rJ y284.1.Start) .I rfl) (.cons (Fin.up (by decide) (finS hH1017 hG1006 (j:=18) rfl Sub.here (Or.inl rfl))) (.cons (Fin.up (by decide) (finS hH1017 hG1006 (j:=19) rfl Sub.here (Or.inl rfl))) (.cons (Fin.up (by decide) (finS hH1017 hG1006 (j:=20) rfl Sub.here (Or.inl rfl))) (.cons (Fin.up (by decide) (finS hH1017 hG1006 (j:=21) rfl Sub.here (Or.inl rfl))) .nil))))))) (.cons (Fin.of (p:=rJ 1) .I rfl) .nil)) (fun args' hc=>by obtain ⟨_,_,rfl,hv0,hd0⟩:=Cs_cons hc; obtain ⟨_,rfl,h1083⟩:=hv0; obtain ⟨_,_,rfl,h1084,h1085⟩:=Cs_cons h1083; cases h1084; obtain ⟨_,_,rfl,h1086,h1087⟩:=Cs_cons h1085; cases h1086; obtain ⟨_,_,rfl,h1088,h1089⟩:=Cs_cons h1087; obtain ⟨z1090,f1091,e1092,rfl,h1093⟩:=h1088; obtain ⟨_,_,rfl,h1094,h1095⟩:=Cs_cons h1089; obtain ⟨z1096,f1097,e1098,rfl,h1099⟩:=h1094; obtain ⟨_,_,rfl,h1100,h1101⟩:=Cs_cons h1095; obtain ⟨z1102,f1103,e1104,rfl,h1105⟩:=h1100; obtain ⟨_,_,rfl,h1106,h1107⟩:=Cs_cons h1101; obtain ⟨z1108,f1109,e1110,rfl,h1111⟩:=h1106; cases Cs_nil h1107; obtain ⟨_,_,rfl,hv1,hd1⟩:=Cs_cons hd0; cases hv1; cases Cs_nil hd1; exact laws_heldChecker_okN h1093 h1099 h1105 h1111 h1082 WF.blind) (fun v n hv=>by cases hv; rfl) ?_
 intro _ h1112
 cases h1112
 refine aq (J y1081) ?_
 refine nl ?_
 refine seq ?_
 refine sr ?_
 refine q (J y1081) ?_
 refine q (bool (decide ((y1081:Int)<0))) ?_
 refine nl ?_
 rcases oite h with ⟨hc1113,h⟩ | ⟨hc1113,h⟩
 ·refine cT hc1113 ?_
  refine sr ?_
  refine q (bool false) ?_
  refine nl ?_
  cases h
  exact ret ⟨⟨_,hH1017⟩,_,_,rfl,(Fin.of (p:=(rB) false) .B rfl).2⟩
 refine cF hc1113 ?_
 refine skip ?_
 refine seq ?_
 refine sr ?_
 refine q (J y1081) ?_
 refine q (J y774.1) ?_
 refine q (bool (y1081 != y774.1)) ?_
 refine nl ?_
 rcases oite h with ⟨hc1114,h⟩ | ⟨hc1114,h⟩
 ·refine cT hc1114 ?_
  refine sr ?_
  refine q (bool false) ?_
  refine nl ?_
  cases h
  exact ret ⟨⟨_,hH1017⟩,_,_,rfl,(Fin.of (p:=(rB) false) .B rfl).2⟩
 refine cF hc1114 ?_
 refine skip ?_
 refine sr ?_
 refine q (bool true) ?_
 refine nl ?_
 cases h
 exact ret ⟨⟨_,hH1017⟩,_,_,rfl,(Fin.of (p:=(rB) true) .B rfl).2⟩
end Go.Proofs.YtpchecdlbagedaaGreat.law
