import Derived.Test.YtpchecdlbagedaaGreatAeD
import Derived.Test.YtpchecdlbagedaaGreatAe4
import Derived.Test.YtpchecdlbagedaaGreatAeK3
set_option linter.unusedVariables false
set_option linter.unusedSimpArgs false
namespace Go.Proofs.YtpchecdlbagedaaGreat.law
open Go Go.Proofs Ae
open Ae.AV (int sl eptr agg ptr bool str)
open Ae.AW (seq ret res skip block region meet inBlock loopF exit)
open Ae.AOps (pureR makeR split callF stE stP allocP callDP idxO lendP stO lenO lendD alloc1 callFE)
open Ae.HS (wf' pushN push0 pop0 joinK1 selEG putG popG initK joinK enterLo enterK)
set_option maxRecDepth 100000
set_option linter.unusedVariables false
theorem impl_PreimageChecker_K00_okN {r1:Rewriter} {c14:Checker} {z2 z6 z10 z15 z19 z23 z27:Nat} {f3 f7 f11 f16 f20 f24 f28:Bool} {e4 e8 e12 e17 e21 e25 e29:List AV} {s:St} (h5:LR (rL rOutPush 3) 1 r1.Call z2 e4) (h9:LR (rL (rL rOutMove 2) 1) 1 r1.Return z6 e8) (h13:LR (rL rOutMove 2) 1 r1.Inner z10 e12) (h18:LR rB 1 c14.Accept z15 e17) (h22:LR (rL rPush 2) 1 c14.Call z19 e21) (h26:LR (rL (rL rJ 1) 1) 1 c14.Return z23 e25) (h30:LR (rL rJ 1) 1 c14.Inner z27 e29) {r:Checker × Int} (h:impl_PreimageChecker_K00 r1 c14=some r) (hs:WF s):ACallN Cf 9 [(agg [(J r1.Stack),(J r1.Start),(sl z2 f3 e4),(sl z6 f7 e8),(sl z10 f11 e12)]),(agg [(J c14.Stack),(J c14.Start),(sl z15 f16 e17),(sl z19 f20 e21),(sl z23 f24 e25),(sl z27 f28 e29)])] s (fun v _ s'=>∃ (h1':AV) (k2':KT) (h4':AV) (k5':KT) (h7':AV) (k8':KT) (h10':AV) (k11':KT) (Ls':List (List BX)),v=(AV.tup [(agg [(J r.1.Stack),(J r.1.Start),h1',h4',h7',h10']),(J r.2)])∧HS [] true s s' (([]:List BX)++Ls'.flatten)∧AllG [OS oE4 h1' k2' r.1.Accept,OS oE63 h4' k5' r.1.Call,OS oE30 h7' k8' r.1.Return,OS oE64 h10' k11' r.1.Inner] Ls'∧h1'.one=true∧h4'.one=true∧h7'.one=true∧h10'.one=true) true:=by
 refine ACallN.keepR rfl rfl rfl ?_
 have hH0:=HS.g0 (initK hs)
 have hG0:=AllG.nil
 have hl:LoOK [] true s:=LoOK.nil
 unfold impl_PreimageChecker_K00 at h
 refine sr ?_
 refine makeR rfl rfl rfl rfl rfl rfl (rfl:_=(eptr [(J r1.Stack),(J r1.Start),(sl z2 f3 e4),(sl z6 f7 e8),(sl z10 f11 e12)] 0)) ?_
 refine makeR rfl rfl rfl rfl rfl rfl (rfl:_=(eptr [(J c14.Stack),(J c14.Start),(sl z15 f16 e17),(sl z19 f20 e21),(sl z23 f24 e25),(sl z27 f28 e29)] 0)) ?_
 refine alloc1 hH0 rfl rfl rfl rfl rfl rfl ?_
 intro b31 s32 hH33
 change HS [] true s s32 (([⟨some b31,[(J 0),(J 0),(sl 0 true []),(sl 0 true []),(sl 0 true []),(sl 0 true [])],(fun _=>false)⟩]:List BX)++List.flatten ([]:List (List BX))) at hH33
 refine q (J 0) ?_
 refine ns ?_
 refine q (eptr [(J c14.Stack),(J c14.Start),(sl z15 f16 e17),(sl z19 f20 e21),(sl z23 f24 e25),(sl z27 f28 e29)] 2) ?_
 refine lE (sl z15 f16 e17) ?_
 obtain ⟨y34,h35,h⟩:=obind h
 refine callDP (g:=33) (args:=[(sl z15 f16 e17)]) (p:=rJ y34) rfl rfl rfl (impl_size_bool_ok h18 h35 ((wf' hH33).still)) (fun v hv=>Nice.pure (k:=FINK) (p:=rJ y34) .I _ v hv) ?_
 intro _ o37 h36
 cases h36
 refine q (eptr [(J c14.Stack),(J c14.Start),(sl z15 f16 e17),(sl z19 f20 e21),(sl z23 f24 e25),(sl z27 f28 e29)] 0) ?_
 refine lE (J c14.Stack) ?_
 refine allocP rfl rfl rfl rfl ⟨rfl,rfl⟩ rfl ?_
 refine allocP rfl rfl rfl rfl ⟨rfl,rfl⟩ rfl ?_
 refine stP (v:=(J y34)) rfl rfl rfl rfl rfl rfl rfl rfl rfl (lt_b rfl) rfl ?_
 refine stP (v:=(J c14.Stack)) rfl rfl rfl rfl rfl rfl rfl rfl rfl (lt_b rfl) rfl ?_
 refine nl ?_
 refine seq ?_
 refine block ?_
 refine sr ?_
 refine lE (agg [(J r1.Stack),(J r1.Start),(sl z2 f3 e4),(sl z6 f7 e8),(sl z10 f11 e12)]) ?_
 obtain ⟨y38,h39,h⟩:=obind h
 refine cP (impl_ValidRewriter_ok h5 h9 h13 h39 (wf' hH33)) ?_
 intro _ o41 h40
 cases h40
 refine q (bool (!y38)) ?_
 refine q (bool (!y38)) ?_
 obtain ⟨b43,hb,h⟩:=obind h
 refine split 4 (fun f'=>∃ tm' os',f'=⟨updL tm' [(2,(eptr [(J r1.Stack),(J r1.Start),(sl z2 f3 e4),(sl z6 f7 e8),(sl z10 f11 e12)] 0)),(3,(eptr [(J c14.Stack),(J c14.Start),(sl z15 f16 e17),(sl z19 f20 e21),(sl z23 f24 e25),(sl z27 f28 e29)] 0)),(4,(ptr b31 0)),(6,(eptr [(J y34)] 0)),(7,(eptr [(J c14.Stack)] 0)),(21,(bool b43))],updL os' [],s32⟩) ?_ ?_
 ·rcases oite hb with ⟨hc42,hb⟩ | ⟨hc42,hb⟩
  ·refine kn 17 hc42 ?_
   refine sk ?_
   refine sk ?_
   refine sk ?_
   refine q (bool true) ?_
   exact rR ⟨rfl,rfl,rfl,rfl,rfl,bJ hb,tv⟩
  ·have h:=hb
   refine kn 17 hc42 ?_
   refine lE (agg [(J c14.Stack),(J c14.Start),(sl z15 f16 e17),(sl z19 f20 e21),(sl z23 f24 e25),(sl z27 f28 e29)]) ?_
   obtain ⟨y44,h45,h⟩:=obind h
   refine cP (impl_ValidChecker_ok h18 h22 h26 h30 h45 (wf' hH33)) ?_
   intro _ o47 h46
   cases h46
   refine q (bool (!y44)) ?_
   refine q (bool (!y44)) ?_
   exact rR ⟨rfl,rfl,rfl,rfl,rfl,bJ h,tv⟩
 rintro _ ⟨tm,os,rfl⟩
 refine aq (bool b43) ?_
 refine nl ?_
 rcases oite h with ⟨hc48,h⟩ | ⟨hc48,h⟩
 ·refine cT hc48 ?_
  refine sr ?_
  refine q (agg [(J 0),(J 0),(sl 0 true []),(sl 0 true []),(sl 0 true []),(sl 0 true [])]) ?_
  refine stE (i:=0) (v:=(agg [(J 0),(J 0),(sl 0 true []),(sl 0 true []),(sl 0 true []),(sl 0 true [])])) hH33 hl rfl rfl rfl rfl rfl rfl rfl rfl rfl (lt_b rfl) (le_b rfl) rfl ?_
  intro w49 s50 h51 h52 hH53
  change HS [] true s s50 (([⟨some b31,[(J 0),(J 0),(sl 0 true []),(sl 0 true []),(sl 0 true []),(sl 0 true [])],w49⟩]:List BX)++List.flatten ([]:List (List BX))) at hH53
  refine q (J 1) ?_
  refine nl ?_
  cases h
  have hG54:=AllG.cons (OS.nil (e:=oE4) (k:=fun _=>AV.undef) (z:=0) (Or.inr rfl)) hG0
  have hH55:=HS.addNil hH53
  change HS [] true s s50 (([⟨some b31,[(J 0),(J 0),(sl 0 true []),(sl 0 true []),(sl 0 true []),(sl 0 true [])],w49⟩]:List BX)++List.flatten ([]::([]:List (List BX)))) at hH55
  change AllG [OS oE4 (sl 0 true []) (fun _=>AV.undef) ([]:List Bool)] ([]::([]:List (List BX))) at hG54
  have hG56:=AllG.cons (OS.nil (e:=oE63) (k:=fun _=>AV.undef) (z:=0) (Or.inr rfl)) hG54
  have hH57:=HS.addNil hH55
  change HS [] true s s50 (([⟨some b31,[(J 0),(J 0),(sl 0 true []),(sl 0 true []),(sl 0 true []),(sl 0 true [])],w49⟩]:List BX)++List.flatten ([]::([]::([]:List (List BX))))) at hH57
  change AllG [OS oE63 (sl 0 true []) (fun _=>AV.undef) ([]:List (List Push)),OS oE4 (sl 0 true []) (fun _=>AV.undef) ([]:List Bool)] ([]::([]::([]:List (List BX)))) at hG56
  have hG58:=AllG.cons (OS.nil (e:=oE30) (k:=fun _=>AV.undef) (z:=0) (Or.inr rfl)) hG56
  have hH59:=HS.addNil hH57
  change HS [] true s s50 (([⟨some b31,[(J 0),(J 0),(sl 0 true []),(sl 0 true []),(sl 0 true []),(sl 0 true [])],w49⟩]:List BX)++List.flatten ([]::([]::([]::([]:List (List BX)))))) at hH59
  change AllG [OS oE30 (sl 0 true []) (fun _=>AV.undef) ([]:List (List (List Int))),OS oE63 (sl 0 true []) (fun _=>AV.undef) ([]:List (List Push)),OS oE4 (sl 0 true []) (fun _=>AV.undef) ([]:List Bool)] ([]::([]::([]::([]:List (List BX))))) at hG58
  have hG60:=AllG.cons (OS.nil (e:=oE64) (k:=fun _=>AV.undef) (z:=0) (Or.inr rfl)) hG58
  have hH61:=HS.addNil hH59
  change HS [] true s s50 (([⟨some b31,[(J 0),(J 0),(sl 0 true []),(sl 0 true []),(sl 0 true []),(sl 0 true [])],w49⟩]:List BX)++List.flatten ([]::([]::([]::([]::([]:List (List BX))))))) at hH61
  change AllG [OS oE64 (sl 0 true []) (fun _=>AV.undef) ([]:List (List Int)),OS oE30 (sl 0 true []) (fun _=>AV.undef) ([]:List (List (List Int))),OS oE63 (sl 0 true []) (fun _=>AV.undef) ([]:List (List Push)),OS oE4 (sl 0 true []) (fun _=>AV.undef) ([]:List Bool)] ([]::([]::([]::([]::([]:List (List BX)))))) at hG60
  obtain ⟨Ls62,hG63,hH64⟩:=selEG hH61 hG60 [] [some 3,some 2,some 1,some 0]
  exact ret ⟨_,_,(RM.res rfl (RM.cell rfl rfl (HS.atE hH53 (i:=0) rfl rfl) rfl (RM.cons rfl RM.nil))),⟨(sl 0 true []),(fun _=>AV.undef),(sl 0 true []),(fun _=>AV.undef),(sl 0 true []),(fun _=>AV.undef),(sl 0 true []),(fun _=>AV.undef),Ls62,rfl,hH64,hG63,rfl,rfl,rfl,rfl⟩⟩
 refine cF hc48 ?_
 refine sr ?_
 refine lE (agg [(J r1.Stack),(J r1.Start),(sl z2 f3 e4),(sl z6 f7 e8),(sl z10 f11 e12)]) ?_
 obtain ⟨y65,h66,h⟩:=obind h
 refine cP (impl_Rewriter_isStructural_ok h5 h9 h13 h66 (wf' hH33)) ?_
 intro _ o68 h67
 cases h67
 refine q (bool (!y65)) ?_
 refine aq (bool (!y65)) ?_
 refine nl ?_
 rcases oite h with ⟨hc69,h⟩ | ⟨hc69,h⟩
 ·refine cT hc69 ?_
  refine sr ?_
  refine q (agg [(J 0),(J 0),(sl 0 true []),(sl 0 true []),(sl 0 true []),(sl 0 true [])]) ?_
  refine stE (i:=0) (v:=(agg [(J 0),(J 0),(sl 0 true []),(sl 0 true []),(sl 0 true []),(sl 0 true [])])) hH33 hl rfl rfl rfl rfl rfl rfl rfl rfl rfl (lt_b rfl) (le_b rfl) rfl ?_
  intro w70 s71 h72 h73 hH74
  change HS [] true s s71 (([⟨some b31,[(J 0),(J 0),(sl 0 true []),(sl 0 true []),(sl 0 true []),(sl 0 true [])],w70⟩]:List BX)++List.flatten ([]:List (List BX))) at hH74
  refine q (J 4) ?_
  refine nl ?_
  cases h
  have hG75:=AllG.cons (OS.nil (e:=oE4) (k:=fun _=>AV.undef) (z:=0) (Or.inr rfl)) hG0
  have hH76:=HS.addNil hH74
  change HS [] true s s71 (([⟨some b31,[(J 0),(J 0),(sl 0 true []),(sl 0 true []),(sl 0 true []),(sl 0 true [])],w70⟩]:List BX)++List.flatten ([]::([]:List (List BX)))) at hH76
  change AllG [OS oE4 (sl 0 true []) (fun _=>AV.undef) ([]:List Bool)] ([]::([]:List (List BX))) at hG75
  have hG77:=AllG.cons (OS.nil (e:=oE63) (k:=fun _=>AV.undef) (z:=0) (Or.inr rfl)) hG75
  have hH78:=HS.addNil hH76
  change HS [] true s s71 (([⟨some b31,[(J 0),(J 0),(sl 0 true []),(sl 0 true []),(sl 0 true []),(sl 0 true [])],w70⟩]:List BX)++List.flatten ([]::([]::([]:List (List BX))))) at hH78
  change AllG [OS oE63 (sl 0 true []) (fun _=>AV.undef) ([]:List (List Push)),OS oE4 (sl 0 true []) (fun _=>AV.undef) ([]:List Bool)] ([]::([]::([]:List (List BX)))) at hG77
  have hG79:=AllG.cons (OS.nil (e:=oE30) (k:=fun _=>AV.undef) (z:=0) (Or.inr rfl)) hG77
  have hH80:=HS.addNil hH78
  change HS [] true s s71 (([⟨some b31,[(J 0),(J 0),(sl 0 true []),(sl 0 true []),(sl 0 true []),(sl 0 true [])],w70⟩]:List BX)++List.flatten ([]::([]::([]::([]:List (List BX)))))) at hH80
  change AllG [OS oE30 (sl 0 true []) (fun _=>AV.undef) ([]:List (List (List Int))),OS oE63 (sl 0 true []) (fun _=>AV.undef) ([]:List (List Push)),OS oE4 (sl 0 true []) (fun _=>AV.undef) ([]:List Bool)] ([]::([]::([]::([]:List (List BX))))) at hG79
  have hG81:=AllG.cons (OS.nil (e:=oE64) (k:=fun _=>AV.undef) (z:=0) (Or.inr rfl)) hG79
  have hH82:=HS.addNil hH80
  change HS [] true s s71 (([⟨some b31,[(J 0),(J 0),(sl 0 true []),(sl 0 true []),(sl 0 true []),(sl 0 true [])],w70⟩]:List BX)++List.flatten ([]::([]::([]::([]::([]:List (List BX))))))) at hH82
  change AllG [OS oE64 (sl 0 true []) (fun _=>AV.undef) ([]:List (List Int)),OS oE30 (sl 0 true []) (fun _=>AV.undef) ([]:List (List (List Int))),OS oE63 (sl 0 true []) (fun _=>AV.undef) ([]:List (List Push)),OS oE4 (sl 0 true []) (fun _=>AV.undef) ([]:List Bool)] ([]::([]::([]::([]::([]:List (List BX)))))) at hG81
  obtain ⟨Ls83,hG84,hH85⟩:=selEG hH82 hG81 [] [some 3,some 2,some 1,some 0]
  exact ret ⟨_,_,(RM.res rfl (RM.cell rfl rfl (HS.atE hH74 (i:=0) rfl rfl) rfl (RM.cons rfl RM.nil))),⟨(sl 0 true []),(fun _=>AV.undef),(sl 0 true []),(fun _=>AV.undef),(sl 0 true []),(fun _=>AV.undef),(sl 0 true []),(fun _=>AV.undef),Ls83,rfl,hH85,hG84,rfl,rfl,rfl,rfl⟩⟩
 refine cF hc69 ?_
 refine sr ?_
 refine q (eptr [(J r1.Stack),(J r1.Start),(sl z2 f3 e4),(sl z6 f7 e8),(sl z10 f11 e12)] 2) ?_
 refine lE (sl z2 f3 e4) ?_
 obtain ⟨y86,h87,h⟩:=obind h
 refine callDP (g:=37) (args:=[(sl z2 f3 e4)]) (p:=rJ y86) rfl rfl rfl (impl_size_simpl_OutPush_ok h5 h87 ((wf' hH33).still)) (fun v hv=>Nice.pure (k:=FINK) (p:=rJ y86) .I _ v hv) ?_
 intro _ o89 h88
 cases h88
 refine lE (J y34) ?_
 refine q (J (W (y86*y34))) ?_
 refine q (bool (decide ((W (y86*y34):Int)>40))) ?_
 refine q (bool (decide ((W (y86*y34):Int)>40))) ?_
 refine split 6 (fun f'=>∃ tm' os',f'=⟨updL tm' [(2,(eptr [(J r1.Stack),(J r1.Start),(sl z2 f3 e4),(sl z6 f7 e8),(sl z10 f11 e12)] 0)),(3,(eptr [(J c14.Stack),(J c14.Start),(sl z15 f16 e17),(sl z19 f20 e21),(sl z23 f24 e25),(sl z27 f28 e29)] 0)),(4,(ptr b31 0)),(6,(eptr [(J y34)] 0)),(7,(eptr [(J c14.Stack)] 0)),(41,(bool ((decide ((W (y86*y34):Int)>40))||(decide ((W (r1.Stack*c14.Stack):Int)>80)))))],updL os' [],s32⟩) ?_ ?_
 ·rcases Bool.eq_false_or_eq_true (decide ((W (y86*y34):Int)>40)) with hc90 | hc90
  ·refine kn 35 hc90 ?_
   refine sk ?_
   refine sk ?_
   refine sk ?_
   refine sk ?_
   refine sk ?_
   refine q (bool true) ?_
   exact rR ⟨rfl,rfl,rfl,rfl,rfl,congrArg bool (or_t hc90),tv⟩
  ·refine kn 35 hc90 ?_
   refine q (eptr [(J r1.Stack),(J r1.Start),(sl z2 f3 e4),(sl z6 f7 e8),(sl z10 f11 e12)] 0) ?_
   refine lE (J r1.Stack) ?_
   refine lE (J c14.Stack) ?_
   refine q (J (W (r1.Stack*c14.Stack))) ?_
   refine q (bool (decide ((W (r1.Stack*c14.Stack):Int)>80))) ?_
   refine q (bool (decide ((W (r1.Stack*c14.Stack):Int)>80))) ?_
   exact rR ⟨rfl,rfl,rfl,rfl,rfl,congrArg bool (or_f hc90),tv⟩
 rintro _ ⟨tm,os,rfl⟩
 refine aq (bool ((decide ((W (y86*y34):Int)>40))||(decide ((W (r1.Stack*c14.Stack):Int)>80)))) ?_
 refine nl ?_
 rcases oite h with ⟨hc91,h⟩ | ⟨hc91,h⟩
 ·refine cT hc91 ?_
  refine sr ?_
  refine q (agg [(J 0),(J 0),(sl 0 true []),(sl 0 true []),(sl 0 true []),(sl 0 true [])]) ?_
  refine stE (i:=0) (v:=(agg [(J 0),(J 0),(sl 0 true []),(sl 0 true []),(sl 0 true []),(sl 0 true [])])) hH33 hl rfl rfl rfl rfl rfl rfl rfl rfl rfl (lt_b rfl) (le_b rfl) rfl ?_
  intro w92 s93 h94 h95 hH96
  change HS [] true s s93 (([⟨some b31,[(J 0),(J 0),(sl 0 true []),(sl 0 true []),(sl 0 true []),(sl 0 true [])],w92⟩]:List BX)++List.flatten ([]:List (List BX))) at hH96
  refine q (J 3) ?_
  refine nl ?_
  cases h
  have hG97:=AllG.cons (OS.nil (e:=oE4) (k:=fun _=>AV.undef) (z:=0) (Or.inr rfl)) hG0
  have hH98:=HS.addNil hH96
  change HS [] true s s93 (([⟨some b31,[(J 0),(J 0),(sl 0 true []),(sl 0 true []),(sl 0 true []),(sl 0 true [])],w92⟩]:List BX)++List.flatten ([]::([]:List (List BX)))) at hH98
  change AllG [OS oE4 (sl 0 true []) (fun _=>AV.undef) ([]:List Bool)] ([]::([]:List (List BX))) at hG97
  have hG99:=AllG.cons (OS.nil (e:=oE63) (k:=fun _=>AV.undef) (z:=0) (Or.inr rfl)) hG97
  have hH100:=HS.addNil hH98
  change HS [] true s s93 (([⟨some b31,[(J 0),(J 0),(sl 0 true []),(sl 0 true []),(sl 0 true []),(sl 0 true [])],w92⟩]:List BX)++List.flatten ([]::([]::([]:List (List BX))))) at hH100
  change AllG [OS oE63 (sl 0 true []) (fun _=>AV.undef) ([]:List (List Push)),OS oE4 (sl 0 true []) (fun _=>AV.undef) ([]:List Bool)] ([]::([]::([]:List (List BX)))) at hG99
  have hG101:=AllG.cons (OS.nil (e:=oE30) (k:=fun _=>AV.undef) (z:=0) (Or.inr rfl)) hG99
  have hH102:=HS.addNil hH100
  change HS [] true s s93 (([⟨some b31,[(J 0),(J 0),(sl 0 true []),(sl 0 true []),(sl 0 true []),(sl 0 true [])],w92⟩]:List BX)++List.flatten ([]::([]::([]::([]:List (List BX)))))) at hH102
  change AllG [OS oE30 (sl 0 true []) (fun _=>AV.undef) ([]:List (List (List Int))),OS oE63 (sl 0 true []) (fun _=>AV.undef) ([]:List (List Push)),OS oE4 (sl 0 true []) (fun _=>AV.undef) ([]:List Bool)] ([]::([]::([]::([]:List (List BX))))) at hG101
  have hG103:=AllG.cons (OS.nil (e:=oE64) (k:=fun _=>AV.undef) (z:=0) (Or.inr rfl)) hG101
  have hH104:=HS.addNil hH102
  change HS [] true s s93 (([⟨some b31,[(J 0),(J 0),(sl 0 true []),(sl 0 true []),(sl 0 true []),(sl 0 true [])],w92⟩]:List BX)++List.flatten ([]::([]::([]::([]::([]:List (List BX))))))) at hH104
  change AllG [OS oE64 (sl 0 true []) (fun _=>AV.undef) ([]:List (List Int)),OS oE30 (sl 0 true []) (fun _=>AV.undef) ([]:List (List (List Int))),OS oE63 (sl 0 true []) (fun _=>AV.undef) ([]:List (List Push)),OS oE4 (sl 0 true []) (fun _=>AV.undef) ([]:List Bool)] ([]::([]::([]::([]::([]:List (List BX)))))) at hG103
  obtain ⟨Ls105,hG106,hH107⟩:=selEG hH104 hG103 [] [some 3,some 2,some 1,some 0]
  exact ret ⟨_,_,(RM.res rfl (RM.cell rfl rfl (HS.atE hH96 (i:=0) rfl rfl) rfl (RM.cons rfl RM.nil))),⟨(sl 0 true []),(fun _=>AV.undef),(sl 0 true []),(fun _=>AV.undef),(sl 0 true []),(fun _=>AV.undef),(sl 0 true []),(fun _=>AV.undef),Ls105,rfl,hH107,hG106,rfl,rfl,rfl,rfl⟩⟩
 refine cF hc91 ?_
 refine skip ?_
 refine inBlock ?_
 refine sr ?_
 refine q (eptr [(J r1.Stack),(J r1.Start),(sl z2 f3 e4),(sl z6 f7 e8),(sl z10 f11 e12)] 2) ?_
 refine lE (sl z2 f3 e4) ?_
 obtain ⟨y108,h109,h⟩:=obind h
 refine callDP (g:=37) (args:=[(sl z2 f3 e4)]) (p:=rJ y108) rfl rfl rfl (impl_size_simpl_OutPush_ok h5 h109 ((wf' hH33).still)) (fun v hv=>Nice.pure (k:=FINK) (p:=rJ y108) .I _ v hv) ?_
 intro _ o111 h110
 cases h110
 refine lE (J y34) ?_
 refine q (J (W (y108*y34))) ?_
 refine q (eptr [(J r1.Stack),(J r1.Start),(sl z2 f3 e4),(sl z6 f7 e8),(sl z10 f11 e12)] 0) ?_
 refine lE (J r1.Stack) ?_
 refine lE (J c14.Stack) ?_
 refine q (J (W (r1.Stack*c14.Stack))) ?_
 refine q (eptr [(J r1.Stack),(J r1.Start),(sl z2 f3 e4),(sl z6 f7 e8),(sl z10 f11 e12)] 1) ?_
 refine lE (J r1.Start) ?_
 refine lE (J y34) ?_
 refine q (J (W (r1.Start*y34))) ?_
 refine q (eptr [(J c14.Stack),(J c14.Start),(sl z15 f16 e17),(sl z19 f20 e21),(sl z23 f24 e25),(sl z27 f28 e29)] 1) ?_
 refine lE (J c14.Start) ?_
 refine q (J (W ((W (r1.Start*y34))+c14.Start))) ?_
 refine q (AV.fn 39 [(eptr [(J c14.Stack),(J c14.Start),(sl z15 f16 e17),(sl z19 f20 e21),(sl z23 f24 e25),(sl z27 f28 e29)] 0),(eptr [(J y34)] 0)]) ?_
 refine q (AV.fn 40 [(eptr [(J r1.Stack),(J r1.Start),(sl z2 f3 e4),(sl z6 f7 e8),(sl z10 f11 e12)] 0),(eptr [(J y34)] 0),(eptr [(J c14.Stack),(J c14.Start),(sl z15 f16 e17),(sl z19 f20 e21),(sl z23 f24 e25),(sl z27 f28 e29)] 0),(eptr [(J c14.Stack)] 0)]) ?_
 refine q (AV.fn 42 [(eptr [(J r1.Stack),(J r1.Start),(sl z2 f3 e4),(sl z6 f7 e8),(sl z10 f11 e12)] 0),(eptr [(J c14.Stack)] 0),(eptr [(J y34)] 0),(eptr [(J c14.Stack),(J c14.Start),(sl z15 f16 e17),(sl z19 f20 e21),(sl z23 f24 e25),(sl z27 f28 e29)] 0)]) ?_
 refine q (AV.fn 44 [(eptr [(J r1.Stack),(J r1.Start),(sl z2 f3 e4),(sl z6 f7 e8),(sl z10 f11 e12)] 0),(eptr [(J y34)] 0),(eptr [(J c14.Stack),(J c14.Start),(sl z15 f16 e17),(sl z19 f20 e21),(sl z23 f24 e25),(sl z27 f28 e29)] 0)]) ?_
 obtain ⟨y112,h113,h⟩:=obind h
 have hP126:=pop0 hH33
 refine callFE (al:=true) (g:=38) (args:=[(J (W (y108*y34))),(J (W (r1.Stack*c14.Stack))),(J (W ((W (r1.Start*y34))+c14.Start))),(AV.fn 39 [(eptr [(J c14.Stack),(J c14.Start),(sl z15 f16 e17),(sl z19 f20 e21),(sl z23 f24 e25),(sl z27 f28 e29)] 0),(eptr [(J y34)] 0)]),(AV.fn 40 [(eptr [(J r1.Stack),(J r1.Start),(sl z2 f3 e4),(sl z6 f7 e8),(sl z10 f11 e12)] 0),(eptr [(J y34)] 0),(eptr [(J c14.Stack),(J c14.Start),(sl z15 f16 e17),(sl z19 f20 e21),(sl z23 f24 e25),(sl z27 f28 e29)] 0),(eptr [(J c14.Stack)] 0)]),(AV.fn 42 [(eptr [(J r1.Stack),(J r1.Start),(sl z2 f3 e4),(sl z6 f7 e8),(sl z10 f11 e12)] 0),(eptr [(J c14.Stack)] 0),(eptr [(J y34)] 0),(eptr [(J c14.Stack),(J c14.Start),(sl z15 f16 e17),(sl z19 f20 e21),(sl z23 f24 e25),(sl z27 f28 e29)] 0)]),(AV.fn 44 [(eptr [(J r1.Stack),(J r1.Start),(sl z2 f3 e4),(sl z6 f7 e8),(sl z10 f11 e12)] 0),(eptr [(J y34)] 0),(eptr [(J c14.Stack),(J c14.Start),(sl z15 f16 e17),(sl z19 f20 e21),(sl z23 f24 e25),(sl z27 f28 e29)] 0)])]) rfl rfl rfl (impl_built_K0000000_ok (by intro x vs y hc hx s hs; obtain ⟨_,_,rfl,hv0,hd0⟩:=Cs_cons hc; cases hv0; cases Cs_nil hd0; exact impl_PreimageChecker_1_ok h18 h22 h26 h30 hx hs) (by intro x vs y hc hx s hs; obtain ⟨_,_,rfl,hv0,hd0⟩:=Cs_cons hc; cases hv0; obtain ⟨_,_,rfl,hv1,hd1⟩:=Cs_cons hd0; cases hv1; cases Cs_nil hd1; exact impl_PreimageChecker_2_ok h5 h9 h13 h18 h22 h26 h30 hx hs) (by intro x vs y hc hx s hs; obtain ⟨_,_,rfl,hv0,hd0⟩:=Cs_cons hc; cases hv0; obtain ⟨_,_,rfl,hv1,hd1⟩:=Cs_cons hd0; cases hv1; obtain ⟨_,_,rfl,hv2,hd2⟩:=Cs_cons hd1; cases hv2; cases Cs_nil hd2; exact impl_PreimageChecker_3_ok h5 h9 h13 h18 h22 h26 h30 hx hs) (by intro x vs y hc hx s hs; obtain ⟨_,_,rfl,hv0,hd0⟩:=Cs_cons hc; cases hv0; obtain ⟨_,_,rfl,hv1,hd1⟩:=Cs_cons hd0; cases hv1; cases Cs_nil hd1; exact impl_PreimageChecker_4_ok h5 h9 h13 h18 h22 h26 h30 hx hs)  h113 (wf' hH33)) (by rintro _ _ ⟨_,_,_,_,_,_,_,_,_,_,hHq,_,_,_,_,_⟩; exact hHq.n) ?_
 rintro _ _ s127 ⟨h114,k115,h117,k118,h120,k121,h123,k124,Ls129,rfl,hH130,hG131,ho116,ho119,ho122,ho125⟩
 have hJ132:=joinK1 hP126 hH130
 obtain ⟨Ls133,Lf134,hG135,hF136,hP137⟩:=pushN hJ132 hG0 hG131
 obtain ⟨Ls138,Lf139,hG140,hF141,hP142⟩:=pushN hP137 hG135 hF136
 obtain ⟨Ls143,Lf144,hG145,hF146,hP147⟩:=pushN hP142 hG140 hF141
 obtain ⟨Ls148,Lf149,hG150,hF151,hP152⟩:=pushN hP147 hG145 hF146
 cases hF151
 have hH153:=push0 hP152
 change HS [] true s s127 (([⟨some b31,[(J 0),(J 0),(sl 0 true []),(sl 0 true []),(sl 0 true []),(sl 0 true [])],(fun _=>false)⟩]:List BX)++Ls148.flatten) at hH153
 change AllG [OS oE64 h123 k124 y112.Inner,OS oE30 h120 k121 y112.Return,OS oE63 h117 k118 y112.Call,OS oE4 h114 k115 y112.Accept] Ls148 at hG150
 refine stE (i:=0) (v:=(agg [(J y112.Stack),(J y112.Start),h114,h117,h120,h123])) hH153 hl rfl rfl rfl rfl rfl rfl rfl (lay_cons rfl (lay_cons rfl (lay_cons ho116 (lay_cons ho119 (lay_cons ho122 (lay_cons ho125 lay_nil)))))) rfl (lt_b rfl) (le_b rfl) rfl ?_
 intro w154 s155 h156 h157 hH158
 change HS [] true s s155 (([⟨some b31,[(J y112.Stack),(J y112.Start),h114,h117,h120,h123],w154⟩]:List BX)++Ls148.flatten) at hH158
 refine q (J 0) ?_
 refine nl ?_
 cases h
 obtain ⟨Ls159,hG160,hH161⟩:=selEG hH158 hG150 [] [some 3,some 2,some 1,some 0]
 exact ret ⟨_,_,(RM.res rfl (RM.cell rfl rfl (HS.atE hH158 (i:=0) rfl rfl) rfl (RM.cons rfl RM.nil))),⟨h114,k115,h117,k118,h120,k121,h123,k124,Ls159,rfl,hH161,hG160,ho116,ho119,ho122,ho125⟩⟩
theorem laws_eqBoolS_okN {a1 b6:List Bool} {z2 z7:Nat} {f3 f8:Bool} {e4 e9:List AV} {s:St} (h5:LR rB 1 a1 z2 e4) (h10:LR rB 1 b6 z7 e9) {r:Bool} (h:laws_eqBoolS a1 b6=some r) (hs:WF s):ACallN Cf 45 [(sl z2 f3 e4),(sl z7 f8 e9)] s fun v _ s'=>(rB) r v∧s'=s:=by
 refine ACallN.pure rfl rfl rfl .B ?_
 have hWF:=hs.lo'
 unfold laws_eqBoolS at h
 refine sr<|q (bool false)<|nl ?_
 refine seq<|sr<|q (sl z2 f3 e4)<|AOps.p rfl (len_eq h5) ?_
 refine q (sl z7 f8 e9)<|AOps.p rfl (len_eq h10) ?_
 refine q (bool ((a1.length:Int) != (b6.length:Int)))<|nl ?_
 rcases oite h with ⟨hc11,h⟩ | ⟨hc11,h⟩
 ·refine cT hc11<|sr<|q (bool false)<|nl ?_
  cases h
  exact ret ⟨rfl,_,_,rfl,rfl⟩
 refine cF hc11<|skip<|seq<|sr<|q (J 0)<|nl ?_
 refine meet (σ:=Unit) (fun _ tm os=>⟨updL tm [],updL os [],s.M⟩) (fun _=>laws_eqBoolS_J1=some r) ?_ ?_
 ·rintro _ tm os h
  unfold laws_eqBoolS_J1 at h
  refine sr<|q (bool true)<|nl ?_
  cases h
  exact ret ⟨rfl,_,_,rfl,rfl⟩
 intro KJ12
 refine block<|res [(0,(sl z2 f3 e4)),(1,(sl z7 f8 e9)),(5,(J 0))] [] ⟨rfl,rfl,rfl,tv⟩ tv ?_
 refine loopF (σ:=Int) (τ:=Unit) (fun i13 _=>True) (fun i13 _ tm os=>⟨updL tm [(0,(sl z2 f3 e4)),(1,(sl z7 f8 e9)),(5,(J i13))],updL os [],s.M⟩) ?_ (x:=(0)) (y:=()) h tv
 clear h
 rintro i13 _ tm os - ee1 h hL1 hR1
 unfold laws_eqBoolS_S1 at h
 refine seq<|sr<|q (J i13) ?_
 refine q (sl z2 f3 e4)<|AOps.p rfl (len_eq h5) ?_
 refine q (bool (decide ((i13:Int)<(a1.length:Int))))<|nl ?_
 rcases oite h with ⟨hc14,h⟩ | ⟨hc14,h⟩
 ·refine cT hc14<|skip<|seq<|block<|sr<|q (sl z2 f3 e4) ?_
  refine q (J i13) ?_
  obtain ⟨x15,h16,h⟩:=obind h
  obtain ⟨v19,h17,h18⟩:=idx_sl h5 h16
  cases h17
  refine pureR rfl rfl rfl h18 rfl (rfl:_=(eptr [(bool x15)] 0))<|lE (bool x15) ?_
  refine q (sl z7 f8 e9) ?_
  refine q (J i13) ?_
  obtain ⟨x20,h21,h⟩:=obind h
  obtain ⟨v24,h22,h23⟩:=idx_sl h10 h21
  cases h22
  refine pureR rfl rfl rfl h23 rfl (rfl:_=(eptr [(bool x20)] 0))<|lE (bool x20) ?_
  refine q (bool (!(x15 == x20)))<|nl ?_
  rcases oite h with ⟨hc25,h⟩ | ⟨hc25,h⟩
  ·refine cT hc25<|sr<|q (bool false)<|nl ?_
   cases h
   have hr:=hR1 _ rfl
   subst hr
   exact ret ⟨rfl,_,_,rfl,rfl⟩
  refine cF hc25<|skip<|inBlock<|region<|q (J i13) ?_
  refine q (J (W (i13+1))) ?_
  refine aq (J (W (i13+1)))<|nl ?_
  cases h
  exact res [(0,(sl z2 f3 e4)),(1,(sl z7 f8 e9)),(5,(J (W (i13+1))))] [] ⟨rfl,rfl,rfl,tv⟩ tv (hL1 _ rfl () _ _ tv)
 refine cF hc14<|exit rfl ?_
 obtain ⟨r26,hm,hx⟩:=omap h
 clear h
 subst hx
 have hx:=hR1 _ rfl
 rw[hx] at hm
 have h:=hm
 exact res [] [] tv tv (KJ12 () _ _ h)
theorem laws_eqPush_ok {a1 b2:Push} {s:St} {r:Bool} (h:laws_eqPush a1 b2=some r) (hs:WF s):ACall Cf 123 [(agg [(J a1.To),(J a1.Put)]),(agg [(J b2.To),(J b2.Put)])] s fun v _ s'=>(rB) r v∧s'=s:=by
 refine ACall.pure rfl rfl rfl .B ?_
 have hWF:=hs.lo'
 unfold laws_eqPush at h
 refine sr<|makeR rfl rfl rfl rfl rfl rfl (rfl:_=(eptr [(J a1.To),(J a1.Put)] 0))<|makeR rfl rfl rfl rfl rfl rfl (rfl:_=(eptr [(J b2.To),(J b2.Put)] 0))<|q (bool false)<|nl ?_
 refine seq<|sr<|q (eptr [(J a1.To),(J a1.Put)] 0) ?_
 refine lE (J a1.To) ?_
 refine q (eptr [(J b2.To),(J b2.Put)] 0) ?_
 refine lE (J b2.To) ?_
 refine q (bool (a1.To != b2.To))<|nl ?_
 rcases oite h with ⟨hc3,h⟩ | ⟨hc3,h⟩
 ·refine cT hc3<|sr<|q (bool false)<|nl ?_
  cases h
  exact ret ⟨rfl,_,_,rfl,rfl⟩
 refine cF hc3<|skip<|seq<|sr<|q (eptr [(J a1.To),(J a1.Put)] 1) ?_
 refine lE (J a1.Put) ?_
 refine q (eptr [(J b2.To),(J b2.Put)] 1) ?_
 refine lE (J b2.Put) ?_
 refine q (bool (a1.Put != b2.Put))<|nl ?_
 rcases oite h with ⟨hc4,h⟩ | ⟨hc4,h⟩
 ·refine cT hc4<|sr<|q (bool false)<|nl ?_
  cases h
  exact ret ⟨rfl,_,_,rfl,rfl⟩
 refine cF hc4<|skip<|sr<|q (bool true)<|nl ?_
 cases h
 exact ret ⟨rfl,_,_,rfl,rfl⟩
theorem laws_eqPushS_okN {a1 b6:List Push} {z2 z7:Nat} {f3 f8:Bool} {e4 e9:List AV} {s:St} (h5:LR rPush 2 a1 z2 e4) (h10:LR rPush 2 b6 z7 e9) {r:Bool} (h:laws_eqPushS a1 b6=some r) (hs:WF s):ACallN Cf 99 [(sl z2 f3 e4),(sl z7 f8 e9)] s fun v _ s'=>(rB) r v∧s'=s:=by
 refine ACallN.pure rfl rfl rfl .B ?_
 have hWF:=hs.lo'
 unfold laws_eqPushS at h
 refine sr<|q (bool false)<|nl ?_
 refine seq<|sr<|q (sl z2 f3 e4)<|AOps.p rfl (len_eq h5) ?_
 refine q (sl z7 f8 e9)<|AOps.p rfl (len_eq h10) ?_
 refine q (bool ((a1.length:Int) != (b6.length:Int)))<|nl ?_
 rcases oite h with ⟨hc11,h⟩ | ⟨hc11,h⟩
 ·refine cT hc11<|sr<|q (bool false)<|nl ?_
  cases h
  exact ret ⟨rfl,_,_,rfl,rfl⟩
 refine cF hc11<|skip<|seq<|sr<|q (J 0)<|nl ?_
 refine meet (σ:=Unit) (fun _ tm os=>⟨updL tm [],updL os [],s.M⟩) (fun _=>laws_eqPushS_J1=some r) ?_ ?_
 ·rintro _ tm os h
  unfold laws_eqPushS_J1 at h
  refine sr<|q (bool true)<|nl ?_
  cases h
  exact ret ⟨rfl,_,_,rfl,rfl⟩
 intro KJ12
 refine block<|res [(0,(sl z2 f3 e4)),(1,(sl z7 f8 e9)),(5,(J 0))] [] ⟨rfl,rfl,rfl,tv⟩ tv ?_
 refine loopF (σ:=Int) (τ:=Unit) (fun i13 _=>True) (fun i13 _ tm os=>⟨updL tm [(0,(sl z2 f3 e4)),(1,(sl z7 f8 e9)),(5,(J i13))],updL os [],s.M⟩) ?_ (x:=(0)) (y:=()) h tv
 clear h
 rintro i13 _ tm os - ee1 h hL1 hR1
 unfold laws_eqPushS_S1 at h
 refine seq<|sr<|q (J i13) ?_
 refine q (sl z2 f3 e4)<|AOps.p rfl (len_eq h5) ?_
 refine q (bool (decide ((i13:Int)<(a1.length:Int))))<|nl ?_
 rcases oite h with ⟨hc14,h⟩ | ⟨hc14,h⟩
 ·refine cT hc14<|skip<|seq<|block<|sr<|q (sl z2 f3 e4) ?_
  refine q (J i13) ?_
  obtain ⟨x15,h16,h⟩:=obind h
  obtain ⟨v19,h17,h18⟩:=idx_sl h5 h16
  obtain ⟨_,rfl,h20⟩:=h17
  obtain ⟨_,_,rfl,h21,h22⟩:=Cs_cons h20
  cases h21
  obtain ⟨_,_,rfl,h23,h24⟩:=Cs_cons h22
  cases h23
  cases Cs_nil h24
  refine pureR rfl rfl rfl h18 rfl (rfl:_=(eptr [(J x15.To),(J x15.Put)] 0))<|lE (agg [(J x15.To),(J x15.Put)]) ?_
  refine q (sl z7 f8 e9) ?_
  refine q (J i13) ?_
  obtain ⟨x25,h26,h⟩:=obind h
  obtain ⟨v29,h27,h28⟩:=idx_sl h10 h26
  obtain ⟨_,rfl,h30⟩:=h27
  obtain ⟨_,_,rfl,h31,h32⟩:=Cs_cons h30
  cases h31
  obtain ⟨_,_,rfl,h33,h34⟩:=Cs_cons h32
  cases h33
  cases Cs_nil h34
  refine pureR rfl rfl rfl h28 rfl (rfl:_=(eptr [(J x25.To),(J x25.Put)] 0))<|lE (agg [(J x25.To),(J x25.Put)]) ?_
  obtain ⟨y35,h36,h⟩:=obind h
  refine callDP (g:=123) (args:=[(agg [(J x15.To),(J x15.Put)]),(agg [(J x25.To),(J x25.Put)])]) (p:=(rB) y35) rfl rfl rfl (laws_eqPush_ok  h36 hWF.still) (fun v hv=>Nice.pure (k:=FINK) (p:=(rB) y35) .B _ v hv) ?_
  intro _ o38 h37
  cases h37
  refine q (bool (!y35))<|nl ?_
  rcases oite h with ⟨hc39,h⟩ | ⟨hc39,h⟩
  ·refine cT hc39<|sr<|q (bool false)<|nl ?_
   cases h
   have hr:=hR1 _ rfl
   subst hr
   exact ret ⟨rfl,_,_,rfl,rfl⟩
  refine cF hc39<|skip<|inBlock<|region<|q (J i13) ?_
  refine q (J (W (i13+1))) ?_
  refine aq (J (W (i13+1)))<|nl ?_
  cases h
  exact res [(0,(sl z2 f3 e4)),(1,(sl z7 f8 e9)),(5,(J (W (i13+1))))] [] ⟨rfl,rfl,rfl,tv⟩ tv (hL1 _ rfl () _ _ tv)
 refine cF hc14<|exit rfl ?_
 obtain ⟨r40,hm,hx⟩:=omap h
 clear h
 subst hx
 have hx:=hR1 _ rfl
 rw[hx] at hm
 have h:=hm
 exact res [] [] tv tv (KJ12 () _ _ h)
theorem laws_eqPushSS_okN {a1 b6:List (List Push)} {z2 z7:Nat} {f3 f8:Bool} {e4 e9:List AV} {s:St} (h5:LR (rL rPush 2) 1 a1 z2 e4) (h10:LR (rL rPush 2) 1 b6 z7 e9) {r:Bool} (h:laws_eqPushSS a1 b6=some r) (hs:WF s):ACallN Cf 46 [(sl z2 f3 e4),(sl z7 f8 e9)] s fun v _ s'=>(rB) r v∧s'=s:=by
 refine ACallN.pure rfl rfl rfl .B ?_
 have hWF:=hs.lo'
 unfold laws_eqPushSS at h
 refine sr<|q (bool false)<|nl ?_
 refine seq<|sr<|q (sl z2 f3 e4)<|AOps.p rfl (len_eq h5) ?_
 refine q (sl z7 f8 e9)<|AOps.p rfl (len_eq h10) ?_
 refine q (bool ((a1.length:Int) != (b6.length:Int)))<|nl ?_
 rcases oite h with ⟨hc11,h⟩ | ⟨hc11,h⟩
 ·refine cT hc11<|sr<|q (bool false)<|nl ?_
  cases h
  exact ret ⟨rfl,_,_,rfl,rfl⟩
 refine cF hc11<|skip<|seq<|sr<|q (J 0)<|nl ?_
 refine meet (σ:=Unit) (fun _ tm os=>⟨updL tm [],updL os [],s.M⟩) (fun _=>laws_eqPushSS_J1=some r) ?_ ?_
 ·rintro _ tm os h
  unfold laws_eqPushSS_J1 at h
  refine sr<|q (bool true)<|nl ?_
  cases h
  exact ret ⟨rfl,_,_,rfl,rfl⟩
 intro KJ12
 refine block<|res [(0,(sl z2 f3 e4)),(1,(sl z7 f8 e9)),(5,(J 0))] [] ⟨rfl,rfl,rfl,tv⟩ tv ?_
 refine loopF (σ:=Int) (τ:=Unit) (fun i13 _=>True) (fun i13 _ tm os=>⟨updL tm [(0,(sl z2 f3 e4)),(1,(sl z7 f8 e9)),(5,(J i13))],updL os [],s.M⟩) ?_ (x:=(0)) (y:=()) h tv
 clear h
 rintro i13 _ tm os - ee1 h hL1 hR1
 unfold laws_eqPushSS_S1 at h
 refine seq<|sr<|q (J i13) ?_
 refine q (sl z2 f3 e4)<|AOps.p rfl (len_eq h5) ?_
 refine q (bool (decide ((i13:Int)<(a1.length:Int))))<|nl ?_
 rcases oite h with ⟨hc14,h⟩ | ⟨hc14,h⟩
 ·refine cT hc14<|skip<|seq<|block<|sr<|q (sl z2 f3 e4) ?_
  refine q (J i13) ?_
  obtain ⟨x15,h16,h⟩:=obind h
  obtain ⟨v19,h17,h18⟩:=idx_sl h5 h16
  obtain ⟨z20,f21,e22,rfl,h23⟩:=h17
  refine pureR rfl rfl rfl h18 rfl (rfl:_=(eptr [(sl z20 f21 e22)] 0))<|lE (sl z20 f21 e22) ?_
  refine q (sl z7 f8 e9) ?_
  refine q (J i13) ?_
  obtain ⟨x24,h25,h⟩:=obind h
  obtain ⟨v28,h26,h27⟩:=idx_sl h10 h25
  obtain ⟨z29,f30,e31,rfl,h32⟩:=h26
  refine pureR rfl rfl rfl h27 rfl (rfl:_=(eptr [(sl z29 f30 e31)] 0))<|lE (sl z29 f30 e31) ?_
  obtain ⟨y33,h34,h⟩:=obind h
  refine lendD (g:=99) (args:=[(sl z20 f21 e22),(sl z29 f30 e31)]) (ps:=[(rL rPush 2) x15,(rL rPush 2) x24]) (p:=(rB) y33) rfl rfl rfl rfl rfl rfl rfl (.cons (Fin.of (p:=(rL rPush 2) x15) (.L fun _=>(.A (.cons .I (.cons .I .nil)))) (⟨_,_,_,rfl,h23⟩)) (.cons (Fin.of (p:=(rL rPush 2) x24) (.L fun _=>(.A (.cons .I (.cons .I .nil)))) (⟨_,_,_,rfl,h32⟩)) .nil)) (fun args' hc=>by obtain ⟨_,_,rfl,hv0,hd0⟩:=Cs_cons hc; obtain ⟨z35,f36,e37,rfl,h38⟩:=hv0; obtain ⟨_,_,rfl,hv1,hd1⟩:=Cs_cons hd0; obtain ⟨z39,f40,e41,rfl,h42⟩:=hv1; cases Cs_nil hd1; exact laws_eqPushS_okN h38 h42 h34 WF.blind) (fun v n hv=>by cases hv; rfl) (fun v hv=>Nice.pure (k:=FINK) (p:=(rB) y33) .B _ v hv) ?_
  intro _ h43
  cases h43
  refine q (bool (!y33))<|nl ?_
  rcases oite h with ⟨hc44,h⟩ | ⟨hc44,h⟩
  ·refine cT hc44<|sr<|q (bool false)<|nl ?_
   cases h
   have hr:=hR1 _ rfl
   subst hr
   exact ret ⟨rfl,_,_,rfl,rfl⟩
  refine cF hc44<|skip<|inBlock<|region<|q (J i13) ?_
  refine q (J (W (i13+1))) ?_
  refine aq (J (W (i13+1)))<|nl ?_
  cases h
  exact res [(0,(sl z2 f3 e4)),(1,(sl z7 f8 e9)),(5,(J (W (i13+1))))] [] ⟨rfl,rfl,rfl,tv⟩ tv (hL1 _ rfl () _ _ tv)
 refine cF hc14<|exit rfl ?_
 obtain ⟨r45,hm,hx⟩:=omap h
 clear h
 subst hx
 have hx:=hR1 _ rfl
 rw[hx] at hm
 have h:=hm
 exact res [] [] tv tv (KJ12 () _ _ h)
theorem laws_eqInt64S_okN {a1 b6:List Int} {z2 z7:Nat} {f3 f8:Bool} {e4 e9:List AV} {s:St} (h5:LR rJ 1 a1 z2 e4) (h10:LR rJ 1 b6 z7 e9) {r:Bool} (h:laws_eqInt64S a1 b6=some r) (hs:WF s):ACallN Cf 100 [(sl z2 f3 e4),(sl z7 f8 e9)] s fun v _ s'=>(rB) r v∧s'=s:=by
 refine ACallN.pure rfl rfl rfl .B ?_
 have hWF:=hs.lo'
 unfold laws_eqInt64S at h
 refine sr<|q (bool false)<|nl ?_
 refine seq<|sr<|q (sl z2 f3 e4)<|AOps.p rfl (len_eq h5) ?_
 refine q (sl z7 f8 e9)<|AOps.p rfl (len_eq h10) ?_
 refine q (bool ((a1.length:Int) != (b6.length:Int)))<|nl ?_
 rcases oite h with ⟨hc11,h⟩ | ⟨hc11,h⟩
 ·refine cT hc11<|sr<|q (bool false)<|nl ?_
  cases h
  exact ret ⟨rfl,_,_,rfl,rfl⟩
 refine cF hc11<|skip<|seq<|sr<|q (J 0)<|nl ?_
 refine meet (σ:=Unit) (fun _ tm os=>⟨updL tm [],updL os [],s.M⟩) (fun _=>laws_eqInt64S_J1=some r) ?_ ?_
 ·rintro _ tm os h
  unfold laws_eqInt64S_J1 at h
  refine sr<|q (bool true)<|nl ?_
  cases h
  exact ret ⟨rfl,_,_,rfl,rfl⟩
 intro KJ12
 refine block<|res [(0,(sl z2 f3 e4)),(1,(sl z7 f8 e9)),(5,(J 0))] [] ⟨rfl,rfl,rfl,tv⟩ tv ?_
 refine loopF (σ:=Int) (τ:=Unit) (fun i13 _=>True) (fun i13 _ tm os=>⟨updL tm [(0,(sl z2 f3 e4)),(1,(sl z7 f8 e9)),(5,(J i13))],updL os [],s.M⟩) ?_ (x:=(0)) (y:=()) h tv
 clear h
 rintro i13 _ tm os - ee1 h hL1 hR1
 unfold laws_eqInt64S_S1 at h
 refine seq<|sr<|q (J i13) ?_
 refine q (sl z2 f3 e4)<|AOps.p rfl (len_eq h5) ?_
 refine q (bool (decide ((i13:Int)<(a1.length:Int))))<|nl ?_
 rcases oite h with ⟨hc14,h⟩ | ⟨hc14,h⟩
 ·refine cT hc14<|skip<|seq<|block<|sr<|q (sl z2 f3 e4) ?_
  refine q (J i13) ?_
  obtain ⟨x15,h16,h⟩:=obind h
  obtain ⟨v19,h17,h18⟩:=idx_sl h5 h16
  cases h17
  refine pureR rfl rfl rfl h18 rfl (rfl:_=(eptr [(J x15)] 0))<|lE (J x15) ?_
  refine q (sl z7 f8 e9) ?_
  refine q (J i13) ?_
  obtain ⟨x20,h21,h⟩:=obind h
  obtain ⟨v24,h22,h23⟩:=idx_sl h10 h21
  cases h22
  refine pureR rfl rfl rfl h23 rfl (rfl:_=(eptr [(J x20)] 0))<|lE (J x20) ?_
  refine q (bool (x15 != x20))<|nl ?_
  rcases oite h with ⟨hc25,h⟩ | ⟨hc25,h⟩
  ·refine cT hc25<|sr<|q (bool false)<|nl ?_
   cases h
   have hr:=hR1 _ rfl
   subst hr
   exact ret ⟨rfl,_,_,rfl,rfl⟩
  refine cF hc25<|skip<|inBlock<|region<|q (J i13) ?_
  refine q (J (W (i13+1))) ?_
  refine aq (J (W (i13+1)))<|nl ?_
  cases h
  exact res [(0,(sl z2 f3 e4)),(1,(sl z7 f8 e9)),(5,(J (W (i13+1))))] [] ⟨rfl,rfl,rfl,tv⟩ tv (hL1 _ rfl () _ _ tv)
 refine cF hc14<|exit rfl ?_
 obtain ⟨r26,hm,hx⟩:=omap h
 clear h
 subst hx
 have hx:=hR1 _ rfl
 rw[hx] at hm
 have h:=hm
 exact res [] [] tv tv (KJ12 () _ _ h)
theorem laws_eqInt64SS_okN {a1 b6:List (List Int)} {z2 z7:Nat} {f3 f8:Bool} {e4 e9:List AV} {s:St} (h5:LR (rL rJ 1) 1 a1 z2 e4) (h10:LR (rL rJ 1) 1 b6 z7 e9) {r:Bool} (h:laws_eqInt64SS a1 b6=some r) (hs:WF s):ACallN Cf 48 [(sl z2 f3 e4),(sl z7 f8 e9)] s fun v _ s'=>(rB) r v∧s'=s:=by
 refine ACallN.pure rfl rfl rfl .B ?_
 have hWF:=hs.lo'
 unfold laws_eqInt64SS at h
 refine sr<|q (bool false)<|nl ?_
 refine seq<|sr<|q (sl z2 f3 e4)<|AOps.p rfl (len_eq h5) ?_
 refine q (sl z7 f8 e9)<|AOps.p rfl (len_eq h10) ?_
 refine q (bool ((a1.length:Int) != (b6.length:Int)))<|nl ?_
 rcases oite h with ⟨hc11,h⟩ | ⟨hc11,h⟩
 ·refine cT hc11<|sr<|q (bool false)<|nl ?_
  cases h
  exact ret ⟨rfl,_,_,rfl,rfl⟩
 refine cF hc11<|skip<|seq<|sr<|q (J 0)<|nl ?_
 refine meet (σ:=Unit) (fun _ tm os=>⟨updL tm [],updL os [],s.M⟩) (fun _=>laws_eqInt64SS_J1=some r) ?_ ?_
 ·rintro _ tm os h
  unfold laws_eqInt64SS_J1 at h
  refine sr<|q (bool true)<|nl ?_
  cases h
  exact ret ⟨rfl,_,_,rfl,rfl⟩
 intro KJ12
 refine block<|res [(0,(sl z2 f3 e4)),(1,(sl z7 f8 e9)),(5,(J 0))] [] ⟨rfl,rfl,rfl,tv⟩ tv ?_
 refine loopF (σ:=Int) (τ:=Unit) (fun i13 _=>True) (fun i13 _ tm os=>⟨updL tm [(0,(sl z2 f3 e4)),(1,(sl z7 f8 e9)),(5,(J i13))],updL os [],s.M⟩) ?_ (x:=(0)) (y:=()) h tv
 clear h
 rintro i13 _ tm os - ee1 h hL1 hR1
 unfold laws_eqInt64SS_S1 at h
 refine seq<|sr<|q (J i13) ?_
 refine q (sl z2 f3 e4)<|AOps.p rfl (len_eq h5) ?_
 refine q (bool (decide ((i13:Int)<(a1.length:Int))))<|nl ?_
 rcases oite h with ⟨hc14,h⟩ | ⟨hc14,h⟩
 ·refine cT hc14<|skip<|seq<|block<|sr<|q (sl z2 f3 e4) ?_
  refine q (J i13) ?_
  obtain ⟨x15,h16,h⟩:=obind h
  obtain ⟨v19,h17,h18⟩:=idx_sl h5 h16
  obtain ⟨z20,f21,e22,rfl,h23⟩:=h17
  refine pureR rfl rfl rfl h18 rfl (rfl:_=(eptr [(sl z20 f21 e22)] 0))<|lE (sl z20 f21 e22) ?_
  refine q (sl z7 f8 e9) ?_
  refine q (J i13) ?_
  obtain ⟨x24,h25,h⟩:=obind h
  obtain ⟨v28,h26,h27⟩:=idx_sl h10 h25
  obtain ⟨z29,f30,e31,rfl,h32⟩:=h26
  refine pureR rfl rfl rfl h27 rfl (rfl:_=(eptr [(sl z29 f30 e31)] 0))<|lE (sl z29 f30 e31) ?_
  obtain ⟨y33,h34,h⟩:=obind h
  refine lendD (g:=100) (args:=[(sl z20 f21 e22),(sl z29 f30 e31)]) (ps:=[(rL rJ 1) x15,(rL rJ 1) x24]) (p:=(rB) y33) rfl rfl rfl rfl rfl rfl rfl (.cons (Fin.of (p:=(rL rJ 1) x15) (.L fun _=>.I) (⟨_,_,_,rfl,h23⟩)) (.cons (Fin.of (p:=(rL rJ 1) x24) (.L fun _=>.I) (⟨_,_,_,rfl,h32⟩)) .nil)) (fun args' hc=>by obtain ⟨_,_,rfl,hv0,hd0⟩:=Cs_cons hc; obtain ⟨z35,f36,e37,rfl,h38⟩:=hv0; obtain ⟨_,_,rfl,hv1,hd1⟩:=Cs_cons hd0; obtain ⟨z39,f40,e41,rfl,h42⟩:=hv1; cases Cs_nil hd1; exact laws_eqInt64S_okN h38 h42 h34 WF.blind) (fun v n hv=>by cases hv; rfl) (fun v hv=>Nice.pure (k:=FINK) (p:=(rB) y33) .B _ v hv) ?_
  intro _ h43
  cases h43
  refine q (bool (!y33))<|nl ?_
  rcases oite h with ⟨hc44,h⟩ | ⟨hc44,h⟩
  ·refine cT hc44<|sr<|q (bool false)<|nl ?_
   cases h
   have hr:=hR1 _ rfl
   subst hr
   exact ret ⟨rfl,_,_,rfl,rfl⟩
  refine cF hc44<|skip<|inBlock<|region<|q (J i13) ?_
  refine q (J (W (i13+1))) ?_
  refine aq (J (W (i13+1)))<|nl ?_
  cases h
  exact res [(0,(sl z2 f3 e4)),(1,(sl z7 f8 e9)),(5,(J (W (i13+1))))] [] ⟨rfl,rfl,rfl,tv⟩ tv (hL1 _ rfl () _ _ tv)
 refine cF hc14<|exit rfl ?_
 obtain ⟨r45,hm,hx⟩:=omap h
 clear h
 subst hx
 have hx:=hR1 _ rfl
 rw[hx] at hm
 have h:=hm
 exact res [] [] tv tv (KJ12 () _ _ h)
theorem laws_eqInt64SSS_okN {a1 b6:List (List (List Int))} {z2 z7:Nat} {f3 f8:Bool} {e4 e9:List AV} {s:St} (h5:LR (rL (rL rJ 1) 1) 1 a1 z2 e4) (h10:LR (rL (rL rJ 1) 1) 1 b6 z7 e9) {r:Bool} (h:laws_eqInt64SSS a1 b6=some r) (hs:WF s):ACallN Cf 47 [(sl z2 f3 e4),(sl z7 f8 e9)] s fun v _ s'=>(rB) r v∧s'=s:=by
 refine ACallN.pure rfl rfl rfl .B ?_
 have hWF:=hs.lo'
 unfold laws_eqInt64SSS at h
 refine sr<|q (bool false)<|nl ?_
 refine seq<|sr<|q (sl z2 f3 e4)<|AOps.p rfl (len_eq h5) ?_
 refine q (sl z7 f8 e9)<|AOps.p rfl (len_eq h10) ?_
 refine q (bool ((a1.length:Int) != (b6.length:Int)))<|nl ?_
 rcases oite h with ⟨hc11,h⟩ | ⟨hc11,h⟩
 ·refine cT hc11<|sr<|q (bool false)<|nl ?_
  cases h
  exact ret ⟨rfl,_,_,rfl,rfl⟩
 refine cF hc11<|skip<|seq<|sr<|q (J 0)<|nl ?_
 refine meet (σ:=Unit) (fun _ tm os=>⟨updL tm [],updL os [],s.M⟩) (fun _=>laws_eqInt64SSS_J1=some r) ?_ ?_
 ·rintro _ tm os h
  unfold laws_eqInt64SSS_J1 at h
  refine sr<|q (bool true)<|nl ?_
  cases h
  exact ret ⟨rfl,_,_,rfl,rfl⟩
 intro KJ12
 refine block<|res [(0,(sl z2 f3 e4)),(1,(sl z7 f8 e9)),(5,(J 0))] [] ⟨rfl,rfl,rfl,tv⟩ tv ?_
 refine loopF (σ:=Int) (τ:=Unit) (fun i13 _=>True) (fun i13 _ tm os=>⟨updL tm [(0,(sl z2 f3 e4)),(1,(sl z7 f8 e9)),(5,(J i13))],updL os [],s.M⟩) ?_ (x:=(0)) (y:=()) h tv
 clear h
 rintro i13 _ tm os - ee1 h hL1 hR1
 unfold laws_eqInt64SSS_S1 at h
 refine seq<|sr<|q (J i13) ?_
 refine q (sl z2 f3 e4)<|AOps.p rfl (len_eq h5) ?_
 refine q (bool (decide ((i13:Int)<(a1.length:Int))))<|nl ?_
 rcases oite h with ⟨hc14,h⟩ | ⟨hc14,h⟩
 ·refine cT hc14<|skip<|seq<|block<|sr<|q (sl z2 f3 e4) ?_
  refine q (J i13) ?_
  obtain ⟨x15,h16,h⟩:=obind h
  obtain ⟨v19,h17,h18⟩:=idx_sl h5 h16
  obtain ⟨z20,f21,e22,rfl,h23⟩:=h17
  refine pureR rfl rfl rfl h18 rfl (rfl:_=(eptr [(sl z20 f21 e22)] 0))<|lE (sl z20 f21 e22) ?_
  refine q (sl z7 f8 e9) ?_
  refine q (J i13) ?_
  obtain ⟨x24,h25,h⟩:=obind h
  obtain ⟨v28,h26,h27⟩:=idx_sl h10 h25
  obtain ⟨z29,f30,e31,rfl,h32⟩:=h26
  refine pureR rfl rfl rfl h27 rfl (rfl:_=(eptr [(sl z29 f30 e31)] 0))<|lE (sl z29 f30 e31) ?_
  obtain ⟨y33,h34,h⟩:=obind h
  refine lendD (g:=48) (args:=[(sl z20 f21 e22),(sl z29 f30 e31)]) (ps:=[(rL (rL rJ 1) 1) x15,(rL (rL rJ 1) 1) x24]) (p:=(rB) y33) rfl rfl rfl rfl rfl rfl rfl (.cons (Fin.of (p:=(rL (rL rJ 1) 1) x15) (.L fun _=>(.L fun _=>.I)) (⟨_,_,_,rfl,h23⟩)) (.cons (Fin.of (p:=(rL (rL rJ 1) 1) x24) (.L fun _=>(.L fun _=>.I)) (⟨_,_,_,rfl,h32⟩)) .nil)) (fun args' hc=>by obtain ⟨_,_,rfl,hv0,hd0⟩:=Cs_cons hc; obtain ⟨z35,f36,e37,rfl,h38⟩:=hv0; obtain ⟨_,_,rfl,hv1,hd1⟩:=Cs_cons hd0; obtain ⟨z39,f40,e41,rfl,h42⟩:=hv1; cases Cs_nil hd1; exact laws_eqInt64SS_okN h38 h42 h34 WF.blind) (fun v n hv=>by cases hv; rfl) (fun v hv=>Nice.pure (k:=FINK) (p:=(rB) y33) .B _ v hv) ?_
  intro _ h43
  cases h43
  refine q (bool (!y33))<|nl ?_
  rcases oite h with ⟨hc44,h⟩ | ⟨hc44,h⟩
  ·refine cT hc44<|sr<|q (bool false)<|nl ?_
   cases h
   have hr:=hR1 _ rfl
   subst hr
   exact ret ⟨rfl,_,_,rfl,rfl⟩
  refine cF hc44<|skip<|inBlock<|region<|q (J i13) ?_
  refine q (J (W (i13+1))) ?_
  refine aq (J (W (i13+1)))<|nl ?_
  cases h
  exact res [(0,(sl z2 f3 e4)),(1,(sl z7 f8 e9)),(5,(J (W (i13+1))))] [] ⟨rfl,rfl,rfl,tv⟩ tv (hL1 _ rfl () _ _ tv)
 refine cF hc14<|exit rfl ?_
 obtain ⟨r45,hm,hx⟩:=omap h
 clear h
 subst hx
 have hx:=hR1 _ rfl
 rw[hx] at hm
 have h:=hm
 exact res [] [] tv tv (KJ12 () _ _ h)
theorem laws_eqChecker_okN {a1 b18:Checker} {z2 z6 z10 z14 z19 z23 z27 z31:Nat} {f3 f7 f11 f15 f20 f24 f28 f32:Bool} {e4 e8 e12 e16 e21 e25 e29 e33:List AV} {s:St} (h5:LR rB 1 a1.Accept z2 e4) (h9:LR (rL rPush 2) 1 a1.Call z6 e8) (h13:LR (rL (rL rJ 1) 1) 1 a1.Return z10 e12) (h17:LR (rL rJ 1) 1 a1.Inner z14 e16) (h22:LR rB 1 b18.Accept z19 e21) (h26:LR (rL rPush 2) 1 b18.Call z23 e25) (h30:LR (rL (rL rJ 1) 1) 1 b18.Return z27 e29) (h34:LR (rL rJ 1) 1 b18.Inner z31 e33) {r:Bool} (h:laws_eqChecker a1 b18=some r) (hs:WF s):ACallN Cf 10 [(agg [(J a1.Stack),(J a1.Start),(sl z2 f3 e4),(sl z6 f7 e8),(sl z10 f11 e12),(sl z14 f15 e16)]),(agg [(J b18.Stack),(J b18.Start),(sl z19 f20 e21),(sl z23 f24 e25),(sl z27 f28 e29),(sl z31 f32 e33)])] s fun v _ s'=>(rB) r v∧s'=s:=by
 refine ACallN.pure rfl rfl rfl .B ?_
 have hWF:=hs.lo'
 unfold laws_eqChecker at h
 refine sr ?_
 refine makeR rfl rfl rfl rfl rfl rfl (rfl:_=(eptr [(J a1.Stack),(J a1.Start),(sl z2 f3 e4),(sl z6 f7 e8),(sl z10 f11 e12),(sl z14 f15 e16)] 0)) ?_
 refine makeR rfl rfl rfl rfl rfl rfl (rfl:_=(eptr [(J b18.Stack),(J b18.Start),(sl z19 f20 e21),(sl z23 f24 e25),(sl z27 f28 e29),(sl z31 f32 e33)] 0)) ?_
 refine q (bool false) ?_
 refine nl ?_
 refine seq ?_
 refine sr ?_
 refine q (eptr [(J a1.Stack),(J a1.Start),(sl z2 f3 e4),(sl z6 f7 e8),(sl z10 f11 e12),(sl z14 f15 e16)] 0) ?_
 refine lE (J a1.Stack) ?_
 refine q (eptr [(J b18.Stack),(J b18.Start),(sl z19 f20 e21),(sl z23 f24 e25),(sl z27 f28 e29),(sl z31 f32 e33)] 0) ?_
 refine lE (J b18.Stack) ?_
 refine q (bool (a1.Stack != b18.Stack)) ?_
 refine nl ?_
 rcases oite h with ⟨hc35,h⟩ | ⟨hc35,h⟩
 ·refine cT hc35 ?_
  refine sr ?_
  refine q (bool false) ?_
  refine nl ?_
  cases h
  exact ret ⟨rfl,_,_,rfl,rfl⟩
 refine cF hc35 ?_
 refine skip ?_
 refine seq ?_
 refine sr ?_
 refine q (eptr [(J a1.Stack),(J a1.Start),(sl z2 f3 e4),(sl z6 f7 e8),(sl z10 f11 e12),(sl z14 f15 e16)] 1) ?_
 refine lE (J a1.Start) ?_
 refine q (eptr [(J b18.Stack),(J b18.Start),(sl z19 f20 e21),(sl z23 f24 e25),(sl z27 f28 e29),(sl z31 f32 e33)] 1) ?_
 refine lE (J b18.Start) ?_
 refine q (bool (a1.Start != b18.Start)) ?_
 refine nl ?_
 rcases oite h with ⟨hc36,h⟩ | ⟨hc36,h⟩
 ·refine cT hc36 ?_
  refine sr ?_
  refine q (bool false) ?_
  refine nl ?_
  cases h
  exact ret ⟨rfl,_,_,rfl,rfl⟩
 refine cF hc36 ?_
 refine skip ?_
 refine seq ?_
 refine sr ?_
 refine q (eptr [(J a1.Stack),(J a1.Start),(sl z2 f3 e4),(sl z6 f7 e8),(sl z10 f11 e12),(sl z14 f15 e16)] 2) ?_
 refine lE (sl z2 f3 e4) ?_
 refine q (eptr [(J b18.Stack),(J b18.Start),(sl z19 f20 e21),(sl z23 f24 e25),(sl z27 f28 e29),(sl z31 f32 e33)] 2) ?_
 refine lE (sl z19 f20 e21) ?_
 obtain ⟨y37,h38,h⟩:=obind h
 refine lendP (g:=45) (args:=[(sl z2 f3 e4),(sl z19 f20 e21)]) (ps:=[(rL rB 1) a1.Accept,(rL rB 1) b18.Accept]) (p:=(rB) y37) rfl rfl rfl rfl rfl rfl rfl (.cons (Fin.of (p:=(rL rB 1) a1.Accept) (.L fun _=>.B) (⟨_,_,_,rfl,h5⟩)) (.cons (Fin.of (p:=(rL rB 1) b18.Accept) (.L fun _=>.B) (⟨_,_,_,rfl,h22⟩)) .nil)) (fun args' hc=>by obtain ⟨_,_,rfl,hv0,hd0⟩:=Cs_cons hc; obtain ⟨z39,f40,e41,rfl,h42⟩:=hv0; obtain ⟨_,_,rfl,hv1,hd1⟩:=Cs_cons hd0; obtain ⟨z43,f44,e45,rfl,h46⟩:=hv1; cases Cs_nil hd1; exact laws_eqBoolS_okN h42 h46 h38 WF.blind) (fun v n hv=>by cases hv; rfl) ?_
 intro _ h47
 cases h47
 refine q (bool (!y37)) ?_
 refine nl ?_
 rcases oite h with ⟨hc48,h⟩ | ⟨hc48,h⟩
 ·refine cT hc48 ?_
  refine sr ?_
  refine q (bool false) ?_
  refine nl ?_
  cases h
  exact ret ⟨rfl,_,_,rfl,rfl⟩
 refine cF hc48 ?_
 refine skip ?_
 refine seq ?_
 refine sr ?_
 refine q (eptr [(J a1.Stack),(J a1.Start),(sl z2 f3 e4),(sl z6 f7 e8),(sl z10 f11 e12),(sl z14 f15 e16)] 3) ?_
 refine lE (sl z6 f7 e8) ?_
 refine q (eptr [(J b18.Stack),(J b18.Start),(sl z19 f20 e21),(sl z23 f24 e25),(sl z27 f28 e29),(sl z31 f32 e33)] 3) ?_
 refine lE (sl z23 f24 e25) ?_
 obtain ⟨y49,h50,h⟩:=obind h
 refine lendP (g:=46) (args:=[(sl z6 f7 e8),(sl z23 f24 e25)]) (ps:=[(rL (rL rPush 2) 1) a1.Call,(rL (rL rPush 2) 1) b18.Call]) (p:=(rB) y49) rfl rfl rfl rfl rfl rfl rfl (.cons (Fin.of (p:=(rL (rL rPush 2) 1) a1.Call) (.L fun _=>(.L fun _=>(.A (.cons .I (.cons .I .nil))))) (⟨_,_,_,rfl,h9⟩)) (.cons (Fin.of (p:=(rL (rL rPush 2) 1) b18.Call) (.L fun _=>(.L fun _=>(.A (.cons .I (.cons .I .nil))))) (⟨_,_,_,rfl,h26⟩)) .nil)) (fun args' hc=>by obtain ⟨_,_,rfl,hv0,hd0⟩:=Cs_cons hc; obtain ⟨z51,f52,e53,rfl,h54⟩:=hv0; obtain ⟨_,_,rfl,hv1,hd1⟩:=Cs_cons hd0; obtain ⟨z55,f56,e57,rfl,h58⟩:=hv1; cases Cs_nil hd1; exact laws_eqPushSS_okN h54 h58 h50 WF.blind) (fun v n hv=>by cases hv; rfl) ?_
 intro _ h59
 cases h59
 refine q (bool (!y49)) ?_
 refine nl ?_
 rcases oite h with ⟨hc60,h⟩ | ⟨hc60,h⟩
 ·refine cT hc60 ?_
  refine sr ?_
  refine q (bool false) ?_
  refine nl ?_
  cases h
  exact ret ⟨rfl,_,_,rfl,rfl⟩
 refine cF hc60 ?_
 refine skip ?_
 refine seq ?_
 refine sr ?_
 refine q (eptr [(J a1.Stack),(J a1.Start),(sl z2 f3 e4),(sl z6 f7 e8),(sl z10 f11 e12),(sl z14 f15 e16)] 4) ?_
 refine lE (sl z10 f11 e12) ?_
 refine q (eptr [(J b18.Stack),(J b18.Start),(sl z19 f20 e21),(sl z23 f24 e25),(sl z27 f28 e29),(sl z31 f32 e33)] 4) ?_
 refine lE (sl z27 f28 e29) ?_
 obtain ⟨y61,h62,h⟩:=obind h
 refine lendP (g:=47) (args:=[(sl z10 f11 e12),(sl z27 f28 e29)]) (ps:=[(rL (rL (rL rJ 1) 1) 1) a1.Return,(rL (rL (rL rJ 1) 1) 1) b18.Return]) (p:=(rB) y61) rfl rfl rfl rfl rfl rfl rfl (.cons (Fin.of (p:=(rL (rL (rL rJ 1) 1) 1) a1.Return) (.L fun _=>(.L fun _=>(.L fun _=>.I))) (⟨_,_,_,rfl,h13⟩)) (.cons (Fin.of (p:=(rL (rL (rL rJ 1) 1) 1) b18.Return) (.L fun _=>(.L fun _=>(.L fun _=>.I))) (⟨_,_,_,rfl,h30⟩)) .nil)) (fun args' hc=>by obtain ⟨_,_,rfl,hv0,hd0⟩:=Cs_cons hc; obtain ⟨z63,f64,e65,rfl,h66⟩:=hv0; obtain ⟨_,_,rfl,hv1,hd1⟩:=Cs_cons hd0; obtain ⟨z67,f68,e69,rfl,h70⟩:=hv1; cases Cs_nil hd1; exact laws_eqInt64SSS_okN h66 h70 h62 WF.blind) (fun v n hv=>by cases hv; rfl) ?_
 intro _ h71
 cases h71
 refine q (bool (!y61)) ?_
 refine nl ?_
 rcases oite h with ⟨hc72,h⟩ | ⟨hc72,h⟩
 ·refine cT hc72 ?_
  refine sr ?_
  refine q (bool false) ?_
  refine nl ?_
  cases h
  exact ret ⟨rfl,_,_,rfl,rfl⟩
 refine cF hc72 ?_
 refine skip ?_
 refine seq ?_
 refine sr ?_
 refine q (eptr [(J a1.Stack),(J a1.Start),(sl z2 f3 e4),(sl z6 f7 e8),(sl z10 f11 e12),(sl z14 f15 e16)] 5) ?_
 refine lE (sl z14 f15 e16) ?_
 refine q (eptr [(J b18.Stack),(J b18.Start),(sl z19 f20 e21),(sl z23 f24 e25),(sl z27 f28 e29),(sl z31 f32 e33)] 5) ?_
 refine lE (sl z31 f32 e33) ?_
 obtain ⟨y73,h74,h⟩:=obind h
 refine lendP (g:=48) (args:=[(sl z14 f15 e16),(sl z31 f32 e33)]) (ps:=[(rL (rL rJ 1) 1) a1.Inner,(rL (rL rJ 1) 1) b18.Inner]) (p:=(rB) y73) rfl rfl rfl rfl rfl rfl rfl (.cons (Fin.of (p:=(rL (rL rJ 1) 1) a1.Inner) (.L fun _=>(.L fun _=>.I)) (⟨_,_,_,rfl,h17⟩)) (.cons (Fin.of (p:=(rL (rL rJ 1) 1) b18.Inner) (.L fun _=>(.L fun _=>.I)) (⟨_,_,_,rfl,h34⟩)) .nil)) (fun args' hc=>by obtain ⟨_,_,rfl,hv0,hd0⟩:=Cs_cons hc; obtain ⟨z75,f76,e77,rfl,h78⟩:=hv0; obtain ⟨_,_,rfl,hv1,hd1⟩:=Cs_cons hd0; obtain ⟨z79,f80,e81,rfl,h82⟩:=hv1; cases Cs_nil hd1; exact laws_eqInt64SS_okN h78 h82 h74 WF.blind) (fun v n hv=>by cases hv; rfl) ?_
 intro _ h83
 cases h83
 refine q (bool (!y73)) ?_
 refine nl ?_
 rcases oite h with ⟨hc84,h⟩ | ⟨hc84,h⟩
 ·refine cT hc84 ?_
  refine sr ?_
  refine q (bool false) ?_
  refine nl ?_
  cases h
  exact ret ⟨rfl,_,_,rfl,rfl⟩
 refine cF hc84 ?_
 refine skip ?_
 refine sr ?_
 refine q (bool true) ?_
 refine nl ?_
 cases h
 exact ret ⟨rfl,_,_,rfl,rfl⟩
theorem laws_eqOutPush_okN {a1 b2:OutPush} {s:St} {r:Bool} (h:laws_eqOutPush a1 b2=some r) (hs:WF s):ACallN Cf 124 [(agg [(J a1.To),(J a1.Put),(str a1.Out)]),(agg [(J b2.To),(J b2.Put),(str b2.Out)])] s fun v _ s'=>(rB) r v∧s'=s:=by
 refine ACallN.pure rfl rfl rfl .B ?_
 have hWF:=hs.lo'
 unfold laws_eqOutPush at h
 refine sr ?_
 refine makeR rfl rfl rfl rfl rfl rfl (rfl:_=(eptr [(J a1.To),(J a1.Put),(str a1.Out)] 0)) ?_
 refine makeR rfl rfl rfl rfl rfl rfl (rfl:_=(eptr [(J b2.To),(J b2.Put),(str b2.Out)] 0)) ?_
 refine q (bool false) ?_
 refine nl ?_
 refine seq ?_
 refine sr ?_
 refine q (eptr [(J a1.To),(J a1.Put),(str a1.Out)] 0) ?_
 refine lE (J a1.To) ?_
 refine q (eptr [(J b2.To),(J b2.Put),(str b2.Out)] 0) ?_
 refine lE (J b2.To) ?_
 refine q (bool (a1.To != b2.To)) ?_
 refine nl ?_
 rcases oite h with ⟨hc3,h⟩ | ⟨hc3,h⟩
 ·refine cT hc3 ?_
  refine sr ?_
  refine q (bool false) ?_
  refine nl ?_
  cases h
  exact ret ⟨rfl,_,_,rfl,rfl⟩
 refine cF hc3 ?_
 refine skip ?_
 refine seq ?_
 refine sr ?_
 refine q (eptr [(J a1.To),(J a1.Put),(str a1.Out)] 1) ?_
 refine lE (J a1.Put) ?_
 refine q (eptr [(J b2.To),(J b2.Put),(str b2.Out)] 1) ?_
 refine lE (J b2.Put) ?_
 refine q (bool (a1.Put != b2.Put)) ?_
 refine nl ?_
 rcases oite h with ⟨hc4,h⟩ | ⟨hc4,h⟩
 ·refine cT hc4 ?_
  refine sr ?_
  refine q (bool false) ?_
  refine nl ?_
  cases h
  exact ret ⟨rfl,_,_,rfl,rfl⟩
 refine cF hc4 ?_
 refine skip ?_
 refine seq ?_
 refine sr ?_
 refine q (eptr [(J a1.To),(J a1.Put),(str a1.Out)] 2) ?_
 refine lE (str a1.Out) ?_
 refine q (eptr [(J b2.To),(J b2.Put),(str b2.Out)] 2) ?_
 refine lE (str b2.Out) ?_
 refine q (bool (!(a1.Out == b2.Out))) ?_
 refine nl ?_
 rcases oite h with ⟨hc5,h⟩ | ⟨hc5,h⟩
 ·refine cT hc5 ?_
  refine sr ?_
  refine q (bool false) ?_
  refine nl ?_
  cases h
  exact ret ⟨rfl,_,_,rfl,rfl⟩
 refine cF hc5 ?_
 refine skip ?_
 refine sr ?_
 refine q (bool true) ?_
 refine nl ?_
 cases h
 exact ret ⟨rfl,_,_,rfl,rfl⟩
theorem laws_eqOutPushS_okN {a1 b6:List OutPush} {z2 z7:Nat} {f3 f8:Bool} {e4 e9:List AV} {s:St} (h5:LR rOutPush 3 a1 z2 e4) (h10:LR rOutPush 3 b6 z7 e9) {r:Bool} (h:laws_eqOutPushS a1 b6=some r) (hs:WF s):ACallN Cf 101 [(sl z2 f3 e4),(sl z7 f8 e9)] s fun v _ s'=>(rB) r v∧s'=s:=by
 refine ACallN.pure rfl rfl rfl .B ?_
 have hWF:=hs.lo'
 unfold laws_eqOutPushS at h
 refine sr<|q (bool false)<|nl ?_
 refine seq<|sr<|q (sl z2 f3 e4)<|AOps.p rfl (len_eq h5) ?_
 refine q (sl z7 f8 e9)<|AOps.p rfl (len_eq h10) ?_
 refine q (bool ((a1.length:Int) != (b6.length:Int)))<|nl ?_
 rcases oite h with ⟨hc11,h⟩ | ⟨hc11,h⟩
 ·refine cT hc11<|sr<|q (bool false)<|nl ?_
  cases h
  exact ret ⟨rfl,_,_,rfl,rfl⟩
 refine cF hc11<|skip<|seq<|sr<|q (J 0)<|nl ?_
 refine meet (σ:=Unit) (fun _ tm os=>⟨updL tm [],updL os [],s.M⟩) (fun _=>laws_eqOutPushS_J1=some r) ?_ ?_
 ·rintro _ tm os h
  unfold laws_eqOutPushS_J1 at h
  refine sr<|q (bool true)<|nl ?_
  cases h
  exact ret ⟨rfl,_,_,rfl,rfl⟩
 intro KJ12
 refine block<|res [(0,(sl z2 f3 e4)),(1,(sl z7 f8 e9)),(5,(J 0))] [] ⟨rfl,rfl,rfl,tv⟩ tv ?_
 refine loopF (σ:=Int) (τ:=Unit) (fun i13 _=>True) (fun i13 _ tm os=>⟨updL tm [(0,(sl z2 f3 e4)),(1,(sl z7 f8 e9)),(5,(J i13))],updL os [],s.M⟩) ?_ (x:=(0)) (y:=()) h tv
 clear h
 rintro i13 _ tm os - ee1 h hL1 hR1
 unfold laws_eqOutPushS_S1 at h
 refine seq<|sr<|q (J i13) ?_
 refine q (sl z2 f3 e4)<|AOps.p rfl (len_eq h5) ?_
 refine q (bool (decide ((i13:Int)<(a1.length:Int))))<|nl ?_
 rcases oite h with ⟨hc14,h⟩ | ⟨hc14,h⟩
 ·refine cT hc14<|skip<|seq<|block<|sr<|q (sl z2 f3 e4) ?_
  refine q (J i13) ?_
  obtain ⟨x15,h16,h⟩:=obind h
  obtain ⟨v19,h17,h18⟩:=idx_sl h5 h16
  obtain ⟨_,rfl,h20⟩:=h17
  obtain ⟨_,_,rfl,h21,h22⟩:=Cs_cons h20
  cases h21
  obtain ⟨_,_,rfl,h23,h24⟩:=Cs_cons h22
  cases h23
  obtain ⟨_,_,rfl,h25,h26⟩:=Cs_cons h24
  cases h25
  cases Cs_nil h26
  refine pureR rfl rfl rfl h18 rfl (rfl:_=(eptr [(J x15.To),(J x15.Put),(str x15.Out)] 0))<|lE (agg [(J x15.To),(J x15.Put),(str x15.Out)]) ?_
  refine q (sl z7 f8 e9) ?_
  refine q (J i13) ?_
  obtain ⟨x27,h28,h⟩:=obind h
  obtain ⟨v31,h29,h30⟩:=idx_sl h10 h28
  obtain ⟨_,rfl,h32⟩:=h29
  obtain ⟨_,_,rfl,h33,h34⟩:=Cs_cons h32
  cases h33
  obtain ⟨_,_,rfl,h35,h36⟩:=Cs_cons h34
  cases h35
  obtain ⟨_,_,rfl,h37,h38⟩:=Cs_cons h36
  cases h37
  cases Cs_nil h38
  refine pureR rfl rfl rfl h30 rfl (rfl:_=(eptr [(J x27.To),(J x27.Put),(str x27.Out)] 0))<|lE (agg [(J x27.To),(J x27.Put),(str x27.Out)]) ?_
  obtain ⟨y39,h40,h⟩:=obind h
  refine lendD (g:=124) (args:=[(agg [(J x15.To),(J x15.Put),(str x15.Out)]),(agg [(J x27.To),(J x27.Put),(str x27.Out)])]) (ps:=[(rOutPush) x15,(rOutPush) x27]) (p:=(rB) y39) rfl rfl rfl rfl rfl rfl rfl (.cons (Fin.of (p:=(rOutPush) x15) (.A (.cons .I (.cons .I (.cons .S .nil)))) (⟨_,rfl,(.cons rfl (.cons rfl (.cons rfl .nil)))⟩)) (.cons (Fin.of (p:=(rOutPush) x27) (.A (.cons .I (.cons .I (.cons .S .nil)))) (⟨_,rfl,(.cons rfl (.cons rfl (.cons rfl .nil)))⟩)) .nil)) (fun args' hc=>by obtain ⟨_,_,rfl,hv0,hd0⟩:=Cs_cons hc; obtain ⟨_,rfl,h41⟩:=hv0; obtain ⟨_,_,rfl,h42,h43⟩:=Cs_cons h41; cases h42; obtain ⟨_,_,rfl,h44,h45⟩:=Cs_cons h43; cases h44; obtain ⟨_,_,rfl,h46,h47⟩:=Cs_cons h45; cases h46; cases Cs_nil h47; obtain ⟨_,_,rfl,hv1,hd1⟩:=Cs_cons hd0; obtain ⟨_,rfl,h48⟩:=hv1; obtain ⟨_,_,rfl,h49,h50⟩:=Cs_cons h48; cases h49; obtain ⟨_,_,rfl,h51,h52⟩:=Cs_cons h50; cases h51; obtain ⟨_,_,rfl,h53,h54⟩:=Cs_cons h52; cases h53; cases Cs_nil h54; cases Cs_nil hd1; exact laws_eqOutPush_okN  h40 WF.blind) (fun v n hv=>by cases hv; rfl) (fun v hv=>Nice.pure (k:=FINK) (p:=(rB) y39) .B _ v hv) ?_
  intro _ h55
  cases h55
  refine q (bool (!y39))<|nl ?_
  rcases oite h with ⟨hc56,h⟩ | ⟨hc56,h⟩
  ·refine cT hc56<|sr<|q (bool false)<|nl ?_
   cases h
   have hr:=hR1 _ rfl
   subst hr
   exact ret ⟨rfl,_,_,rfl,rfl⟩
  refine cF hc56<|skip<|inBlock<|region<|q (J i13) ?_
  refine q (J (W (i13+1))) ?_
  refine aq (J (W (i13+1)))<|nl ?_
  cases h
  exact res [(0,(sl z2 f3 e4)),(1,(sl z7 f8 e9)),(5,(J (W (i13+1))))] [] ⟨rfl,rfl,rfl,tv⟩ tv (hL1 _ rfl () _ _ tv)
 refine cF hc14<|exit rfl ?_
 obtain ⟨r57,hm,hx⟩:=omap h
 clear h
 subst hx
 have hx:=hR1 _ rfl
 rw[hx] at hm
 have h:=hm
 exact res [] [] tv tv (KJ12 () _ _ h)
theorem laws_eqOutPushSS_okN {a1 b6:List (List OutPush)} {z2 z7:Nat} {f3 f8:Bool} {e4 e9:List AV} {s:St} (h5:LR (rL rOutPush 3) 1 a1 z2 e4) (h10:LR (rL rOutPush 3) 1 b6 z7 e9) {r:Bool} (h:laws_eqOutPushSS a1 b6=some r) (hs:WF s):ACallN Cf 49 [(sl z2 f3 e4),(sl z7 f8 e9)] s fun v _ s'=>(rB) r v∧s'=s:=by
 refine ACallN.pure rfl rfl rfl .B ?_
 have hWF:=hs.lo'
 unfold laws_eqOutPushSS at h
 refine sr<|q (bool false)<|nl ?_
 refine seq<|sr<|q (sl z2 f3 e4)<|AOps.p rfl (len_eq h5) ?_
 refine q (sl z7 f8 e9)<|AOps.p rfl (len_eq h10) ?_
 refine q (bool ((a1.length:Int) != (b6.length:Int)))<|nl ?_
 rcases oite h with ⟨hc11,h⟩ | ⟨hc11,h⟩
 ·refine cT hc11<|sr<|q (bool false)<|nl ?_
  cases h
  exact ret ⟨rfl,_,_,rfl,rfl⟩
 refine cF hc11<|skip<|seq<|sr<|q (J 0)<|nl ?_
 refine meet (σ:=Unit) (fun _ tm os=>⟨updL tm [],updL os [],s.M⟩) (fun _=>laws_eqOutPushSS_J1=some r) ?_ ?_
 ·rintro _ tm os h
  unfold laws_eqOutPushSS_J1 at h
  refine sr<|q (bool true)<|nl ?_
  cases h
  exact ret ⟨rfl,_,_,rfl,rfl⟩
 intro KJ12
 refine block<|res [(0,(sl z2 f3 e4)),(1,(sl z7 f8 e9)),(5,(J 0))] [] ⟨rfl,rfl,rfl,tv⟩ tv ?_
 refine loopF (σ:=Int) (τ:=Unit) (fun i13 _=>True) (fun i13 _ tm os=>⟨updL tm [(0,(sl z2 f3 e4)),(1,(sl z7 f8 e9)),(5,(J i13))],updL os [],s.M⟩) ?_ (x:=(0)) (y:=()) h tv
 clear h
 rintro i13 _ tm os - ee1 h hL1 hR1
 unfold laws_eqOutPushSS_S1 at h
 refine seq<|sr<|q (J i13) ?_
 refine q (sl z2 f3 e4)<|AOps.p rfl (len_eq h5) ?_
 refine q (bool (decide ((i13:Int)<(a1.length:Int))))<|nl ?_
 rcases oite h with ⟨hc14,h⟩ | ⟨hc14,h⟩
 ·refine cT hc14<|skip<|seq<|block<|sr<|q (sl z2 f3 e4) ?_
  refine q (J i13) ?_
  obtain ⟨x15,h16,h⟩:=obind h
  obtain ⟨v19,h17,h18⟩:=idx_sl h5 h16
  obtain ⟨z20,f21,e22,rfl,h23⟩:=h17
  refine pureR rfl rfl rfl h18 rfl (rfl:_=(eptr [(sl z20 f21 e22)] 0))<|lE (sl z20 f21 e22) ?_
  refine q (sl z7 f8 e9) ?_
  refine q (J i13) ?_
  obtain ⟨x24,h25,h⟩:=obind h
  obtain ⟨v28,h26,h27⟩:=idx_sl h10 h25
  obtain ⟨z29,f30,e31,rfl,h32⟩:=h26
  refine pureR rfl rfl rfl h27 rfl (rfl:_=(eptr [(sl z29 f30 e31)] 0))<|lE (sl z29 f30 e31) ?_
  obtain ⟨y33,h34,h⟩:=obind h
  refine lendD (g:=101) (args:=[(sl z20 f21 e22),(sl z29 f30 e31)]) (ps:=[(rL rOutPush 3) x15,(rL rOutPush 3) x24]) (p:=(rB) y33) rfl rfl rfl rfl rfl rfl rfl (.cons (Fin.of (p:=(rL rOutPush 3) x15) (.L fun _=>(.A (.cons .I (.cons .I (.cons .S .nil))))) (⟨_,_,_,rfl,h23⟩)) (.cons (Fin.of (p:=(rL rOutPush 3) x24) (.L fun _=>(.A (.cons .I (.cons .I (.cons .S .nil))))) (⟨_,_,_,rfl,h32⟩)) .nil)) (fun args' hc=>by obtain ⟨_,_,rfl,hv0,hd0⟩:=Cs_cons hc; obtain ⟨z35,f36,e37,rfl,h38⟩:=hv0; obtain ⟨_,_,rfl,hv1,hd1⟩:=Cs_cons hd0; obtain ⟨z39,f40,e41,rfl,h42⟩:=hv1; cases Cs_nil hd1; exact laws_eqOutPushS_okN h38 h42 h34 WF.blind) (fun v n hv=>by cases hv; rfl) (fun v hv=>Nice.pure (k:=FINK) (p:=(rB) y33) .B _ v hv) ?_
  intro _ h43
  cases h43
  refine q (bool (!y33))<|nl ?_
  rcases oite h with ⟨hc44,h⟩ | ⟨hc44,h⟩
  ·refine cT hc44<|sr<|q (bool false)<|nl ?_
   cases h
   have hr:=hR1 _ rfl
   subst hr
   exact ret ⟨rfl,_,_,rfl,rfl⟩
  refine cF hc44<|skip<|inBlock<|region<|q (J i13) ?_
  refine q (J (W (i13+1))) ?_
  refine aq (J (W (i13+1)))<|nl ?_
  cases h
  exact res [(0,(sl z2 f3 e4)),(1,(sl z7 f8 e9)),(5,(J (W (i13+1))))] [] ⟨rfl,rfl,rfl,tv⟩ tv (hL1 _ rfl () _ _ tv)
 refine cF hc14<|exit rfl ?_
 obtain ⟨r45,hm,hx⟩:=omap h
 clear h
 subst hx
 have hx:=hR1 _ rfl
 rw[hx] at hm
 have h:=hm
 exact res [] [] tv tv (KJ12 () _ _ h)
theorem laws_eqOutMove_okN {a1 b2:OutMove} {s:St} {r:Bool} (h:laws_eqOutMove a1 b2=some r) (hs:WF s):ACallN Cf 125 [(agg [(J a1.To),(str a1.Out)]),(agg [(J b2.To),(str b2.Out)])] s fun v _ s'=>(rB) r v∧s'=s:=by
 refine ACallN.pure rfl rfl rfl .B ?_
 have hWF:=hs.lo'
 unfold laws_eqOutMove at h
 refine sr<|makeR rfl rfl rfl rfl rfl rfl (rfl:_=(eptr [(J a1.To),(str a1.Out)] 0))<|makeR rfl rfl rfl rfl rfl rfl (rfl:_=(eptr [(J b2.To),(str b2.Out)] 0))<|q (bool false)<|nl ?_
 refine seq<|sr<|q (eptr [(J a1.To),(str a1.Out)] 0) ?_
 refine lE (J a1.To) ?_
 refine q (eptr [(J b2.To),(str b2.Out)] 0) ?_
 refine lE (J b2.To) ?_
 refine q (bool (a1.To != b2.To))<|nl ?_
 rcases oite h with ⟨hc3,h⟩ | ⟨hc3,h⟩
 ·refine cT hc3<|sr<|q (bool false)<|nl ?_
  cases h
  exact ret ⟨rfl,_,_,rfl,rfl⟩
 refine cF hc3<|skip<|seq<|sr<|q (eptr [(J a1.To),(str a1.Out)] 1) ?_
 refine lE (str a1.Out) ?_
 refine q (eptr [(J b2.To),(str b2.Out)] 1) ?_
 refine lE (str b2.Out) ?_
 refine q (bool (!(a1.Out == b2.Out)))<|nl ?_
 rcases oite h with ⟨hc4,h⟩ | ⟨hc4,h⟩
 ·refine cT hc4<|sr<|q (bool false)<|nl ?_
  cases h
  exact ret ⟨rfl,_,_,rfl,rfl⟩
 refine cF hc4<|skip<|sr<|q (bool true)<|nl ?_
 cases h
 exact ret ⟨rfl,_,_,rfl,rfl⟩
theorem laws_eqOutMoveS_okN {a1 b6:List OutMove} {z2 z7:Nat} {f3 f8:Bool} {e4 e9:List AV} {s:St} (h5:LR rOutMove 2 a1 z2 e4) (h10:LR rOutMove 2 b6 z7 e9) {r:Bool} (h:laws_eqOutMoveS a1 b6=some r) (hs:WF s):ACallN Cf 102 [(sl z2 f3 e4),(sl z7 f8 e9)] s fun v _ s'=>(rB) r v∧s'=s:=by
 refine ACallN.pure rfl rfl rfl .B ?_
 have hWF:=hs.lo'
 unfold laws_eqOutMoveS at h
 refine sr<|q (bool false)<|nl ?_
 refine seq<|sr<|q (sl z2 f3 e4)<|AOps.p rfl (len_eq h5) ?_
 refine q (sl z7 f8 e9)<|AOps.p rfl (len_eq h10) ?_
 refine q (bool ((a1.length:Int) != (b6.length:Int)))<|nl ?_
 rcases oite h with ⟨hc11,h⟩ | ⟨hc11,h⟩
 ·refine cT hc11<|sr<|q (bool false)<|nl ?_
  cases h
  exact ret ⟨rfl,_,_,rfl,rfl⟩
 refine cF hc11<|skip<|seq<|sr<|q (J 0)<|nl ?_
 refine meet (σ:=Unit) (fun _ tm os=>⟨updL tm [],updL os [],s.M⟩) (fun _=>laws_eqOutMoveS_J1=some r) ?_ ?_
 ·rintro _ tm os h
  unfold laws_eqOutMoveS_J1 at h
  refine sr<|q (bool true)<|nl ?_
  cases h
  exact ret ⟨rfl,_,_,rfl,rfl⟩
 intro KJ12
 refine block<|res [(0,(sl z2 f3 e4)),(1,(sl z7 f8 e9)),(5,(J 0))] [] ⟨rfl,rfl,rfl,tv⟩ tv ?_
 refine loopF (σ:=Int) (τ:=Unit) (fun i13 _=>True) (fun i13 _ tm os=>⟨updL tm [(0,(sl z2 f3 e4)),(1,(sl z7 f8 e9)),(5,(J i13))],updL os [],s.M⟩) ?_ (x:=(0)) (y:=()) h tv
 clear h
 rintro i13 _ tm os - ee1 h hL1 hR1
 unfold laws_eqOutMoveS_S1 at h
 refine seq<|sr<|q (J i13) ?_
 refine q (sl z2 f3 e4)<|AOps.p rfl (len_eq h5) ?_
 refine q (bool (decide ((i13:Int)<(a1.length:Int))))<|nl ?_
 rcases oite h with ⟨hc14,h⟩ | ⟨hc14,h⟩
 ·refine cT hc14<|skip<|seq<|block<|sr<|q (sl z2 f3 e4) ?_
  refine q (J i13) ?_
  obtain ⟨x15,h16,h⟩:=obind h
  obtain ⟨v19,h17,h18⟩:=idx_sl h5 h16
  obtain ⟨_,rfl,h20⟩:=h17
  obtain ⟨_,_,rfl,h21,h22⟩:=Cs_cons h20
  cases h21
  obtain ⟨_,_,rfl,h23,h24⟩:=Cs_cons h22
  cases h23
  cases Cs_nil h24
  refine pureR rfl rfl rfl h18 rfl (rfl:_=(eptr [(J x15.To),(str x15.Out)] 0))<|lE (agg [(J x15.To),(str x15.Out)]) ?_
  refine q (sl z7 f8 e9) ?_
  refine q (J i13) ?_
  obtain ⟨x25,h26,h⟩:=obind h
  obtain ⟨v29,h27,h28⟩:=idx_sl h10 h26
  obtain ⟨_,rfl,h30⟩:=h27
  obtain ⟨_,_,rfl,h31,h32⟩:=Cs_cons h30
  cases h31
  obtain ⟨_,_,rfl,h33,h34⟩:=Cs_cons h32
  cases h33
  cases Cs_nil h34
  refine pureR rfl rfl rfl h28 rfl (rfl:_=(eptr [(J x25.To),(str x25.Out)] 0))<|lE (agg [(J x25.To),(str x25.Out)]) ?_
  obtain ⟨y35,h36,h⟩:=obind h
  refine lendD (g:=125) (args:=[(agg [(J x15.To),(str x15.Out)]),(agg [(J x25.To),(str x25.Out)])]) (ps:=[(rOutMove) x15,(rOutMove) x25]) (p:=(rB) y35) rfl rfl rfl rfl rfl rfl rfl (.cons (Fin.of (p:=(rOutMove) x15) (.A (.cons .I (.cons .S .nil))) (⟨_,rfl,(.cons rfl (.cons rfl .nil))⟩)) (.cons (Fin.of (p:=(rOutMove) x25) (.A (.cons .I (.cons .S .nil))) (⟨_,rfl,(.cons rfl (.cons rfl .nil))⟩)) .nil)) (fun args' hc=>by obtain ⟨_,_,rfl,hv0,hd0⟩:=Cs_cons hc; obtain ⟨_,rfl,h37⟩:=hv0; obtain ⟨_,_,rfl,h38,h39⟩:=Cs_cons h37; cases h38; obtain ⟨_,_,rfl,h40,h41⟩:=Cs_cons h39; cases h40; cases Cs_nil h41; obtain ⟨_,_,rfl,hv1,hd1⟩:=Cs_cons hd0; obtain ⟨_,rfl,h42⟩:=hv1; obtain ⟨_,_,rfl,h43,h44⟩:=Cs_cons h42; cases h43; obtain ⟨_,_,rfl,h45,h46⟩:=Cs_cons h44; cases h45; cases Cs_nil h46; cases Cs_nil hd1; exact laws_eqOutMove_okN  h36 WF.blind) (fun v n hv=>by cases hv; rfl) (fun v hv=>Nice.pure (k:=FINK) (p:=(rB) y35) .B _ v hv) ?_
  intro _ h47
  cases h47
  refine q (bool (!y35))<|nl ?_
  rcases oite h with ⟨hc48,h⟩ | ⟨hc48,h⟩
  ·refine cT hc48<|sr<|q (bool false)<|nl ?_
   cases h
   have hr:=hR1 _ rfl
   subst hr
   exact ret ⟨rfl,_,_,rfl,rfl⟩
  refine cF hc48<|skip<|inBlock<|region<|q (J i13) ?_
  refine q (J (W (i13+1))) ?_
  refine aq (J (W (i13+1)))<|nl ?_
  cases h
  exact res [(0,(sl z2 f3 e4)),(1,(sl z7 f8 e9)),(5,(J (W (i13+1))))] [] ⟨rfl,rfl,rfl,tv⟩ tv (hL1 _ rfl () _ _ tv)
 refine cF hc14<|exit rfl ?_
 obtain ⟨r49,hm,hx⟩:=omap h
 clear h
 subst hx
 have hx:=hR1 _ rfl
 rw[hx] at hm
 have h:=hm
 exact res [] [] tv tv (KJ12 () _ _ h)
theorem laws_eqOutMoveSS_okN {a1 b6:List (List OutMove)} {z2 z7:Nat} {f3 f8:Bool} {e4 e9:List AV} {s:St} (h5:LR (rL rOutMove 2) 1 a1 z2 e4) (h10:LR (rL rOutMove 2) 1 b6 z7 e9) {r:Bool} (h:laws_eqOutMoveSS a1 b6=some r) (hs:WF s):ACallN Cf 51 [(sl z2 f3 e4),(sl z7 f8 e9)] s fun v _ s'=>(rB) r v∧s'=s:=by
 refine ACallN.pure rfl rfl rfl .B ?_
 have hWF:=hs.lo'
 unfold laws_eqOutMoveSS at h
 refine sr<|q (bool false)<|nl ?_
 refine seq<|sr<|q (sl z2 f3 e4)<|AOps.p rfl (len_eq h5) ?_
 refine q (sl z7 f8 e9)<|AOps.p rfl (len_eq h10) ?_
 refine q (bool ((a1.length:Int) != (b6.length:Int)))<|nl ?_
 rcases oite h with ⟨hc11,h⟩ | ⟨hc11,h⟩
 ·refine cT hc11<|sr<|q (bool false)<|nl ?_
  cases h
  exact ret ⟨rfl,_,_,rfl,rfl⟩
 refine cF hc11<|skip<|seq<|sr<|q (J 0)<|nl ?_
 refine meet (σ:=Unit) (fun _ tm os=>⟨updL tm [],updL os [],s.M⟩) (fun _=>laws_eqOutMoveSS_J1=some r) ?_ ?_
 ·rintro _ tm os h
  unfold laws_eqOutMoveSS_J1 at h
  refine sr<|q (bool true)<|nl ?_
  cases h
  exact ret ⟨rfl,_,_,rfl,rfl⟩
 intro KJ12
 refine block<|res [(0,(sl z2 f3 e4)),(1,(sl z7 f8 e9)),(5,(J 0))] [] ⟨rfl,rfl,rfl,tv⟩ tv ?_
 refine loopF (σ:=Int) (τ:=Unit) (fun i13 _=>True) (fun i13 _ tm os=>⟨updL tm [(0,(sl z2 f3 e4)),(1,(sl z7 f8 e9)),(5,(J i13))],updL os [],s.M⟩) ?_ (x:=(0)) (y:=()) h tv
 clear h
 rintro i13 _ tm os - ee1 h hL1 hR1
 unfold laws_eqOutMoveSS_S1 at h
 refine seq<|sr<|q (J i13) ?_
 refine q (sl z2 f3 e4)<|AOps.p rfl (len_eq h5) ?_
 refine q (bool (decide ((i13:Int)<(a1.length:Int))))<|nl ?_
 rcases oite h with ⟨hc14,h⟩ | ⟨hc14,h⟩
 ·refine cT hc14<|skip<|seq<|block<|sr<|q (sl z2 f3 e4) ?_
  refine q (J i13) ?_
  obtain ⟨x15,h16,h⟩:=obind h
  obtain ⟨v19,h17,h18⟩:=idx_sl h5 h16
  obtain ⟨z20,f21,e22,rfl,h23⟩:=h17
  refine pureR rfl rfl rfl h18 rfl (rfl:_=(eptr [(sl z20 f21 e22)] 0))<|lE (sl z20 f21 e22) ?_
  refine q (sl z7 f8 e9) ?_
  refine q (J i13) ?_
  obtain ⟨x24,h25,h⟩:=obind h
  obtain ⟨v28,h26,h27⟩:=idx_sl h10 h25
  obtain ⟨z29,f30,e31,rfl,h32⟩:=h26
  refine pureR rfl rfl rfl h27 rfl (rfl:_=(eptr [(sl z29 f30 e31)] 0))<|lE (sl z29 f30 e31) ?_
  obtain ⟨y33,h34,h⟩:=obind h
  refine lendD (g:=102) (args:=[(sl z20 f21 e22),(sl z29 f30 e31)]) (ps:=[(rL rOutMove 2) x15,(rL rOutMove 2) x24]) (p:=(rB) y33) rfl rfl rfl rfl rfl rfl rfl (.cons (Fin.of (p:=(rL rOutMove 2) x15) (.L fun _=>(.A (.cons .I (.cons .S .nil)))) (⟨_,_,_,rfl,h23⟩)) (.cons (Fin.of (p:=(rL rOutMove 2) x24) (.L fun _=>(.A (.cons .I (.cons .S .nil)))) (⟨_,_,_,rfl,h32⟩)) .nil)) (fun args' hc=>by obtain ⟨_,_,rfl,hv0,hd0⟩:=Cs_cons hc; obtain ⟨z35,f36,e37,rfl,h38⟩:=hv0; obtain ⟨_,_,rfl,hv1,hd1⟩:=Cs_cons hd0; obtain ⟨z39,f40,e41,rfl,h42⟩:=hv1; cases Cs_nil hd1; exact laws_eqOutMoveS_okN h38 h42 h34 WF.blind) (fun v n hv=>by cases hv; rfl) (fun v hv=>Nice.pure (k:=FINK) (p:=(rB) y33) .B _ v hv) ?_
  intro _ h43
  cases h43
  refine q (bool (!y33))<|nl ?_
  rcases oite h with ⟨hc44,h⟩ | ⟨hc44,h⟩
  ·refine cT hc44<|sr<|q (bool false)<|nl ?_
   cases h
   have hr:=hR1 _ rfl
   subst hr
   exact ret ⟨rfl,_,_,rfl,rfl⟩
  refine cF hc44<|skip<|inBlock<|region<|q (J i13) ?_
  refine q (J (W (i13+1))) ?_
  refine aq (J (W (i13+1)))<|nl ?_
  cases h
  exact res [(0,(sl z2 f3 e4)),(1,(sl z7 f8 e9)),(5,(J (W (i13+1))))] [] ⟨rfl,rfl,rfl,tv⟩ tv (hL1 _ rfl () _ _ tv)
 refine cF hc14<|exit rfl ?_
 obtain ⟨r45,hm,hx⟩:=omap h
 clear h
 subst hx
 have hx:=hR1 _ rfl
 rw[hx] at hm
 have h:=hm
 exact res [] [] tv tv (KJ12 () _ _ h)
theorem laws_eqOutMoveSSS_okN {a1 b6:List (List (List OutMove))} {z2 z7:Nat} {f3 f8:Bool} {e4 e9:List AV} {s:St} (h5:LR (rL (rL rOutMove 2) 1) 1 a1 z2 e4) (h10:LR (rL (rL rOutMove 2) 1) 1 b6 z7 e9) {r:Bool} (h:laws_eqOutMoveSSS a1 b6=some r) (hs:WF s):ACallN Cf 50 [(sl z2 f3 e4),(sl z7 f8 e9)] s fun v _ s'=>(rB) r v∧s'=s:=by
 refine ACallN.pure rfl rfl rfl .B ?_
 have hWF:=hs.lo'
 unfold laws_eqOutMoveSSS at h
 refine sr<|q (bool false)<|nl ?_
 refine seq<|sr<|q (sl z2 f3 e4)<|AOps.p rfl (len_eq h5) ?_
 refine q (sl z7 f8 e9)<|AOps.p rfl (len_eq h10) ?_
 refine q (bool ((a1.length:Int) != (b6.length:Int)))<|nl ?_
 rcases oite h with ⟨hc11,h⟩ | ⟨hc11,h⟩
 ·refine cT hc11<|sr<|q (bool false)<|nl ?_
  cases h
  exact ret ⟨rfl,_,_,rfl,rfl⟩
 refine cF hc11<|skip<|seq<|sr<|q (J 0)<|nl ?_
 refine meet (σ:=Unit) (fun _ tm os=>⟨updL tm [],updL os [],s.M⟩) (fun _=>laws_eqOutMoveSSS_J1=some r) ?_ ?_
 ·rintro _ tm os h
  unfold laws_eqOutMoveSSS_J1 at h
  refine sr<|q (bool true)<|nl ?_
  cases h
  exact ret ⟨rfl,_,_,rfl,rfl⟩
 intro KJ12
 refine block<|res [(0,(sl z2 f3 e4)),(1,(sl z7 f8 e9)),(5,(J 0))] [] ⟨rfl,rfl,rfl,tv⟩ tv ?_
 refine loopF (σ:=Int) (τ:=Unit) (fun i13 _=>True) (fun i13 _ tm os=>⟨updL tm [(0,(sl z2 f3 e4)),(1,(sl z7 f8 e9)),(5,(J i13))],updL os [],s.M⟩) ?_ (x:=(0)) (y:=()) h tv
 clear h
 rintro i13 _ tm os - ee1 h hL1 hR1
 unfold laws_eqOutMoveSSS_S1 at h
 refine seq<|sr<|q (J i13) ?_
 refine q (sl z2 f3 e4)<|AOps.p rfl (len_eq h5) ?_
 refine q (bool (decide ((i13:Int)<(a1.length:Int))))<|nl ?_
 rcases oite h with ⟨hc14,h⟩ | ⟨hc14,h⟩
 ·refine cT hc14<|skip<|seq<|block<|sr<|q (sl z2 f3 e4) ?_
  refine q (J i13) ?_
  obtain ⟨x15,h16,h⟩:=obind h
  obtain ⟨v19,h17,h18⟩:=idx_sl h5 h16
  obtain ⟨z20,f21,e22,rfl,h23⟩:=h17
  refine pureR rfl rfl rfl h18 rfl (rfl:_=(eptr [(sl z20 f21 e22)] 0))<|lE (sl z20 f21 e22) ?_
  refine q (sl z7 f8 e9) ?_
  refine q (J i13) ?_
  obtain ⟨x24,h25,h⟩:=obind h
  obtain ⟨v28,h26,h27⟩:=idx_sl h10 h25
  obtain ⟨z29,f30,e31,rfl,h32⟩:=h26
  refine pureR rfl rfl rfl h27 rfl (rfl:_=(eptr [(sl z29 f30 e31)] 0))<|lE (sl z29 f30 e31) ?_
  obtain ⟨y33,h34,h⟩:=obind h
  refine lendD (g:=51) (args:=[(sl z20 f21 e22),(sl z29 f30 e31)]) (ps:=[(rL (rL rOutMove 2) 1) x15,(rL (rL rOutMove 2) 1) x24]) (p:=(rB) y33) rfl rfl rfl rfl rfl rfl rfl (.cons (Fin.of (p:=(rL (rL rOutMove 2) 1) x15) (.L fun _=>(.L fun _=>(.A (.cons .I (.cons .S .nil))))) (⟨_,_,_,rfl,h23⟩)) (.cons (Fin.of (p:=(rL (rL rOutMove 2) 1) x24) (.L fun _=>(.L fun _=>(.A (.cons .I (.cons .S .nil))))) (⟨_,_,_,rfl,h32⟩)) .nil)) (fun args' hc=>by obtain ⟨_,_,rfl,hv0,hd0⟩:=Cs_cons hc; obtain ⟨z35,f36,e37,rfl,h38⟩:=hv0; obtain ⟨_,_,rfl,hv1,hd1⟩:=Cs_cons hd0; obtain ⟨z39,f40,e41,rfl,h42⟩:=hv1; cases Cs_nil hd1; exact laws_eqOutMoveSS_okN h38 h42 h34 WF.blind) (fun v n hv=>by cases hv; rfl) (fun v hv=>Nice.pure (k:=FINK) (p:=(rB) y33) .B _ v hv) ?_
  intro _ h43
  cases h43
  refine q (bool (!y33))<|nl ?_
  rcases oite h with ⟨hc44,h⟩ | ⟨hc44,h⟩
  ·refine cT hc44<|sr<|q (bool false)<|nl ?_
   cases h
   have hr:=hR1 _ rfl
   subst hr
   exact ret ⟨rfl,_,_,rfl,rfl⟩
  refine cF hc44<|skip<|inBlock<|region<|q (J i13) ?_
  refine q (J (W (i13+1))) ?_
  refine aq (J (W (i13+1)))<|nl ?_
  cases h
  exact res [(0,(sl z2 f3 e4)),(1,(sl z7 f8 e9)),(5,(J (W (i13+1))))] [] ⟨rfl,rfl,rfl,tv⟩ tv (hL1 _ rfl () _ _ tv)
 refine cF hc14<|exit rfl ?_
 obtain ⟨r45,hm,hx⟩:=omap h
 clear h
 subst hx
 have hx:=hR1 _ rfl
 rw[hx] at hm
 have h:=hm
 exact res [] [] tv tv (KJ12 () _ _ h)
theorem laws_eqRewriter_okN {a1 b14:Rewriter} {z2 z6 z10 z15 z19 z23:Nat} {f3 f7 f11 f16 f20 f24:Bool} {e4 e8 e12 e17 e21 e25:List AV} {s:St} (h5:LR (rL rOutPush 3) 1 a1.Call z2 e4) (h9:LR (rL (rL rOutMove 2) 1) 1 a1.Return z6 e8) (h13:LR (rL rOutMove 2) 1 a1.Inner z10 e12) (h18:LR (rL rOutPush 3) 1 b14.Call z15 e17) (h22:LR (rL (rL rOutMove 2) 1) 1 b14.Return z19 e21) (h26:LR (rL rOutMove 2) 1 b14.Inner z23 e25) {r:Bool} (h:laws_eqRewriter a1 b14=some r) (hs:WF s):ACallN Cf 11 [(agg [(J a1.Stack),(J a1.Start),(sl z2 f3 e4),(sl z6 f7 e8),(sl z10 f11 e12)]),(agg [(J b14.Stack),(J b14.Start),(sl z15 f16 e17),(sl z19 f20 e21),(sl z23 f24 e25)])] s fun v _ s'=>(rB) r v∧s'=s:=by
 refine ACallN.pure rfl rfl rfl .B ?_
 have hWF:=hs.lo'
 unfold laws_eqRewriter at h
 refine sr ?_
 refine makeR rfl rfl rfl rfl rfl rfl (rfl:_=(eptr [(J a1.Stack),(J a1.Start),(sl z2 f3 e4),(sl z6 f7 e8),(sl z10 f11 e12)] 0)) ?_
 refine makeR rfl rfl rfl rfl rfl rfl (rfl:_=(eptr [(J b14.Stack),(J b14.Start),(sl z15 f16 e17),(sl z19 f20 e21),(sl z23 f24 e25)] 0)) ?_
 refine q (bool false) ?_
 refine nl ?_
 refine seq ?_
 refine sr ?_
 refine q (eptr [(J a1.Stack),(J a1.Start),(sl z2 f3 e4),(sl z6 f7 e8),(sl z10 f11 e12)] 0) ?_
 refine lE (J a1.Stack) ?_
 refine q (eptr [(J b14.Stack),(J b14.Start),(sl z15 f16 e17),(sl z19 f20 e21),(sl z23 f24 e25)] 0) ?_
 refine lE (J b14.Stack) ?_
 refine q (bool (a1.Stack != b14.Stack)) ?_
 refine nl ?_
 rcases oite h with ⟨hc27,h⟩ | ⟨hc27,h⟩
 ·refine cT hc27 ?_
  refine sr ?_
  refine q (bool false) ?_
  refine nl ?_
  cases h
  exact ret ⟨rfl,_,_,rfl,rfl⟩
 refine cF hc27 ?_
 refine skip ?_
 refine seq ?_
 refine sr ?_
 refine q (eptr [(J a1.Stack),(J a1.Start),(sl z2 f3 e4),(sl z6 f7 e8),(sl z10 f11 e12)] 1) ?_
 refine lE (J a1.Start) ?_
 refine q (eptr [(J b14.Stack),(J b14.Start),(sl z15 f16 e17),(sl z19 f20 e21),(sl z23 f24 e25)] 1) ?_
 refine lE (J b14.Start) ?_
 refine q (bool (a1.Start != b14.Start)) ?_
 refine nl ?_
 rcases oite h with ⟨hc28,h⟩ | ⟨hc28,h⟩
 ·refine cT hc28 ?_
  refine sr ?_
  refine q (bool false) ?_
  refine nl ?_
  cases h
  exact ret ⟨rfl,_,_,rfl,rfl⟩
 refine cF hc28 ?_
 refine skip ?_
 refine seq ?_
 refine sr ?_
 refine q (eptr [(J a1.Stack),(J a1.Start),(sl z2 f3 e4),(sl z6 f7 e8),(sl z10 f11 e12)] 2) ?_
 refine lE (sl z2 f3 e4) ?_
 refine q (eptr [(J b14.Stack),(J b14.Start),(sl z15 f16 e17),(sl z19 f20 e21),(sl z23 f24 e25)] 2) ?_
 refine lE (sl z15 f16 e17) ?_
 obtain ⟨y29,h30,h⟩:=obind h
 refine lendP (g:=49) (args:=[(sl z2 f3 e4),(sl z15 f16 e17)]) (ps:=[(rL (rL rOutPush 3) 1) a1.Call,(rL (rL rOutPush 3) 1) b14.Call]) (p:=(rB) y29) rfl rfl rfl rfl rfl rfl rfl (.cons (Fin.of (p:=(rL (rL rOutPush 3) 1) a1.Call) (.L fun _=>(.L fun _=>(.A (.cons .I (.cons .I (.cons .S .nil)))))) (⟨_,_,_,rfl,h5⟩)) (.cons (Fin.of (p:=(rL (rL rOutPush 3) 1) b14.Call) (.L fun _=>(.L fun _=>(.A (.cons .I (.cons .I (.cons .S .nil)))))) (⟨_,_,_,rfl,h18⟩)) .nil)) (fun args' hc=>by obtain ⟨_,_,rfl,hv0,hd0⟩:=Cs_cons hc; obtain ⟨z31,f32,e33,rfl,h34⟩:=hv0; obtain ⟨_,_,rfl,hv1,hd1⟩:=Cs_cons hd0; obtain ⟨z35,f36,e37,rfl,h38⟩:=hv1; cases Cs_nil hd1; exact laws_eqOutPushSS_okN h34 h38 h30 WF.blind) (fun v n hv=>by cases hv; rfl) ?_
 intro _ h39
 cases h39
 refine q (bool (!y29)) ?_
 refine nl ?_
 rcases oite h with ⟨hc40,h⟩ | ⟨hc40,h⟩
 ·refine cT hc40 ?_
  refine sr ?_
  refine q (bool false) ?_
  refine nl ?_
  cases h
  exact ret ⟨rfl,_,_,rfl,rfl⟩
 refine cF hc40 ?_
 refine skip ?_
 refine seq ?_
 refine sr ?_
 refine q (eptr [(J a1.Stack),(J a1.Start),(sl z2 f3 e4),(sl z6 f7 e8),(sl z10 f11 e12)] 3) ?_
 refine lE (sl z6 f7 e8) ?_
 refine q (eptr [(J b14.Stack),(J b14.Start),(sl z15 f16 e17),(sl z19 f20 e21),(sl z23 f24 e25)] 3) ?_
 refine lE (sl z19 f20 e21) ?_
 obtain ⟨y41,h42,h⟩:=obind h
 refine lendP (g:=50) (args:=[(sl z6 f7 e8),(sl z19 f20 e21)]) (ps:=[(rL (rL (rL rOutMove 2) 1) 1) a1.Return,(rL (rL (rL rOutMove 2) 1) 1) b14.Return]) (p:=(rB) y41) rfl rfl rfl rfl rfl rfl rfl (.cons (Fin.of (p:=(rL (rL (rL rOutMove 2) 1) 1) a1.Return) (.L fun _=>(.L fun _=>(.L fun _=>(.A (.cons .I (.cons .S .nil)))))) (⟨_,_,_,rfl,h9⟩)) (.cons (Fin.of (p:=(rL (rL (rL rOutMove 2) 1) 1) b14.Return) (.L fun _=>(.L fun _=>(.L fun _=>(.A (.cons .I (.cons .S .nil)))))) (⟨_,_,_,rfl,h22⟩)) .nil)) (fun args' hc=>by obtain ⟨_,_,rfl,hv0,hd0⟩:=Cs_cons hc; obtain ⟨z43,f44,e45,rfl,h46⟩:=hv0; obtain ⟨_,_,rfl,hv1,hd1⟩:=Cs_cons hd0; obtain ⟨z47,f48,e49,rfl,h50⟩:=hv1; cases Cs_nil hd1; exact laws_eqOutMoveSSS_okN h46 h50 h42 WF.blind) (fun v n hv=>by cases hv; rfl) ?_
 intro _ h51
 cases h51
 refine q (bool (!y41)) ?_
 refine nl ?_
 rcases oite h with ⟨hc52,h⟩ | ⟨hc52,h⟩
 ·refine cT hc52 ?_
  refine sr ?_
  refine q (bool false) ?_
  refine nl ?_
  cases h
  exact ret ⟨rfl,_,_,rfl,rfl⟩
 refine cF hc52 ?_
 refine skip ?_
 refine seq ?_
 refine sr ?_
 refine q (eptr [(J a1.Stack),(J a1.Start),(sl z2 f3 e4),(sl z6 f7 e8),(sl z10 f11 e12)] 4) ?_
 refine lE (sl z10 f11 e12) ?_
 refine q (eptr [(J b14.Stack),(J b14.Start),(sl z15 f16 e17),(sl z19 f20 e21),(sl z23 f24 e25)] 4) ?_
 refine lE (sl z23 f24 e25) ?_
 obtain ⟨y53,h54,h⟩:=obind h
 refine lendP (g:=51) (args:=[(sl z10 f11 e12),(sl z23 f24 e25)]) (ps:=[(rL (rL rOutMove 2) 1) a1.Inner,(rL (rL rOutMove 2) 1) b14.Inner]) (p:=(rB) y53) rfl rfl rfl rfl rfl rfl rfl (.cons (Fin.of (p:=(rL (rL rOutMove 2) 1) a1.Inner) (.L fun _=>(.L fun _=>(.A (.cons .I (.cons .S .nil))))) (⟨_,_,_,rfl,h13⟩)) (.cons (Fin.of (p:=(rL (rL rOutMove 2) 1) b14.Inner) (.L fun _=>(.L fun _=>(.A (.cons .I (.cons .S .nil))))) (⟨_,_,_,rfl,h26⟩)) .nil)) (fun args' hc=>by obtain ⟨_,_,rfl,hv0,hd0⟩:=Cs_cons hc; obtain ⟨z55,f56,e57,rfl,h58⟩:=hv0; obtain ⟨_,_,rfl,hv1,hd1⟩:=Cs_cons hd0; obtain ⟨z59,f60,e61,rfl,h62⟩:=hv1; cases Cs_nil hd1; exact laws_eqOutMoveSS_okN h58 h62 h54 WF.blind) (fun v n hv=>by cases hv; rfl) ?_
 intro _ h63
 cases h63
 refine q (bool (!y53)) ?_
 refine nl ?_
 rcases oite h with ⟨hc64,h⟩ | ⟨hc64,h⟩
 ·refine cT hc64 ?_
  refine sr ?_
  refine q (bool false) ?_
  refine nl ?_
  cases h
  exact ret ⟨rfl,_,_,rfl,rfl⟩
 refine cF hc64 ?_
 refine skip ?_
 refine sr ?_
 refine q (bool true) ?_
 refine nl ?_
 cases h
 exact ret ⟨rfl,_,_,rfl,rfl⟩
theorem laws_markText_ok {k1:Int} {s:St} {r:(List UInt8)} (h:laws_markText k1=some r) (hs:WF s):ACall Cf 126 [(J k1)] s fun v _ s'=>(rS) r v∧s'=s:=by
 refine ACall.pure rfl rfl rfl .S ?_
 have hWF:=hs.lo'
 unfold laws_markText at h
 refine sr<|q (str ([]:List UInt8))<|nl ?_
 refine seq<|sr<|q (J k1) ?_
 refine q (bool (decide ((k1:Int)≤0)))<|nl ?_
 rcases oite h with ⟨hc2,h⟩ | ⟨hc2,h⟩
 ·refine cT hc2<|sr<|q (str ([109,48]:List UInt8))<|nl ?_
  cases h
  exact ret ⟨rfl,_,_,rfl,rfl⟩
 refine cF hc2<|skip<|sr<|q (str ([]:List UInt8))<|nl ?_
 refine seq ?_
 refine meet (σ:=(List UInt8)) (fun out3 tm os=>⟨updL tm [(3,(str out3))],updL os [],s.M⟩) (fun out3=>laws_markText_J1 out3=some r) ?_ ?_
 ·rintro out3 tm os h
  unfold laws_markText_J1 at h
  refine sr<|q (str out3) ?_
  obtain ⟨w5,h6,h⟩:=obind h
  refine pureR rfl rfl rfl (add_str h6) rfl (rfl:_=(str w5))<|aq (str w5)<|nl ?_
  cases h
  exact ret ⟨rfl,_,_,rfl,rfl⟩
 intro KJ4
 refine block<|res [(0,(J k1)),(3,(str ([]:List UInt8)))] [] ⟨rfl,rfl,tv⟩ tv ?_
 refine loopF (σ:=Int × (List UInt8)) (τ:=Unit) (fun (k7,out8) _=>True) (fun (k7,out8) _ tm os=>⟨updL tm [(0,(J k7)),(3,(str out8))],updL os [],s.M⟩) ?_ (x:=(k1,([]:List UInt8))) (y:=()) h tv
 clear h
 rintro ⟨k7,out8⟩ _ tm os - ee1 h hL1 hR1
 unfold laws_markText_S1 at h
 dsimp only at h
 refine seq<|sr<|q (J k7) ?_
 refine q (bool (decide ((k7:Int)>0)))<|nl ?_
 rcases oite h with ⟨hc9,h⟩ | ⟨hc9,h⟩
 ·refine cT hc9<|skip<|block<|sr<|q (J k7) ?_
  obtain ⟨q10,h11,h⟩:=obind h
  refine pureR rfl rfl rfl (rem_ok h11) rfl (rfl:_=(J q10))<|q (J (W (48+q10))) ?_
  refine q (int .u8 (IntKind.wrap .u8 (W (48+q10))))<|makeR rfl rfl rfl rfl rfl rfl (rfl:_=(sl 1 true [(int .u8 (IntKind.wrap .u8 (W (48+q10))))]))<|pureR rfl rfl rfl (bytes_str (l:=([IntKind.wrap .u8 (W (48+q10))]:List Int)) (z:=1) (e:=[(int .u8 (IntKind.wrap .u8 (W (48+q10))))]) (LR.lit (r:=rI .u8) (sz:=1) (.cons rfl .nil))) rfl (rfl:_=(str (bytesOf ([IntKind.wrap .u8 (W (48+q10))]:List Int)))) ?_
  refine q (str out8) ?_
  obtain ⟨w12,h13,h⟩:=obind h
  refine pureR rfl rfl rfl (add_str h13) rfl (rfl:_=(str w12))<|aq (str w12)<|nl ?_
  refine region<|q (J k7) ?_
  obtain ⟨q14,h15,h⟩:=obind h
  refine pureR rfl rfl rfl (quo_ok h15) rfl (rfl:_=(J q14))<|aq (J q14)<|nl ?_
  refine inBlock ?_
  cases h
  exact res [(0,(J q14)),(3,(str w12))] [] ⟨rfl,rfl,tv⟩ tv (hL1 _ rfl () _ _ tv)
 refine cF hc9<|exit rfl ?_
 obtain ⟨r16,hm,hx⟩:=omap h
 clear h
 subst hx
 have hx:=hR1 _ rfl
 rw[hx] at hm
 have h:=hm
 exact res [(3,(str out8))] [] ⟨rfl,tv⟩ tv (KJ4 (out8) _ _ h)
theorem laws_markOutPushS_K10_ok {a4:List OutPush} {k5:Int} {h1:AV} {k2:KT} {s:St} (ho3:h1.one=true) {ex:List Nat} {Ls0:List (List BX)} (hH0:HS ex true s s (([]:List BX)++Ls0.flatten)) (hG0:AllG [OS oE66 h1 k2 a4] Ls0) (hl:LoOK ex true s) {r:Int × (List OutPush)} (h:laws_markOutPushS_K10 a4 k5=some r) (hs:WF s):ACall Cf 103 [h1,(J k5)] s (fun v _ s'=>∃ (Ls':List (List BX)),v=(J r.1)∧HS ex true s s' (([]:List BX)++Ls'.flatten)∧AllG [OS oE66 h1 k2 r.2] Ls') true:=by
 refine ACall.keepR rfl rfl rfl ?_
 unfold laws_markOutPushS_K10 at h
 refine sr<|q (J 0)<|nl ?_
 refine seq<|sr<|q (J 0)<|nl ?_
 refine meet (σ:=(List OutPush) × Int × St × (List (List BX))) (fun (m6,k7,s8,Ls9) tm os=>⟨updL tm [(1,(J k7))],updL os [],s8⟩) (fun (m6,k7,s8,Ls9)=>(HS ex true s s8 (([]:List BX)++Ls9.flatten))∧(AllG [OS oE66 h1 k2 m6] Ls9)∧laws_markOutPushS_K10_J1 m6 k7=some r) ?_ ?_
 ·rintro ⟨m6,k7,s8,Ls9⟩ tm os ⟨hH10,hG11,h⟩
  unfold laws_markOutPushS_K10_J1 at h
  refine sr<|q (J k7) ?_
  refine aq (J k7)<|nl ?_
  cases h
  exact ret ⟨_,_,rfl,⟨Ls9,rfl,hH10,hG11⟩⟩
 intro KJ12
 refine block<|res [(0,h1),(1,(J k5)),(5,(J 0))] [] ⟨rfl,rfl,rfl,tv⟩ tv ?_
 refine loopF (σ:=(List OutPush) × Int × Int) (τ:=St × (List (List BX))) (fun (m13,k14,i15) (s16,Ls17)=>(HS ex true s s16 (([]:List BX)++Ls17.flatten))∧(AllG [OS oE66 h1 k2 m13] Ls17)) (fun (m13,k14,i15) (s16,Ls17) tm os=>⟨updL tm [(0,h1),(1,(J k14)),(5,(J i15))],updL os [],s16⟩) ?_ (x:=(a4,k5,0)) (y:=(s,Ls0)) h ⟨hH0,hG0⟩
 clear h
 rintro ⟨m13,k14,i15⟩ ⟨s16,Ls17⟩ tm os ⟨hH18,hG19⟩ ee1 h hL1 hR1
 unfold laws_markOutPushS_K10_S1 at h
 dsimp only at h
 refine seq<|sr<|q (J i15) ?_
 refine q h1<|lenO (j:=0) hG19 rfl Sub.here rfl rfl rfl rfl rfl ?_
 refine q (bool (decide ((i15:Int)<(m13.length:Int))))<|nl ?_
 rcases oite h with ⟨hc20,h⟩ | ⟨hc20,h⟩
 ·refine cT hc20<|skip<|seq<|block<|sr<|q h1 ?_
  refine q (J i15) ?_
  refine q (J k14) ?_
  obtain ⟨x23,h24,h⟩:=obind h
  refine idxO (j:=0) hG19 rfl Sub.here h24 rfl rfl rfl rfl rfl rfl rfl rfl rfl ?_
  intro b21 hb22
  refine q (ptr b21 (0+Int.toNat i15*3)) ?_
  refine stO (j:=0) (q:=0) (v:=(J k14)) (y':=({ x23 with To:=k14 }:OutPush)) hH18 hG19 hl rfl Sub.here h24 hb22 rfl rfl rfl rfl rfl rfl rfl rfl (lt_b rfl) (le_b rfl) rfl (fun c B hc=>by obtain ⟨⟨_,hr,rfl⟩,rfl⟩:=hc; obtain ⟨_,rfl,h29⟩:=hr; obtain ⟨_,_,rfl,h30,h31⟩:=Cs_cons h29; cases h30; obtain ⟨_,_,rfl,h32,h33⟩:=Cs_cons h31; cases h32; obtain ⟨_,_,rfl,h34,h35⟩:=Cs_cons h33; cases h34; cases Cs_nil h35; exact ⟨⟨(agg [(J k14),(J x23.Put),(str x23.Out)]),⟨_,rfl,(.cons rfl (.cons rfl (.cons rfl .nil)))⟩,rfl⟩,rfl⟩) ?_
  intro Ls25 s26 hG27 hH28
  refine ns<|q (J k14) ?_
  refine q (J (W (k14+1))) ?_
  refine aq (J (W (k14+1)))<|ns ?_
  refine q h1 ?_
  refine q (J i15) ?_
  refine q (J (W (k14+1)))<|idxO (j:=0) hG27 rfl Sub.here (ix_set h24) rfl rfl rfl rfl rfl rfl rfl rfl rfl ?_
  intro b36 hb37
  refine q (ptr b36 (0+Int.toNat i15*3+1)) ?_
  refine stO (j:=0) (q:=1) (v:=(J (W (k14+1)))) (y':=({ ({ x23 with To:=k14 }:OutPush) with Put:=W (k14+1) }:OutPush)) hH28 hG27 hl rfl Sub.here (ix_set h24) hb37 rfl rfl rfl rfl rfl rfl rfl rfl (lt_b rfl) (le_b rfl) rfl (fun c B hc=>by obtain ⟨⟨_,hr,rfl⟩,rfl⟩:=hc; obtain ⟨_,rfl,h42⟩:=hr; obtain ⟨_,_,rfl,h43,h44⟩:=Cs_cons h42; cases h43; obtain ⟨_,_,rfl,h45,h46⟩:=Cs_cons h44; cases h45; obtain ⟨_,_,rfl,h47,h48⟩:=Cs_cons h46; cases h47; cases Cs_nil h48; exact ⟨⟨(agg [(J (({ x23 with To:=k14 }:OutPush).To)),(J (W (k14+1))),(str (({ x23 with To:=k14 }:OutPush).Out))]),⟨_,rfl,(.cons rfl (.cons rfl (.cons rfl .nil)))⟩,rfl⟩,rfl⟩) ?_
  intro Ls38 s39 hG40 hH41
  refine ns<|q (J (W (k14+1))) ?_
  refine q (J (W ((W (k14+1))+1))) ?_
  refine aq (J (W ((W (k14+1))+1)))<|ns ?_
  refine q h1 ?_
  refine q (J i15) ?_
  refine q (J (W ((W (k14+1))+1))) ?_
  obtain ⟨y49,h50,h⟩:=obind h
  refine cP (laws_markText_ok  h50 (wf' hH41)) ?_
  intro _ o52 h51
  cases h51
  refine idxO (j:=0) hG40 rfl Sub.here (ix_set (ix_set h24)) rfl rfl rfl rfl rfl rfl rfl rfl rfl ?_
  intro b53 hb54
  refine q (ptr b53 (0+Int.toNat i15*3+2)) ?_
  refine stO (j:=0) (q:=2) (v:=(str y49)) (y':=({ ({ ({ x23 with To:=k14 }:OutPush) with Put:=W (k14+1) }:OutPush) with Out:=y49 }:OutPush)) hH41 hG40 hl rfl Sub.here (ix_set (ix_set h24)) hb54 rfl rfl rfl rfl rfl rfl rfl rfl (lt_b rfl) (le_b rfl) rfl (fun c B hc=>by obtain ⟨⟨_,hr,rfl⟩,rfl⟩:=hc; obtain ⟨_,rfl,h59⟩:=hr; obtain ⟨_,_,rfl,h60,h61⟩:=Cs_cons h59; cases h60; obtain ⟨_,_,rfl,h62,h63⟩:=Cs_cons h61; cases h62; obtain ⟨_,_,rfl,h64,h65⟩:=Cs_cons h63; cases h64; cases Cs_nil h65; exact ⟨⟨(agg [(J (({ ({ x23 with To:=k14 }:OutPush) with Put:=W (k14+1) }:OutPush).To)),(J (({ ({ x23 with To:=k14 }:OutPush) with Put:=W (k14+1) }:OutPush).Put)),(str y49)]),⟨_,rfl,(.cons rfl (.cons rfl (.cons rfl .nil)))⟩,rfl⟩,rfl⟩) ?_
  intro Ls55 s56 hG57 hH58
  refine nl<|region<|q (J (W ((W (k14+1))+1))) ?_
  refine q (J (W ((W ((W (k14+1))+1))+1))) ?_
  refine aq (J (W ((W ((W (k14+1))+1))+1)))<|nl ?_
  refine inBlock<|region<|q (J i15) ?_
  refine q (J (W (i15+1))) ?_
  refine aq (J (W (i15+1)))<|nl ?_
  cases h
  exact res [(0,h1),(1,(J (W ((W ((W (k14+1))+1))+1)))),(5,(J (W (i15+1))))] [] ⟨rfl,rfl,rfl,tv⟩ tv (hL1 _ rfl (s56,Ls55) _ _ ⟨hH58,hG57⟩)
 refine cF hc20<|exit rfl ?_
 obtain ⟨r66,hm,hx⟩:=omap h
 clear h
 subst hx
 have hx:=hR1 _ rfl
 rw[hx] at hm
 have h:=hm
 exact res [(1,(J k14))] [] ⟨rfl,tv⟩ tv (KJ12 (m13,k14,s16,Ls17) _ _ ⟨hH18,hG19,h⟩)
theorem laws_markOutPushSS_K10_ok {a4:List (List OutPush)} {k5:Int} {h1:AV} {k2:KT} {s:St} (ho3:h1.one=true) {ex:List Nat} {Ls0:List (List BX)} (hH0:HS ex true s s (([]:List BX)++Ls0.flatten)) (hG0:AllG [OS oE67 h1 k2 a4] Ls0) (hl:LoOK ex true s) {r:Int × (List (List OutPush))} (h:laws_markOutPushSS_K10 a4 k5=some r) (hs:WF s):ACall Cf 52 [h1,(J k5)] s (fun v _ s'=>∃ (Ls':List (List BX)),v=(J r.1)∧HS ex true s s' (([]:List BX)++Ls'.flatten)∧AllG [OS oE67 h1 k2 r.2] Ls') true:=by
 refine ACall.keepR rfl rfl rfl ?_
 unfold laws_markOutPushSS_K10 at h
 refine sr<|q (J 0)<|nl ?_
 refine seq<|sr<|q (J 0)<|nl ?_
 refine meet (σ:=(List (List OutPush)) × Int × St × (List (List BX))) (fun (m6,k7,s8,Ls9) tm os=>⟨updL tm [(1,(J k7))],updL os [],s8⟩) (fun (m6,k7,s8,Ls9)=>(HS ex true s s8 (([]:List BX)++Ls9.flatten))∧(AllG [OS oE67 h1 k2 m6] Ls9)∧laws_markOutPushSS_K10_J1 m6 k7=some r) ?_ ?_
 ·rintro ⟨m6,k7,s8,Ls9⟩ tm os ⟨hH10,hG11,h⟩
  unfold laws_markOutPushSS_K10_J1 at h
  refine sr<|q (J k7) ?_
  refine aq (J k7)<|nl ?_
  cases h
  exact ret ⟨_,_,rfl,⟨Ls9,rfl,hH10,hG11⟩⟩
 intro KJ12
 refine block<|res [(0,h1),(1,(J k5)),(5,(J 0))] [] ⟨rfl,rfl,rfl,tv⟩ tv ?_
 refine loopF (σ:=(List (List OutPush)) × Int × Int) (τ:=St × (List (List BX))) (fun (m13,k14,i15) (s16,Ls17)=>(HS ex true s s16 (([]:List BX)++Ls17.flatten))∧(AllG [OS oE67 h1 k2 m13] Ls17)) (fun (m13,k14,i15) (s16,Ls17) tm os=>⟨updL tm [(0,h1),(1,(J k14)),(5,(J i15))],updL os [],s16⟩) ?_ (x:=(a4,k5,0)) (y:=(s,Ls0)) h ⟨hH0,hG0⟩
 clear h
 rintro ⟨m13,k14,i15⟩ ⟨s16,Ls17⟩ tm os ⟨hH18,hG19⟩ ee1 h hL1 hR1
 unfold laws_markOutPushSS_K10_S1 at h
 dsimp only at h
 refine seq<|sr<|q (J i15) ?_
 refine q h1<|lenO (j:=0) hG19 rfl Sub.here rfl rfl rfl rfl rfl ?_
 refine q (bool (decide ((i15:Int)<(m13.length:Int))))<|nl ?_
 rcases oite h with ⟨hc20,h⟩ | ⟨hc20,h⟩
 ·refine cT hc20<|skip<|seq<|block<|region<|q h1 ?_
  refine q (J i15) ?_
  obtain ⟨x23,h24,h⟩:=obind h
  refine idxO (j:=0) hG19 rfl Sub.here h24 rfl rfl rfl rfl rfl rfl rfl rfl rfl ?_
  intro b21 hb22
  refine AOps.ldO (j:=0) (q:=0) hH18 hG19 rfl Sub.here h24 hb22 rfl rfl rfl rfl rfl (lt_b rfl) (le_b rfl) rfl rfl ?_ (fun c B hc=>by obtain ⟨rfl,_⟩:=hc; exact ⟨_,rfl⟩)
  intro c25 B26 v27 h28 h29
  obtain ⟨rfl,_⟩:=h28
  cases h29
  refine q (J k14) ?_
  obtain ⟨y30,h31,h⟩:=obind h
  have hP32:=pop0 hH18
  have hF0:AllG ([]:List (List BX→Prop)) []:=AllG.nil
  obtain ⟨Ls33,Lf34,hG35,hF36,hP37⟩:=HS.popS hP32 hG19 hF0 (j:=0) rfl (Sub.down Sub.here h24)
  refine callF (al:=true) (g:=103) (args:=[((KT.at k2 (Int.toNat i15)) []),(J k14)]) rfl rfl rfl (laws_markOutPushS_K10_ok (Sub.one hG19 (j:=0) rfl (Sub.down Sub.here h24)) (enterK hP37) hF36 (enterLo hP37 hl) h31 (wf' hH18)) ?_
  rintro _ _ s38 ⟨Ls40,rfl,hH41,hG42⟩
  have hJ43:=joinK hP37 hH41
  obtain ⟨Ls44,Lf45,hG46,hF47,hP48⟩:=HS.pushS hJ43 hG35 hG42 (j:=0) rfl
  cases hF47
  have hH49:=push0 hP48
  refine aq (J y30.1)<|nl ?_
  refine inBlock<|region<|q (J i15) ?_
  refine q (J (W (i15+1))) ?_
  refine aq (J (W (i15+1)))<|nl ?_
  cases h
  exact res [(0,h1),(1,(J y30.1)),(5,(J (W (i15+1))))] [] ⟨rfl,rfl,rfl,tv⟩ tv (hL1 _ rfl (s38,Ls44) _ _ ⟨hH49,hG46⟩)
 refine cF hc20<|exit rfl ?_
 obtain ⟨r50,hm,hx⟩:=omap h
 clear h
 subst hx
 have hx:=hR1 _ rfl
 rw[hx] at hm
 have h:=hm
 exact res [(1,(J k14))] [] ⟨rfl,tv⟩ tv (KJ12 (m13,k14,s16,Ls17) _ _ ⟨hH18,hG19,h⟩)
theorem laws_markOutMoveS_K10_ok {a4:List OutMove} {k5:Int} {h1:AV} {k2:KT} {s:St} (ho3:h1.one=true) {ex:List Nat} {Ls0:List (List BX)} (hH0:HS ex true s s (([]:List BX)++Ls0.flatten)) (hG0:AllG [OS oE73 h1 k2 a4] Ls0) (hl:LoOK ex true s) {r:Int × (List OutMove)} (h:laws_markOutMoveS_K10 a4 k5=some r) (hs:WF s):ACall Cf 104 [h1,(J k5)] s (fun v _ s'=>∃ (Ls':List (List BX)),v=(J r.1)∧HS ex true s s' (([]:List BX)++Ls'.flatten)∧AllG [OS oE73 h1 k2 r.2] Ls') true:=by
 refine ACall.keepR rfl rfl rfl ?_
 unfold laws_markOutMoveS_K10 at h
 refine sr<|q (J 0)<|nl ?_
 refine seq<|sr<|q (J 0)<|nl ?_
 refine meet (σ:=(List OutMove) × Int × St × (List (List BX))) (fun (m6,k7,s8,Ls9) tm os=>⟨updL tm [(1,(J k7))],updL os [],s8⟩) (fun (m6,k7,s8,Ls9)=>(HS ex true s s8 (([]:List BX)++Ls9.flatten))∧(AllG [OS oE73 h1 k2 m6] Ls9)∧laws_markOutMoveS_K10_J1 m6 k7=some r) ?_ ?_
 ·rintro ⟨m6,k7,s8,Ls9⟩ tm os ⟨hH10,hG11,h⟩
  unfold laws_markOutMoveS_K10_J1 at h
  refine sr<|q (J k7) ?_
  refine aq (J k7)<|nl ?_
  cases h
  exact ret ⟨_,_,rfl,⟨Ls9,rfl,hH10,hG11⟩⟩
 intro KJ12
 refine block<|res [(0,h1),(1,(J k5)),(5,(J 0))] [] ⟨rfl,rfl,rfl,tv⟩ tv ?_
 refine loopF (σ:=(List OutMove) × Int × Int) (τ:=St × (List (List BX))) (fun (m13,k14,i15) (s16,Ls17)=>(HS ex true s s16 (([]:List BX)++Ls17.flatten))∧(AllG [OS oE73 h1 k2 m13] Ls17)) (fun (m13,k14,i15) (s16,Ls17) tm os=>⟨updL tm [(0,h1),(1,(J k14)),(5,(J i15))],updL os [],s16⟩) ?_ (x:=(a4,k5,0)) (y:=(s,Ls0)) h ⟨hH0,hG0⟩
 clear h
 rintro ⟨m13,k14,i15⟩ ⟨s16,Ls17⟩ tm os ⟨hH18,hG19⟩ ee1 h hL1 hR1
 unfold laws_markOutMoveS_K10_S1 at h
 dsimp only at h
 refine seq<|sr<|q (J i15) ?_
 refine q h1<|lenO (j:=0) hG19 rfl Sub.here rfl rfl rfl rfl rfl ?_
 refine q (bool (decide ((i15:Int)<(m13.length:Int))))<|nl ?_
 rcases oite h with ⟨hc20,h⟩ | ⟨hc20,h⟩
 ·refine cT hc20<|skip<|seq<|block<|sr<|q h1 ?_
  refine q (J i15) ?_
  refine q (J k14) ?_
  obtain ⟨x23,h24,h⟩:=obind h
  refine idxO (j:=0) hG19 rfl Sub.here h24 rfl rfl rfl rfl rfl rfl rfl rfl rfl ?_
  intro b21 hb22
  refine q (ptr b21 (0+Int.toNat i15*2)) ?_
  refine stO (j:=0) (q:=0) (v:=(J k14)) (y':=({ x23 with To:=k14 }:OutMove)) hH18 hG19 hl rfl Sub.here h24 hb22 rfl rfl rfl rfl rfl rfl rfl rfl (lt_b rfl) (le_b rfl) rfl (fun c B hc=>by obtain ⟨⟨_,hr,rfl⟩,rfl⟩:=hc; obtain ⟨_,rfl,h29⟩:=hr; obtain ⟨_,_,rfl,h30,h31⟩:=Cs_cons h29; cases h30; obtain ⟨_,_,rfl,h32,h33⟩:=Cs_cons h31; cases h32; cases Cs_nil h33; exact ⟨⟨(agg [(J k14),(str x23.Out)]),⟨_,rfl,(.cons rfl (.cons rfl .nil))⟩,rfl⟩,rfl⟩) ?_
  intro Ls25 s26 hG27 hH28
  refine ns<|q (J k14) ?_
  refine q (J (W (k14+1))) ?_
  refine aq (J (W (k14+1)))<|ns ?_
  refine q h1 ?_
  refine q (J i15) ?_
  refine q (J (W (k14+1))) ?_
  obtain ⟨y34,h35,h⟩:=obind h
  refine cP (laws_markText_ok  h35 (wf' hH28)) ?_
  intro _ o37 h36
  cases h36
  refine idxO (j:=0) hG27 rfl Sub.here (ix_set h24) rfl rfl rfl rfl rfl rfl rfl rfl rfl ?_
  intro b38 hb39
  refine q (ptr b38 (0+Int.toNat i15*2+1)) ?_
  refine stO (j:=0) (q:=1) (v:=(str y34)) (y':=({ ({ x23 with To:=k14 }:OutMove) with Out:=y34 }:OutMove)) hH28 hG27 hl rfl Sub.here (ix_set h24) hb39 rfl rfl rfl rfl rfl rfl rfl rfl (lt_b rfl) (le_b rfl) rfl (fun c B hc=>by obtain ⟨⟨_,hr,rfl⟩,rfl⟩:=hc; obtain ⟨_,rfl,h44⟩:=hr; obtain ⟨_,_,rfl,h45,h46⟩:=Cs_cons h44; cases h45; obtain ⟨_,_,rfl,h47,h48⟩:=Cs_cons h46; cases h47; cases Cs_nil h48; exact ⟨⟨(agg [(J (({ x23 with To:=k14 }:OutMove).To)),(str y34)]),⟨_,rfl,(.cons rfl (.cons rfl .nil))⟩,rfl⟩,rfl⟩) ?_
  intro Ls40 s41 hG42 hH43
  refine nl<|region<|q (J (W (k14+1))) ?_
  refine q (J (W ((W (k14+1))+1))) ?_
  refine aq (J (W ((W (k14+1))+1)))<|nl ?_
  refine inBlock<|region<|q (J i15) ?_
  refine q (J (W (i15+1))) ?_
  refine aq (J (W (i15+1)))<|nl ?_
  cases h
  exact res [(0,h1),(1,(J (W ((W (k14+1))+1)))),(5,(J (W (i15+1))))] [] ⟨rfl,rfl,rfl,tv⟩ tv (hL1 _ rfl (s41,Ls40) _ _ ⟨hH43,hG42⟩)
 refine cF hc20<|exit rfl ?_
 obtain ⟨r49,hm,hx⟩:=omap h
 clear h
 subst hx
 have hx:=hR1 _ rfl
 rw[hx] at hm
 have h:=hm
 exact res [(1,(J k14))] [] ⟨rfl,tv⟩ tv (KJ12 (m13,k14,s16,Ls17) _ _ ⟨hH18,hG19,h⟩)
theorem laws_markOutMoveSS_K10_ok {a4:List (List OutMove)} {k5:Int} {h1:AV} {k2:KT} {s:St} (ho3:h1.one=true) {ex:List Nat} {Ls0:List (List BX)} (hH0:HS ex true s s (([]:List BX)++Ls0.flatten)) (hG0:AllG [OS oE74 h1 k2 a4] Ls0) (hl:LoOK ex true s) {r:Int × (List (List OutMove))} (h:laws_markOutMoveSS_K10 a4 k5=some r) (hs:WF s):ACall Cf 54 [h1,(J k5)] s (fun v _ s'=>∃ (Ls':List (List BX)),v=(J r.1)∧HS ex true s s' (([]:List BX)++Ls'.flatten)∧AllG [OS oE74 h1 k2 r.2] Ls') true:=by
 refine ACall.keepR rfl rfl rfl ?_
 unfold laws_markOutMoveSS_K10 at h
 refine sr<|q (J 0)<|nl ?_
 refine seq<|sr<|q (J 0)<|nl ?_
 refine meet (σ:=(List (List OutMove)) × Int × St × (List (List BX))) (fun (m6,k7,s8,Ls9) tm os=>⟨updL tm [(1,(J k7))],updL os [],s8⟩) (fun (m6,k7,s8,Ls9)=>(HS ex true s s8 (([]:List BX)++Ls9.flatten))∧(AllG [OS oE74 h1 k2 m6] Ls9)∧laws_markOutMoveSS_K10_J1 m6 k7=some r) ?_ ?_
 ·rintro ⟨m6,k7,s8,Ls9⟩ tm os ⟨hH10,hG11,h⟩
  unfold laws_markOutMoveSS_K10_J1 at h
  refine sr<|q (J k7) ?_
  refine aq (J k7)<|nl ?_
  cases h
  exact ret ⟨_,_,rfl,⟨Ls9,rfl,hH10,hG11⟩⟩
 intro KJ12
 refine block<|res [(0,h1),(1,(J k5)),(5,(J 0))] [] ⟨rfl,rfl,rfl,tv⟩ tv ?_
 refine loopF (σ:=(List (List OutMove)) × Int × Int) (τ:=St × (List (List BX))) (fun (m13,k14,i15) (s16,Ls17)=>(HS ex true s s16 (([]:List BX)++Ls17.flatten))∧(AllG [OS oE74 h1 k2 m13] Ls17)) (fun (m13,k14,i15) (s16,Ls17) tm os=>⟨updL tm [(0,h1),(1,(J k14)),(5,(J i15))],updL os [],s16⟩) ?_ (x:=(a4,k5,0)) (y:=(s,Ls0)) h ⟨hH0,hG0⟩
 clear h
 rintro ⟨m13,k14,i15⟩ ⟨s16,Ls17⟩ tm os ⟨hH18,hG19⟩ ee1 h hL1 hR1
 unfold laws_markOutMoveSS_K10_S1 at h
 dsimp only at h
 refine seq<|sr<|q (J i15) ?_
 refine q h1<|lenO (j:=0) hG19 rfl Sub.here rfl rfl rfl rfl rfl ?_
 refine q (bool (decide ((i15:Int)<(m13.length:Int))))<|nl ?_
 rcases oite h with ⟨hc20,h⟩ | ⟨hc20,h⟩
 ·refine cT hc20<|skip<|seq<|block<|region<|q h1 ?_
  refine q (J i15) ?_
  obtain ⟨x23,h24,h⟩:=obind h
  refine idxO (j:=0) hG19 rfl Sub.here h24 rfl rfl rfl rfl rfl rfl rfl rfl rfl ?_
  intro b21 hb22
  refine AOps.ldO (j:=0) (q:=0) hH18 hG19 rfl Sub.here h24 hb22 rfl rfl rfl rfl rfl (lt_b rfl) (le_b rfl) rfl rfl ?_ (fun c B hc=>by obtain ⟨rfl,_⟩:=hc; exact ⟨_,rfl⟩)
  intro c25 B26 v27 h28 h29
  obtain ⟨rfl,_⟩:=h28
  cases h29
  refine q (J k14) ?_
  obtain ⟨y30,h31,h⟩:=obind h
  have hP32:=pop0 hH18
  have hF0:AllG ([]:List (List BX→Prop)) []:=AllG.nil
  obtain ⟨Ls33,Lf34,hG35,hF36,hP37⟩:=HS.popS hP32 hG19 hF0 (j:=0) rfl (Sub.down Sub.here h24)
  refine callF (al:=true) (g:=104) (args:=[((KT.at k2 (Int.toNat i15)) []),(J k14)]) rfl rfl rfl (laws_markOutMoveS_K10_ok (Sub.one hG19 (j:=0) rfl (Sub.down Sub.here h24)) (enterK hP37) hF36 (enterLo hP37 hl) h31 (wf' hH18)) ?_
  rintro _ _ s38 ⟨Ls40,rfl,hH41,hG42⟩
  have hJ43:=joinK hP37 hH41
  obtain ⟨Ls44,Lf45,hG46,hF47,hP48⟩:=HS.pushS hJ43 hG35 hG42 (j:=0) rfl
  cases hF47
  have hH49:=push0 hP48
  refine aq (J y30.1)<|nl ?_
  refine inBlock<|region<|q (J i15) ?_
  refine q (J (W (i15+1))) ?_
  refine aq (J (W (i15+1)))<|nl ?_
  cases h
  exact res [(0,h1),(1,(J y30.1)),(5,(J (W (i15+1))))] [] ⟨rfl,rfl,rfl,tv⟩ tv (hL1 _ rfl (s38,Ls44) _ _ ⟨hH49,hG46⟩)
 refine cF hc20<|exit rfl ?_
 obtain ⟨r50,hm,hx⟩:=omap h
 clear h
 subst hx
 have hx:=hR1 _ rfl
 rw[hx] at hm
 have h:=hm
 exact res [(1,(J k14))] [] ⟨rfl,tv⟩ tv (KJ12 (m13,k14,s16,Ls17) _ _ ⟨hH18,hG19,h⟩)
theorem laws_markOutMoveSSS_K10_ok {a4:List (List (List OutMove))} {k5:Int} {h1:AV} {k2:KT} {s:St} (ho3:h1.one=true) {ex:List Nat} {Ls0:List (List BX)} (hH0:HS ex true s s (([]:List BX)++Ls0.flatten)) (hG0:AllG [OS oE42 h1 k2 a4] Ls0) (hl:LoOK ex true s) {r:Int × (List (List (List OutMove)))} (h:laws_markOutMoveSSS_K10 a4 k5=some r) (hs:WF s):ACall Cf 53 [h1,(J k5)] s (fun v _ s'=>∃ (Ls':List (List BX)),v=(J r.1)∧HS ex true s s' (([]:List BX)++Ls'.flatten)∧AllG [OS oE42 h1 k2 r.2] Ls') true:=by
 refine ACall.keepR rfl rfl rfl ?_
 unfold laws_markOutMoveSSS_K10 at h
 refine sr<|q (J 0)<|nl ?_
 refine seq<|sr<|q (J 0)<|nl ?_
 refine meet (σ:=(List (List (List OutMove))) × Int × St × (List (List BX))) (fun (m6,k7,s8,Ls9) tm os=>⟨updL tm [(1,(J k7))],updL os [],s8⟩) (fun (m6,k7,s8,Ls9)=>(HS ex true s s8 (([]:List BX)++Ls9.flatten))∧(AllG [OS oE42 h1 k2 m6] Ls9)∧laws_markOutMoveSSS_K10_J1 m6 k7=some r) ?_ ?_
 ·rintro ⟨m6,k7,s8,Ls9⟩ tm os ⟨hH10,hG11,h⟩
  unfold laws_markOutMoveSSS_K10_J1 at h
  refine sr<|q (J k7) ?_
  refine aq (J k7)<|nl ?_
  cases h
  exact ret ⟨_,_,rfl,⟨Ls9,rfl,hH10,hG11⟩⟩
 intro KJ12
 refine block<|res [(0,h1),(1,(J k5)),(5,(J 0))] [] ⟨rfl,rfl,rfl,tv⟩ tv ?_
 refine loopF (σ:=(List (List (List OutMove))) × Int × Int) (τ:=St × (List (List BX))) (fun (m13,k14,i15) (s16,Ls17)=>(HS ex true s s16 (([]:List BX)++Ls17.flatten))∧(AllG [OS oE42 h1 k2 m13] Ls17)) (fun (m13,k14,i15) (s16,Ls17) tm os=>⟨updL tm [(0,h1),(1,(J k14)),(5,(J i15))],updL os [],s16⟩) ?_ (x:=(a4,k5,0)) (y:=(s,Ls0)) h ⟨hH0,hG0⟩
 clear h
 rintro ⟨m13,k14,i15⟩ ⟨s16,Ls17⟩ tm os ⟨hH18,hG19⟩ ee1 h hL1 hR1
 unfold laws_markOutMoveSSS_K10_S1 at h
 dsimp only at h
 refine seq<|sr<|q (J i15) ?_
 refine q h1<|lenO (j:=0) hG19 rfl Sub.here rfl rfl rfl rfl rfl ?_
 refine q (bool (decide ((i15:Int)<(m13.length:Int))))<|nl ?_
 rcases oite h with ⟨hc20,h⟩ | ⟨hc20,h⟩
 ·refine cT hc20<|skip<|seq<|block<|region<|q h1 ?_
  refine q (J i15) ?_
  obtain ⟨x23,h24,h⟩:=obind h
  refine idxO (j:=0) hG19 rfl Sub.here h24 rfl rfl rfl rfl rfl rfl rfl rfl rfl ?_
  intro b21 hb22
  refine AOps.ldO (j:=0) (q:=0) hH18 hG19 rfl Sub.here h24 hb22 rfl rfl rfl rfl rfl (lt_b rfl) (le_b rfl) rfl rfl ?_ (fun c B hc=>by obtain ⟨rfl,_⟩:=hc; exact ⟨_,rfl⟩)
  intro c25 B26 v27 h28 h29
  obtain ⟨rfl,_⟩:=h28
  cases h29
  refine q (J k14) ?_
  obtain ⟨y30,h31,h⟩:=obind h
  have hP32:=pop0 hH18
  have hF0:AllG ([]:List (List BX→Prop)) []:=AllG.nil
  obtain ⟨Ls33,Lf34,hG35,hF36,hP37⟩:=HS.popS hP32 hG19 hF0 (j:=0) rfl (Sub.down Sub.here h24)
  refine callF (al:=true) (g:=54) (args:=[((KT.at k2 (Int.toNat i15)) []),(J k14)]) rfl rfl rfl (laws_markOutMoveSS_K10_ok (Sub.one hG19 (j:=0) rfl (Sub.down Sub.here h24)) (enterK hP37) hF36 (enterLo hP37 hl) h31 (wf' hH18)) ?_
  rintro _ _ s38 ⟨Ls40,rfl,hH41,hG42⟩
  have hJ43:=joinK hP37 hH41
  obtain ⟨Ls44,Lf45,hG46,hF47,hP48⟩:=HS.pushS hJ43 hG35 hG42 (j:=0) rfl
  cases hF47
  have hH49:=push0 hP48
  refine aq (J y30.1)<|nl ?_
  refine inBlock<|region<|q (J i15) ?_
  refine q (J (W (i15+1))) ?_
  refine aq (J (W (i15+1)))<|nl ?_
  cases h
  exact res [(0,h1),(1,(J y30.1)),(5,(J (W (i15+1))))] [] ⟨rfl,rfl,rfl,tv⟩ tv (hL1 _ rfl (s38,Ls44) _ _ ⟨hH49,hG46⟩)
 refine cF hc20<|exit rfl ?_
 obtain ⟨r50,hm,hx⟩:=omap h
 clear h
 subst hx
 have hx:=hR1 _ rfl
 rw[hx] at hm
 have h:=hm
 exact res [(1,(J k14))] [] ⟨rfl,tv⟩ tv (KJ12 (m13,k14,s16,Ls17) _ _ ⟨hH18,hG19,h⟩)
theorem laws_markRewriter_K10_ok {a1:Rewriter} {k11:Int} {h2 h5 h8:AV} {k3 k6 k9:KT} {s:St} (ho4:h2.one=true) (ho7:h5.one=true) (ho10:h8.one=true) {ex:List Nat} {Ls0:List (List BX)} (hH0:HS ex true s s (([]:List BX)++Ls0.flatten)) (hG0:AllG [OS oE67 h2 k3 a1.Call,OS oE42 h5 k6 a1.Return,OS oE74 h8 k9 a1.Inner] Ls0) (hl:LoOK ex true s) {r:Int × (List (List OutPush)) × (List (List (List OutMove))) × (List (List OutMove))} (h:laws_markRewriter_K10 a1 k11=some r) (hs:WF s):ACall Cf 12 [(agg [(J a1.Stack),(J a1.Start),h2,h5,h8]),(J k11)] s (fun v _ s'=>∃ (Ls':List (List BX)),v=(J r.1)∧HS ex true s s' (([]:List BX)++Ls'.flatten)∧AllG [OS oE67 h2 k3 r.2.1,OS oE42 h5 k6 r.2.2.1,OS oE74 h8 k9 r.2.2.2] Ls') true:=by
 refine ACall.keepR rfl rfl rfl ?_
 unfold laws_markRewriter_K10 at h
 refine sr<|AOps.boxR (v:=(agg [(J a1.Stack),(J a1.Start),h2,h5,h8])) rfl rfl rfl rfl rfl (lay_cons rfl (lay_cons rfl (lay_cons ho4 (lay_cons ho7 (lay_cons ho10 lay_nil))))) rfl rfl<|q (J 0)<|ns ?_
 refine q (eptr [(J a1.Stack),(J a1.Start),h2,h5,h8] 2) ?_
 refine lE h2 ?_
 refine q (J k11) ?_
 obtain ⟨y12,h13,h⟩:=obind h
 have hP14:=pop0 hH0
 have hF0:AllG ([]:List (List BX→Prop)) []:=AllG.nil
 obtain ⟨Ls15,Lf16,hG17,hF18,hP19⟩:=popG hP14 hG0 hF0 (j:=0) rfl
 refine callF (al:=true) (g:=52) (args:=[h2,(J k11)]) rfl rfl rfl (laws_markOutPushSS_K10_ok ho4 (enterK hP19) hF18 (enterLo hP19 hl) h13 (wf' hH0)) ?_
 rintro _ _ s20 ⟨Ls22,rfl,hH23,hG24⟩
 have hJ25:=joinK hP19 hH23
 obtain ⟨Ls26,Lf27,hG28,hF29,hP30⟩:=putG hJ25 hG17 hG24 (j:=0) rfl
 cases hF29
 have hH31:=push0 hP30
 refine aq (J y12.1)<|ns ?_
 refine q (eptr [(J a1.Stack),(J a1.Start),h2,h5,h8] 3) ?_
 refine lE h5 ?_
 refine q (J y12.1) ?_
 obtain ⟨y32,h33,h⟩:=obind h
 have hP34:=pop0 hH31
 have hF0:AllG ([]:List (List BX→Prop)) []:=AllG.nil
 obtain ⟨Ls35,Lf36,hG37,hF38,hP39⟩:=popG hP34 hG28 hF0 (j:=1) rfl
 refine callF (al:=true) (g:=53) (args:=[h5,(J y12.1)]) rfl rfl rfl (laws_markOutMoveSSS_K10_ok ho7 (enterK hP39) hF38 (enterLo hP39 hl) h33 (wf' hH31)) ?_
 rintro _ _ s40 ⟨Ls42,rfl,hH43,hG44⟩
 have hJ45:=joinK hP39 hH43
 obtain ⟨Ls46,Lf47,hG48,hF49,hP50⟩:=putG hJ45 hG37 hG44 (j:=1) rfl
 cases hF49
 have hH51:=push0 hP50
 refine aq (J y32.1)<|ns ?_
 refine q (eptr [(J a1.Stack),(J a1.Start),h2,h5,h8] 4) ?_
 refine lE h8 ?_
 refine q (J y32.1) ?_
 obtain ⟨y52,h53,h⟩:=obind h
 have hP54:=pop0 hH51
 have hF0:AllG ([]:List (List BX→Prop)) []:=AllG.nil
 obtain ⟨Ls55,Lf56,hG57,hF58,hP59⟩:=popG hP54 hG48 hF0 (j:=2) rfl
 refine callF (al:=true) (g:=54) (args:=[h8,(J y32.1)]) rfl rfl rfl (laws_markOutMoveSS_K10_ok ho10 (enterK hP59) hF58 (enterLo hP59 hl) h53 (wf' hH51)) ?_
 rintro _ _ s60 ⟨Ls62,rfl,hH63,hG64⟩
 have hJ65:=joinK hP59 hH63
 obtain ⟨Ls66,Lf67,hG68,hF69,hP70⟩:=putG hJ65 hG57 hG64 (j:=2) rfl
 cases hF69
 have hH71:=push0 hP70
 refine aq (J y52.1)<|ns ?_
 refine q (J y52.1) ?_
 refine aq (J y52.1)<|nl ?_
 cases h
 exact ret ⟨_,_,rfl,⟨Ls66,rfl,hH71,hG68⟩⟩
theorem laws_markBoolS_K10_ok {a4:List Bool} {k5:Int} {h1:AV} {k2:KT} {s:St} (ho3:h1.one=true) {ex:List Nat} {Ls0:List (List BX)} (hH0:HS ex true s s (([]:List BX)++Ls0.flatten)) (hG0:AllG [OS oE4 h1 k2 a4] Ls0) (hl:LoOK ex true s) {r:Int × (List Bool)} (h:laws_markBoolS_K10 a4 k5=some r) (hs:WF s):ACall Cf 55 [h1,(J k5)] s (fun v _ s'=>∃ (Ls':List (List BX)),v=(J r.1)∧HS ex true s s' (([]:List BX)++Ls'.flatten)∧AllG [OS oE4 h1 k2 r.2] Ls') true:=by
 refine ACall.keepR rfl rfl rfl ?_
 unfold laws_markBoolS_K10 at h
 refine sr<|q (J 0)<|nl ?_
 refine seq<|sr<|q (J 0)<|nl ?_
 refine meet (σ:=(List Bool) × Int × St × (List (List BX))) (fun (m6,k7,s8,Ls9) tm os=>⟨updL tm [(1,(J k7))],updL os [],s8⟩) (fun (m6,k7,s8,Ls9)=>(HS ex true s s8 (([]:List BX)++Ls9.flatten))∧(AllG [OS oE4 h1 k2 m6] Ls9)∧laws_markBoolS_K10_J1 m6 k7=some r) ?_ ?_
 ·rintro ⟨m6,k7,s8,Ls9⟩ tm os ⟨hH10,hG11,h⟩
  unfold laws_markBoolS_K10_J1 at h
  refine sr<|q (J k7) ?_
  refine aq (J k7)<|nl ?_
  cases h
  exact ret ⟨_,_,rfl,⟨Ls9,rfl,hH10,hG11⟩⟩
 intro KJ12
 refine block<|res [(0,h1),(1,(J k5)),(5,(J 0))] [] ⟨rfl,rfl,rfl,tv⟩ tv ?_
 refine loopF (σ:=(List Bool) × Int × Int) (τ:=St × (List (List BX))) (fun (m13,k14,i15) (s16,Ls17)=>(HS ex true s s16 (([]:List BX)++Ls17.flatten))∧(AllG [OS oE4 h1 k2 m13] Ls17)) (fun (m13,k14,i15) (s16,Ls17) tm os=>⟨updL tm [(0,h1),(1,(J k14)),(5,(J i15))],updL os [],s16⟩) ?_ (x:=(a4,k5,0)) (y:=(s,Ls0)) h ⟨hH0,hG0⟩
 clear h
 rintro ⟨m13,k14,i15⟩ ⟨s16,Ls17⟩ tm os ⟨hH18,hG19⟩ ee1 h hL1 hR1
 unfold laws_markBoolS_K10_S1 at h
 dsimp only at h
 refine seq<|sr<|q (J i15) ?_
 refine q h1<|lenO (j:=0) hG19 rfl Sub.here rfl rfl rfl rfl rfl ?_
 refine q (bool (decide ((i15:Int)<(m13.length:Int))))<|nl ?_
 rcases oite h with ⟨hc20,h⟩ | ⟨hc20,h⟩
 ·refine cT hc20<|skip<|seq<|block<|sr<|q h1 ?_
  refine q (J i15) ?_
  refine q (J k14) ?_
  obtain ⟨q21,h22,h⟩:=obind h
  refine pureR rfl rfl rfl (rem_ok h22) rfl (rfl:_=(J q21))<|q (bool (q21 == 0)) ?_
  obtain ⟨x25,h26,h⟩:=obind h
  refine idxO (j:=0) hG19 rfl Sub.here h26 rfl rfl rfl rfl rfl rfl rfl rfl rfl ?_
  intro b23 hb24
  refine stO (j:=0) (q:=0) (v:=(bool (q21 == 0))) (y':=(q21 == 0)) hH18 hG19 hl rfl Sub.here h26 hb24 rfl rfl rfl rfl rfl rfl rfl rfl (lt_b rfl) (le_b rfl) rfl (fun c B hc=>oLeaf_set hc rfl) ?_
  intro Ls27 s28 hG29 hH30
  refine nl<|region<|q (J k14) ?_
  refine q (J (W (k14+1))) ?_
  refine aq (J (W (k14+1)))<|nl ?_
  refine inBlock<|region<|q (J i15) ?_
  refine q (J (W (i15+1))) ?_
  refine aq (J (W (i15+1)))<|nl ?_
  cases h
  exact res [(0,h1),(1,(J (W (k14+1)))),(5,(J (W (i15+1))))] [] ⟨rfl,rfl,rfl,tv⟩ tv (hL1 _ rfl (s28,Ls27) _ _ ⟨hH30,hG29⟩)
 refine cF hc20<|exit rfl ?_
 obtain ⟨r31,hm,hx⟩:=omap h
 clear h
 subst hx
 have hx:=hR1 _ rfl
 rw[hx] at hm
 have h:=hm
 exact res [(1,(J k14))] [] ⟨rfl,tv⟩ tv (KJ12 (m13,k14,s16,Ls17) _ _ ⟨hH18,hG19,h⟩)
theorem laws_markPushS_K10_ok {a4:List Push} {k5:Int} {h1:AV} {k2:KT} {s:St} (ho3:h1.one=true) {ex:List Nat} {Ls0:List (List BX)} (hH0:HS ex true s s (([]:List BX)++Ls0.flatten)) (hG0:AllG [OS oE71 h1 k2 a4] Ls0) (hl:LoOK ex true s) {r:Int × (List Push)} (h:laws_markPushS_K10 a4 k5=some r) (hs:WF s):ACall Cf 105 [h1,(J k5)] s (fun v _ s'=>∃ (Ls':List (List BX)),v=(J r.1)∧HS ex true s s' (([]:List BX)++Ls'.flatten)∧AllG [OS oE71 h1 k2 r.2] Ls') true:=by
 refine ACall.keepR rfl rfl rfl ?_
 unfold laws_markPushS_K10 at h
 refine sr<|q (J 0)<|nl ?_
 refine seq<|sr<|q (J 0)<|nl ?_
 refine meet (σ:=(List Push) × Int × St × (List (List BX))) (fun (m6,k7,s8,Ls9) tm os=>⟨updL tm [(1,(J k7))],updL os [],s8⟩) (fun (m6,k7,s8,Ls9)=>(HS ex true s s8 (([]:List BX)++Ls9.flatten))∧(AllG [OS oE71 h1 k2 m6] Ls9)∧laws_markPushS_K10_J1 m6 k7=some r) ?_ ?_
 ·rintro ⟨m6,k7,s8,Ls9⟩ tm os ⟨hH10,hG11,h⟩
  unfold laws_markPushS_K10_J1 at h
  refine sr<|q (J k7) ?_
  refine aq (J k7)<|nl ?_
  cases h
  exact ret ⟨_,_,rfl,⟨Ls9,rfl,hH10,hG11⟩⟩
 intro KJ12
 refine block<|res [(0,h1),(1,(J k5)),(5,(J 0))] [] ⟨rfl,rfl,rfl,tv⟩ tv ?_
 refine loopF (σ:=(List Push) × Int × Int) (τ:=St × (List (List BX))) (fun (m13,k14,i15) (s16,Ls17)=>(HS ex true s s16 (([]:List BX)++Ls17.flatten))∧(AllG [OS oE71 h1 k2 m13] Ls17)) (fun (m13,k14,i15) (s16,Ls17) tm os=>⟨updL tm [(0,h1),(1,(J k14)),(5,(J i15))],updL os [],s16⟩) ?_ (x:=(a4,k5,0)) (y:=(s,Ls0)) h ⟨hH0,hG0⟩
 clear h
 rintro ⟨m13,k14,i15⟩ ⟨s16,Ls17⟩ tm os ⟨hH18,hG19⟩ ee1 h hL1 hR1
 unfold laws_markPushS_K10_S1 at h
 dsimp only at h
 refine seq<|sr<|q (J i15) ?_
 refine q h1<|lenO (j:=0) hG19 rfl Sub.here rfl rfl rfl rfl rfl ?_
 refine q (bool (decide ((i15:Int)<(m13.length:Int))))<|nl ?_
 rcases oite h with ⟨hc20,h⟩ | ⟨hc20,h⟩
 ·refine cT hc20<|skip<|seq<|block<|sr<|q h1 ?_
  refine q (J i15) ?_
  refine q (J k14) ?_
  obtain ⟨x23,h24,h⟩:=obind h
  refine idxO (j:=0) hG19 rfl Sub.here h24 rfl rfl rfl rfl rfl rfl rfl rfl rfl ?_
  intro b21 hb22
  refine q (ptr b21 (0+Int.toNat i15*2)) ?_
  refine stO (j:=0) (q:=0) (v:=(J k14)) (y':=({ x23 with To:=k14 }:Push)) hH18 hG19 hl rfl Sub.here h24 hb22 rfl rfl rfl rfl rfl rfl rfl rfl (lt_b rfl) (le_b rfl) rfl (fun c B hc=>by obtain ⟨⟨_,hr,rfl⟩,rfl⟩:=hc; obtain ⟨_,rfl,h29⟩:=hr; obtain ⟨_,_,rfl,h30,h31⟩:=Cs_cons h29; cases h30; obtain ⟨_,_,rfl,h32,h33⟩:=Cs_cons h31; cases h32; cases Cs_nil h33; exact ⟨⟨(agg [(J k14),(J x23.Put)]),⟨_,rfl,(.cons rfl (.cons rfl .nil))⟩,rfl⟩,rfl⟩) ?_
  intro Ls25 s26 hG27 hH28
  refine ns<|q (J k14) ?_
  refine q (J (W (k14+1))) ?_
  refine aq (J (W (k14+1)))<|ns ?_
  refine q h1 ?_
  refine q (J i15) ?_
  refine q (J (W (k14+1)))<|idxO (j:=0) hG27 rfl Sub.here (ix_set h24) rfl rfl rfl rfl rfl rfl rfl rfl rfl ?_
  intro b34 hb35
  refine q (ptr b34 (0+Int.toNat i15*2+1)) ?_
  refine stO (j:=0) (q:=1) (v:=(J (W (k14+1)))) (y':=({ ({ x23 with To:=k14 }:Push) with Put:=W (k14+1) }:Push)) hH28 hG27 hl rfl Sub.here (ix_set h24) hb35 rfl rfl rfl rfl rfl rfl rfl rfl (lt_b rfl) (le_b rfl) rfl (fun c B hc=>by obtain ⟨⟨_,hr,rfl⟩,rfl⟩:=hc; obtain ⟨_,rfl,h40⟩:=hr; obtain ⟨_,_,rfl,h41,h42⟩:=Cs_cons h40; cases h41; obtain ⟨_,_,rfl,h43,h44⟩:=Cs_cons h42; cases h43; cases Cs_nil h44; exact ⟨⟨(agg [(J (({ x23 with To:=k14 }:Push).To)),(J (W (k14+1)))]),⟨_,rfl,(.cons rfl (.cons rfl .nil))⟩,rfl⟩,rfl⟩) ?_
  intro Ls36 s37 hG38 hH39
  refine nl<|region<|q (J (W (k14+1))) ?_
  refine q (J (W ((W (k14+1))+1))) ?_
  refine aq (J (W ((W (k14+1))+1)))<|nl ?_
  refine inBlock<|region<|q (J i15) ?_
  refine q (J (W (i15+1))) ?_
  refine aq (J (W (i15+1)))<|nl ?_
  cases h
  exact res [(0,h1),(1,(J (W ((W (k14+1))+1)))),(5,(J (W (i15+1))))] [] ⟨rfl,rfl,rfl,tv⟩ tv (hL1 _ rfl (s37,Ls36) _ _ ⟨hH39,hG38⟩)
 refine cF hc20<|exit rfl ?_
 obtain ⟨r45,hm,hx⟩:=omap h
 clear h
 subst hx
 have hx:=hR1 _ rfl
 rw[hx] at hm
 have h:=hm
 exact res [(1,(J k14))] [] ⟨rfl,tv⟩ tv (KJ12 (m13,k14,s16,Ls17) _ _ ⟨hH18,hG19,h⟩)
theorem laws_markPushSS_K10_ok {a4:List (List Push)} {k5:Int} {h1:AV} {k2:KT} {s:St} (ho3:h1.one=true) {ex:List Nat} {Ls0:List (List BX)} (hH0:HS ex true s s (([]:List BX)++Ls0.flatten)) (hG0:AllG [OS oE63 h1 k2 a4] Ls0) (hl:LoOK ex true s) {r:Int × (List (List Push))} (h:laws_markPushSS_K10 a4 k5=some r) (hs:WF s):ACall Cf 56 [h1,(J k5)] s (fun v _ s'=>∃ (Ls':List (List BX)),v=(J r.1)∧HS ex true s s' (([]:List BX)++Ls'.flatten)∧AllG [OS oE63 h1 k2 r.2] Ls') true:=by
 refine ACall.keepR rfl rfl rfl ?_
 unfold laws_markPushSS_K10 at h
 refine sr<|q (J 0)<|nl ?_
 refine seq<|sr<|q (J 0)<|nl ?_
 refine meet (σ:=(List (List Push)) × Int × St × (List (List BX))) (fun (m6,k7,s8,Ls9) tm os=>⟨updL tm [(1,(J k7))],updL os [],s8⟩) (fun (m6,k7,s8,Ls9)=>(HS ex true s s8 (([]:List BX)++Ls9.flatten))∧(AllG [OS oE63 h1 k2 m6] Ls9)∧laws_markPushSS_K10_J1 m6 k7=some r) ?_ ?_
 ·rintro ⟨m6,k7,s8,Ls9⟩ tm os ⟨hH10,hG11,h⟩
  unfold laws_markPushSS_K10_J1 at h
  refine sr<|q (J k7) ?_
  refine aq (J k7)<|nl ?_
  cases h
  exact ret ⟨_,_,rfl,⟨Ls9,rfl,hH10,hG11⟩⟩
 intro KJ12
 refine block<|res [(0,h1),(1,(J k5)),(5,(J 0))] [] ⟨rfl,rfl,rfl,tv⟩ tv ?_
 refine loopF (σ:=(List (List Push)) × Int × Int) (τ:=St × (List (List BX))) (fun (m13,k14,i15) (s16,Ls17)=>(HS ex true s s16 (([]:List BX)++Ls17.flatten))∧(AllG [OS oE63 h1 k2 m13] Ls17)) (fun (m13,k14,i15) (s16,Ls17) tm os=>⟨updL tm [(0,h1),(1,(J k14)),(5,(J i15))],updL os [],s16⟩) ?_ (x:=(a4,k5,0)) (y:=(s,Ls0)) h ⟨hH0,hG0⟩
 clear h
 rintro ⟨m13,k14,i15⟩ ⟨s16,Ls17⟩ tm os ⟨hH18,hG19⟩ ee1 h hL1 hR1
 unfold laws_markPushSS_K10_S1 at h
 dsimp only at h
 refine seq<|sr<|q (J i15) ?_
 refine q h1<|lenO (j:=0) hG19 rfl Sub.here rfl rfl rfl rfl rfl ?_
 refine q (bool (decide ((i15:Int)<(m13.length:Int))))<|nl ?_
 rcases oite h with ⟨hc20,h⟩ | ⟨hc20,h⟩
 ·refine cT hc20<|skip<|seq<|block<|region<|q h1 ?_
  refine q (J i15) ?_
  obtain ⟨x23,h24,h⟩:=obind h
  refine idxO (j:=0) hG19 rfl Sub.here h24 rfl rfl rfl rfl rfl rfl rfl rfl rfl ?_
  intro b21 hb22
  refine AOps.ldO (j:=0) (q:=0) hH18 hG19 rfl Sub.here h24 hb22 rfl rfl rfl rfl rfl (lt_b rfl) (le_b rfl) rfl rfl ?_ (fun c B hc=>by obtain ⟨rfl,_⟩:=hc; exact ⟨_,rfl⟩)
  intro c25 B26 v27 h28 h29
  obtain ⟨rfl,_⟩:=h28
  cases h29
  refine q (J k14) ?_
  obtain ⟨y30,h31,h⟩:=obind h
  have hP32:=pop0 hH18
  have hF0:AllG ([]:List (List BX→Prop)) []:=AllG.nil
  obtain ⟨Ls33,Lf34,hG35,hF36,hP37⟩:=HS.popS hP32 hG19 hF0 (j:=0) rfl (Sub.down Sub.here h24)
  refine callF (al:=true) (g:=105) (args:=[((KT.at k2 (Int.toNat i15)) []),(J k14)]) rfl rfl rfl (laws_markPushS_K10_ok (Sub.one hG19 (j:=0) rfl (Sub.down Sub.here h24)) (enterK hP37) hF36 (enterLo hP37 hl) h31 (wf' hH18)) ?_
  rintro _ _ s38 ⟨Ls40,rfl,hH41,hG42⟩
  have hJ43:=joinK hP37 hH41
  obtain ⟨Ls44,Lf45,hG46,hF47,hP48⟩:=HS.pushS hJ43 hG35 hG42 (j:=0) rfl
  cases hF47
  have hH49:=push0 hP48
  refine aq (J y30.1)<|nl ?_
  refine inBlock<|region<|q (J i15) ?_
  refine q (J (W (i15+1))) ?_
  refine aq (J (W (i15+1)))<|nl ?_
  cases h
  exact res [(0,h1),(1,(J y30.1)),(5,(J (W (i15+1))))] [] ⟨rfl,rfl,rfl,tv⟩ tv (hL1 _ rfl (s38,Ls44) _ _ ⟨hH49,hG46⟩)
 refine cF hc20<|exit rfl ?_
 obtain ⟨r50,hm,hx⟩:=omap h
 clear h
 subst hx
 have hx:=hR1 _ rfl
 rw[hx] at hm
 have h:=hm
 exact res [(1,(J k14))] [] ⟨rfl,tv⟩ tv (KJ12 (m13,k14,s16,Ls17) _ _ ⟨hH18,hG19,h⟩)
theorem laws_markInt64S_K10_ok {a4:List Int} {k5:Int} {h1:AV} {k2:KT} {s:St} (ho3:h1.one=true) {ex:List Nat} {Ls0:List (List BX)} (hH0:HS ex true s s (([]:List BX)++Ls0.flatten)) (hG0:AllG [OS oE2 h1 k2 a4] Ls0) (hl:LoOK ex true s) {r:Int × (List Int)} (h:laws_markInt64S_K10 a4 k5=some r) (hs:WF s):ACall Cf 106 [h1,(J k5)] s (fun v _ s'=>∃ (Ls':List (List BX)),v=(J r.1)∧HS ex true s s' (([]:List BX)++Ls'.flatten)∧AllG [OS oE2 h1 k2 r.2] Ls') true:=by
 refine ACall.keepR rfl rfl rfl ?_
 unfold laws_markInt64S_K10 at h
 refine sr<|q (J 0)<|nl ?_
 refine seq<|sr<|q (J 0)<|nl ?_
 refine meet (σ:=(List Int) × Int × St × (List (List BX))) (fun (m6,k7,s8,Ls9) tm os=>⟨updL tm [(1,(J k7))],updL os [],s8⟩) (fun (m6,k7,s8,Ls9)=>(HS ex true s s8 (([]:List BX)++Ls9.flatten))∧(AllG [OS oE2 h1 k2 m6] Ls9)∧laws_markInt64S_K10_J1 m6 k7=some r) ?_ ?_
 ·rintro ⟨m6,k7,s8,Ls9⟩ tm os ⟨hH10,hG11,h⟩
  unfold laws_markInt64S_K10_J1 at h
  refine sr<|q (J k7) ?_
  refine aq (J k7)<|nl ?_
  cases h
  exact ret ⟨_,_,rfl,⟨Ls9,rfl,hH10,hG11⟩⟩
 intro KJ12
 refine block<|res [(0,h1),(1,(J k5)),(5,(J 0))] [] ⟨rfl,rfl,rfl,tv⟩ tv ?_
 refine loopF (σ:=(List Int) × Int × Int) (τ:=St × (List (List BX))) (fun (m13,k14,i15) (s16,Ls17)=>(HS ex true s s16 (([]:List BX)++Ls17.flatten))∧(AllG [OS oE2 h1 k2 m13] Ls17)) (fun (m13,k14,i15) (s16,Ls17) tm os=>⟨updL tm [(0,h1),(1,(J k14)),(5,(J i15))],updL os [],s16⟩) ?_ (x:=(a4,k5,0)) (y:=(s,Ls0)) h ⟨hH0,hG0⟩
 clear h
 rintro ⟨m13,k14,i15⟩ ⟨s16,Ls17⟩ tm os ⟨hH18,hG19⟩ ee1 h hL1 hR1
 unfold laws_markInt64S_K10_S1 at h
 dsimp only at h
 refine seq<|sr<|q (J i15) ?_
 refine q h1<|lenO (j:=0) hG19 rfl Sub.here rfl rfl rfl rfl rfl ?_
 refine q (bool (decide ((i15:Int)<(m13.length:Int))))<|nl ?_
 rcases oite h with ⟨hc20,h⟩ | ⟨hc20,h⟩
 ·refine cT hc20<|skip<|seq<|block<|sr<|q h1 ?_
  refine q (J i15) ?_
  refine q (J k14) ?_
  obtain ⟨x23,h24,h⟩:=obind h
  refine idxO (j:=0) hG19 rfl Sub.here h24 rfl rfl rfl rfl rfl rfl rfl rfl rfl ?_
  intro b21 hb22
  refine stO (j:=0) (q:=0) (v:=(J k14)) (y':=k14) hH18 hG19 hl rfl Sub.here h24 hb22 rfl rfl rfl rfl rfl rfl rfl rfl (lt_b rfl) (le_b rfl) rfl (fun c B hc=>oLeaf_set hc rfl) ?_
  intro Ls25 s26 hG27 hH28
  refine nl<|region<|q (J k14) ?_
  refine q (J (W (k14+1))) ?_
  refine aq (J (W (k14+1)))<|nl ?_
  refine inBlock<|region<|q (J i15) ?_
  refine q (J (W (i15+1))) ?_
  refine aq (J (W (i15+1)))<|nl ?_
  cases h
  exact res [(0,h1),(1,(J (W (k14+1)))),(5,(J (W (i15+1))))] [] ⟨rfl,rfl,rfl,tv⟩ tv (hL1 _ rfl (s26,Ls25) _ _ ⟨hH28,hG27⟩)
 refine cF hc20<|exit rfl ?_
 obtain ⟨r29,hm,hx⟩:=omap h
 clear h
 subst hx
 have hx:=hR1 _ rfl
 rw[hx] at hm
 have h:=hm
 exact res [(1,(J k14))] [] ⟨rfl,tv⟩ tv (KJ12 (m13,k14,s16,Ls17) _ _ ⟨hH18,hG19,h⟩)
theorem laws_markInt64SS_K10_ok {a4:List (List Int)} {k5:Int} {h1:AV} {k2:KT} {s:St} (ho3:h1.one=true) {ex:List Nat} {Ls0:List (List BX)} (hH0:HS ex true s s (([]:List BX)++Ls0.flatten)) (hG0:AllG [OS oE64 h1 k2 a4] Ls0) (hl:LoOK ex true s) {r:Int × (List (List Int))} (h:laws_markInt64SS_K10 a4 k5=some r) (hs:WF s):ACall Cf 58 [h1,(J k5)] s (fun v _ s'=>∃ (Ls':List (List BX)),v=(J r.1)∧HS ex true s s' (([]:List BX)++Ls'.flatten)∧AllG [OS oE64 h1 k2 r.2] Ls') true:=by
 refine ACall.keepR rfl rfl rfl ?_
 unfold laws_markInt64SS_K10 at h
 refine sr<|q (J 0)<|nl ?_
 refine seq<|sr<|q (J 0)<|nl ?_
 refine meet (σ:=(List (List Int)) × Int × St × (List (List BX))) (fun (m6,k7,s8,Ls9) tm os=>⟨updL tm [(1,(J k7))],updL os [],s8⟩) (fun (m6,k7,s8,Ls9)=>(HS ex true s s8 (([]:List BX)++Ls9.flatten))∧(AllG [OS oE64 h1 k2 m6] Ls9)∧laws_markInt64SS_K10_J1 m6 k7=some r) ?_ ?_
 ·rintro ⟨m6,k7,s8,Ls9⟩ tm os ⟨hH10,hG11,h⟩
  unfold laws_markInt64SS_K10_J1 at h
  refine sr<|q (J k7) ?_
  refine aq (J k7)<|nl ?_
  cases h
  exact ret ⟨_,_,rfl,⟨Ls9,rfl,hH10,hG11⟩⟩
 intro KJ12
 refine block<|res [(0,h1),(1,(J k5)),(5,(J 0))] [] ⟨rfl,rfl,rfl,tv⟩ tv ?_
 refine loopF (σ:=(List (List Int)) × Int × Int) (τ:=St × (List (List BX))) (fun (m13,k14,i15) (s16,Ls17)=>(HS ex true s s16 (([]:List BX)++Ls17.flatten))∧(AllG [OS oE64 h1 k2 m13] Ls17)) (fun (m13,k14,i15) (s16,Ls17) tm os=>⟨updL tm [(0,h1),(1,(J k14)),(5,(J i15))],updL os [],s16⟩) ?_ (x:=(a4,k5,0)) (y:=(s,Ls0)) h ⟨hH0,hG0⟩
 clear h
 rintro ⟨m13,k14,i15⟩ ⟨s16,Ls17⟩ tm os ⟨hH18,hG19⟩ ee1 h hL1 hR1
 unfold laws_markInt64SS_K10_S1 at h
 dsimp only at h
 refine seq<|sr<|q (J i15) ?_
 refine q h1<|lenO (j:=0) hG19 rfl Sub.here rfl rfl rfl rfl rfl ?_
 refine q (bool (decide ((i15:Int)<(m13.length:Int))))<|nl ?_
 rcases oite h with ⟨hc20,h⟩ | ⟨hc20,h⟩
 ·refine cT hc20<|skip<|seq<|block<|region<|q h1 ?_
  refine q (J i15) ?_
  obtain ⟨x23,h24,h⟩:=obind h
  refine idxO (j:=0) hG19 rfl Sub.here h24 rfl rfl rfl rfl rfl rfl rfl rfl rfl ?_
  intro b21 hb22
  refine AOps.ldO (j:=0) (q:=0) hH18 hG19 rfl Sub.here h24 hb22 rfl rfl rfl rfl rfl (lt_b rfl) (le_b rfl) rfl rfl ?_ (fun c B hc=>by obtain ⟨rfl,_⟩:=hc; exact ⟨_,rfl⟩)
  intro c25 B26 v27 h28 h29
  obtain ⟨rfl,_⟩:=h28
  cases h29
  refine q (J k14) ?_
  obtain ⟨y30,h31,h⟩:=obind h
  have hP32:=pop0 hH18
  have hF0:AllG ([]:List (List BX→Prop)) []:=AllG.nil
  obtain ⟨Ls33,Lf34,hG35,hF36,hP37⟩:=HS.popS hP32 hG19 hF0 (j:=0) rfl (Sub.down Sub.here h24)
  refine callF (al:=true) (g:=106) (args:=[((KT.at k2 (Int.toNat i15)) []),(J k14)]) rfl rfl rfl (laws_markInt64S_K10_ok (Sub.one hG19 (j:=0) rfl (Sub.down Sub.here h24)) (enterK hP37) hF36 (enterLo hP37 hl) h31 (wf' hH18)) ?_
  rintro _ _ s38 ⟨Ls40,rfl,hH41,hG42⟩
  have hJ43:=joinK hP37 hH41
  obtain ⟨Ls44,Lf45,hG46,hF47,hP48⟩:=HS.pushS hJ43 hG35 hG42 (j:=0) rfl
  cases hF47
  have hH49:=push0 hP48
  refine aq (J y30.1)<|nl ?_
  refine inBlock<|region<|q (J i15) ?_
  refine q (J (W (i15+1))) ?_
  refine aq (J (W (i15+1)))<|nl ?_
  cases h
  exact res [(0,h1),(1,(J y30.1)),(5,(J (W (i15+1))))] [] ⟨rfl,rfl,rfl,tv⟩ tv (hL1 _ rfl (s38,Ls44) _ _ ⟨hH49,hG46⟩)
 refine cF hc20<|exit rfl ?_
 obtain ⟨r50,hm,hx⟩:=omap h
 clear h
 subst hx
 have hx:=hR1 _ rfl
 rw[hx] at hm
 have h:=hm
 exact res [(1,(J k14))] [] ⟨rfl,tv⟩ tv (KJ12 (m13,k14,s16,Ls17) _ _ ⟨hH18,hG19,h⟩)
theorem laws_markInt64SSS_K10_ok {a4:List (List (List Int))} {k5:Int} {h1:AV} {k2:KT} {s:St} (ho3:h1.one=true) {ex:List Nat} {Ls0:List (List BX)} (hH0:HS ex true s s (([]:List BX)++Ls0.flatten)) (hG0:AllG [OS oE30 h1 k2 a4] Ls0) (hl:LoOK ex true s) {r:Int × (List (List (List Int)))} (h:laws_markInt64SSS_K10 a4 k5=some r) (hs:WF s):ACall Cf 57 [h1,(J k5)] s (fun v _ s'=>∃ (Ls':List (List BX)),v=(J r.1)∧HS ex true s s' (([]:List BX)++Ls'.flatten)∧AllG [OS oE30 h1 k2 r.2] Ls') true:=by
 refine ACall.keepR rfl rfl rfl ?_
 unfold laws_markInt64SSS_K10 at h
 refine sr<|q (J 0)<|nl ?_
 refine seq<|sr<|q (J 0)<|nl ?_
 refine meet (σ:=(List (List (List Int))) × Int × St × (List (List BX))) (fun (m6,k7,s8,Ls9) tm os=>⟨updL tm [(1,(J k7))],updL os [],s8⟩) (fun (m6,k7,s8,Ls9)=>(HS ex true s s8 (([]:List BX)++Ls9.flatten))∧(AllG [OS oE30 h1 k2 m6] Ls9)∧laws_markInt64SSS_K10_J1 m6 k7=some r) ?_ ?_
 ·rintro ⟨m6,k7,s8,Ls9⟩ tm os ⟨hH10,hG11,h⟩
  unfold laws_markInt64SSS_K10_J1 at h
  refine sr<|q (J k7) ?_
  refine aq (J k7)<|nl ?_
  cases h
  exact ret ⟨_,_,rfl,⟨Ls9,rfl,hH10,hG11⟩⟩
 intro KJ12
 refine block<|res [(0,h1),(1,(J k5)),(5,(J 0))] [] ⟨rfl,rfl,rfl,tv⟩ tv ?_
 refine loopF (σ:=(List (List (List Int))) × Int × Int) (τ:=St × (List (List BX))) (fun (m13,k14,i15) (s16,Ls17)=>(HS ex true s s16 (([]:List BX)++Ls17.flatten))∧(AllG [OS oE30 h1 k2 m13] Ls17)) (fun (m13,k14,i15) (s16,Ls17) tm os=>⟨updL tm [(0,h1),(1,(J k14)),(5,(J i15))],updL os [],s16⟩) ?_ (x:=(a4,k5,0)) (y:=(s,Ls0)) h ⟨hH0,hG0⟩
 clear h
 rintro ⟨m13,k14,i15⟩ ⟨s16,Ls17⟩ tm os ⟨hH18,hG19⟩ ee1 h hL1 hR1
 unfold laws_markInt64SSS_K10_S1 at h
 dsimp only at h
 refine seq<|sr<|q (J i15) ?_
 refine q h1<|lenO (j:=0) hG19 rfl Sub.here rfl rfl rfl rfl rfl ?_
 refine q (bool (decide ((i15:Int)<(m13.length:Int))))<|nl ?_
 rcases oite h with ⟨hc20,h⟩ | ⟨hc20,h⟩
 ·refine cT hc20<|skip<|seq<|block<|region<|q h1 ?_
  refine q (J i15) ?_
  obtain ⟨x23,h24,h⟩:=obind h
  refine idxO (j:=0) hG19 rfl Sub.here h24 rfl rfl rfl rfl rfl rfl rfl rfl rfl ?_
  intro b21 hb22
  refine AOps.ldO (j:=0) (q:=0) hH18 hG19 rfl Sub.here h24 hb22 rfl rfl rfl rfl rfl (lt_b rfl) (le_b rfl) rfl rfl ?_ (fun c B hc=>by obtain ⟨rfl,_⟩:=hc; exact ⟨_,rfl⟩)
  intro c25 B26 v27 h28 h29
  obtain ⟨rfl,_⟩:=h28
  cases h29
  refine q (J k14) ?_
  obtain ⟨y30,h31,h⟩:=obind h
  have hP32:=pop0 hH18
  have hF0:AllG ([]:List (List BX→Prop)) []:=AllG.nil
  obtain ⟨Ls33,Lf34,hG35,hF36,hP37⟩:=HS.popS hP32 hG19 hF0 (j:=0) rfl (Sub.down Sub.here h24)
  refine callF (al:=true) (g:=58) (args:=[((KT.at k2 (Int.toNat i15)) []),(J k14)]) rfl rfl rfl (laws_markInt64SS_K10_ok (Sub.one hG19 (j:=0) rfl (Sub.down Sub.here h24)) (enterK hP37) hF36 (enterLo hP37 hl) h31 (wf' hH18)) ?_
  rintro _ _ s38 ⟨Ls40,rfl,hH41,hG42⟩
  have hJ43:=joinK hP37 hH41
  obtain ⟨Ls44,Lf45,hG46,hF47,hP48⟩:=HS.pushS hJ43 hG35 hG42 (j:=0) rfl
  cases hF47
  have hH49:=push0 hP48
  refine aq (J y30.1)<|nl ?_
  refine inBlock<|region<|q (J i15) ?_
  refine q (J (W (i15+1))) ?_
  refine aq (J (W (i15+1)))<|nl ?_
  cases h
  exact res [(0,h1),(1,(J y30.1)),(5,(J (W (i15+1))))] [] ⟨rfl,rfl,rfl,tv⟩ tv (hL1 _ rfl (s38,Ls44) _ _ ⟨hH49,hG46⟩)
 refine cF hc20<|exit rfl ?_
 obtain ⟨r50,hm,hx⟩:=omap h
 clear h
 subst hx
 have hx:=hR1 _ rfl
 rw[hx] at hm
 have h:=hm
 exact res [(1,(J k14))] [] ⟨rfl,tv⟩ tv (KJ12 (m13,k14,s16,Ls17) _ _ ⟨hH18,hG19,h⟩)
theorem laws_markChecker_K10_ok {a1:Checker} {k14:Int} {h2 h5 h8 h11:AV} {k3 k6 k9 k12:KT} {s:St} (ho4:h2.one=true) (ho7:h5.one=true) (ho10:h8.one=true) (ho13:h11.one=true) {ex:List Nat} {Ls0:List (List BX)} (hH0:HS ex true s s (([]:List BX)++Ls0.flatten)) (hG0:AllG [OS oE4 h2 k3 a1.Accept,OS oE63 h5 k6 a1.Call,OS oE30 h8 k9 a1.Return,OS oE64 h11 k12 a1.Inner] Ls0) (hl:LoOK ex true s) {r:Int × (List Bool) × (List (List Push)) × (List (List (List Int))) × (List (List Int))} (h:laws_markChecker_K10 a1 k14=some r) (hs:WF s):ACall Cf 13 [(agg [(J a1.Stack),(J a1.Start),h2,h5,h8,h11]),(J k14)] s (fun v _ s'=>∃ (Ls':List (List BX)),v=(J r.1)∧HS ex true s s' (([]:List BX)++Ls'.flatten)∧AllG [OS oE4 h2 k3 r.2.1,OS oE63 h5 k6 r.2.2.1,OS oE30 h8 k9 r.2.2.2.1,OS oE64 h11 k12 r.2.2.2.2] Ls') true:=by
 refine ACall.keepR rfl rfl rfl ?_
 unfold laws_markChecker_K10 at h
 refine sr<|AOps.boxR (v:=(agg [(J a1.Stack),(J a1.Start),h2,h5,h8,h11])) rfl rfl rfl rfl rfl (lay_cons rfl (lay_cons rfl (lay_cons ho4 (lay_cons ho7 (lay_cons ho10 (lay_cons ho13 lay_nil)))))) rfl rfl<|q (J 0)<|ns ?_
 refine q (eptr [(J a1.Stack),(J a1.Start),h2,h5,h8,h11] 2) ?_
 refine lE h2 ?_
 refine q (J k14) ?_
 obtain ⟨y15,h16,h⟩:=obind h
 have hP17:=pop0 hH0
 have hF0:AllG ([]:List (List BX→Prop)) []:=AllG.nil
 obtain ⟨Ls18,Lf19,hG20,hF21,hP22⟩:=popG hP17 hG0 hF0 (j:=0) rfl
 refine callF (al:=true) (g:=55) (args:=[h2,(J k14)]) rfl rfl rfl (laws_markBoolS_K10_ok ho4 (enterK hP22) hF21 (enterLo hP22 hl) h16 (wf' hH0)) ?_
 rintro _ _ s23 ⟨Ls25,rfl,hH26,hG27⟩
 have hJ28:=joinK hP22 hH26
 obtain ⟨Ls29,Lf30,hG31,hF32,hP33⟩:=putG hJ28 hG20 hG27 (j:=0) rfl
 cases hF32
 have hH34:=push0 hP33
 refine aq (J y15.1)<|ns ?_
 refine q (eptr [(J a1.Stack),(J a1.Start),h2,h5,h8,h11] 3) ?_
 refine lE h5 ?_
 refine q (J y15.1) ?_
 obtain ⟨y35,h36,h⟩:=obind h
 have hP37:=pop0 hH34
 have hF0:AllG ([]:List (List BX→Prop)) []:=AllG.nil
 obtain ⟨Ls38,Lf39,hG40,hF41,hP42⟩:=popG hP37 hG31 hF0 (j:=1) rfl
 refine callF (al:=true) (g:=56) (args:=[h5,(J y15.1)]) rfl rfl rfl (laws_markPushSS_K10_ok ho7 (enterK hP42) hF41 (enterLo hP42 hl) h36 (wf' hH34)) ?_
 rintro _ _ s43 ⟨Ls45,rfl,hH46,hG47⟩
 have hJ48:=joinK hP42 hH46
 obtain ⟨Ls49,Lf50,hG51,hF52,hP53⟩:=putG hJ48 hG40 hG47 (j:=1) rfl
 cases hF52
 have hH54:=push0 hP53
 refine aq (J y35.1)<|ns ?_
 refine q (eptr [(J a1.Stack),(J a1.Start),h2,h5,h8,h11] 4) ?_
 refine lE h8 ?_
 refine q (J y35.1) ?_
 obtain ⟨y55,h56,h⟩:=obind h
 have hP57:=pop0 hH54
 have hF0:AllG ([]:List (List BX→Prop)) []:=AllG.nil
 obtain ⟨Ls58,Lf59,hG60,hF61,hP62⟩:=popG hP57 hG51 hF0 (j:=2) rfl
 refine callF (al:=true) (g:=57) (args:=[h8,(J y35.1)]) rfl rfl rfl (laws_markInt64SSS_K10_ok ho10 (enterK hP62) hF61 (enterLo hP62 hl) h56 (wf' hH54)) ?_
 rintro _ _ s63 ⟨Ls65,rfl,hH66,hG67⟩
 have hJ68:=joinK hP62 hH66
 obtain ⟨Ls69,Lf70,hG71,hF72,hP73⟩:=putG hJ68 hG60 hG67 (j:=2) rfl
 cases hF72
 have hH74:=push0 hP73
 refine aq (J y55.1)<|ns ?_
 refine q (eptr [(J a1.Stack),(J a1.Start),h2,h5,h8,h11] 5) ?_
 refine lE h11 ?_
 refine q (J y55.1) ?_
 obtain ⟨y75,h76,h⟩:=obind h
 have hP77:=pop0 hH74
 have hF0:AllG ([]:List (List BX→Prop)) []:=AllG.nil
 obtain ⟨Ls78,Lf79,hG80,hF81,hP82⟩:=popG hP77 hG71 hF0 (j:=3) rfl
 refine callF (al:=true) (g:=58) (args:=[h11,(J y55.1)]) rfl rfl rfl (laws_markInt64SS_K10_ok ho13 (enterK hP82) hF81 (enterLo hP82 hl) h76 (wf' hH74)) ?_
 rintro _ _ s83 ⟨Ls85,rfl,hH86,hG87⟩
 have hJ88:=joinK hP82 hH86
 obtain ⟨Ls89,Lf90,hG91,hF92,hP93⟩:=putG hJ88 hG80 hG87 (j:=3) rfl
 cases hF92
 have hH94:=push0 hP93
 refine aq (J y75.1)<|ns ?_
 refine q (J y75.1) ?_
 refine aq (J y75.1)<|nl ?_
 cases h
 exact ret ⟨_,_,rfl,⟨Ls89,rfl,hH94,hG91⟩⟩
theorem laws_heldBoolS_okN {a1:List Bool} {k6:Int} {z2:Nat} {f3:Bool} {e4:List AV} {s:St} (h5:LR rB 1 a1 z2 e4) {r:Int} (h:laws_heldBoolS a1 k6=some r) (hs:WF s):ACallN Cf 59 [(sl z2 f3 e4),(J k6)] s fun v _ s'=>rJ r v∧s'=s:=by
 refine ACallN.pure rfl rfl rfl .I ?_
 have hWF:=hs.lo'
 unfold laws_heldBoolS at h
 refine sr<|q (J 0)<|nl ?_
 refine seq<|sr<|q (J 0)<|nl ?_
 refine meet (σ:=Int) (fun k7 tm os=>⟨updL tm [(1,(J k7))],updL os [],s.M⟩) (fun k7=>laws_heldBoolS_J1 k7=some r) ?_ ?_
 ·rintro k7 tm os h
  unfold laws_heldBoolS_J1 at h
  refine sr<|q (J k7) ?_
  refine aq (J k7)<|nl ?_
  cases h
  exact ret ⟨rfl,_,_,rfl,rfl⟩
 intro KJ8
 refine block<|res [(0,(sl z2 f3 e4)),(1,(J k6)),(5,(J 0))] [] ⟨rfl,rfl,rfl,tv⟩ tv ?_
 refine loopF (σ:=Int × Int) (τ:=Unit) (fun (k9,i10) _=>True) (fun (k9,i10) _ tm os=>⟨updL tm [(0,(sl z2 f3 e4)),(1,(J k9)),(5,(J i10))],updL os [],s.M⟩) ?_ (x:=(k6,0)) (y:=()) h tv
 clear h
 rintro ⟨k9,i10⟩ _ tm os - ee1 h hL1 hR1
 unfold laws_heldBoolS_S1 at h
 dsimp only at h
 refine seq<|sr<|q (J i10) ?_
 refine q (sl z2 f3 e4)<|AOps.p rfl (len_eq h5) ?_
 refine q (bool (decide ((i10:Int)<(a1.length:Int))))<|nl ?_
 rcases oite h with ⟨hc11,h⟩ | ⟨hc11,h⟩
 ·refine cT hc11<|skip<|seq<|block<|seq<|sr<|q (sl z2 f3 e4) ?_
  refine q (J i10) ?_
  obtain ⟨x12,h13,h⟩:=obind h
  obtain ⟨v16,h14,h15⟩:=idx_sl h5 h13
  cases h14
  refine pureR rfl rfl rfl h15 rfl (rfl:_=(eptr [(bool x12)] 0))<|lE (bool x12) ?_
  refine q (J k9) ?_
  obtain ⟨q17,h18,h⟩:=obind h
  refine pureR rfl rfl rfl (rem_ok h18) rfl (rfl:_=(J q17))<|q (bool (q17 == 0)) ?_
  refine q (bool (!(x12 == (q17 == 0))))<|nl ?_
  rcases oite h with ⟨hc19,h⟩ | ⟨hc19,h⟩
  ·refine cT hc19<|sr<|q (J (-1))<|nl ?_
   cases h
   have hr:=hR1 _ rfl
   subst hr
   exact ret ⟨rfl,_,_,rfl,rfl⟩
  refine cF hc19<|skip<|region<|q (J k9) ?_
  refine q (J (W (k9+1))) ?_
  refine aq (J (W (k9+1)))<|nl ?_
  refine inBlock<|region<|q (J i10) ?_
  refine q (J (W (i10+1))) ?_
  refine aq (J (W (i10+1)))<|nl ?_
  cases h
  exact res [(0,(sl z2 f3 e4)),(1,(J (W (k9+1)))),(5,(J (W (i10+1))))] [] ⟨rfl,rfl,rfl,tv⟩ tv (hL1 _ rfl () _ _ tv)
 refine cF hc11<|exit rfl ?_
 obtain ⟨r20,hm,hx⟩:=omap h
 clear h
 subst hx
 have hx:=hR1 _ rfl
 rw[hx] at hm
 have h:=hm
 exact res [(1,(J k9))] [] ⟨rfl,tv⟩ tv (KJ8 (k9) _ _ h)
theorem laws_heldPushS_okN {a1:List Push} {k6:Int} {z2:Nat} {f3:Bool} {e4:List AV} {s:St} (h5:LR rPush 2 a1 z2 e4) {r:Int} (h:laws_heldPushS a1 k6=some r) (hs:WF s):ACallN Cf 107 [(sl z2 f3 e4),(J k6)] s fun v _ s'=>rJ r v∧s'=s:=by
 refine ACallN.pure rfl rfl rfl .I ?_
 have hWF:=hs.lo'
 unfold laws_heldPushS at h
 refine sr ?_
 refine q (J 0) ?_
 refine nl ?_
 refine seq ?_
 refine sr ?_
 refine q (J 0) ?_
 refine nl ?_
 refine meet (σ:=Int) (fun k7 tm os=>⟨updL tm [(1,(J k7))],updL os [],s.M⟩) (fun k7=>laws_heldPushS_J1 k7=some r) ?_ ?_
 ·rintro k7 tm os h
  unfold laws_heldPushS_J1 at h
  refine sr ?_
  refine q (J k7) ?_
  refine aq (J k7) ?_
  refine nl ?_
  cases h
  exact ret ⟨rfl,_,_,rfl,rfl⟩
 intro KJ8
 refine block ?_
 refine res [(0,(sl z2 f3 e4)),(1,(J k6)),(5,(J 0))] [] ⟨rfl,rfl,rfl,tv⟩ tv ?_
 refine loopF (σ:=Int × Int) (τ:=Unit) (fun (k9,i10) _=>True) (fun (k9,i10) _ tm os=>⟨updL tm [(0,(sl z2 f3 e4)),(1,(J k9)),(5,(J i10))],updL os [],s.M⟩) ?_ (x:=(k6,0)) (y:=()) h tv
 clear h
 rintro ⟨k9,i10⟩ _ tm os - ee1 h hL1 hR1
 unfold laws_heldPushS_S1 at h
 dsimp only at h
 refine seq ?_
 refine sr ?_
 refine q (J i10) ?_
 refine q (sl z2 f3 e4) ?_
 refine AOps.p rfl (len_eq h5) ?_
 refine q (bool (decide ((i10:Int)<(a1.length:Int)))) ?_
 refine nl ?_
 rcases oite h with ⟨hc11,h⟩ | ⟨hc11,h⟩
 ·refine cT hc11 ?_
  refine skip ?_
  refine seq ?_
  refine block ?_
  refine seq ?_
  refine sr ?_
  refine q (sl z2 f3 e4) ?_
  refine q (J i10) ?_
  obtain ⟨x12,h13,h⟩:=obind h
  obtain ⟨v16,h14,h15⟩:=idx_sl h5 h13
  obtain ⟨_,rfl,h17⟩:=h14
  obtain ⟨_,_,rfl,h18,h19⟩:=Cs_cons h17
  cases h18
  obtain ⟨_,_,rfl,h20,h21⟩:=Cs_cons h19
  cases h20
  cases Cs_nil h21
  refine pureR rfl rfl rfl h15 rfl (rfl:_=(eptr [(J x12.To),(J x12.Put)] 0)) ?_
  refine q (eptr [(J x12.To),(J x12.Put)] 0) ?_
  refine lE (J x12.To) ?_
  refine q (J k9) ?_
  refine q (bool (x12.To != k9)) ?_
  refine nl ?_
  rcases oite h with ⟨hc22,h⟩ | ⟨hc22,h⟩
  ·refine cT hc22 ?_
   refine sr ?_
   refine q (J (-1)) ?_
   refine nl ?_
   cases h
   have hr:=hR1 _ rfl
   subst hr
   exact ret ⟨rfl,_,_,rfl,rfl⟩
  refine cF hc22 ?_
  refine skip ?_
  refine sr ?_
  refine q (J k9) ?_
  refine q (J (W (k9+1))) ?_
  refine aq (J (W (k9+1))) ?_
  refine nl ?_
  refine seq ?_
  refine sr ?_
  refine q (sl z2 f3 e4) ?_
  refine q (J i10) ?_
  obtain ⟨x23,h24,h⟩:=obind h
  obtain ⟨v27,h25,h26⟩:=idx_sl h5 h24
  obtain ⟨_,rfl,h28⟩:=h25
  obtain ⟨_,_,rfl,h29,h30⟩:=Cs_cons h28
  cases h29
  obtain ⟨_,_,rfl,h31,h32⟩:=Cs_cons h30
  cases h31
  cases Cs_nil h32
  refine pureR rfl rfl rfl h26 rfl (rfl:_=(eptr [(J x23.To),(J x23.Put)] 0)) ?_
  refine q (eptr [(J x23.To),(J x23.Put)] 1) ?_
  refine lE (J x23.Put) ?_
  refine q (J (W (k9+1))) ?_
  refine q (bool (x23.Put != (W (k9+1)))) ?_
  refine nl ?_
  rcases oite h with ⟨hc33,h⟩ | ⟨hc33,h⟩
  ·refine cT hc33 ?_
   refine sr ?_
   refine q (J (-1)) ?_
   refine nl ?_
   cases h
   have hr:=hR1 _ rfl
   subst hr
   exact ret ⟨rfl,_,_,rfl,rfl⟩
  refine cF hc33 ?_
  refine skip ?_
  refine region ?_
  refine q (J (W (k9+1))) ?_
  refine q (J (W ((W (k9+1))+1))) ?_
  refine aq (J (W ((W (k9+1))+1))) ?_
  refine nl ?_
  refine inBlock ?_
  refine region ?_
  refine q (J i10) ?_
  refine q (J (W (i10+1))) ?_
  refine aq (J (W (i10+1))) ?_
  refine nl ?_
  cases h
  exact res [(0,(sl z2 f3 e4)),(1,(J (W ((W (k9+1))+1)))),(5,(J (W (i10+1))))] [] ⟨rfl,rfl,rfl,tv⟩ tv (hL1 _ rfl () _ _ tv)
 refine cF hc11 ?_
 refine exit rfl ?_
 obtain ⟨r34,hm,hx⟩:=omap h
 clear h
 subst hx
 have hx:=hR1 _ rfl
 rw[hx] at hm
 have h:=hm
 exact res [(1,(J k9))] [] ⟨rfl,tv⟩ tv (KJ8 (k9) _ _ h)
theorem laws_heldPushSS_okN {a1:List (List Push)} {k6:Int} {z2:Nat} {f3:Bool} {e4:List AV} {s:St} (h5:LR (rL rPush 2) 1 a1 z2 e4) {r:Int} (h:laws_heldPushSS a1 k6=some r) (hs:WF s):ACallN Cf 60 [(sl z2 f3 e4),(J k6)] s fun v _ s'=>rJ r v∧s'=s:=by
 refine ACallN.pure rfl rfl rfl .I ?_
 have hWF:=hs.lo'
 unfold laws_heldPushSS at h
 refine sr<|q (J 0)<|nl ?_
 refine seq<|sr<|q (J 0)<|nl ?_
 refine meet (σ:=Int) (fun k7 tm os=>⟨updL tm [(1,(J k7))],updL os [],s.M⟩) (fun k7=>laws_heldPushSS_J1 k7=some r) ?_ ?_
 ·rintro k7 tm os h
  unfold laws_heldPushSS_J1 at h
  refine sr<|q (J k7) ?_
  refine aq (J k7)<|nl ?_
  cases h
  exact ret ⟨rfl,_,_,rfl,rfl⟩
 intro KJ8
 refine block<|res [(0,(sl z2 f3 e4)),(1,(J k6)),(5,(J 0))] [] ⟨rfl,rfl,rfl,tv⟩ tv ?_
 refine loopF (σ:=Int × Int) (τ:=Unit) (fun (k9,i10) _=>True) (fun (k9,i10) _ tm os=>⟨updL tm [(0,(sl z2 f3 e4)),(1,(J k9)),(5,(J i10))],updL os [],s.M⟩) ?_ (x:=(k6,0)) (y:=()) h tv
 clear h
 rintro ⟨k9,i10⟩ _ tm os - ee1 h hL1 hR1
 unfold laws_heldPushSS_S1 at h
 dsimp only at h
 refine seq<|sr<|q (J i10) ?_
 refine q (sl z2 f3 e4)<|AOps.p rfl (len_eq h5) ?_
 refine q (bool (decide ((i10:Int)<(a1.length:Int))))<|nl ?_
 rcases oite h with ⟨hc11,h⟩ | ⟨hc11,h⟩
 ·refine cT hc11<|skip<|seq<|block<|sr<|q (sl z2 f3 e4) ?_
  refine q (J i10) ?_
  obtain ⟨x12,h13,h⟩:=obind h
  obtain ⟨v16,h14,h15⟩:=idx_sl h5 h13
  obtain ⟨z17,f18,e19,rfl,h20⟩:=h14
  refine pureR rfl rfl rfl h15 rfl (rfl:_=(eptr [(sl z17 f18 e19)] 0))<|lE (sl z17 f18 e19) ?_
  refine q (J k9) ?_
  obtain ⟨y21,h22,h⟩:=obind h
  refine lendP (g:=107) (args:=[(sl z17 f18 e19),(J k9)]) (ps:=[(rL rPush 2) x12,rJ k9]) (p:=rJ y21) rfl rfl rfl rfl rfl rfl rfl (.cons (Fin.of (p:=(rL rPush 2) x12) (.L fun _=>(.A (.cons .I (.cons .I .nil)))) (⟨_,_,_,rfl,h20⟩)) (.cons (Fin.of (p:=rJ k9) .I rfl) .nil)) (fun args' hc=>by obtain ⟨_,_,rfl,hv0,hd0⟩:=Cs_cons hc; obtain ⟨z23,f24,e25,rfl,h26⟩:=hv0; obtain ⟨_,_,rfl,hv1,hd1⟩:=Cs_cons hd0; cases hv1; cases Cs_nil hd1; exact laws_heldPushS_okN h26 h22 WF.blind) (fun v n hv=>by cases hv; rfl) ?_
  intro _ h27
  cases h27
  refine aq (J y21)<|ns ?_
  refine q (J y21) ?_
  refine q (bool (decide ((y21:Int)<0)))<|nl ?_
  rcases oite h with ⟨hc28,h⟩ | ⟨hc28,h⟩
  ·refine cT hc28<|sr<|q (J (-1))<|nl ?_
   cases h
   have hr:=hR1 _ rfl
   subst hr
   exact ret ⟨rfl,_,_,rfl,rfl⟩
  refine cF hc28<|skip<|inBlock<|region<|q (J i10) ?_
  refine q (J (W (i10+1))) ?_
  refine aq (J (W (i10+1)))<|nl ?_
  cases h
  exact res [(0,(sl z2 f3 e4)),(1,(J y21)),(5,(J (W (i10+1))))] [] ⟨rfl,rfl,rfl,tv⟩ tv (hL1 _ rfl () _ _ tv)
 refine cF hc11<|exit rfl ?_
 obtain ⟨r29,hm,hx⟩:=omap h
 clear h
 subst hx
 have hx:=hR1 _ rfl
 rw[hx] at hm
 have h:=hm
 exact res [(1,(J k9))] [] ⟨rfl,tv⟩ tv (KJ8 (k9) _ _ h)
theorem laws_heldInt64S_okN {a1:List Int} {k6:Int} {z2:Nat} {f3:Bool} {e4:List AV} {s:St} (h5:LR rJ 1 a1 z2 e4) {r:Int} (h:laws_heldInt64S a1 k6=some r) (hs:WF s):ACallN Cf 108 [(sl z2 f3 e4),(J k6)] s fun v _ s'=>rJ r v∧s'=s:=by
 refine ACallN.pure rfl rfl rfl .I ?_
 have hWF:=hs.lo'
 unfold laws_heldInt64S at h
 refine sr<|q (J 0)<|nl ?_
 refine seq<|sr<|q (J 0)<|nl ?_
 refine meet (σ:=Int) (fun k7 tm os=>⟨updL tm [(1,(J k7))],updL os [],s.M⟩) (fun k7=>laws_heldInt64S_J1 k7=some r) ?_ ?_
 ·rintro k7 tm os h
  unfold laws_heldInt64S_J1 at h
  refine sr<|q (J k7) ?_
  refine aq (J k7)<|nl ?_
  cases h
  exact ret ⟨rfl,_,_,rfl,rfl⟩
 intro KJ8
 refine block<|res [(0,(sl z2 f3 e4)),(1,(J k6)),(5,(J 0))] [] ⟨rfl,rfl,rfl,tv⟩ tv ?_
 refine loopF (σ:=Int × Int) (τ:=Unit) (fun (k9,i10) _=>True) (fun (k9,i10) _ tm os=>⟨updL tm [(0,(sl z2 f3 e4)),(1,(J k9)),(5,(J i10))],updL os [],s.M⟩) ?_ (x:=(k6,0)) (y:=()) h tv
 clear h
 rintro ⟨k9,i10⟩ _ tm os - ee1 h hL1 hR1
 unfold laws_heldInt64S_S1 at h
 dsimp only at h
 refine seq<|sr<|q (J i10) ?_
 refine q (sl z2 f3 e4)<|AOps.p rfl (len_eq h5) ?_
 refine q (bool (decide ((i10:Int)<(a1.length:Int))))<|nl ?_
 rcases oite h with ⟨hc11,h⟩ | ⟨hc11,h⟩
 ·refine cT hc11<|skip<|seq<|block<|seq<|sr<|q (sl z2 f3 e4) ?_
  refine q (J i10) ?_
  obtain ⟨x12,h13,h⟩:=obind h
  obtain ⟨v16,h14,h15⟩:=idx_sl h5 h13
  cases h14
  refine pureR rfl rfl rfl h15 rfl (rfl:_=(eptr [(J x12)] 0))<|lE (J x12) ?_
  refine q (J k9) ?_
  refine q (bool (x12 != k9))<|nl ?_
  rcases oite h with ⟨hc17,h⟩ | ⟨hc17,h⟩
  ·refine cT hc17<|sr<|q (J (-1))<|nl ?_
   cases h
   have hr:=hR1 _ rfl
   subst hr
   exact ret ⟨rfl,_,_,rfl,rfl⟩
  refine cF hc17<|skip<|region<|q (J k9) ?_
  refine q (J (W (k9+1))) ?_
  refine aq (J (W (k9+1)))<|nl ?_
  refine inBlock<|region<|q (J i10) ?_
  refine q (J (W (i10+1))) ?_
  refine aq (J (W (i10+1)))<|nl ?_
  cases h
  exact res [(0,(sl z2 f3 e4)),(1,(J (W (k9+1)))),(5,(J (W (i10+1))))] [] ⟨rfl,rfl,rfl,tv⟩ tv (hL1 _ rfl () _ _ tv)
 refine cF hc11<|exit rfl ?_
 obtain ⟨r18,hm,hx⟩:=omap h
 clear h
 subst hx
 have hx:=hR1 _ rfl
 rw[hx] at hm
 have h:=hm
 exact res [(1,(J k9))] [] ⟨rfl,tv⟩ tv (KJ8 (k9) _ _ h)
theorem laws_heldInt64SS_okN {a1:List (List Int)} {k6:Int} {z2:Nat} {f3:Bool} {e4:List AV} {s:St} (h5:LR (rL rJ 1) 1 a1 z2 e4) {r:Int} (h:laws_heldInt64SS a1 k6=some r) (hs:WF s):ACallN Cf 62 [(sl z2 f3 e4),(J k6)] s fun v _ s'=>rJ r v∧s'=s:=by
 refine ACallN.pure rfl rfl rfl .I ?_
 have hWF:=hs.lo'
 unfold laws_heldInt64SS at h
 refine sr<|q (J 0)<|nl ?_
 refine seq<|sr<|q (J 0)<|nl ?_
 refine meet (σ:=Int) (fun k7 tm os=>⟨updL tm [(1,(J k7))],updL os [],s.M⟩) (fun k7=>laws_heldInt64SS_J1 k7=some r) ?_ ?_
 ·rintro k7 tm os h
  unfold laws_heldInt64SS_J1 at h
  refine sr<|q (J k7) ?_
  refine aq (J k7)<|nl ?_
  cases h
  exact ret ⟨rfl,_,_,rfl,rfl⟩
 intro KJ8
 refine block<|res [(0,(sl z2 f3 e4)),(1,(J k6)),(5,(J 0))] [] ⟨rfl,rfl,rfl,tv⟩ tv ?_
 refine loopF (σ:=Int × Int) (τ:=Unit) (fun (k9,i10) _=>True) (fun (k9,i10) _ tm os=>⟨updL tm [(0,(sl z2 f3 e4)),(1,(J k9)),(5,(J i10))],updL os [],s.M⟩) ?_ (x:=(k6,0)) (y:=()) h tv
 clear h
 rintro ⟨k9,i10⟩ _ tm os - ee1 h hL1 hR1
 unfold laws_heldInt64SS_S1 at h
 dsimp only at h
 refine seq<|sr<|q (J i10) ?_
 refine q (sl z2 f3 e4)<|AOps.p rfl (len_eq h5) ?_
 refine q (bool (decide ((i10:Int)<(a1.length:Int))))<|nl ?_
 rcases oite h with ⟨hc11,h⟩ | ⟨hc11,h⟩
 ·refine cT hc11<|skip<|seq<|block<|sr<|q (sl z2 f3 e4) ?_
  refine q (J i10) ?_
  obtain ⟨x12,h13,h⟩:=obind h
  obtain ⟨v16,h14,h15⟩:=idx_sl h5 h13
  obtain ⟨z17,f18,e19,rfl,h20⟩:=h14
  refine pureR rfl rfl rfl h15 rfl (rfl:_=(eptr [(sl z17 f18 e19)] 0))<|lE (sl z17 f18 e19) ?_
  refine q (J k9) ?_
  obtain ⟨y21,h22,h⟩:=obind h
  refine lendP (g:=108) (args:=[(sl z17 f18 e19),(J k9)]) (ps:=[(rL rJ 1) x12,rJ k9]) (p:=rJ y21) rfl rfl rfl rfl rfl rfl rfl (.cons (Fin.of (p:=(rL rJ 1) x12) (.L fun _=>.I) (⟨_,_,_,rfl,h20⟩)) (.cons (Fin.of (p:=rJ k9) .I rfl) .nil)) (fun args' hc=>by obtain ⟨_,_,rfl,hv0,hd0⟩:=Cs_cons hc; obtain ⟨z23,f24,e25,rfl,h26⟩:=hv0; obtain ⟨_,_,rfl,hv1,hd1⟩:=Cs_cons hd0; cases hv1; cases Cs_nil hd1; exact laws_heldInt64S_okN h26 h22 WF.blind) (fun v n hv=>by cases hv; rfl) ?_
  intro _ h27
  cases h27
  refine aq (J y21)<|ns ?_
  refine q (J y21) ?_
  refine q (bool (decide ((y21:Int)<0)))<|nl ?_
  rcases oite h with ⟨hc28,h⟩ | ⟨hc28,h⟩
  ·refine cT hc28<|sr<|q (J (-1))<|nl ?_
   cases h
   have hr:=hR1 _ rfl
   subst hr
   exact ret ⟨rfl,_,_,rfl,rfl⟩
  refine cF hc28<|skip<|inBlock<|region<|q (J i10) ?_
  refine q (J (W (i10+1))) ?_
  refine aq (J (W (i10+1)))<|nl ?_
  cases h
  exact res [(0,(sl z2 f3 e4)),(1,(J y21)),(5,(J (W (i10+1))))] [] ⟨rfl,rfl,rfl,tv⟩ tv (hL1 _ rfl () _ _ tv)
 refine cF hc11<|exit rfl ?_
 obtain ⟨r29,hm,hx⟩:=omap h
 clear h
 subst hx
 have hx:=hR1 _ rfl
 rw[hx] at hm
 have h:=hm
 exact res [(1,(J k9))] [] ⟨rfl,tv⟩ tv (KJ8 (k9) _ _ h)
theorem laws_heldInt64SSS_okN {a1:List (List (List Int))} {k6:Int} {z2:Nat} {f3:Bool} {e4:List AV} {s:St} (h5:LR (rL (rL rJ 1) 1) 1 a1 z2 e4) {r:Int} (h:laws_heldInt64SSS a1 k6=some r) (hs:WF s):ACallN Cf 61 [(sl z2 f3 e4),(J k6)] s fun v _ s'=>rJ r v∧s'=s:=by
 refine ACallN.pure rfl rfl rfl .I ?_
 have hWF:=hs.lo'
 unfold laws_heldInt64SSS at h
 refine sr<|q (J 0)<|nl ?_
 refine seq<|sr<|q (J 0)<|nl ?_
 refine meet (σ:=Int) (fun k7 tm os=>⟨updL tm [(1,(J k7))],updL os [],s.M⟩) (fun k7=>laws_heldInt64SSS_J1 k7=some r) ?_ ?_
 ·rintro k7 tm os h
  unfold laws_heldInt64SSS_J1 at h
  refine sr<|q (J k7) ?_
  refine aq (J k7)<|nl ?_
  cases h
  exact ret ⟨rfl,_,_,rfl,rfl⟩
 intro KJ8
 refine block<|res [(0,(sl z2 f3 e4)),(1,(J k6)),(5,(J 0))] [] ⟨rfl,rfl,rfl,tv⟩ tv ?_
 refine loopF (σ:=Int × Int) (τ:=Unit) (fun (k9,i10) _=>True) (fun (k9,i10) _ tm os=>⟨updL tm [(0,(sl z2 f3 e4)),(1,(J k9)),(5,(J i10))],updL os [],s.M⟩) ?_ (x:=(k6,0)) (y:=()) h tv
 clear h
 rintro ⟨k9,i10⟩ _ tm os - ee1 h hL1 hR1
 unfold laws_heldInt64SSS_S1 at h
 dsimp only at h
 refine seq<|sr<|q (J i10) ?_
 refine q (sl z2 f3 e4)<|AOps.p rfl (len_eq h5) ?_
 refine q (bool (decide ((i10:Int)<(a1.length:Int))))<|nl ?_
 rcases oite h with ⟨hc11,h⟩ | ⟨hc11,h⟩
 ·refine cT hc11<|skip<|seq<|block<|sr<|q (sl z2 f3 e4) ?_
  refine q (J i10) ?_
  obtain ⟨x12,h13,h⟩:=obind h
  obtain ⟨v16,h14,h15⟩:=idx_sl h5 h13
  obtain ⟨z17,f18,e19,rfl,h20⟩:=h14
  refine pureR rfl rfl rfl h15 rfl (rfl:_=(eptr [(sl z17 f18 e19)] 0))<|lE (sl z17 f18 e19) ?_
  refine q (J k9) ?_
  obtain ⟨y21,h22,h⟩:=obind h
  refine lendP (g:=62) (args:=[(sl z17 f18 e19),(J k9)]) (ps:=[(rL (rL rJ 1) 1) x12,rJ k9]) (p:=rJ y21) rfl rfl rfl rfl rfl rfl rfl (.cons (Fin.of (p:=(rL (rL rJ 1) 1) x12) (.L fun _=>(.L fun _=>.I)) (⟨_,_,_,rfl,h20⟩)) (.cons (Fin.of (p:=rJ k9) .I rfl) .nil)) (fun args' hc=>by obtain ⟨_,_,rfl,hv0,hd0⟩:=Cs_cons hc; obtain ⟨z23,f24,e25,rfl,h26⟩:=hv0; obtain ⟨_,_,rfl,hv1,hd1⟩:=Cs_cons hd0; cases hv1; cases Cs_nil hd1; exact laws_heldInt64SS_okN h26 h22 WF.blind) (fun v n hv=>by cases hv; rfl) ?_
  intro _ h27
  cases h27
  refine aq (J y21)<|ns ?_
  refine q (J y21) ?_
  refine q (bool (decide ((y21:Int)<0)))<|nl ?_
  rcases oite h with ⟨hc28,h⟩ | ⟨hc28,h⟩
  ·refine cT hc28<|sr<|q (J (-1))<|nl ?_
   cases h
   have hr:=hR1 _ rfl
   subst hr
   exact ret ⟨rfl,_,_,rfl,rfl⟩
  refine cF hc28<|skip<|inBlock<|region<|q (J i10) ?_
  refine q (J (W (i10+1))) ?_
  refine aq (J (W (i10+1)))<|nl ?_
  cases h
  exact res [(0,(sl z2 f3 e4)),(1,(J y21)),(5,(J (W (i10+1))))] [] ⟨rfl,rfl,rfl,tv⟩ tv (hL1 _ rfl () _ _ tv)
 refine cF hc11<|exit rfl ?_
 obtain ⟨r29,hm,hx⟩:=omap h
 clear h
 subst hx
 have hx:=hR1 _ rfl
 rw[hx] at hm
 have h:=hm
 exact res [(1,(J k9))] [] ⟨rfl,tv⟩ tv (KJ8 (k9) _ _ h)
theorem laws_heldChecker_okN {a1:Checker} {k18:Int} {z2 z6 z10 z14:Nat} {f3 f7 f11 f15:Bool} {e4 e8 e12 e16:List AV} {s:St} (h5:LR rB 1 a1.Accept z2 e4) (h9:LR (rL rPush 2) 1 a1.Call z6 e8) (h13:LR (rL (rL rJ 1) 1) 1 a1.Return z10 e12) (h17:LR (rL rJ 1) 1 a1.Inner z14 e16) {r:Int} (h:laws_heldChecker a1 k18=some r) (hs:WF s):ACallN Cf 14 [(agg [(J a1.Stack),(J a1.Start),(sl z2 f3 e4),(sl z6 f7 e8),(sl z10 f11 e12),(sl z14 f15 e16)]),(J k18)] s fun v _ s'=>rJ r v∧s'=s:=by
 refine ACallN.pure rfl rfl rfl .I ?_
 have hWF:=hs.lo'
 unfold laws_heldChecker at h
 refine sr<|makeR rfl rfl rfl rfl rfl rfl (rfl:_=(eptr [(J a1.Stack),(J a1.Start),(sl z2 f3 e4),(sl z6 f7 e8),(sl z10 f11 e12),(sl z14 f15 e16)] 0))<|q (J 0)<|ns ?_
 refine q (eptr [(J a1.Stack),(J a1.Start),(sl z2 f3 e4),(sl z6 f7 e8),(sl z10 f11 e12),(sl z14 f15 e16)] 2) ?_
 refine lE (sl z2 f3 e4) ?_
 refine q (J k18) ?_
 obtain ⟨y19,h20,h⟩:=obind h
 refine lendP (g:=59) (args:=[(sl z2 f3 e4),(J k18)]) (ps:=[(rL rB 1) a1.Accept,rJ k18]) (p:=rJ y19) rfl rfl rfl rfl rfl rfl rfl (.cons (Fin.of (p:=(rL rB 1) a1.Accept) (.L fun _=>.B) (⟨_,_,_,rfl,h5⟩)) (.cons (Fin.of (p:=rJ k18) .I rfl) .nil)) (fun args' hc=>by obtain ⟨_,_,rfl,hv0,hd0⟩:=Cs_cons hc; obtain ⟨z21,f22,e23,rfl,h24⟩:=hv0; obtain ⟨_,_,rfl,hv1,hd1⟩:=Cs_cons hd0; cases hv1; cases Cs_nil hd1; exact laws_heldBoolS_okN h24 h20 WF.blind) (fun v n hv=>by cases hv; rfl) ?_
 intro _ h25
 cases h25
 refine aq (J y19)<|nl ?_
 refine seq<|sr<|q (J y19) ?_
 refine q (bool (decide ((y19:Int)<0)))<|nl ?_
 rcases oite h with ⟨hc26,h⟩ | ⟨hc26,h⟩
 ·refine cT hc26<|sr<|q (J (-1))<|nl ?_
  cases h
  exact ret ⟨rfl,_,_,rfl,rfl⟩
 refine cF hc26<|skip<|sr<|q (eptr [(J a1.Stack),(J a1.Start),(sl z2 f3 e4),(sl z6 f7 e8),(sl z10 f11 e12),(sl z14 f15 e16)] 3) ?_
 refine lE (sl z6 f7 e8) ?_
 refine q (J y19) ?_
 obtain ⟨y27,h28,h⟩:=obind h
 refine lendP (g:=60) (args:=[(sl z6 f7 e8),(J y19)]) (ps:=[(rL (rL rPush 2) 1) a1.Call,rJ y19]) (p:=rJ y27) rfl rfl rfl rfl rfl rfl rfl (.cons (Fin.of (p:=(rL (rL rPush 2) 1) a1.Call) (.L fun _=>(.L fun _=>(.A (.cons .I (.cons .I .nil))))) (⟨_,_,_,rfl,h9⟩)) (.cons (Fin.of (p:=rJ y19) .I rfl) .nil)) (fun args' hc=>by obtain ⟨_,_,rfl,hv0,hd0⟩:=Cs_cons hc; obtain ⟨z29,f30,e31,rfl,h32⟩:=hv0; obtain ⟨_,_,rfl,hv1,hd1⟩:=Cs_cons hd0; cases hv1; cases Cs_nil hd1; exact laws_heldPushSS_okN h32 h28 WF.blind) (fun v n hv=>by cases hv; rfl) ?_
 intro _ h33
 cases h33
 refine aq (J y27)<|nl ?_
 refine seq<|sr<|q (J y27) ?_
 refine q (bool (decide ((y27:Int)<0)))<|nl ?_
 rcases oite h with ⟨hc34,h⟩ | ⟨hc34,h⟩
 ·refine cT hc34<|sr<|q (J (-1))<|nl ?_
  cases h
  exact ret ⟨rfl,_,_,rfl,rfl⟩
 refine cF hc34<|skip<|sr<|q (eptr [(J a1.Stack),(J a1.Start),(sl z2 f3 e4),(sl z6 f7 e8),(sl z10 f11 e12),(sl z14 f15 e16)] 4) ?_
 refine lE (sl z10 f11 e12) ?_
 refine q (J y27) ?_
 obtain ⟨y35,h36,h⟩:=obind h
 refine lendP (g:=61) (args:=[(sl z10 f11 e12),(J y27)]) (ps:=[(rL (rL (rL rJ 1) 1) 1) a1.Return,rJ y27]) (p:=rJ y35) rfl rfl rfl rfl rfl rfl rfl (.cons (Fin.of (p:=(rL (rL (rL rJ 1) 1) 1) a1.Return) (.L fun _=>(.L fun _=>(.L fun _=>.I))) (⟨_,_,_,rfl,h13⟩)) (.cons (Fin.of (p:=rJ y27) .I rfl) .nil)) (fun args' hc=>by obtain ⟨_,_,rfl,hv0,hd0⟩:=Cs_cons hc; obtain ⟨z37,f38,e39,rfl,h40⟩:=hv0; obtain ⟨_,_,rfl,hv1,hd1⟩:=Cs_cons hd0; cases hv1; cases Cs_nil hd1; exact laws_heldInt64SSS_okN h40 h36 WF.blind) (fun v n hv=>by cases hv; rfl) ?_
 intro _ h41
 cases h41
 refine aq (J y35)<|nl ?_
 refine seq<|sr<|q (J y35) ?_
 refine q (bool (decide ((y35:Int)<0)))<|nl ?_
 rcases oite h with ⟨hc42,h⟩ | ⟨hc42,h⟩
 ·refine cT hc42<|sr<|q (J (-1))<|nl ?_
  cases h
  exact ret ⟨rfl,_,_,rfl,rfl⟩
 refine cF hc42<|skip<|sr<|q (eptr [(J a1.Stack),(J a1.Start),(sl z2 f3 e4),(sl z6 f7 e8),(sl z10 f11 e12),(sl z14 f15 e16)] 5) ?_
 refine lE (sl z14 f15 e16) ?_
 refine q (J y35) ?_
 obtain ⟨y43,h44,h⟩:=obind h
 refine lendP (g:=62) (args:=[(sl z14 f15 e16),(J y35)]) (ps:=[(rL (rL rJ 1) 1) a1.Inner,rJ y35]) (p:=rJ y43) rfl rfl rfl rfl rfl rfl rfl (.cons (Fin.of (p:=(rL (rL rJ 1) 1) a1.Inner) (.L fun _=>(.L fun _=>.I)) (⟨_,_,_,rfl,h17⟩)) (.cons (Fin.of (p:=rJ y35) .I rfl) .nil)) (fun args' hc=>by obtain ⟨_,_,rfl,hv0,hd0⟩:=Cs_cons hc; obtain ⟨z45,f46,e47,rfl,h48⟩:=hv0; obtain ⟨_,_,rfl,hv1,hd1⟩:=Cs_cons hd0; cases hv1; cases Cs_nil hd1; exact laws_heldInt64SS_okN h48 h44 WF.blind) (fun v n hv=>by cases hv; rfl) ?_
 intro _ h49
 cases h49
 refine aq (J y43)<|nl ?_
 refine seq<|sr<|q (J y43) ?_
 refine q (bool (decide ((y43:Int)<0)))<|nl ?_
 rcases oite h with ⟨hc50,h⟩ | ⟨hc50,h⟩
 ·refine cT hc50<|sr<|q (J (-1))<|nl ?_
  cases h
  exact ret ⟨rfl,_,_,rfl,rfl⟩
 refine cF hc50<|skip<|sr<|q (J y43) ?_
 refine aq (J y43)<|nl ?_
 cases h
 exact ret ⟨rfl,_,_,rfl,rfl⟩
end Go.Proofs.YtpchecdlbagedaaGreat.law
