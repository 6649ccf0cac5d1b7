import Derived.Test.YtmahhacghgkigaaGreatAeD
import Derived.Test.YtmahhacghgkigaaGreatAe4
import Derived.Test.YtmahhacghgkigaaGreatAeK2
set_option linter.unusedVariables false
set_option linter.unusedSimpArgs false
namespace Go.Proofs.YtmahhacghgkigaaGreat.law
open Go Go.Proofs Ae
open Ae.AV (int sl eptr agg ptr bool str)
set_option maxRecDepth 100000
set_option linter.unusedVariables false
theorem impl_deedsCode_ok {v1:Stream} {deeds22:List Deed} {z2 z6 z10 z14 z18 z23:Nat} {f3 f7 f11 f15 f19 f24:Bool} {e4 e8 e12 e16 e20 e25:List AV} {s:St} (h5:LR rB 1 v1.Checker.Accept z2 e4) (h9:LR (rL rPush 2) 1 v1.Checker.Call z6 e8) (h13:LR (rL (rL rJ 1) 1) 1 v1.Checker.Return z10 e12) (h17:LR (rL rJ 1) 1 v1.Checker.Inner z14 e16) (h21:LR rS 1 v1.Pieces z18 e20) (h26:LR rDeed 3 deeds22 z23 e25) {r:Int} (h:impl_deedsCode v1 deeds22=some r) (hs:WF s):ACall Cf 20 [(agg [(J v1.Checker.Stack),(J v1.Checker.Start),(sl z2 f3 e4),(sl z6 f7 e8),(sl z10 f11 e12),(sl z14 f15 e16),(sl z18 f19 e20)]),(sl z23 f24 e25)] s fun v _ s'=>rJ r v∧s'=s:=by
 refine ACall.pure rfl rfl rfl .I ?_
 have hWF:=hs.lo'
 unfold impl_deedsCode at h
 refine sr ?_
 refine AOps.makeR rfl rfl rfl rfl rfl rfl (rfl:_=(eptr [(J v1.Checker.Stack),(J v1.Checker.Start),(sl z2 f3 e4),(sl z6 f7 e8),(sl z10 f11 e12),(sl z14 f15 e16),(sl z18 f19 e20)] 0)) ?_
 refine q (J 0) ?_
 refine nl ?_
 refine AW.seq ?_
 refine AW.block ?_
 refine sr ?_
 refine lE (agg [(J v1.Checker.Stack),(J v1.Checker.Start),(sl z2 f3 e4),(sl z6 f7 e8),(sl z10 f11 e12),(sl z14 f15 e16),(sl z18 f19 e20)]) ?_
 obtain ⟨y27,h28,h⟩:=obind h
 refine cP (impl_ValidStream_ok h5 h9 h13 h17 h21 h28 hWF) ?_
 intro _ o30 h29
 cases h29
 refine q (bool (!y27)) ?_
 refine q (bool (!y27)) ?_
 obtain ⟨b32,hb,h⟩:=obind h
 refine AOps.split 3 (fun f'=>∃ tm' os',f'=⟨updL tm' [(1,(sl z23 f24 e25)),(12,(bool b32))],updL os' [],{ s with lo:=s.n }⟩) ?_ ?_
 ·rcases oite hb with ⟨hc31,hb⟩ | ⟨hc31,hb⟩
  ·refine kn 9 hc31 ?_
   refine sk ?_
   refine sk ?_
   refine q (bool true) ?_
   exact rR ⟨rfl,congrArg bool (Option.some.inj hb),trivial⟩
  ·have h:=hb
   refine kn 9 hc31 ?_
   refine q (sl z23 f24 e25) ?_
   obtain ⟨y40,h41,h⟩:=obind h
   refine cP (slices_ContainsFunc_simpl_Deed_impl_Deed_ok h26 (by intro x vs y hc hx s hs; obtain ⟨_,_,rfl,hv0,hd0⟩:=Cs_cons hc; obtain ⟨_,rfl,h33⟩:=hv0; obtain ⟨_,_,rfl,h34,h35⟩:=Cs_cons h33; cases h34; obtain ⟨_,_,rfl,h36,h37⟩:=Cs_cons h35; cases h36; obtain ⟨_,_,rfl,h38,h39⟩:=Cs_cons h37; cases h38; cases Cs_nil h39; cases Cs_nil hd0; exact impl_deedsCode_1_ok  hx hs) h41 hWF) ?_
   intro _ o43 h42
   cases h42
   refine q (bool y40) ?_
   exact rR ⟨rfl,congrArg bool (Option.some.inj h),trivial⟩
 rintro _ ⟨tm,os,rfl⟩
 refine aq (bool b32) ?_
 refine nl ?_
 rcases oite h with ⟨hc44,h⟩ | ⟨hc44,h⟩
 ·refine cT hc44 ?_
  refine sr ?_
  refine q (J 1) ?_
  refine nl ?_
  cases h
  exact AW.ret ⟨rfl,_,_,rfl,rfl⟩
 refine cF hc44 ?_
 refine sr ?_
 refine q (sl z23 f24 e25) ?_
 refine AOps.p rfl (len_eq h26) ?_
 refine q (bool (decide (((deeds22.length:Int):Int)>300))) ?_
 refine aq (bool (decide (((deeds22.length:Int):Int)>300))) ?_
 refine nl ?_
 rcases oite h with ⟨hc45,h⟩ | ⟨hc45,h⟩
 ·refine cT hc45 ?_
  refine sr ?_
  refine q (J 2) ?_
  refine nl ?_
  cases h
  exact AW.ret ⟨rfl,_,_,rfl,rfl⟩
 refine cF hc45 ?_
 refine AW.skip ?_
 refine AW.inBlock ?_
 refine sr ?_
 refine q (J 0) ?_
 refine nl ?_
 cases h
 exact AW.ret ⟨rfl,_,_,rfl,rfl⟩
theorem impl_newWorks_K0_ok {v1:Stream} {z2 z6 z10 z14 z18:Nat} {f3 f7 f11 f15 f19:Bool} {e4 e8 e12 e16 e20:List AV} {s:St} (h5:LR rB 1 v1.Checker.Accept z2 e4) (h9:LR (rL rPush 2) 1 v1.Checker.Call z6 e8) (h13:LR (rL (rL rJ 1) 1) 1 v1.Checker.Return z10 e12) (h17:LR (rL rJ 1) 1 v1.Checker.Inner z14 e16) (h21:LR rS 1 v1.Pieces z18 e20) {r:Works} (h:impl_newWorks_K0 v1=some r) (hs:WF s):ACall Cf 44 [(agg [(J v1.Checker.Stack),(J v1.Checker.Start),(sl z2 f3 e4),(sl z6 f7 e8),(sl z10 f11 e12),(sl z14 f15 e16),(sl z18 f19 e20)])] s (fun v _ s'=>∃ (b1':Nat) (w2':Nat→Bool) (z3':Nat) (f4':Bool) (e5':List AV) (h7':AV) (k8':KT) (z10':Nat) (f11':Bool) (e12':List AV) (h14':AV) (k15':KT) (h17':AV) (k18':KT) (z20':Nat) (f21':Bool) (e22':List AV) (z24':Nat) (f25':Bool) (e26':List AV) (z28':Nat) (f29':Bool) (e30':List AV) (z32':Nat) (f33':Bool) (e34':List AV) (z36':Nat) (f37':Bool) (e38':List AV) (Ls':List (List BX)),v=(ptr b1' 0)∧HS [] true s s' (([⟨some b1',[(J r.Plant_.Desk_.Read),(J r.Plant_.Desk_.State),(sl z3' f4' e5'),h7',(J r.Plant_.Saved.Read),(J r.Plant_.Saved.State),(sl z10' f11' e12'),h14',h17',(J r.stream.Checker.Stack),(J r.stream.Checker.Start),(sl z20' f21' e22'),(sl z24' f25' e26'),(sl z28' f29' e30'),(sl z32' f33' e34'),(sl z36' f37' e38')],w2'⟩]:List BX)++Ls'.flatten)∧AllG [OS oE2 h7' k8' r.Plant_.Desk_.Waiting,OS oE2 h14' k15' r.Plant_.Saved.Waiting,OS oE114 h17' k18' r.Plant_.Wire] Ls'∧LR rJ 1 r.Plant_.Desk_.Stack z3' e5'∧h7'.one=true∧LR rJ 1 r.Plant_.Saved.Stack z10' e12'∧h14'.one=true∧h17'.one=true∧LR rB 1 r.stream.Checker.Accept z20' e22'∧LR (rL rPush 2) 1 r.stream.Checker.Call z24' e26'∧LR (rL (rL rJ 1) 1) 1 r.stream.Checker.Return z28' e30'∧LR (rL rJ 1) 1 r.stream.Checker.Inner z32' e34'∧LR rS 1 r.stream.Pieces z36' e38') true:=by
 refine ACall.keepR rfl rfl rfl ?_
 have hH0:=HS.g0 (HS.initK hs)
 have hG0:=AllG.nil
 have hl:LoOK [] true s:=LoOK.nil
 unfold impl_newWorks_K0 at h
 refine sr ?_
 refine AOps.makeR rfl rfl rfl rfl rfl rfl (rfl:_=(eptr [(J v1.Checker.Stack),(J v1.Checker.Start),(sl z2 f3 e4),(sl z6 f7 e8),(sl z10 f11 e12),(sl z14 f15 e16),(sl z18 f19 e20)] 0)) ?_
 refine q AV.nilp ?_
 refine ns ?_
 refine q (eptr [(J v1.Checker.Stack),(J v1.Checker.Start),(sl z2 f3 e4),(sl z6 f7 e8),(sl z10 f11 e12),(sl z14 f15 e16),(sl z18 f19 e20)] 0) ?_
 refine q (eptr [(J v1.Checker.Stack),(J v1.Checker.Start),(sl z2 f3 e4),(sl z6 f7 e8),(sl z10 f11 e12),(sl z14 f15 e16),(sl z18 f19 e20)] 1) ?_
 refine lE (J v1.Checker.Start) ?_
 refine q (agg [(J 0),(J v1.Checker.Start),(sl 0 true []),(sl 0 true [])]) ?_
 refine AOps.allocP rfl rfl rfl rfl ⟨rfl,rfl⟩ rfl ?_
 refine AOps.stP (v:=(agg [(J 0),(J v1.Checker.Start),(sl 0 true []),(sl 0 true [])])) rfl rfl rfl rfl rfl rfl rfl rfl rfl (lt_b rfl) rfl ?_
 refine ns ?_
 refine lE (agg [(J 0),(J v1.Checker.Start),(sl 0 true []),(sl 0 true [])]) ?_
 refine lE (agg [(J 0),(J v1.Checker.Start),(sl 0 true []),(sl 0 true [])]) ?_
 refine q (agg [(J 0),(J v1.Checker.Start),(sl 0 true []),(sl 0 true []),(J 0),(J v1.Checker.Start),(sl 0 true []),(sl 0 true []),(sl 0 true [])]) ?_
 refine lE (agg [(J v1.Checker.Stack),(J v1.Checker.Start),(sl z2 f3 e4),(sl z6 f7 e8),(sl z10 f11 e12),(sl z14 f15 e16),(sl z18 f19 e20)]) ?_
 refine q (agg [(J 0),(J v1.Checker.Start),(sl 0 true []),(sl 0 true []),(J 0),(J v1.Checker.Start),(sl 0 true []),(sl 0 true []),(sl 0 true []),(J v1.Checker.Stack),(J v1.Checker.Start),(sl z2 f3 e4),(sl z6 f7 e8),(sl z10 f11 e12),(sl z14 f15 e16),(sl z18 f19 e20)]) ?_
 refine AOps.box1 (v:=(agg [(J 0),(J v1.Checker.Start),(sl 0 true []),(sl 0 true []),(J 0),(J v1.Checker.Start),(sl 0 true []),(sl 0 true []),(sl 0 true []),(J v1.Checker.Stack),(J v1.Checker.Start),(sl z2 f3 e4),(sl z6 f7 e8),(sl z10 f11 e12),(sl z14 f15 e16),(sl z18 f19 e20)])) hH0 rfl rfl rfl rfl rfl rfl rfl rfl ?_
 intro b22 s23 hH24
 change HS [] true s s23 (([⟨some b22,[(J 0),(J v1.Checker.Start),(sl 0 true []),(sl 0 true []),(J 0),(J v1.Checker.Start),(sl 0 true []),(sl 0 true []),(sl 0 true []),(J v1.Checker.Stack),(J v1.Checker.Start),(sl z2 f3 e4),(sl z6 f7 e8),(sl z10 f11 e12),(sl z14 f15 e16),(sl z18 f19 e20)],(fun _=>false)⟩]:List BX)++List.flatten ([]:List (List BX))) at hH24
 refine aq (ptr b22 0) ?_
 refine nl ?_
 cases h
 have hG25:=AllG.cons (OS.nil (e:=oE2) (k:=fun _=>AV.undef) (z:=0) (Or.inr rfl)) hG0
 have hH26:=HS.addNil hH24
 change HS [] true s s23 (([⟨some b22,[(J 0),(J v1.Checker.Start),(sl 0 true []),(sl 0 true []),(J 0),(J v1.Checker.Start),(sl 0 true []),(sl 0 true []),(sl 0 true []),(J v1.Checker.Stack),(J v1.Checker.Start),(sl z2 f3 e4),(sl z6 f7 e8),(sl z10 f11 e12),(sl z14 f15 e16),(sl z18 f19 e20)],(fun _=>false)⟩]:List BX)++List.flatten ([]::([]:List (List BX)))) at hH26
 change AllG [OS oE2 (sl 0 true []) (fun _=>AV.undef) ([]:List Int)] ([]::([]:List (List BX))) at hG25
 have hG27:=AllG.cons (OS.nil (e:=oE2) (k:=fun _=>AV.undef) (z:=0) (Or.inr rfl)) hG25
 have hH28:=HS.addNil hH26
 change HS [] true s s23 (([⟨some b22,[(J 0),(J v1.Checker.Start),(sl 0 true []),(sl 0 true []),(J 0),(J v1.Checker.Start),(sl 0 true []),(sl 0 true []),(sl 0 true []),(J v1.Checker.Stack),(J v1.Checker.Start),(sl z2 f3 e4),(sl z6 f7 e8),(sl z10 f11 e12),(sl z14 f15 e16),(sl z18 f19 e20)],(fun _=>false)⟩]:List BX)++List.flatten ([]::([]::([]:List (List BX))))) at hH28
 change AllG [OS oE2 (sl 0 true []) (fun _=>AV.undef) ([]:List Int),OS oE2 (sl 0 true []) (fun _=>AV.undef) ([]:List Int)] ([]::([]::([]:List (List BX)))) at hG27
 have hG29:=AllG.cons (OS.nil (e:=oE114) (k:=fun _=>AV.undef) (z:=0) (Or.inr rfl)) hG27
 have hH30:=HS.addNil hH28
 change HS [] true s s23 (([⟨some b22,[(J 0),(J v1.Checker.Start),(sl 0 true []),(sl 0 true []),(J 0),(J v1.Checker.Start),(sl 0 true []),(sl 0 true []),(sl 0 true []),(J v1.Checker.Stack),(J v1.Checker.Start),(sl z2 f3 e4),(sl z6 f7 e8),(sl z10 f11 e12),(sl z14 f15 e16),(sl z18 f19 e20)],(fun _=>false)⟩]:List BX)++List.flatten ([]::([]::([]::([]:List (List BX)))))) at hH30
 change AllG [OS oE114 (sl 0 true []) (fun _=>AV.undef) ([]:List Parcel),OS oE2 (sl 0 true []) (fun _=>AV.undef) ([]:List Int),OS oE2 (sl 0 true []) (fun _=>AV.undef) ([]:List Int)] ([]::([]::([]::([]:List (List BX))))) at hG29
 obtain ⟨Ls31,hG32,hH33⟩:=HS.selEG hH30 hG29 [some 0] [some 2,some 1,some 0]
 exact AW.ret ⟨_,_,rfl,⟨b22,(fun _=>false),0,true,[],(sl 0 true []),(fun _=>AV.undef),0,true,[],(sl 0 true []),(fun _=>AV.undef),(sl 0 true []),(fun _=>AV.undef),z2,f3,e4,z6,f7,e8,z10,f11,e12,z14,f15,e16,z18,f19,e20,Ls31,rfl,hH33,hG32,(⟨.inr ⟨rfl,rfl⟩,.nil⟩),rfl,(⟨.inr ⟨rfl,rfl⟩,.nil⟩),rfl,rfl,h5,h9,h13,h17,h21⟩⟩
theorem impl_Desk_copied_K1_ok {d1:Desk} {z2:Nat} {f3:Bool} {e4:List AV} {h6:AV} {k7:KT} {s:St} (h5:LR rJ 1 d1.Stack z2 e4) (ho8:h6.one=true) {ex:List Nat} {Ls0:List (List BX)} (hH0:HS ex true s s (([]:List BX)++Ls0.flatten)) (hG0:AllG [OS oE2 h6 k7 d1.Waiting] Ls0) (hl:LoOK ex true s) {r:Desk} (h:impl_Desk_copied_K1 d1=some r) (hs:WF s):ACall Cf 73 [(agg [(J d1.Read),(J d1.State),(sl z2 f3 e4),h6])] s (fun v _ s'=>∃ (z1':Nat) (f2':Bool) (e3':List AV) (h5':AV) (k6':KT) (Ls':List (List BX)),v=(agg [(J r.Read),(J r.State),(sl z1' f2' e3'),h5'])∧HS ex true s s' (([]:List BX)++Ls'.flatten)∧AllG [OS oE2 h6 k7 d1.Waiting,OS oE2 h5' k6' r.Waiting] Ls'∧LR rJ 1 r.Stack z1' e3'∧h5'.one=true) true:=by
 refine ACall.keepR rfl rfl rfl ?_
 unfold impl_Desk_copied_K1 at h
 refine sr ?_
 refine AOps.boxR (v:=(agg [(J d1.Read),(J d1.State),(sl z2 f3 e4),h6])) rfl rfl rfl rfl rfl (lay_cons rfl (lay_cons rfl (lay_cons rfl (lay_cons ho8 lay_nil)))) rfl rfl ?_
 refine AOps.allocP rfl rfl rfl rfl ⟨rfl,rfl⟩ rfl ?_
 refine ns ?_
 refine q (eptr [(J d1.Read),(J d1.State),(sl z2 f3 e4),h6] 0) ?_
 refine lE (J d1.Read) ?_
 refine q (eptr [(J d1.Read),(J d1.State),(sl z2 f3 e4),h6] 1) ?_
 refine lE (J d1.State) ?_
 refine q (eptr [(J d1.Read),(J d1.State),(sl z2 f3 e4),h6] 2) ?_
 refine lE (sl z2 f3 e4) ?_
 obtain ⟨y9,h10,h⟩:=obind h
 refine AOps.callDPO (g:=103) (args:=[(sl z2 f3 e4)]) (p:=(rL rJ 1) y9) rfl rfl rfl (ext_clone103_ok h5 h10 ((HS.wf' hH0).still)) (fun v hv=>Nice.pure (k:=FINK) (p:=(rL rJ 1) y9) (.L fun _=>.I) _ v hv) ?_
 intro _ h11
 obtain ⟨z12,f13,e14,rfl,h15⟩:=h11
 refine q (eptr [(J d1.Read),(J d1.State),(sl z2 f3 e4),h6] 3) ?_
 refine lE h6 ?_
 obtain ⟨y17,h18,h⟩:=obind h
 refine AOps.cloneOE (j:=0) (g:=103) own_int rfl rfl rfl hH0 hG0 rfl Sub.here rfl rfl rfl h18 ?_
 intro h19 k21 Ls22 s23 ho20 hG24 hH25
 refine AOps.pureR rfl rfl rfl (build_of rfl rfl rfl rfl (fillA_step rfl rfl rfl rfl (le_b rfl) (fillA_step rfl rfl rfl rfl (le_b rfl) (fillA_step rfl rfl rfl rfl (le_b rfl) (fillA_step rfl (one_lay ho20) (AV.cells_one ho20) rfl (le_b rfl) (rfl:fillA _ _ []=_)))))) rfl (rfl:_=(agg [(J d1.Read),(J d1.State),(sl z12 f13 e14),h19])) ?_
 refine AOps.stP (v:=(agg [(J d1.Read),(J d1.State),(sl z12 f13 e14),h19])) rfl rfl rfl rfl rfl rfl rfl (lay_cons rfl (lay_cons rfl (lay_cons rfl (lay_cons ho20 lay_nil)))) rfl (lt_b rfl) rfl ?_
 refine nl ?_
 cases h
 obtain ⟨Ls26,hG27,hH28⟩:=HS.selEG hH25 hG24 [] [some 1,some 0]
 exact AW.ret ⟨_,_,rfl,⟨z12,f13,e14,h19,k21,Ls26,rfl,hH28,hG27,h15,ho20⟩⟩
theorem impl_size_impl_Parcel_okN {list1:List Parcel} {z2:Nat} {f3:Bool} {e4:List AV} {s:St} (h5:LR rParcel 2 list1 z2 e4) {r:Int} (h:impl_size_impl_Parcel list1=some r) (hs:WF s):ACallN Cf 74 [(sl z2 f3 e4)] s fun v _ s'=>rJ r v∧s'=s:=by
 refine ACallN.pure rfl rfl rfl .I ?_
 have hWF:=hs.lo'
 unfold impl_size_impl_Parcel at h
 refine sr ?_
 refine q (J 0) ?_
 refine ns ?_
 refine q (sl z2 f3 e4) ?_
 refine AOps.p rfl (len_eq h5) ?_
 refine aq (J (list1.length:Int)) ?_
 refine nl ?_
 cases h
 exact AW.ret ⟨rfl,_,_,rfl,rfl⟩
theorem slices_Index_sint64_int64_ok {s1:List Int} {v6:Int} {z2:Nat} {f3:Bool} {e4:List AV} {s:St} (h5:LR rJ 1 s1 z2 e4) {r:Int} (h:slices_Index_sint64_int64 s1 v6=some r) (hs:WF s):ACall Cf 77 [(sl z2 f3 e4),(J v6)] s fun v _ s'=>rJ r v∧s'=s:=by
 refine ACall.pure rfl rfl rfl .I ?_
 have hWF:=hs.lo'
 unfold slices_Index_sint64_int64 at h
 refine sr ?_
 refine q (J 0) ?_
 refine nl ?_
 refine AW.seq ?_
 refine sr ?_
 refine q (sl z2 f3 e4) ?_
 refine AOps.p rfl (len_eq h5) ?_
 refine q (J 0) ?_
 refine nl ?_
 refine AW.meet (σ:=Unit) (fun _ tm os=>⟨updL tm [],updL os [],{ s with lo:=s.n }⟩) (fun _=>slices_Index_sint64_int64_J1=some r) ?_ ?_
 ·rintro _ tm os h
  unfold slices_Index_sint64_int64_J1 at h
  refine sr ?_
  refine q (J (-1)) ?_
  refine nl ?_
  cases h
  exact AW.ret ⟨rfl,_,_,rfl,rfl⟩
 intro KJ7
 refine AW.block ?_
 refine AW.res [(0,(sl z2 f3 e4)),(1,(J v6)),(7,(J (s1.length:Int))),(8,(J 0))] [] ⟨rfl,rfl,rfl,rfl,trivial⟩ trivial ?_
 refine AW.loopF (σ:=Int) (τ:=Unit) (fun t8 _=>True) (fun t8 _ tm os=>⟨updL tm [(0,(sl z2 f3 e4)),(1,(J v6)),(7,(J (s1.length:Int))),(8,(J t8))],updL os [],{ s with lo:=s.n }⟩) ?_ (x:=(0)) (y:=()) h trivial
 clear h
 rintro t8 _ tm os - ee1 h hL1 hR1
 unfold slices_Index_sint64_int64_S1 at h
 refine sr ?_
 refine q (bool (decide ((t8:Int)<(s1.length:Int)))) ?_
 refine nl ?_
 refine AW.seq ?_
 rcases oite h with ⟨hc9,h⟩ | ⟨hc9,h⟩
 ·refine cT hc9 ?_
  refine AW.skip ?_
  refine AW.seq ?_
  refine AW.block ?_
  refine sr ?_
  refine q (J t8) ?_
  refine aq (J t8) ?_
  refine ns ?_
  refine q (J v6) ?_
  refine q (sl z2 f3 e4) ?_
  refine q (J t8) ?_
  obtain ⟨x10,h11,h⟩:=obind h
  obtain ⟨v14,h12,h13⟩:=idx_sl h5 h11
  cases h12
  refine AOps.pureR rfl rfl rfl h13 rfl (rfl:_=(eptr [(J x10)] 0)) ?_
  refine lE (J x10) ?_
  refine q (bool (v6 == x10)) ?_
  refine nl ?_
  rcases oite h with ⟨hc15,h⟩ | ⟨hc15,h⟩
  ·refine cT hc15 ?_
   refine sr ?_
   refine q (J t8) ?_
   refine aq (J t8) ?_
   refine nl ?_
   cases h
   have hr:=hR1 _ rfl
   subst hr
   exact AW.ret ⟨rfl,_,_,rfl,rfl⟩
  refine cF hc15 ?_
  refine AW.skip ?_
  refine AW.inBlock ?_
  refine AW.region ?_
  refine q (J (IntKind.wrap .i64 (t8+1))) ?_
  refine q (J (IntKind.wrap .i64 (t8+1))) ?_
  refine nl ?_
  cases h
  exact AW.res [(0,(sl z2 f3 e4)),(1,(J v6)),(7,(J (s1.length:Int))),(8,(J (IntKind.wrap .i64 (t8+1))))] [] ⟨rfl,rfl,rfl,rfl,trivial⟩ trivial (hL1 _ rfl () _ _ trivial)
 refine cF hc9 ?_
 refine AW.exit rfl ?_
 obtain ⟨r16,hm,hx⟩:=omap h
 clear h
 subst hx
 have hx:=hR1 _ rfl
 rw[hx] at hm
 have h:=hm
 exact AW.res [] [] trivial trivial (KJ7 () _ _ h)
theorem slices_Contains_sint64_int64_okN {s1:List Int} {v6:Int} {z2:Nat} {f3:Bool} {e4:List AV} {s:St} (h5:LR rJ 1 s1 z2 e4) {r:Bool} (h:slices_Contains_sint64_int64 s1 v6=some r) (hs:WF s):ACallN Cf 47 [(sl z2 f3 e4),(J v6)] s fun v _ s'=>(rB) r v∧s'=s:=by
 refine ACallN.pure rfl rfl rfl .B ?_
 have hWF:=hs.lo'
 unfold slices_Contains_sint64_int64 at h
 refine sr ?_
 refine q (bool false) ?_
 refine ns ?_
 refine q (sl z2 f3 e4) ?_
 refine q (J v6) ?_
 obtain ⟨y7,h8,h⟩:=obind h
 refine cP (slices_Index_sint64_int64_ok h5 h8 hWF) ?_
 intro _ o10 h9
 cases h9
 refine q (bool (decide ((y7:Int)≥0))) ?_
 refine aq (bool (decide ((y7:Int)≥0))) ?_
 refine nl ?_
 cases h
 exact AW.ret ⟨rfl,_,_,rfl,rfl⟩
theorem impl_Checker_end_1_F1_ok {s1 c710:Int} {rest2 c1114:List Int} {z3 b8 b12 z15:Nat} {f4 f16:Bool} {e5 e17:List AV} {w9 w13:Nat→Bool} {s:St} (h6:LR rJ 1 rest2 z3 e5) (h18:LR rJ 1 c1114 z15 e17) (hE:HS [b8,b12] false s { s with lo:=s.n } [⟨some b8,[(J c710)],w9⟩,⟨some b12,[(sl z15 f16 e17)],w13⟩]) {r:Unit × Int × (List Int)} (h:impl_Checker_end_1_F1 s1 rest2 c710 c1114=some r) (hs:WF s):ACall Cf 116 [(J s1),(sl z3 f4 e5),(ptr b8 0),(ptr b12 0)] s fun v _ s'=>(fun (_:Unit)=>rT []) r.1 v∧∃ (w0':Nat→Bool) (w1':Nat→Bool) (z1':Nat) (f1':Bool) (e1':List AV),Fx [b8,b12] s s' [⟨some b8,[(J r.2.1)],w0'⟩,⟨some b12,[(sl z1' f1' e1')],w1'⟩]∧LR rJ 1 r.2.2 z1' e1':=by
 refine ACall.foreign rfl rfl rfl ?_
 unfold impl_Checker_end_1_F1 at h
 refine AW.region ?_
 refine q (J s1) ?_
 refine q (sl z3 f4 e5) ?_
 refine AOps.stX (i:=0) (v:=(J s1)) hE rfl rfl rfl rfl rfl rfl rfl rfl rfl (lt_b rfl) (le_b rfl) rfl rfl ?_
 intro w19 s20 h21 h22 hH23
 refine AOps.stX (i:=1) (v:=(sl z3 f4 e5)) hH23 rfl rfl rfl rfl rfl rfl rfl rfl rfl (lt_b rfl) (le_b rfl) rfl (Nice.pure (k:=FINK) (p:=(rL rJ 1) rest2) (.L fun _=>.I) 0 _ ⟨_,_,_,rfl,h6⟩) ?_
 intro w24 s25 h26 h27 hH28
 refine nl ?_
 cases h
 exact AW.nil ⟨_,_,rfl,finF (p:=(fun (_:Unit)=>rT []) ()) (Fin.T .nil) ⟨w19,w24,z3,f4,e5,HS.leaveP hH28 [0,1] rfl,h6⟩⟩
theorem impl_kindOf_ok {c1 r:Int} {s:St} (h:impl_kindOf c1=some r) (hs:WF s):ACall Cf 140 [(int .u8 c1)] s fun v _ s'=>rJ r v∧s'=s:=by
 refine ACall.pure rfl rfl rfl .I ?_
 have hWF:=hs.lo'
 unfold impl_kindOf at h
 refine sr ?_
 refine q (J 0) ?_
 refine ns ?_
 refine q (int .u8 c1) ?_
 obtain ⟨y2,h3,h⟩:=obind h
 refine cP (strings_IndexByte_ok  h3 hWF) ?_
 intro _ o5 h4
 cases h4
 obtain ⟨q6,h7,h⟩:=obind h
 refine AOps.pureR rfl rfl rfl (rem_ok h7) rfl (rfl:_=(J q6)) ?_
 refine aq (J q6) ?_
 refine nl ?_
 cases h
 exact AW.ret ⟨rfl,_,_,rfl,rfl⟩
theorem impl_isCall_ok {c1:Int} {s:St} {r:Bool} (h:impl_isCall c1=some r) (hs:WF s):ACall Cf 141 [(int .u8 c1)] s fun v _ s'=>(rB) r v∧s'=s:=by
 refine ACall.pure rfl rfl rfl .B ?_
 have hWF:=hs.lo'
 unfold impl_isCall at h
 refine sr ?_
 refine q (bool false) ?_
 refine ns ?_
 refine q (int .u8 c1) ?_
 refine q (bool (c1 == 40)) ?_
 refine q (bool (c1 == 40)) ?_
 refine AOps.split 3 (fun f'=>∃ tm' os',f'=⟨updL tm' [(8,(bool ((c1 == 40)||(c1 == 91))))],updL os' [],{ s with lo:=s.n }⟩) ?_ ?_
 ·rcases Bool.eq_false_or_eq_true (c1 == 40) with hc2 | hc2
  ·refine kn 5 hc2 ?_
   refine sk ?_
   refine sk ?_
   refine q (bool true) ?_
   exact rR ⟨congrArg bool (or_t hc2),trivial⟩
  ·refine kn 5 hc2 ?_
   refine q (int .u8 c1) ?_
   refine q (bool (c1 == 91)) ?_
   refine q (bool (c1 == 91)) ?_
   exact rR ⟨congrArg bool (or_f hc2),trivial⟩
 rintro _ ⟨tm,os,rfl⟩
 refine aq (bool ((c1 == 40)||(c1 == 91))) ?_
 refine nl ?_
 cases h
 exact AW.ret ⟨rfl,_,_,rfl,rfl⟩
theorem impl_isInner_ok {c1:Int} {s:St} {r:Bool} (h:impl_isInner c1=some r) (hs:WF s):ACall Cf 142 [(int .u8 c1)] s fun v _ s'=>(rB) r v∧s'=s:=by
 refine ACall.pure rfl rfl rfl .B ?_
 have hWF:=hs.lo'
 unfold impl_isInner at h
 refine sr ?_
 refine q (bool false) ?_
 refine ns ?_
 refine q (int .u8 c1) ?_
 refine q (bool (c1 == 97)) ?_
 refine q (bool (c1 == 97)) ?_
 refine AOps.split 3 (fun f'=>∃ tm' os',f'=⟨updL tm' [(8,(bool ((c1 == 97)||(c1 == 98))))],updL os' [],{ s with lo:=s.n }⟩) ?_ ?_
 ·rcases Bool.eq_false_or_eq_true (c1 == 97) with hc2 | hc2
  ·refine kn 5 hc2 ?_
   refine sk ?_
   refine sk ?_
   refine q (bool true) ?_
   exact rR ⟨congrArg bool (or_t hc2),trivial⟩
  ·refine kn 5 hc2 ?_
   refine q (int .u8 c1) ?_
   refine q (bool (c1 == 98)) ?_
   refine q (bool (c1 == 98)) ?_
   exact rR ⟨congrArg bool (or_f hc2),trivial⟩
 rintro _ ⟨tm,os,rfl⟩
 refine aq (bool ((c1 == 97)||(c1 == 98))) ?_
 refine nl ?_
 cases h
 exact AW.ret ⟨rfl,_,_,rfl,rfl⟩
theorem impl_Checker_step_ok {p1:Checker} {p1_18 p3_24:Int} {p2_19:List Int} {z2 z6 z10 z14 z20:Nat} {f3 f7 f11 f15 f21:Bool} {e4 e8 e12 e16 e22:List AV} {s:St} (h5:LR rB 1 p1.Accept z2 e4) (h9:LR (rL rPush 2) 1 p1.Call z6 e8) (h13:LR (rL (rL rJ 1) 1) 1 p1.Return z10 e12) (h17:LR (rL rJ 1) 1 p1.Inner z14 e16) (h23:LR rJ 1 p2_19 z20 e22) {r:Int × (List Int)} (h:impl_Checker_step p1 p1_18 p2_19 p3_24=some r) (hs:WF s):ACall Cf 133 [(agg [(J p1.Stack),(J p1.Start),(sl z2 f3 e4),(sl z6 f7 e8),(sl z10 f11 e12),(sl z14 f15 e16)]),(J p1_18),(sl z20 f21 e22),(int .u8 p3_24)] s fun v _ s'=>(fun x=>rT [rJ x.1,(rL rJ 1) x.2]) r v∧s'=s:=by
 refine ACall.pure rfl rfl rfl (.T (.cons .I (.cons (.L fun _=>.I) .nil))) ?_
 have hWF:=hs.lo'
 unfold impl_Checker_step at h
 refine sr ?_
 refine AOps.makeR rfl rfl rfl rfl rfl rfl (rfl:_=(eptr [(J p1.Stack),(J p1.Start),(sl z2 f3 e4),(sl z6 f7 e8),(sl z10 f11 e12),(sl z14 f15 e16)] 0)) ?_
 refine q (J 0) ?_
 refine q (sl 0 true []) ?_
 refine ns ?_
 refine q (int .u8 p3_24) ?_
 obtain ⟨y25,h26,h⟩:=obind h
 refine cP (impl_kindOf_ok  h26 hWF) ?_
 intro _ o28 h27
 cases h27
 refine aq (J y25) ?_
 refine nl ?_
 refine AW.seq ?_
 refine AW.block ?_
 refine sr ?_
 refine q (int .u8 p3_24) ?_
 obtain ⟨y29,h30,h⟩:=obind h
 refine cP (impl_isCall_ok  h30 hWF) ?_
 intro _ o32 h31
 cases h31
 refine aq (bool y29) ?_
 refine nl ?_
 rcases oite h with ⟨hc33,h⟩ | ⟨hc33,h⟩
 ·refine cT hc33 ?_
  refine sr ?_
  refine q (eptr [(J p1.Stack),(J p1.Start),(sl z2 f3 e4),(sl z6 f7 e8),(sl z10 f11 e12),(sl z14 f15 e16)] 3) ?_
  refine lE (sl z6 f7 e8) ?_
  refine q (J p1_18) ?_
  obtain ⟨x34,h35,h⟩:=obind h
  obtain ⟨v38,h36,h37⟩:=idx_sl h9 h35
  obtain ⟨z39,f40,e41,rfl,h42⟩:=h36
  refine AOps.pureR rfl rfl rfl h37 rfl (rfl:_=(eptr [(sl z39 f40 e41)] 0)) ?_
  refine lE (sl z39 f40 e41) ?_
  refine q (J y25) ?_
  obtain ⟨x43,h44,h⟩:=obind h
  obtain ⟨v47,h45,h46⟩:=idx_sl h42 h44
  obtain ⟨_,rfl,h48⟩:=h45
  obtain ⟨_,_,rfl,h49,h50⟩:=Cs_cons h48
  cases h49
  obtain ⟨_,_,rfl,h51,h52⟩:=Cs_cons h50
  cases h51
  cases Cs_nil h52
  refine AOps.pureR rfl rfl rfl h46 rfl (rfl:_=(eptr [(J x43.To),(J x43.Put)] 0)) ?_
  refine lE (agg [(J x43.To),(J x43.Put)]) ?_
  refine AOps.allocP rfl rfl rfl rfl ⟨rfl,rfl⟩ rfl ?_
  refine AOps.stP (v:=(agg [(J x43.To),(J x43.Put)])) rfl rfl rfl rfl rfl rfl rfl rfl rfl (lt_b rfl) rfl ?_
  refine ns ?_
  refine q (eptr [(J x43.To),(J x43.Put)] 0) ?_
  refine lE (J x43.To) ?_
  refine q (sl z20 f21 e22) ?_
  obtain ⟨y53,h54,h⟩:=obind h
  refine AOps.callDPO (g:=103) (args:=[(sl z20 f21 e22)]) (p:=(rL rJ 1) y53) rfl rfl rfl (ext_clone103_ok h23 h54 hWF.still) (fun v hv=>Nice.pure (k:=FINK) (p:=(rL rJ 1) y53) (.L fun _=>.I) _ v hv) ?_
  intro _ h55
  obtain ⟨z56,f57,e58,rfl,h59⟩:=h55
  refine q (eptr [(J x43.To),(J x43.Put)] 1) ?_
  refine lE (J x43.Put) ?_
  refine AOps.makeR rfl rfl rfl rfl rfl rfl (rfl:_=(sl 1 true [(J x43.Put)])) ?_
  obtain ⟨l61,h62,h⟩:=obind h
  obtain ⟨h63,h64⟩:=app_LR h59 (LR.lit (r:=rI .i64) (sz:=1) (.cons rfl .nil)) h62
  refine AOps.appL (z:=z56) (f:=f57) (e:=e58) (z':=1) (f':=true) (e':=[(J x43.Put)]) rfl rfl rfl rfl rfl rfl rfl (appSrc_sl (LR.z (LR.lit (r:=rI .i64) (sz:=1) (.cons rfl .nil))) rfl) (LR.z h59) ⟨by decide,by decide,rfl,rfl⟩ rfl rfl h64 (Or.inr ⟨30,rfl,rfl⟩) ?_
  refine aq (J x43.To) ?_
  refine aq (sl 1 false (e58++[(J x43.Put)])) ?_
  refine nl ?_
  cases h
  exact AW.ret ⟨rfl,_,_,rfl,⟨_,rfl,(.cons rfl (.cons ⟨_,_,_,rfl,h63⟩ .nil))⟩⟩
 refine cF hc33 ?_
 refine sr ?_
 refine q (int .u8 p3_24) ?_
 obtain ⟨y65,h66,h⟩:=obind h
 refine cP (impl_isInner_ok  h66 hWF) ?_
 intro _ o68 h67
 cases h67
 refine aq (bool y65) ?_
 refine nl ?_
 rcases oite h with ⟨hc69,h⟩ | ⟨hc69,h⟩
 ·refine cT hc69 ?_
  refine sr ?_
  refine q (eptr [(J p1.Stack),(J p1.Start),(sl z2 f3 e4),(sl z6 f7 e8),(sl z10 f11 e12),(sl z14 f15 e16)] 5) ?_
  refine lE (sl z14 f15 e16) ?_
  refine q (J p1_18) ?_
  obtain ⟨x70,h71,h⟩:=obind h
  obtain ⟨v74,h72,h73⟩:=idx_sl h17 h71
  obtain ⟨z75,f76,e77,rfl,h78⟩:=h72
  refine AOps.pureR rfl rfl rfl h73 rfl (rfl:_=(eptr [(sl z75 f76 e77)] 0)) ?_
  refine lE (sl z75 f76 e77) ?_
  refine q (J y25) ?_
  obtain ⟨x79,h80,h⟩:=obind h
  obtain ⟨v83,h81,h82⟩:=idx_sl h78 h80
  cases h81
  refine AOps.pureR rfl rfl rfl h82 rfl (rfl:_=(eptr [(J x79)] 0)) ?_
  refine lE (J x79) ?_
  refine q (sl z20 f21 e22) ?_
  refine aq (J x79) ?_
  refine aq (sl z20 f21 e22) ?_
  refine nl ?_
  cases h
  exact AW.ret ⟨rfl,_,_,rfl,⟨_,rfl,(.cons rfl (.cons ⟨_,_,_,rfl,h23⟩ .nil))⟩⟩
 refine cF hc69 ?_
 refine AW.skip ?_
 refine AW.inBlock ?_
 refine sr ?_
 refine q (eptr [(J p1.Stack),(J p1.Start),(sl z2 f3 e4),(sl z6 f7 e8),(sl z10 f11 e12),(sl z14 f15 e16)] 0) ?_
 refine lE (J p1.Stack) ?_
 refine aq (J p1.Stack) ?_
 refine nl ?_
 refine AW.seq ?_
 refine sr ?_
 refine q (sl z20 f21 e22) ?_
 refine AOps.p rfl (len_eq h23) ?_
 refine aq (J (p2_19.length:Int)) ?_
 refine ns ?_
 refine q (J (p2_19.length:Int)) ?_
 refine q (bool (decide (((p2_19.length:Int):Int)>0))) ?_
 refine nl ?_
 refine AW.meet (σ:=(List Int) × Int × Nat × Bool × (List AV)) (fun (t84,t89,z85,f86,e87) tm os=>⟨updL tm [(1,(J p1_18)),(2,(sl z85 f86 e87)),(4,(eptr [(J p1.Stack),(J p1.Start),(sl z2 f3 e4),(sl z6 f7 e8),(sl z10 f11 e12),(sl z14 f15 e16)] 0)),(10,(J y25)),(12,(J t89))],updL os [],{ s with lo:=s.n }⟩) (fun (t84,t89,z85,f86,e87)=>(LR rJ 1 t84 z85 e87)∧impl_Checker_step_J1 p1 p1_18 y25 t84 t89=some r) ?_ ?_
 ·rintro ⟨t84,t89,z85,f86,e87⟩ tm os ⟨h88,h⟩
  unfold impl_Checker_step_J1 at h
  refine sr ?_
  refine q (eptr [(J p1.Stack),(J p1.Start),(sl z2 f3 e4),(sl z6 f7 e8),(sl z10 f11 e12),(sl z14 f15 e16)] 4) ?_
  refine lE (sl z10 f11 e12) ?_
  refine q (J p1_18) ?_
  obtain ⟨x91,h92,h⟩:=obind h
  obtain ⟨v95,h93,h94⟩:=idx_sl h13 h92
  obtain ⟨z96,f97,e98,rfl,h99⟩:=h93
  refine AOps.pureR rfl rfl rfl h94 rfl (rfl:_=(eptr [(sl z96 f97 e98)] 0)) ?_
  refine lE (sl z96 f97 e98) ?_
  refine q (J y25) ?_
  obtain ⟨x100,h101,h⟩:=obind h
  obtain ⟨v104,h102,h103⟩:=idx_sl h99 h101
  obtain ⟨z105,f106,e107,rfl,h108⟩:=h102
  refine AOps.pureR rfl rfl rfl h103 rfl (rfl:_=(eptr [(sl z105 f106 e107)] 0)) ?_
  refine lE (sl z105 f106 e107) ?_
  refine q (J t89) ?_
  obtain ⟨x109,h110,h⟩:=obind h
  obtain ⟨v113,h111,h112⟩:=idx_sl h108 h110
  cases h111
  refine AOps.pureR rfl rfl rfl h112 rfl (rfl:_=(eptr [(J x109)] 0)) ?_
  refine lE (J x109) ?_
  refine q (sl z85 f86 e87) ?_
  refine aq (J x109) ?_
  refine aq (sl z85 f86 e87) ?_
  refine nl ?_
  cases h
  exact AW.ret ⟨rfl,_,_,rfl,⟨_,rfl,(.cons rfl (.cons ⟨_,_,_,rfl,h88⟩ .nil))⟩⟩
 intro KJ90
 rcases oite h with ⟨hc114,h⟩ | ⟨hc114,h⟩
 ·refine cT hc114 ?_
  refine AW.region ?_
  refine q (sl z20 f21 e22) ?_
  refine q (J (p2_19.length:Int)) ?_
  refine q (J (IntKind.wrap .i64 ((p2_19.length:Int) - 1))) ?_
  obtain ⟨x115,h116,h⟩:=obind h
  obtain ⟨v119,h117,h118⟩:=idx_sl h23 h116
  cases h117
  refine AOps.pureR rfl rfl rfl h118 rfl (rfl:_=(eptr [(J x115)] 0)) ?_
  refine lE (J x115) ?_
  refine q (sl z20 f21 e22) ?_
  refine q (J (p2_19.length:Int)) ?_
  refine q (J (IntKind.wrap .i64 ((p2_19.length:Int) - 1))) ?_
  obtain ⟨l120,h121,h⟩:=obind h
  obtain ⟨f122,e123,h124,h125⟩:=cut_slH f21 h23 h121
  refine AOps.pureR rfl rfl rfl h125 rfl (rfl:_=(sl z20 f122 e123)) ?_
  refine aq (J x115) ?_
  refine aq (sl z20 f122 e123) ?_
  refine nl ?_
  exact AW.res [(1,(J p1_18)),(2,(sl z20 f122 e123)),(4,(eptr [(J p1.Stack),(J p1.Start),(sl z2 f3 e4),(sl z6 f7 e8),(sl z10 f11 e12),(sl z14 f15 e16)] 0)),(10,(J y25)),(12,(J x115))] [] ⟨rfl,rfl,rfl,rfl,rfl,trivial⟩ trivial (KJ90 (l120,x115,z20,f122,e123) _ _ ⟨h124,h⟩)
 refine cF hc114 ?_
 refine AW.skip ?_
 exact AW.res [(1,(J p1_18)),(2,(sl z20 f21 e22)),(4,(eptr [(J p1.Stack),(J p1.Start),(sl z2 f3 e4),(sl z6 f7 e8),(sl z10 f11 e12),(sl z14 f15 e16)] 0)),(10,(J y25)),(12,(J p1.Stack))] [] ⟨rfl,rfl,rfl,rfl,rfl,trivial⟩ trivial (KJ90 (p2_19,p1.Stack,z20,f21,e22) _ _ ⟨h23,h⟩)
theorem impl_Checker_run_F1_ok {c1:Checker} {state18 c2629:Int} {stack19 c3033:List Int} {w24:List UInt8} {z2 z6 z10 z14 z20 b27 b31 z34:Nat} {f3 f7 f11 f15 f21 f35:Bool} {e4 e8 e12 e16 e22 e36:List AV} {w28 w32:Nat→Bool} {s:St} (h5:LR rB 1 c1.Accept z2 e4) (h9:LR (rL rPush 2) 1 c1.Call z6 e8) (h13:LR (rL (rL rJ 1) 1) 1 c1.Return z10 e12) (h17:LR (rL rJ 1) 1 c1.Inner z14 e16) (h23:LR rJ 1 stack19 z20 e22) (h37:LR rJ 1 c3033 z34 e36) (hE:HS [b27,b31] false s { s with lo:=s.n } [⟨some b27,[(J c2629)],w28⟩,⟨some b31,[(sl z34 f35 e36)],w32⟩]) {r:Unit × Int × (List Int)} (h:impl_Checker_run_F1 c1 state18 stack19 w24 c2629 c3033=some r) (hs:WF s):ACall Cf 115 [(agg [(J c1.Stack),(J c1.Start),(sl z2 f3 e4),(sl z6 f7 e8),(sl z10 f11 e12),(sl z14 f15 e16)]),(J state18),(sl z20 f21 e22),(str w24),(AV.fn 116 [(ptr b27 0),(ptr b31 0)])] s fun v _ s'=>(fun (_:Unit)=>rT []) r.1 v∧∃ (w0':Nat→Bool) (w1':Nat→Bool) (z1':Nat) (f1':Bool) (e1':List AV),Fx [b27,b31] s s' [⟨some b27,[(J r.2.1)],w0'⟩,⟨some b31,[(sl z1' f1' e1')],w1'⟩]∧LR rJ 1 r.2.2 z1' e1':=by
 refine ACall.foreign rfl rfl rfl ?_
 unfold impl_Checker_run_F1 at h
 refine sr ?_
 refine AOps.makeR rfl rfl rfl rfl rfl rfl (rfl:_=(eptr [(J c1.Stack),(J c1.Start),(sl z2 f3 e4),(sl z6 f7 e8),(sl z10 f11 e12),(sl z14 f15 e16)] 0)) ?_
 refine ns ?_
 refine q (AV.fn 116 [(ptr b27 0),(ptr b31 0)]) ?_
 refine q (J state18) ?_
 refine q (sl z20 f21 e22) ?_
 obtain ⟨y38,h39,h⟩:=obind h
 refine AOps.callF (g:=116) (args:=[(J state18),(sl z20 f21 e22),(ptr b27 0),(ptr b31 0)]) rfl rfl rfl (impl_Checker_end_1_F1_ok h23 h37 (HS.enterP hE [0,1] [b27,b31] rfl (by decide)) h39 (HS.wf' hE)) ?_
 intro _ o45 s42 h44
 obtain ⟨h40,w46,w47,z48,f49,e50,h41,h51⟩:=h44
 have hH43:=HS.callP hE [0,1] h41 rfl rfl
 cases h40
 refine ns ?_
 refine q (str w24) ?_
 refine q (J (w24.length:Int)) ?_
 refine q (J 0) ?_
 refine nl ?_
 refine AW.meet (σ:=Int × (List Int) × (Nat→Bool) × (Nat→Bool) × Nat × Bool × (List AV) × St) (fun (m53,m55,w52,w54,z56,f57,e58,s60) tm os=>⟨updL tm [],updL os [],s60⟩) (fun (m53,m55,w52,w54,z56,f57,e58,s60)=>(LR rJ 1 m55 z56 e58)∧(HS [b27,b31] false s s60 [⟨some b27,[(J m53)],w52⟩,⟨some b31,[(sl z56 f57 e58)],w54⟩])∧impl_Checker_run_F1_J1 m53 m55=some r) ?_ ?_
 ·rintro ⟨m53,m55,w52,w54,z56,f57,e58,s60⟩ tm os ⟨h59,hH61,h⟩
  unfold impl_Checker_run_F1_J1 at h
  cases h
  exact AW.nil ⟨_,_,rfl,finF (p:=(fun (_:Unit)=>rT []) ()) (Fin.T .nil) ⟨w52,w54,z56,f57,e58,HS.leaveP hH61 [0,1] rfl,h59⟩⟩
 intro KJ62
 refine AW.block ?_
 refine AW.res [(1,(J state18)),(2,(sl z20 f21 e22)),(3,(str w24)),(4,(AV.fn 116 [(ptr b27 0),(ptr b31 0)])),(5,(eptr [(J c1.Stack),(J c1.Start),(sl z2 f3 e4),(sl z6 f7 e8),(sl z10 f11 e12),(sl z14 f15 e16)] 0)),(16,(J (w24.length:Int))),(17,(J 0))] [] ⟨rfl,rfl,rfl,rfl,rfl,rfl,rfl,trivial⟩ trivial ?_
 refine AW.loopF (σ:=Int × (List Int) × Int × (List Int) × Int) (τ:=Nat × Bool × (List AV) × (Nat→Bool) × (Nat→Bool) × Nat × Bool × (List AV) × St) (fun (state63,stack64,m70,m72,t77) (z65,f66,e67,w69,w71,z73,f74,e75,s78)=>(LR rJ 1 stack64 z65 e67)∧(LR rJ 1 m72 z73 e75)∧(HS [b27,b31] false s s78 [⟨some b27,[(J m70)],w69⟩,⟨some b31,[(sl z73 f74 e75)],w71⟩])) (fun (state63,stack64,m70,m72,t77) (z65,f66,e67,w69,w71,z73,f74,e75,s78) tm os=>⟨updL tm [(1,(J state63)),(2,(sl z65 f66 e67)),(3,(str w24)),(4,(AV.fn 116 [(ptr b27 0),(ptr b31 0)])),(5,(eptr [(J c1.Stack),(J c1.Start),(sl z2 f3 e4),(sl z6 f7 e8),(sl z10 f11 e12),(sl z14 f15 e16)] 0)),(16,(J (w24.length:Int))),(17,(J t77))],updL os [],s78⟩) ?_ (x:=(state18,stack19,y38.2.1,y38.2.2,0)) (y:=(z20,f21,e22,w46,w47,z48,f49,e50,s42)) h ⟨h23,h51,(HS.sel hH43 [some 0,some 1] (by decide))⟩
 clear h
 rintro ⟨state63,stack64,m70,m72,t77⟩ ⟨z65,f66,e67,w69,w71,z73,f74,e75,s78⟩ tm os ⟨h68,h76,hH79⟩ ee1 h hL1 hR1
 unfold impl_Checker_run_F1_S1 at h
 dsimp only at h
 refine sr ?_
 refine q (bool (decide ((t77:Int)<(w24.length:Int)))) ?_
 refine nl ?_
 refine AW.seq ?_
 rcases oite h with ⟨hc80,h⟩ | ⟨hc80,h⟩
 ·refine cT hc80 ?_
  refine AW.skip ?_
  refine AW.seq ?_
  refine AW.block ?_
  refine sr ?_
  refine q (J t77) ?_
  refine aq (J t77) ?_
  refine ns ?_
  refine lE (agg [(J c1.Stack),(J c1.Start),(sl z2 f3 e4),(sl z6 f7 e8),(sl z10 f11 e12),(sl z14 f15 e16)]) ?_
  refine q (J state63) ?_
  refine q (sl z65 f66 e67) ?_
  refine q (str w24) ?_
  refine q (J t77) ?_
  obtain ⟨c81,h82,h⟩:=obind h
  refine AOps.pureR rfl rfl rfl (chr_str h82) rfl (rfl:_=(int .u8 c81)) ?_
  obtain ⟨y83,h84,h⟩:=obind h
  refine AOps.callDP (g:=133) (args:=[(agg [(J c1.Stack),(J c1.Start),(sl z2 f3 e4),(sl z6 f7 e8),(sl z10 f11 e12),(sl z14 f15 e16)]),(J state63),(sl z65 f66 e67),(int .u8 c81)]) (p:=(fun x=>rT [rJ x.1,(rL rJ 1) x.2]) y83) rfl rfl rfl (impl_Checker_step_ok h5 h9 h13 h17 h68 h84 ((HS.wf' hH79).still)) (fun v hv=>Nice.pure (k:=FINK) (p:=(fun x=>rT [rJ x.1,(rL rJ 1) x.2]) y83) (.T (.cons .I (.cons (.L fun _=>.I) .nil))) _ v hv) ?_
  intro _ o95 h85
  obtain ⟨_,rfl,h86⟩:=h85
  obtain ⟨_,_,rfl,h87,h88⟩:=Cs_cons h86
  cases h87
  obtain ⟨_,_,rfl,h89,h90⟩:=Cs_cons h88
  obtain ⟨z91,f92,e93,rfl,h94⟩:=h89
  cases Cs_nil h90
  refine q (AV.tup [(J y83.1),(sl z91 f92 e93)]) ?_
  refine q (J y83.1) ?_
  refine q (sl z91 f92 e93) ?_
  refine aq (J y83.1) ?_
  refine aq (sl z91 f92 e93) ?_
  refine nl ?_
  refine AW.region ?_
  refine q (AV.fn 116 [(ptr b27 0),(ptr b31 0)]) ?_
  refine q (J y83.1) ?_
  refine q (sl z91 f92 e93) ?_
  obtain ⟨y96,h97,h⟩:=obind h
  refine AOps.callF (g:=116) (args:=[(J y83.1),(sl z91 f92 e93),(ptr b27 0),(ptr b31 0)]) rfl rfl rfl (impl_Checker_end_1_F1_ok h94 h76 (HS.enterP hH79 [0,1] [b27,b31] rfl (by decide)) h97 (HS.wf' hH79)) ?_
  intro _ o103 s100 h102
  obtain ⟨h98,w104,w105,z106,f107,e108,h99,h109⟩:=h102
  have hH101:=HS.callP hH79 [0,1] h99 rfl rfl
  cases h98
  refine nl ?_
  refine AW.inBlock ?_
  refine AW.region ?_
  refine q (J (IntKind.wrap .i64 (t77+1))) ?_
  refine q (J (IntKind.wrap .i64 (t77+1))) ?_
  refine nl ?_
  cases h
  exact AW.res [(1,(J y83.1)),(2,(sl z91 f92 e93)),(3,(str w24)),(4,(AV.fn 116 [(ptr b27 0),(ptr b31 0)])),(5,(eptr [(J c1.Stack),(J c1.Start),(sl z2 f3 e4),(sl z6 f7 e8),(sl z10 f11 e12),(sl z14 f15 e16)] 0)),(16,(J (w24.length:Int))),(17,(J (IntKind.wrap .i64 (t77+1))))] [] ⟨rfl,rfl,rfl,rfl,rfl,rfl,rfl,trivial⟩ trivial (hL1 _ rfl (z91,f92,e93,w104,w105,z106,f107,e108,s100) _ _ ⟨h94,h109,(HS.sel hH101 [some 0,some 1] (by decide))⟩)
 refine cF hc80 ?_
 refine AW.exit rfl ?_
 obtain ⟨r110,hm,hx⟩:=omap h
 clear h
 subst hx
 have hx:=hR1 _ rfl
 rw[hx] at hm
 have h:=hm
 exact AW.res [] [] trivial trivial (KJ62 (m70,m72,w69,w71,z73,f74,e75,s78) _ _ ⟨h76,(HS.sel hH79 [some 0,some 1] (by decide)),h⟩)
theorem impl_Checker_end_ok {c1:Checker} {state18:Int} {stack19:List Int} {w24:List UInt8} {z2 z6 z10 z14 z20:Nat} {f3 f7 f11 f15 f21:Bool} {e4 e8 e12 e16 e22:List AV} {s:St} (h5:LR rB 1 c1.Accept z2 e4) (h9:LR (rL rPush 2) 1 c1.Call z6 e8) (h13:LR (rL (rL rJ 1) 1) 1 c1.Return z10 e12) (h17:LR (rL rJ 1) 1 c1.Inner z14 e16) (h23:LR rJ 1 stack19 z20 e22) {r:Int × (List Int)} (h:impl_Checker_end c1 state18 stack19 w24=some r) (hs:WF s):ACall Cf 105 [(agg [(J c1.Stack),(J c1.Start),(sl z2 f3 e4),(sl z6 f7 e8),(sl z10 f11 e12),(sl z14 f15 e16)]),(J state18),(sl z20 f21 e22),(str w24)] s fun v _ s'=>(fun x=>rT [rJ x.1,(rL rJ 1) x.2]) r v∧s'=s:=by
 refine ACall.boxes rfl rfl rfl ?_
 have hH0:=HS.init hs
 unfold impl_Checker_end at h
 refine sr ?_
 refine AOps.makeR rfl rfl rfl rfl rfl rfl (rfl:_=(eptr [(J c1.Stack),(J c1.Start),(sl z2 f3 e4),(sl z6 f7 e8),(sl z10 f11 e12),(sl z14 f15 e16)] 0)) ?_
 refine AOps.box1 (v:=(J state18)) hH0 rfl rfl rfl rfl rfl rfl rfl rfl ?_
 intro b25 s26 hH27
 refine AOps.box1 (v:=(sl z20 f21 e22)) hH27 rfl rfl rfl rfl rfl rfl rfl rfl ?_
 intro b28 s29 hH30
 refine q (J 0) ?_
 refine q (sl 0 true []) ?_
 refine ns ?_
 refine lE (agg [(J c1.Stack),(J c1.Start),(sl z2 f3 e4),(sl z6 f7 e8),(sl z10 f11 e12),(sl z14 f15 e16)]) ?_
 refine AOps.ldB (i:=1) (v:=(J state18)) hH30 rfl rfl rfl rfl rfl rfl rfl rfl rfl ?_
 refine AOps.ldB (i:=0) (v:=(sl z20 f21 e22)) hH30 rfl rfl rfl rfl rfl rfl rfl rfl rfl ?_
 refine q (str w24) ?_
 refine q (AV.fn 116 [(ptr b25 0),(ptr b28 0)]) ?_
 obtain ⟨y31,h32,h⟩:=obind h
 refine AOps.callF (g:=115) (args:=[(agg [(J c1.Stack),(J c1.Start),(sl z2 f3 e4),(sl z6 f7 e8),(sl z10 f11 e12),(sl z14 f15 e16)]),(J state18),(sl z20 f21 e22),(str w24),(AV.fn 116 [(ptr b25 0),(ptr b28 0)])]) rfl rfl rfl (impl_Checker_run_F1_ok h5 h9 h13 h17 h23 h23 (HS.enterP hH30 [1,0] [b25,b28] rfl (by decide)) h32 (HS.wf' hH30)) ?_
 intro _ o38 s35 h37
 obtain ⟨h33,w39,w40,z41,f42,e43,h34,h44⟩:=h37
 have hH36:=HS.callP hH30 [1,0] h34 rfl rfl
 cases h33
 refine ns ?_
 refine AOps.ldB (i:=1) (v:=(J y31.2.1)) hH36 rfl rfl rfl rfl rfl rfl rfl rfl rfl ?_
 refine AOps.ldB (i:=0) (v:=(sl z41 f42 e43)) hH36 rfl rfl rfl rfl rfl rfl rfl rfl rfl ?_
 refine aq (J y31.2.1) ?_
 refine aq (sl z41 f42 e43) ?_
 refine nl ?_
 cases h
 exact AW.ret ⟨⟨_,hH36⟩,_,_,rfl,(Fin.T (.cons (Fin.of (p:=rJ y31.2.1) .I rfl) (.cons (Fin.of (p:=(rL rJ 1) y31.2.2) (.L fun _=>.I) (⟨_,_,_,rfl,h44⟩)) .nil))).2⟩
theorem impl_works_comeIn_K10_ok {p3 p4 p14 p15 p29 p30:Int} {p5 p13 p16 p24:List Int} {p28:List Parcel} {p31:List Bool} {p36:List (List Push)} {p41:List (List (List Int))} {p46:List (List Int)} {p51:List (List UInt8)} {p1_56:Parcel} {b1 z6 z17 z32 z37 z42 z47 z52 z57:Nat} {w2:Nat→Bool} {f7 f18 f33 f38 f43 f48 f53 f58:Bool} {e8 e19 e34 e39 e44 e49 e54 e59:List AV} {h10 h21 h25:AV} {k11 k22 k26:KT} {s:St} (h9:LR rJ 1 p5 z6 e8) (ho12:h10.one=true) (h20:LR rJ 1 p16 z17 e19) (ho23:h21.one=true) (ho27:h25.one=true) (h35:LR rB 1 p31 z32 e34) (h40:LR (rL rPush 2) 1 p36 z37 e39) (h45:LR (rL (rL rJ 1) 1) 1 p41 z42 e44) (h50:LR (rL rJ 1) 1 p46 z47 e49) (h55:LR rS 1 p51 z52 e54) (h60:LR rS 1 p1_56.Texts z57 e59) {ex:List Nat} {Ls0:List (List BX)} (hH0:HS ex true s s (([⟨some b1,[(J p3),(J p4),(sl z6 f7 e8),h10,(J p14),(J p15),(sl z17 f18 e19),h21,h25,(J p29),(J p30),(sl z32 f33 e34),(sl z37 f38 e39),(sl z42 f43 e44),(sl z47 f48 e49),(sl z52 f53 e54)],w2⟩]:List BX)++Ls0.flatten)) (hG0:AllG [OS oE2 h10 k11 p13,OS oE2 h21 k22 p24,OS oE114 h25 k26 p28] Ls0) (hl:LoOK ex true s) {r:Unit × (List Int) × Int × Int × (List Int)} (h:impl_works_comeIn_K10 p3 p4 p5 p13 p14 p15 p16 p24 p28 p29 p30 p31 p36 p41 p46 p51 p1_56=some r) (hs:WF s):ACall Cf 76 [(ptr b1 0),(agg [(J p1_56.First),(sl z57 f58 e59)])] s (fun v _ s'=>∃ (h1':AV) (k2':KT) (w4':Nat→Bool) (z5':Nat) (f6':Bool) (e7':List AV) (Ls':List (List BX)),v=(AV.tup [])∧HS ex true s s' (([⟨some b1,[(J r.2.2.1),(J r.2.2.2.1),(sl z5' f6' e7'),h1',(J p14),(J p15),(sl z17 f18 e19),h21,h25,(J p29),(J p30),(sl z32 f33 e34),(sl z37 f38 e39),(sl z42 f43 e44),(sl z47 f48 e49),(sl z52 f53 e54)],w4'⟩]:List BX)++Ls'.flatten)∧AllG [OS oE2 h1' k2' r.2.1,OS oE2 h21 k22 p24,OS oE114 h25 k26 p28] Ls'∧h1'.one=true∧LR rJ 1 r.2.2.2.2 z5' e7') true:=by
 refine ACall.keepR rfl rfl rfl ?_
 unfold impl_works_comeIn_K10 at h
 refine sr ?_
 refine AOps.makeR rfl rfl rfl rfl rfl rfl (rfl:_=(eptr [(J p1_56.First),(sl z57 f58 e59)] 0)) ?_
 refine ns ?_
 refine q (ptr b1 0) ?_
 refine q (ptr b1 0) ?_
 refine q (ptr b1 0) ?_
 refine q (ptr b1 0) ?_
 refine aq (ptr b1 0) ?_
 refine nl ?_
 refine AW.seq ?_
 refine sr ?_
 refine q (eptr [(J p1_56.First),(sl z57 f58 e59)] 1) ?_
 refine lE (sl z57 f58 e59) ?_
 obtain ⟨y61,h62,h⟩:=obind h
 refine cP (impl_size_string_ok h60 h62 (HS.wf' hH0)) ?_
 intro _ o64 h63
 cases h63
 refine q (J 0) ?_
 refine nl ?_
 refine AW.meet (σ:=(List Int) × (Nat→Bool) × AV × KT × St × (List (List BX))) (fun (m66,w65,h67,k68,s70,Ls71) tm os=>⟨updL tm [(0,(ptr b1 0)),(4,(ptr b1 0))],updL os [],s70⟩) (fun (m66,w65,h67,k68,s70,Ls71)=>(h67.one=true)∧(HS ex true s s70 (([⟨some b1,[(J p3),(J p4),(sl z6 f7 e8),h67,(J p14),(J p15),(sl z17 f18 e19),h21,h25,(J p29),(J p30),(sl z32 f33 e34),(sl z37 f38 e39),(sl z42 f43 e44),(sl z47 f48 e49),(sl z52 f53 e54)],w65⟩]:List BX)++Ls71.flatten))∧(AllG [OS oE2 h67 k68 m66,OS oE2 h21 k22 p24,OS oE114 h25 k26 p28] Ls71)∧impl_works_comeIn_K10_J1 p3 p4 p5 p29 p30 p31 p36 p41 p46 p51 m66=some r) ?_ ?_
 ·rintro ⟨m66,w65,h67,k68,s70,Ls71⟩ tm os ⟨ho69,hH72,hG73,h⟩
  unfold impl_works_comeIn_K10_J1 at h
  refine sr ?_
  refine q (ptr b1 0) ?_
  refine q (ptr b1 0) ?_
  refine q (ptr b1 3) ?_
  refine AOps.ldB (i:=0) (v:=h67) hH72 rfl rfl rfl rfl rfl rfl rfl rfl rfl ?_
  obtain ⟨y75,h76,h⟩:=obind h
  have hP77:=HS.pop0 hH72
  have hF0:AllG ([]:List (List BX→Prop)) []:=AllG.nil
  obtain ⟨Ls79,Lf80,hG81,hF82,hP78⟩:=HS.popG hP77 hG73 hF0 (j:=0) rfl
  refine AOps.callF (al:=false) (g:=104) (args:=[h67]) rfl rfl rfl (sortK (e:=oE2) own_int rfl rfl rfl (HS.enterK hP78) hF82 (HS.enterLo hP78 hl) h76) ?_
  rintro _ _ s83 ⟨Ls84,rfl,hH85,hG86⟩
  have hJ87:=HS.joinK hP78 hH85
  obtain ⟨Ls88,Lf89,hG90,hF91,hP92⟩:=HS.putG hJ87 hG81 hG86 (j:=0) rfl
  cases hF91
  have hH93:=HS.push0 hP92
  refine nl ?_
  refine AW.meet (σ:=Int × Int × (List Int) × (List Int) × (Nat→Bool) × Nat × Bool × (List AV) × AV × KT × St × (List (List BX))) (fun (m95,m96,m97,m102,w94,z98,f99,e100,h103,k104,s106,Ls107) tm os=>⟨updL tm [],updL os [],s106⟩) (fun (m95,m96,m97,m102,w94,z98,f99,e100,h103,k104,s106,Ls107)=>(LR rJ 1 m97 z98 e100)∧(h103.one=true)∧(HS ex true s s106 (([⟨some b1,[(J m95),(J m96),(sl z98 f99 e100),h103,(J p14),(J p15),(sl z17 f18 e19),h21,h25,(J p29),(J p30),(sl z32 f33 e34),(sl z37 f38 e39),(sl z42 f43 e44),(sl z47 f48 e49),(sl z52 f53 e54)],w94⟩]:List BX)++Ls107.flatten))∧(AllG [OS oE2 h103 k104 m102,OS oE2 h21 k22 p24,OS oE114 h25 k26 p28] Ls107)∧impl_works_comeIn_K10_J2 m95 m96 m97 m102=some r) ?_ ?_
  ·rintro ⟨m95,m96,m97,m102,w94,z98,f99,e100,h103,k104,s106,Ls107⟩ tm os ⟨h101,ho105,hH108,hG109,h⟩
   unfold impl_works_comeIn_K10_J2 at h
   cases h
   exact AW.nil ⟨_,_,rfl,⟨h103,k104,w94,z98,f99,e100,Ls107,rfl,hH108,hG109,ho105,h101⟩⟩
  intro KJ110
  refine AW.block ?_
  refine AW.res [(0,(ptr b1 0)),(4,(ptr b1 0))] [] ⟨rfl,rfl,trivial⟩ trivial ?_
  refine AW.loopF (σ:=Int × Int × (List Int) × (List Int)) (τ:=(Nat→Bool) × Nat × Bool × (List AV) × AV × KT × St × (List (List BX))) (fun (m112,m113,m114,m119) (w111,z115,f116,e117,h120,k121,s123,Ls124)=>(LR rJ 1 m114 z115 e117)∧(h120.one=true)∧(HS ex true s s123 (([⟨some b1,[(J m112),(J m113),(sl z115 f116 e117),h120,(J p14),(J p15),(sl z17 f18 e19),h21,h25,(J p29),(J p30),(sl z32 f33 e34),(sl z37 f38 e39),(sl z42 f43 e44),(sl z47 f48 e49),(sl z52 f53 e54)],w111⟩]:List BX)++Ls124.flatten))∧(AllG [OS oE2 h120 k121 m119,OS oE2 h21 k22 p24,OS oE114 h25 k26 p28] Ls124)) (fun (m112,m113,m114,m119) (w111,z115,f116,e117,h120,k121,s123,Ls124) tm os=>⟨updL tm [(0,(ptr b1 0)),(4,(ptr b1 0))],updL os [],s123⟩) ?_ (x:=(p3,p4,p5,y75)) (y:=(w65,z6,f7,e8,h67,k68,s83,Ls88)) h ⟨h9,ho69,hH93,hG90⟩
  clear h
  rintro ⟨m112,m113,m114,m119⟩ ⟨w111,z115,f116,e117,h120,k121,s123,Ls124⟩ tm os ⟨h118,ho122,hH125,hG126⟩ ee1 h hL1 hR1
  unfold impl_works_comeIn_K10_S1 at h
  dsimp only at h
  refine AW.seq ?_
  refine sr ?_
  refine q (ptr b1 0) ?_
  refine q (ptr b1 0) ?_
  refine q (ptr b1 3) ?_
  refine AOps.ldB (i:=0) (v:=h120) hH125 rfl rfl rfl rfl rfl rfl rfl rfl rfl ?_
  refine AOps.lenO (j:=0) hG126 rfl Sub.here rfl rfl rfl rfl rfl ?_
  refine q (bool (decide (((m119.length:Int):Int)>0))) ?_
  refine q (bool (decide (((m119.length:Int):Int)>0))) ?_
  obtain ⟨b128,hb,h⟩:=obind h
  refine AOps.split 12 (fun f'=>∃ tm' os',f'=⟨updL tm' [(0,(ptr b1 0)),(4,(ptr b1 0)),(70,(bool b128))],updL os' [],s123⟩) ?_ ?_
  ·rcases oite hb with ⟨hc127,hb⟩ | ⟨hc127,hb⟩
   ·have h:=hb
    refine kn 58 hc127 ?_
    refine q (ptr b1 0) ?_
    refine q (ptr b1 0) ?_
    refine q (ptr b1 3) ?_
    refine AOps.ldB (i:=0) (v:=h120) hH125 rfl rfl rfl rfl rfl rfl rfl rfl rfl ?_
    obtain ⟨x131,h132,h⟩:=obind h
    refine AOps.idxO (j:=0) hG126 rfl Sub.here h132 rfl rfl rfl rfl rfl rfl rfl rfl rfl ?_
    intro b129 hb130
    refine AOps.ldO (j:=0) (q:=0) hH125 hG126 rfl Sub.here h132 hb130 rfl rfl rfl rfl rfl (lt_b rfl) (le_b rfl) rfl rfl ?_ (fun c B hc=>by obtain ⟨⟨_,hr,rfl⟩,rfl⟩:=hc; cases hr; exact ⟨_,rfl⟩)
    intro c133 B134 v135 h136 h137
    obtain ⟨⟨_,h138,rfl⟩,rfl⟩:=h136
    cases h138
    cases h137
    refine q (ptr b1 0) ?_
    refine q (ptr b1 0) ?_
    refine q (ptr b1 0) ?_
    refine AOps.ldB (i:=0) (v:=(J m112)) hH125 rfl rfl rfl rfl rfl rfl rfl rfl rfl ?_
    refine q (bool (x131 == m112)) ?_
    refine q (bool (x131 == m112)) ?_
    exact rR ⟨rfl,rfl,congrArg bool (Option.some.inj h),trivial⟩
   ·refine kn 58 hc127 ?_
    refine sk ?_
    refine sk ?_
    refine sk ?_
    refine sk ?_
    refine sk ?_
    refine sk ?_
    refine sk ?_
    refine sk ?_
    refine sk ?_
    refine sk ?_
    refine sk ?_
    refine q (bool false) ?_
    exact rR ⟨rfl,rfl,congrArg bool (Option.some.inj hb),trivial⟩
  rintro _ ⟨tm,os,rfl⟩
  refine nl ?_
  rcases oite h with ⟨hc139,h⟩ | ⟨hc139,h⟩
  ·refine cT hc139 ?_
   refine AW.skip ?_
   refine AW.block ?_
   refine sr ?_
   refine q (ptr b1 0) ?_
   refine q (ptr b1 0) ?_
   refine q (ptr b1 0) ?_
   refine q (ptr b1 0) ?_
   refine q (ptr b1 9) ?_
   refine q (ptr b1 9) ?_
   refine AOps.ldB (i:=0) (v:=(agg [(J p29),(J p30),(sl z32 f33 e34),(sl z37 f38 e39),(sl z42 f43 e44),(sl z47 f48 e49)])) hH125 rfl rfl rfl rfl rfl rfl rfl rfl rfl ?_
   refine q (ptr b1 0) ?_
   refine q (ptr b1 0) ?_
   refine q (ptr b1 1) ?_
   refine AOps.ldB (i:=0) (v:=(J m113)) hH125 rfl rfl rfl rfl rfl rfl rfl rfl rfl ?_
   refine q (ptr b1 0) ?_
   refine q (ptr b1 0) ?_
   refine q (ptr b1 2) ?_
   refine AOps.ldB (i:=0) (v:=(sl z115 f116 e117)) hH125 rfl rfl rfl rfl rfl rfl rfl rfl rfl ?_
   refine q (ptr b1 0) ?_
   refine q (ptr b1 0) ?_
   refine q (ptr b1 9) ?_
   refine q (ptr b1 15) ?_
   refine AOps.ldB (i:=0) (v:=(sl z52 f53 e54)) hH125 rfl rfl rfl rfl rfl rfl rfl rfl rfl ?_
   refine q (ptr b1 0) ?_
   refine q (ptr b1 0) ?_
   refine q (ptr b1 0) ?_
   refine AOps.ldB (i:=0) (v:=(J m112)) hH125 rfl rfl rfl rfl rfl rfl rfl rfl rfl ?_
   obtain ⟨x140,h141,h⟩:=obind h
   obtain ⟨v144,h142,h143⟩:=idx_sl h55 h141
   cases h142
   refine AOps.pureR rfl rfl rfl h143 rfl (rfl:_=(eptr [(str x140)] 0)) ?_
   refine lE (str x140) ?_
   obtain ⟨y145,h146,h⟩:=obind h
   refine AOps.callDP (g:=105) (args:=[(agg [(J p29),(J p30),(sl z32 f33 e34),(sl z37 f38 e39),(sl z42 f43 e44),(sl z47 f48 e49)]),(J m113),(sl z115 f116 e117),(str x140)]) (p:=(fun x=>rT [rJ x.1,(rL rJ 1) x.2]) y145) rfl rfl rfl (impl_Checker_end_ok h35 h40 h45 h50 h118 h146 ((HS.wf' hH125).still)) (fun v hv=>Nice.pure (k:=FINK) (p:=(fun x=>rT [rJ x.1,(rL rJ 1) x.2]) y145) (.T (.cons .I (.cons (.L fun _=>.I) .nil))) _ v hv) ?_
   intro _ o157 h147
   obtain ⟨_,rfl,h148⟩:=h147
   obtain ⟨_,_,rfl,h149,h150⟩:=Cs_cons h148
   cases h149
   obtain ⟨_,_,rfl,h151,h152⟩:=Cs_cons h150
   obtain ⟨z153,f154,e155,rfl,h156⟩:=h151
   cases Cs_nil h152
   refine q (AV.tup [(J y145.1),(sl z153 f154 e155)]) ?_
   refine q (J y145.1) ?_
   refine q (sl z153 f154 e155) ?_
   refine q (ptr b1 0) ?_
   refine q (ptr b1 1) ?_
   refine AOps.stE (i:=0) (v:=(J y145.1)) hH125 hl rfl rfl rfl rfl rfl rfl rfl rfl rfl (lt_b rfl) (le_b rfl) rfl ?_
   intro w158 s159 h160 h161 hH162
   refine q (ptr b1 0) ?_
   refine q (ptr b1 2) ?_
   refine AOps.stE (i:=0) (v:=(sl z153 f154 e155)) hH162 hl rfl rfl rfl rfl rfl rfl rfl rfl rfl (lt_b rfl) (le_b rfl) rfl ?_
   intro w163 s164 h165 h166 hH167
   refine ns ?_
   refine q (ptr b1 0) ?_
   refine q (ptr b1 0) ?_
   refine q (ptr b1 0) ?_
   refine q (ptr b1 3) ?_
   refine AOps.ldB (i:=0) (v:=h120) hH167 rfl rfl rfl rfl rfl rfl rfl rfl rfl ?_
   obtain ⟨l168,h169,h⟩:=obind h
   refine AOps.cutO (j:=0) hH167 hG126 hl rfl rfl rfl rfl rfl rfl rfl ⟨_,rfl⟩ rfl h169 rfl rfl rfl rfl ?_
   intro h170 k172 Ls173 s174 ho171 hG175 hH176
   refine q (ptr b1 0) ?_
   refine q (ptr b1 3) ?_
   refine AOps.stE (i:=0) (v:=h170) hH176 hl rfl rfl rfl rfl rfl rfl rfl (one_lay ho171) (one_len ho171) (lt_b rfl) (le_b rfl) rfl ?_
   intro w177 s178 h179 h180 hH181
   rw[AV.cells_one ho171] at hH181
   refine nl ?_
   refine AW.region ?_
   refine q (ptr b1 0) ?_
   refine q (ptr b1 0) ?_
   refine q (ptr b1 0) ?_
   refine AOps.ldB (i:=0) (v:=(J m112)) hH181 rfl rfl rfl rfl rfl rfl rfl rfl rfl ?_
   refine q (J (IntKind.wrap .i64 (m112+1))) ?_
   refine q (ptr b1 0) ?_
   refine q (ptr b1 0) ?_
   refine AOps.stE (i:=0) (v:=(J (IntKind.wrap .i64 (m112+1)))) hH181 hl rfl rfl rfl rfl rfl rfl rfl rfl rfl (lt_b rfl) (le_b rfl) rfl ?_
   intro w182 s183 h184 h185 hH186
   refine nl ?_
   refine AW.inBlock ?_
   cases h
   exact AW.res [(0,(ptr b1 0)),(4,(ptr b1 0))] [] ⟨rfl,rfl,trivial⟩ trivial (hL1 _ rfl (w182,z153,f154,e155,h170,k172,s183,Ls173) _ _ ⟨h156,ho171,hH186,hG175⟩)
  refine cF hc139 ?_
  refine AW.exit rfl ?_
  obtain ⟨r187,hm,hx⟩:=omap h
  clear h
  subst hx
  have hx:=hR1 _ rfl
  rw[hx] at hm
  have h:=hm
  exact AW.res [] [] trivial trivial (KJ110 (m112,m113,m114,m119,w111,z115,f116,e117,h120,k121,s123,Ls124) _ _ ⟨h118,ho122,hH125,hG126,h⟩)
 intro KJ74
 refine AW.block ?_
 refine AW.res [(0,(ptr b1 0)),(3,(eptr [(J p1_56.First),(sl z57 f58 e59)] 0)),(4,(ptr b1 0)),(13,(J y61)),(14,(J 0))] [] ⟨rfl,rfl,rfl,rfl,rfl,trivial⟩ trivial ?_
 refine AW.loopF (σ:=(List Int) × Int) (τ:=(Nat→Bool) × AV × KT × St × (List (List BX))) (fun (m189,t193) (w188,h190,k191,s194,Ls195)=>(h190.one=true)∧(HS ex true s s194 (([⟨some b1,[(J p3),(J p4),(sl z6 f7 e8),h190,(J p14),(J p15),(sl z17 f18 e19),h21,h25,(J p29),(J p30),(sl z32 f33 e34),(sl z37 f38 e39),(sl z42 f43 e44),(sl z47 f48 e49),(sl z52 f53 e54)],w188⟩]:List BX)++Ls195.flatten))∧(AllG [OS oE2 h190 k191 m189,OS oE2 h21 k22 p24,OS oE114 h25 k26 p28] Ls195)) (fun (m189,t193) (w188,h190,k191,s194,Ls195) tm os=>⟨updL tm [(0,(ptr b1 0)),(3,(eptr [(J p1_56.First),(sl z57 f58 e59)] 0)),(4,(ptr b1 0)),(13,(J y61)),(14,(J t193))],updL os [],s194⟩) ?_ (x:=(p13,0)) (y:=(w2,h10,k11,s,Ls0)) h ⟨ho12,hH0,hG0⟩
 clear h
 rintro ⟨m189,t193⟩ ⟨w188,h190,k191,s194,Ls195⟩ tm os ⟨ho192,hH196,hG197⟩ ee1 h hL1 hR1
 unfold impl_works_comeIn_K10_S2 at h
 dsimp only at h
 refine sr ?_
 refine q (bool (decide ((t193:Int)<y61))) ?_
 refine nl ?_
 refine AW.seq ?_
 rcases oite h with ⟨hc198,h⟩ | ⟨hc198,h⟩
 ·refine cT hc198 ?_
  refine AW.skip ?_
  refine AW.seq ?_
  refine AW.block ?_
  refine sr ?_
  refine q (J t193) ?_
  refine aq (J t193) ?_
  refine ns ?_
  refine q (eptr [(J p1_56.First),(sl z57 f58 e59)] 0) ?_
  refine lE (J p1_56.First) ?_
  refine q (J t193) ?_
  refine q (J (IntKind.wrap .i64 (p1_56.First+t193))) ?_
  refine aq (J (IntKind.wrap .i64 (p1_56.First+t193))) ?_
  refine ns ?_
  refine q (J (IntKind.wrap .i64 (p1_56.First+t193))) ?_
  refine q (ptr b1 0) ?_
  refine q (ptr b1 0) ?_
  refine q (ptr b1 0) ?_
  refine AOps.ldB (i:=0) (v:=(J p3)) hH196 rfl rfl rfl rfl rfl rfl rfl rfl rfl ?_
  refine q (bool (decide ((IntKind.wrap .i64 (p1_56.First+t193):Int)≥p3))) ?_
  refine q (bool (decide ((IntKind.wrap .i64 (p1_56.First+t193):Int)≥p3))) ?_
  obtain ⟨b200,hb,h⟩:=obind h
  refine AOps.split 8 (fun f'=>∃ tm' os',f'=⟨updL tm' [(0,(ptr b1 0)),(3,(eptr [(J p1_56.First),(sl z57 f58 e59)] 0)),(4,(ptr b1 0)),(6,(J (IntKind.wrap .i64 (p1_56.First+t193)))),(13,(J y61)),(14,(J t193)),(35,(bool b200))],updL os' [],s194⟩) ?_ ?_
  ·rcases oite hb with ⟨hc199,hb⟩ | ⟨hc199,hb⟩
   ·have h:=hb
    refine kn 27 hc199 ?_
    refine q (ptr b1 0) ?_
    refine q (ptr b1 0) ?_
    refine q (ptr b1 3) ?_
    refine AOps.ldB (i:=0) (v:=h190) hH196 rfl rfl rfl rfl rfl rfl rfl rfl rfl ?_
    refine q (J (IntKind.wrap .i64 (p1_56.First+t193))) ?_
    obtain ⟨y201,h202,h⟩:=obind h
    refine AOps.lendP (g:=47) (args:=[h190,(J (IntKind.wrap .i64 (p1_56.First+t193)))]) (ps:=[(rL rJ 1) m189,rJ (IntKind.wrap .i64 (p1_56.First+t193))]) (p:=(rB) y201) rfl rfl rfl rfl rfl rfl rfl (.cons (Fin.up (by decide) (HS.finS hH196 hG197 (j:=0) rfl Sub.here (Or.inl rfl))) (.cons (Fin.of (p:=rJ (IntKind.wrap .i64 (p1_56.First+t193))) .I rfl) .nil)) (fun args' hc=>by obtain ⟨_,_,rfl,hv0,hd0⟩:=Cs_cons hc; obtain ⟨z203,f204,e205,rfl,h206⟩:=hv0; obtain ⟨_,_,rfl,hv1,hd1⟩:=Cs_cons hd0; cases hv1; cases Cs_nil hd1; exact slices_Contains_sint64_int64_okN h206 h202 WF.blind) (fun v n hv=>by cases hv; rfl) ?_
    intro _ h207
    cases h207
    refine q (bool (!y201)) ?_
    refine q (bool (!y201)) ?_
    exact rR ⟨rfl,rfl,rfl,rfl,rfl,rfl,congrArg bool (Option.some.inj h),trivial⟩
   ·refine kn 27 hc199 ?_
    refine sk ?_
    refine sk ?_
    refine sk ?_
    refine sk ?_
    refine sk ?_
    refine sk ?_
    refine sk ?_
    refine q (bool false) ?_
    exact rR ⟨rfl,rfl,rfl,rfl,rfl,rfl,congrArg bool (Option.some.inj hb),trivial⟩
  rintro _ ⟨tm,os,rfl⟩
  refine nl ?_
  refine AW.meet (σ:=(List Int) × (Nat→Bool) × AV × KT × St × (List (List BX))) (fun (m209,w208,h210,k211,s213,Ls214) tm os=>⟨updL tm [(0,(ptr b1 0)),(3,(eptr [(J p1_56.First),(sl z57 f58 e59)] 0)),(4,(ptr b1 0)),(13,(J y61)),(14,(J t193))],updL os [],s213⟩) (fun (m209,w208,h210,k211,s213,Ls214)=>(h210.one=true)∧(HS ex true s s213 (([⟨some b1,[(J p3),(J p4),(sl z6 f7 e8),h210,(J p14),(J p15),(sl z17 f18 e19),h21,h25,(J p29),(J p30),(sl z32 f33 e34),(sl z37 f38 e39),(sl z42 f43 e44),(sl z47 f48 e49),(sl z52 f53 e54)],w208⟩]:List BX)++Ls214.flatten))∧(AllG [OS oE2 h210 k211 m209,OS oE2 h21 k22 p24,OS oE114 h25 k26 p28] Ls214)∧impl_works_comeIn_K10_J3 t193 m209=some ee1) ?_ ?_
  ·rintro ⟨m209,w208,h210,k211,s213,Ls214⟩ tm os ⟨ho212,hH215,hG216,h⟩
   unfold impl_works_comeIn_K10_J3 at h
   refine AW.inBlock ?_
   refine AW.region ?_
   refine q (J (IntKind.wrap .i64 (t193+1))) ?_
   refine q (J (IntKind.wrap .i64 (t193+1))) ?_
   refine nl ?_
   cases h
   exact AW.res [(0,(ptr b1 0)),(3,(eptr [(J p1_56.First),(sl z57 f58 e59)] 0)),(4,(ptr b1 0)),(13,(J y61)),(14,(J (IntKind.wrap .i64 (t193+1))))] [] ⟨rfl,rfl,rfl,rfl,rfl,trivial⟩ trivial (hL1 _ rfl (w208,h210,k211,s213,Ls214) _ _ ⟨ho212,hH215,hG216⟩)
  intro KJ217
  rcases oite h with ⟨hc218,h⟩ | ⟨hc218,h⟩
  ·refine cT hc218 ?_
   refine AW.region ?_
   refine q (ptr b1 0) ?_
   refine q (ptr b1 0) ?_
   refine q (ptr b1 0) ?_
   refine q (ptr b1 3) ?_
   refine AOps.ldB (i:=0) (v:=h190) hH196 rfl rfl rfl rfl rfl rfl rfl rfl rfl ?_
   refine q (J (IntKind.wrap .i64 (p1_56.First+t193))) ?_
   refine AOps.makeR rfl rfl rfl rfl rfl rfl (rfl:_=(sl 1 true [(J (IntKind.wrap .i64 (p1_56.First+t193)))])) ?_
   obtain ⟨l219,h220,h⟩:=obind h
   refine AOps.appLf (j:=0) (z':=1) (f':=true) (e':=[(J (IntKind.wrap .i64 (p1_56.First+t193)))]) hH196 hG197 rfl rfl rfl rfl rfl rfl rfl rfl (appSrc_sl (LR.z (LR.lit (r:=rI .i64) (sz:=1) (.cons rfl .nil))) rfl) ⟨by decide,by decide,rfl,rfl⟩ ⟨rfl,rfl⟩ rfl rfl h220 (LR.el (LR.lit (r:=rI .i64) (sz:=1) (.cons rfl .nil))).len (fun i=>OL.leaf (LR.el (LR.lit (r:=rI .i64) (sz:=1) (.cons rfl .nil))) i) ?_
   intro h221 k223 Ls224 s225 ho222 hG226 hH227
   refine q (ptr b1 0) ?_
   refine q (ptr b1 3) ?_
   refine AOps.stE (i:=0) (v:=h221) hH227 hl rfl rfl rfl rfl rfl rfl rfl (one_lay ho222) (one_len ho222) (lt_b rfl) (le_b rfl) rfl ?_
   intro w228 s229 h230 h231 hH232
   rw[AV.cells_one ho222] at hH232
   refine nl ?_
   exact AW.res [(0,(ptr b1 0)),(3,(eptr [(J p1_56.First),(sl z57 f58 e59)] 0)),(4,(ptr b1 0)),(13,(J y61)),(14,(J t193))] [] ⟨rfl,rfl,rfl,rfl,rfl,trivial⟩ trivial (KJ217 (l219,w228,h221,k223,s229,Ls224) _ _ ⟨ho222,hH232,hG226,h⟩)
  refine cF hc218 ?_
  refine AW.skip ?_
  exact AW.res [(0,(ptr b1 0)),(3,(eptr [(J p1_56.First),(sl z57 f58 e59)] 0)),(4,(ptr b1 0)),(13,(J y61)),(14,(J t193))] [] ⟨rfl,rfl,rfl,rfl,rfl,trivial⟩ trivial (KJ217 (m189,w188,h190,k191,s194,Ls195) _ _ ⟨ho192,hH196,hG197,h⟩)
 refine cF hc198 ?_
 refine AW.exit rfl ?_
 obtain ⟨r233,hm,hx⟩:=omap h
 clear h
 subst hx
 have hx:=hR1 _ rfl
 rw[hx] at hm
 have h:=hm
 exact AW.res [(0,(ptr b1 0)),(4,(ptr b1 0))] [] ⟨rfl,rfl,trivial⟩ trivial (KJ74 (m189,w188,h190,k191,s194,Ls195) _ _ ⟨ho192,hH196,hG197,h⟩)
theorem impl_works_do_K10_ok {p3 p4 p14 p15 p29 p30:Int} {p5 p13 p16 p24:List Int} {p28:List Parcel} {p31:List Bool} {p36:List (List Push)} {p41:List (List (List Int))} {p46:List (List Int)} {p51:List (List UInt8)} {p1_56:Deed} {b1 z6 z17 z32 z37 z42 z47 z52:Nat} {w2:Nat→Bool} {f7 f18 f33 f38 f43 f48 f53:Bool} {e8 e19 e34 e39 e44 e49 e54:List AV} {h10 h21 h25:AV} {k11 k22 k26:KT} {s:St} (h9:LR rJ 1 p5 z6 e8) (ho12:h10.one=true) (h20:LR rJ 1 p16 z17 e19) (ho23:h21.one=true) (ho27:h25.one=true) (h35:LR rB 1 p31 z32 e34) (h40:LR (rL rPush 2) 1 p36 z37 e39) (h45:LR (rL (rL rJ 1) 1) 1 p41 z42 e44) (h50:LR (rL rJ 1) 1 p46 z47 e49) (h55:LR rS 1 p51 z52 e54) {ex:List Nat} {Ls0:List (List BX)} (hH0:HS ex true s s (([⟨some b1,[(J p3),(J p4),(sl z6 f7 e8),h10,(J p14),(J p15),(sl z17 f18 e19),h21,h25,(J p29),(J p30),(sl z32 f33 e34),(sl z37 f38 e39),(sl z42 f43 e44),(sl z47 f48 e49),(sl z52 f53 e54)],w2⟩]:List BX)++Ls0.flatten)) (hG0:AllG [OS oE2 h10 k11 p13,OS oE2 h21 k22 p24,OS oE114 h25 k26 p28] Ls0) (hl:LoOK ex true s) {r:Int × (List Int) × (List Int) × (List Parcel) × Int × Int × (List Int) × Int × Int × (List Int)} (h:impl_works_do_K10 p3 p4 p5 p13 p14 p15 p16 p24 p28 p29 p30 p31 p36 p41 p46 p51 p1_56=some r) (hs:WF s):ACall Cf 45 [(ptr b1 0),(agg [(J p1_56.Kind),(J p1_56.A),(J p1_56.B)])] s (fun v _ s'=>∃ (h1':AV) (k2':KT) (h4':AV) (k5':KT) (h7':AV) (k8':KT) (w10':Nat→Bool) (z11':Nat) (f12':Bool) (e13':List AV) (z15':Nat) (f16':Bool) (e17':List AV) (Ls':List (List BX)),v=(J r.1)∧HS ex true s s' (([⟨some b1,[(J r.2.2.2.2.1),(J r.2.2.2.2.2.1),(sl z11' f12' e13'),h1',(J r.2.2.2.2.2.2.2.1),(J r.2.2.2.2.2.2.2.2.1),(sl z15' f16' e17'),h4',h7',(J p29),(J p30),(sl z32 f33 e34),(sl z37 f38 e39),(sl z42 f43 e44),(sl z47 f48 e49),(sl z52 f53 e54)],w10'⟩]:List BX)++Ls'.flatten)∧AllG [OS oE2 h1' k2' r.2.1,OS oE2 h4' k5' r.2.2.1,OS oE114 h7' k8' r.2.2.2.1] Ls'∧h1'.one=true∧h4'.one=true∧h7'.one=true∧LR rJ 1 r.2.2.2.2.2.2.1 z11' e13'∧LR rJ 1 r.2.2.2.2.2.2.2.2.2 z15' e17') true:=by
 refine ACall.keepR rfl rfl rfl ?_
 unfold impl_works_do_K10 at h
 refine sr ?_
 refine AOps.makeR rfl rfl rfl rfl rfl rfl (rfl:_=(eptr [(J p1_56.Kind),(J p1_56.A),(J p1_56.B)] 0)) ?_
 refine q (J 0) ?_
 refine nl ?_
 refine AW.seq ?_
 refine sr ?_
 refine q (eptr [(J p1_56.Kind),(J p1_56.A),(J p1_56.B)] 0) ?_
 refine lE (J p1_56.Kind) ?_
 refine nl ?_
 refine AW.block ?_
 refine sr ?_
 refine q (bool (p1_56.Kind == 1)) ?_
 refine aq (bool (p1_56.Kind == 1)) ?_
 refine nl ?_
 refine AW.meet (σ:=Int × Int × (List Int) × (List Int) × Int × Int × (List Int) × (List Int) × (List Parcel) × (Nat→Bool) × Nat × Bool × (List AV) × AV × KT × Nat × Bool × (List AV) × AV × KT × AV × KT × St × (List (List BX))) (fun (m58,m59,m60,m65,m69,m70,m71,m76,m80,w57,z61,f62,e63,h66,k67,z72,f73,e74,h77,k78,h81,k82,s84,Ls85) tm os=>⟨updL tm [],updL os [],s84⟩) (fun (m58,m59,m60,m65,m69,m70,m71,m76,m80,w57,z61,f62,e63,h66,k67,z72,f73,e74,h77,k78,h81,k82,s84,Ls85)=>(LR rJ 1 m60 z61 e63)∧(h66.one=true)∧(LR rJ 1 m71 z72 e74)∧(h77.one=true)∧(h81.one=true)∧(HS ex true s s84 (([⟨some b1,[(J m58),(J m59),(sl z61 f62 e63),h66,(J m69),(J m70),(sl z72 f73 e74),h77,h81,(J p29),(J p30),(sl z32 f33 e34),(sl z37 f38 e39),(sl z42 f43 e44),(sl z47 f48 e49),(sl z52 f53 e54)],w57⟩]:List BX)++Ls85.flatten))∧(AllG [OS oE2 h66 k67 m65,OS oE2 h77 k78 m76,OS oE114 h81 k82 m80] Ls85)∧impl_works_do_K10_J1 m58 m59 m60 m65 m69 m70 m71 m76 m80=some r) ?_ ?_
 ·rintro ⟨m58,m59,m60,m65,m69,m70,m71,m76,m80,w57,z61,f62,e63,h66,k67,z72,f73,e74,h77,k78,h81,k82,s84,Ls85⟩ tm os ⟨h64,ho68,h75,ho79,ho83,hH86,hG87,h⟩
  unfold impl_works_do_K10_J1 at h
  refine AW.inBlock ?_
  refine sr ?_
  refine q (J 0) ?_
  refine nl ?_
  cases h
  exact AW.ret ⟨_,_,rfl,⟨h66,k67,h77,k78,h81,k82,w57,z61,f62,e63,z72,f73,e74,Ls85,rfl,hH86,hG87,ho68,ho79,ho83,h64,h75⟩⟩
 intro KJ88
 rcases oite h with ⟨hc89,h⟩ | ⟨hc89,h⟩
 ·refine cT hc89 ?_
  refine AW.seq ?_
  refine AW.block ?_
  refine sr ?_
  refine q (eptr [(J p1_56.Kind),(J p1_56.A),(J p1_56.B)] 1) ?_
  refine lE (J p1_56.A) ?_
  refine q (eptr [(J p1_56.Kind),(J p1_56.A),(J p1_56.B)] 2) ?_
  refine lE (J p1_56.B) ?_
  refine q (bool (decide ((p1_56.A:Int)>p1_56.B))) ?_
  refine q (bool (decide ((p1_56.A:Int)>p1_56.B))) ?_
  obtain ⟨b91,hb,h⟩:=obind h
  refine AOps.split 10 (fun f'=>∃ tm' os',f'=⟨updL tm' [(0,(ptr b1 0)),(3,(eptr [(J p1_56.Kind),(J p1_56.A),(J p1_56.B)] 0)),(68,(bool b91))],updL os' [],s⟩) ?_ ?_
  ·rcases oite hb with ⟨hc90,hb⟩ | ⟨hc90,hb⟩
   ·refine kn 58 hc90 ?_
    refine sk ?_
    refine sk ?_
    refine sk ?_
    refine sk ?_
    refine sk ?_
    refine sk ?_
    refine sk ?_
    refine sk ?_
    refine sk ?_
    refine q (bool true) ?_
    exact rR ⟨rfl,rfl,congrArg bool (Option.some.inj hb),trivial⟩
   ·have h:=hb
    refine kn 58 hc90 ?_
    refine q (eptr [(J p1_56.Kind),(J p1_56.A),(J p1_56.B)] 2) ?_
    refine lE (J p1_56.B) ?_
    refine q (ptr b1 0) ?_
    refine q (ptr b1 0) ?_
    refine q (ptr b1 9) ?_
    refine q (ptr b1 15) ?_
    refine AOps.ldB (i:=0) (v:=(sl z52 f53 e54)) hH0 rfl rfl rfl rfl rfl rfl rfl rfl rfl ?_
    obtain ⟨y92,h93,h⟩:=obind h
    refine AOps.callDP (g:=46) (args:=[(sl z52 f53 e54)]) (p:=rJ y92) rfl rfl rfl (impl_size_string_ok h55 h93 ((HS.wf' hH0).still)) (fun v hv=>Nice.pure (k:=FINK) (p:=rJ y92) .I _ v hv) ?_
    intro _ o95 h94
    cases h94
    refine q (bool (decide ((p1_56.B:Int)≥y92))) ?_
    refine q (bool (decide ((p1_56.B:Int)≥y92))) ?_
    exact rR ⟨rfl,rfl,congrArg bool (Option.some.inj h),trivial⟩
  rintro _ ⟨tm,os,rfl⟩
  refine aq (bool b91) ?_
  refine nl ?_
  rcases oite h with ⟨hc96,h⟩ | ⟨hc96,h⟩
  ·refine cT hc96 ?_
   refine sr ?_
   refine q (J 2) ?_
   refine nl ?_
   cases h
   exact AW.ret ⟨_,_,rfl,⟨h10,k11,h21,k22,h25,k26,w2,z6,f7,e8,z17,f18,e19,Ls0,rfl,hH0,hG0,ho12,ho23,ho27,h9,h20⟩⟩
  refine cF hc96 ?_
  refine sr ?_
  refine q (ptr b1 0) ?_
  refine q (ptr b1 0) ?_
  refine q (ptr b1 0) ?_
  refine q (ptr b1 8) ?_
  refine AOps.ldB (i:=0) (v:=h25) hH0 rfl rfl rfl rfl rfl rfl rfl rfl rfl ?_
  refine AOps.lenO (j:=2) hG0 rfl Sub.here rfl rfl rfl rfl rfl ?_
  refine q (bool ((p28.length:Int) == 12)) ?_
  refine aq (bool ((p28.length:Int) == 12)) ?_
  refine nl ?_
  rcases oite h with ⟨hc97,h⟩ | ⟨hc97,h⟩
  ·refine cT hc97 ?_
   refine sr ?_
   refine q (J 3) ?_
   refine nl ?_
   cases h
   exact AW.ret ⟨_,_,rfl,⟨h10,k11,h21,k22,h25,k26,w2,z6,f7,e8,z17,f18,e19,Ls0,rfl,hH0,hG0,ho12,ho23,ho27,h9,h20⟩⟩
  refine cF hc97 ?_
  refine AW.skip ?_
  refine AW.inBlock ?_
  refine AW.region ?_
  refine q (ptr b1 0) ?_
  refine q (ptr b1 0) ?_
  refine q (ptr b1 0) ?_
  refine q (ptr b1 0) ?_
  refine q (ptr b1 8) ?_
  refine AOps.ldB (i:=0) (v:=h25) hH0 rfl rfl rfl rfl rfl rfl rfl rfl rfl ?_
  refine q (eptr [(J p1_56.Kind),(J p1_56.A),(J p1_56.B)] 1) ?_
  refine lE (J p1_56.A) ?_
  refine q (ptr b1 0) ?_
  refine q (ptr b1 0) ?_
  refine q (ptr b1 9) ?_
  refine q (ptr b1 15) ?_
  refine AOps.ldB (i:=0) (v:=(sl z52 f53 e54)) hH0 rfl rfl rfl rfl rfl rfl rfl rfl rfl ?_
  refine q (eptr [(J p1_56.Kind),(J p1_56.A),(J p1_56.B)] 1) ?_
  refine lE (J p1_56.A) ?_
  refine q (eptr [(J p1_56.Kind),(J p1_56.A),(J p1_56.B)] 2) ?_
  refine lE (J p1_56.B) ?_
  refine q (J (IntKind.wrap .i64 (p1_56.B+1))) ?_
  obtain ⟨l98,h99,h⟩:=obind h
  obtain ⟨f100,e101,h102,h103⟩:=cut_slLH f53 h55 h99
  refine AOps.pureR rfl rfl rfl h103 rfl (rfl:_=(sl z52 f100 e101)) ?_
  refine q (agg [(J p1_56.A),(sl z52 f100 e101)]) ?_
  refine AOps.makeR rfl rfl rfl rfl rfl rfl (rfl:_=(sl 2 true [(agg [(J p1_56.A),(sl z52 f100 e101)])])) ?_
  obtain ⟨l104,h105,h⟩:=obind h
  refine AOps.appLf (j:=2) (z':=2) (f':=true) (e':=[(agg [(J p1_56.A),(sl z52 f100 e101)])]) hH0 hG0 rfl rfl rfl rfl rfl rfl rfl rfl (appSrc_sl (LR.z (show LR rParcel 2 (([(⟨p1_56.A,l98⟩:Parcel)]:List Parcel):List Parcel) 2 [(agg [(J p1_56.A),(sl z52 f100 e101)])] from LR.lit (r:=rParcel) (sz:=2) (.cons ⟨_,rfl,(.cons rfl (.cons ⟨_,_,_,rfl,h102⟩ .nil))⟩ .nil))) rfl) ⟨by decide,by decide,rfl,rfl⟩ ⟨rfl,rfl⟩ rfl rfl h105 (LR.el (show LR rParcel 2 (([(⟨p1_56.A,l98⟩:Parcel)]:List Parcel):List Parcel) 2 [(agg [(J p1_56.A),(sl z52 f100 e101)])] from LR.lit (r:=rParcel) (sz:=2) (.cons ⟨_,rfl,(.cons rfl (.cons ⟨_,_,_,rfl,h102⟩ .nil))⟩ .nil))).len (fun i=>OL.leaf (LR.el (show LR rParcel 2 (([(⟨p1_56.A,l98⟩:Parcel)]:List Parcel):List Parcel) 2 [(agg [(J p1_56.A),(sl z52 f100 e101)])] from LR.lit (r:=rParcel) (sz:=2) (.cons ⟨_,rfl,(.cons rfl (.cons ⟨_,_,_,rfl,h102⟩ .nil))⟩ .nil))) i) ?_
  intro h106 k108 Ls109 s110 ho107 hG111 hH112
  refine q (ptr b1 0) ?_
  refine q (ptr b1 0) ?_
  refine q (ptr b1 8) ?_
  refine AOps.stE (i:=0) (v:=h106) hH112 hl rfl rfl rfl rfl rfl rfl rfl (one_lay ho107) (one_len ho107) (lt_b rfl) (le_b rfl) rfl ?_
  intro w113 s114 h115 h116 hH117
  rw[AV.cells_one ho107] at hH117
  refine nl ?_
  exact AW.res [] [] trivial trivial (KJ88 (p3,p4,p5,p13,p14,p15,p16,p24,l104,w113,z6,f7,e8,h10,k11,z17,f18,e19,h21,k22,h106,k108,s114,Ls109) _ _ ⟨h9,ho12,h20,ho23,ho107,hH117,hG111,h⟩)
 refine cF hc89 ?_
 refine sr ?_
 refine q (bool (p1_56.Kind == 5)) ?_
 refine aq (bool (p1_56.Kind == 5)) ?_
 refine nl ?_
 rcases oite h with ⟨hc118,h⟩ | ⟨hc118,h⟩
 ·refine cT hc118 ?_
  refine AW.region ?_
  refine q (ptr b1 0) ?_
  refine q (ptr b1 0) ?_
  refine q (ptr b1 0) ?_
  refine q (ptr b1 0) ?_
  refine q (ptr b1 0) ?_
  refine AOps.ldB (i:=0) (v:=(agg [(J p3),(J p4),(sl z6 f7 e8),h10])) hH0 rfl rfl rfl rfl rfl rfl rfl rfl rfl ?_
  obtain ⟨y119,h120,h⟩:=obind h
  have hP128:=HS.pop0 hH0
  have hF0:AllG ([]:List (List BX→Prop)) []:=AllG.nil
  obtain ⟨Ls129,Lf130,hG131,hF132,hP133⟩:=HS.popG hP128 hG0 hF0 (j:=0) rfl
  refine AOps.callF (al:=true) (g:=73) (args:=[(agg [(J p3),(J p4),(sl z6 f7 e8),h10])]) rfl rfl rfl (impl_Desk_copied_K1_ok (d1:=(⟨p3,p4,p5,p13⟩:Desk)) h9 ho12 (HS.enterK hP133) hF132 (HS.enterLo hP133 hl) h120 (HS.wf' hH0)) ?_
  rintro _ _ s134 ⟨z121,f122,e123,h125,k126,Ls136,rfl,hH137,hG138,hl124,ho127⟩
  have hJ139:=HS.joinK hP133 hH137
  obtain ⟨Ls140,Lf141,hG142,hF143,hP144⟩:=HS.putG hJ139 hG131 hG138 (j:=0) rfl
  obtain ⟨Ls145,Lf146,hG147,hF148,hP149⟩:=HS.pushN hP144 hG142 hF143
  cases hF148
  have hH150:=HS.push0 hP149
  refine q (ptr b1 0) ?_
  refine q (ptr b1 0) ?_
  refine q (ptr b1 4) ?_
  refine AOps.stE (i:=0) (v:=(agg [(J y119.Read),(J y119.State),(sl z121 f122 e123),h125])) hH150 hl rfl rfl rfl rfl rfl rfl rfl (lay_cons rfl (lay_cons rfl (lay_cons rfl (lay_cons ho127 lay_nil)))) rfl (lt_b rfl) (le_b rfl) rfl ?_
  intro w151 s152 h153 h154 hH155
  refine nl ?_
  obtain ⟨Ls156,hG157,hH158⟩:=HS.selEG hH155 hG147 [some 0] [some 1,some 0,some 3]
  exact AW.res [] [] trivial trivial (KJ88 (p3,p4,p5,p13,y119.Read,y119.State,y119.Stack,y119.Waiting,p28,w151,z6,f7,e8,h10,k11,z121,f122,e123,h125,k126,h25,k26,s152,Ls156) _ _ ⟨h9,ho12,hl124,ho127,ho27,hH158,hG157,h⟩)
 refine cF hc118 ?_
 refine sr ?_
 refine q (bool (p1_56.Kind == 6)) ?_
 refine aq (bool (p1_56.Kind == 6)) ?_
 refine nl ?_
 rcases oite h with ⟨hc159,h⟩ | ⟨hc159,h⟩
 ·refine cT hc159 ?_
  refine AW.region ?_
  refine q (ptr b1 0) ?_
  refine q (ptr b1 0) ?_
  refine q (ptr b1 0) ?_
  refine q (ptr b1 0) ?_
  refine q (ptr b1 4) ?_
  refine AOps.ldB (i:=0) (v:=(agg [(J p14),(J p15),(sl z17 f18 e19),h21])) hH0 rfl rfl rfl rfl rfl rfl rfl rfl rfl ?_
  obtain ⟨y160,h161,h⟩:=obind h
  have hP169:=HS.pop0 hH0
  have hF0:AllG ([]:List (List BX→Prop)) []:=AllG.nil
  obtain ⟨Ls170,Lf171,hG172,hF173,hP174⟩:=HS.popG hP169 hG0 hF0 (j:=1) rfl
  refine AOps.callF (al:=true) (g:=73) (args:=[(agg [(J p14),(J p15),(sl z17 f18 e19),h21])]) rfl rfl rfl (impl_Desk_copied_K1_ok (d1:=(⟨p14,p15,p16,p24⟩:Desk)) h20 ho23 (HS.enterK hP174) hF173 (HS.enterLo hP174 hl) h161 (HS.wf' hH0)) ?_
  rintro _ _ s175 ⟨z162,f163,e164,h166,k167,Ls177,rfl,hH178,hG179,hl165,ho168⟩
  have hJ180:=HS.joinK hP174 hH178
  obtain ⟨Ls181,Lf182,hG183,hF184,hP185⟩:=HS.putG hJ180 hG172 hG179 (j:=1) rfl
  obtain ⟨Ls186,Lf187,hG188,hF189,hP190⟩:=HS.pushN hP185 hG183 hF184
  cases hF189
  have hH191:=HS.push0 hP190
  refine q (ptr b1 0) ?_
  refine q (ptr b1 0) ?_
  refine q (ptr b1 0) ?_
  refine AOps.stE (i:=0) (v:=(agg [(J y160.Read),(J y160.State),(sl z162 f163 e164),h166])) hH191 hl rfl rfl rfl rfl rfl rfl rfl (lay_cons rfl (lay_cons rfl (lay_cons rfl (lay_cons ho168 lay_nil)))) rfl (lt_b rfl) (le_b rfl) rfl ?_
  intro w192 s193 h194 h195 hH196
  refine nl ?_
  obtain ⟨Ls197,hG198,hH199⟩:=HS.selEG hH196 hG188 [some 0] [some 0,some 2,some 3]
  exact AW.res [] [] trivial trivial (KJ88 (y160.Read,y160.State,y160.Stack,y160.Waiting,p14,p15,p16,p24,p28,w192,z162,f163,e164,h166,k167,z17,f18,e19,h21,k22,h25,k26,s193,Ls197) _ _ ⟨hl165,ho168,h20,ho23,ho27,hH199,hG198,h⟩)
 refine cF hc159 ?_
 refine AW.seq ?_
 refine sr ?_
 refine q (eptr [(J p1_56.Kind),(J p1_56.A),(J p1_56.B)] 1) ?_
 refine lE (J p1_56.A) ?_
 refine q (ptr b1 0) ?_
 refine q (ptr b1 0) ?_
 refine q (ptr b1 0) ?_
 refine q (ptr b1 8) ?_
 refine AOps.ldB (i:=0) (v:=h25) hH0 rfl rfl rfl rfl rfl rfl rfl rfl rfl ?_
 obtain ⟨y200,h201,h⟩:=obind h
 refine AOps.lendD (g:=74) (args:=[h25]) (ps:=[(rL rParcel 2) p28]) (p:=rJ y200) rfl rfl rfl rfl rfl rfl rfl (.cons (Fin.up (by decide) (HS.finSt hH0 hG0 (j:=2) rfl Sub.here)) .nil) (fun args' hc=>by obtain ⟨_,_,rfl,hv0,hd0⟩:=Cs_cons hc; obtain ⟨z202,f203,e204,rfl,h205⟩:=hv0; cases Cs_nil hd0; exact impl_size_impl_Parcel_okN h205 h201 WF.blind) (fun v n hv=>by cases hv; rfl) (fun v hv=>Nice.pure (k:=FINK) (p:=rJ y200) .I _ v hv) ?_
 intro _ h206
 cases h206
 refine q (bool (decide ((p1_56.A:Int)≥y200))) ?_
 refine nl ?_
 rcases oite h with ⟨hc207,h⟩ | ⟨hc207,h⟩
 ·refine cT hc207 ?_
  refine sr ?_
  refine q (J 2) ?_
  refine nl ?_
  cases h
  exact AW.ret ⟨_,_,rfl,⟨h10,k11,h21,k22,h25,k26,w2,z6,f7,e8,z17,f18,e19,Ls0,rfl,hH0,hG0,ho12,ho23,ho27,h9,h20⟩⟩
 refine cF hc207 ?_
 refine AW.skip ?_
 refine sr ?_
 refine q (ptr b1 0) ?_
 refine q (ptr b1 0) ?_
 refine q (ptr b1 0) ?_
 refine q (ptr b1 8) ?_
 refine AOps.ldB (i:=0) (v:=h25) hH0 rfl rfl rfl rfl rfl rfl rfl rfl rfl ?_
 refine q (eptr [(J p1_56.Kind),(J p1_56.A),(J p1_56.B)] 1) ?_
 refine lE (J p1_56.A) ?_
 obtain ⟨x210,h211,h⟩:=obind h
 refine AOps.idxO (j:=2) hG0 rfl Sub.here h211 rfl rfl rfl rfl rfl rfl rfl rfl rfl ?_
 intro b208 hb209
 refine AOps.ldO (j:=2) (q:=0) hH0 hG0 rfl Sub.here h211 hb209 rfl rfl rfl rfl rfl (lt_b rfl) (le_b rfl) rfl rfl ?_ (fun c B hc=>by obtain ⟨⟨_,hr,rfl⟩,rfl⟩:=hc; obtain ⟨_,rfl,h227⟩:=hr; obtain ⟨_,_,rfl,h228,h229⟩:=Cs_cons h227; cases h228; obtain ⟨_,_,rfl,h230,h231⟩:=Cs_cons h229; obtain ⟨z232,f233,e234,rfl,h235⟩:=h230; cases Cs_nil h231; exact ⟨_,rfl⟩)
 intro c212 B213 v214 h215 h216
 obtain ⟨⟨_,h217,rfl⟩,rfl⟩:=h215
 obtain ⟨_,rfl,h218⟩:=h217
 obtain ⟨_,_,rfl,h219,h220⟩:=Cs_cons h218
 cases h219
 obtain ⟨_,_,rfl,h221,h222⟩:=Cs_cons h220
 obtain ⟨z223,f224,e225,rfl,h226⟩:=h221
 cases Cs_nil h222
 cases h216
 refine AOps.allocP rfl rfl rfl rfl ⟨rfl,rfl⟩ rfl ?_
 refine AOps.stP (v:=(agg [(J x210.First),(sl z223 f224 e225)])) rfl rfl rfl rfl rfl rfl rfl rfl rfl (lt_b rfl) rfl ?_
 refine nl ?_
 refine AW.seq ?_
 refine sr ?_
 refine q (eptr [(J p1_56.Kind),(J p1_56.A),(J p1_56.B)] 0) ?_
 refine lE (J p1_56.Kind) ?_
 refine q (bool (p1_56.Kind != 3)) ?_
 refine nl ?_
 refine AW.meet (σ:=(List Parcel) × (Nat→Bool) × AV × KT × St × (List (List BX))) (fun (m237,w236,h238,k239,s241,Ls242) tm os=>⟨updL tm [(0,(ptr b1 0)),(3,(eptr [(J p1_56.Kind),(J p1_56.A),(J p1_56.B)] 0)),(5,(eptr [(J x210.First),(sl z223 f224 e225)] 0))],updL os [],s241⟩) (fun (m237,w236,h238,k239,s241,Ls242)=>(h238.one=true)∧(HS ex true s s241 (([⟨some b1,[(J p3),(J p4),(sl z6 f7 e8),h10,(J p14),(J p15),(sl z17 f18 e19),h21,h238,(J p29),(J p30),(sl z32 f33 e34),(sl z37 f38 e39),(sl z42 f43 e44),(sl z47 f48 e49),(sl z52 f53 e54)],w236⟩]:List BX)++Ls242.flatten))∧(AllG [OS oE2 h10 k11 p13,OS oE2 h21 k22 p24,OS oE114 h238 k239 m237] Ls242)∧impl_works_do_K10_J2 p3 p4 p5 p13 p14 p15 p16 p24 p29 p30 p31 p36 p41 p46 p51 p1_56 x210 m237=some r) ?_ ?_
 ·rintro ⟨m237,w236,h238,k239,s241,Ls242⟩ tm os ⟨ho240,hH243,hG244,h⟩
  unfold impl_works_do_K10_J2 at h
  refine sr ?_
  refine q (eptr [(J p1_56.Kind),(J p1_56.A),(J p1_56.B)] 0) ?_
  refine lE (J p1_56.Kind) ?_
  refine q (bool (p1_56.Kind != 4)) ?_
  refine nl ?_
  rcases oite h with ⟨hc246,h⟩ | ⟨hc246,h⟩
  ·refine cT hc246 ?_
   refine AW.region ?_
   refine q (ptr b1 0) ?_
   refine lE (agg [(J x210.First),(sl z223 f224 e225)]) ?_
   obtain ⟨y247,h248,h⟩:=obind h
   have hP257:=HS.pop0 hH243
   have hP258:=HS.popE hP257 (i:=0) (x:=⟨some b1,[(J p3),(J p4),(sl z6 f7 e8),h10,(J p14),(J p15),(sl z17 f18 e19),h21,h238,(J p29),(J p30),(sl z32 f33 e34),(sl z37 f38 e39),(sl z42 f43 e44),(sl z47 f48 e49),(sl z52 f53 e54)],w236⟩) rfl
   have hF0:AllG ([]:List (List BX→Prop)) []:=AllG.nil
   obtain ⟨Ls259,Lf260,hG261,hF262,hP263⟩:=HS.popG hP258 hG244 hF0 (j:=0) rfl
   obtain ⟨Ls264,Lf265,hG266,hF267,hP268⟩:=HS.popG hP263 hG261 hF262 (j:=1) rfl
   obtain ⟨Ls269,Lf270,hG271,hF272,hP273⟩:=HS.popG hP268 hG266 hF267 (j:=2) rfl
   refine AOps.callF (al:=true) (g:=76) (args:=[(ptr b1 0),(agg [(J x210.First),(sl z223 f224 e225)])]) rfl rfl rfl (impl_works_comeIn_K10_ok h9 ho12 h20 ho23 ho240 h35 h40 h45 h50 h55 h226 (HS.enterK hP273) hF272 (HS.enterLo hP273 hl) h248 (HS.wf' hH243)) ?_
   rintro _ _ s274 ⟨h249,k250,w252,z253,f254,e255,Ls276,rfl,hH277,hG278,ho251,h256⟩
   have hJ279:=HS.joinK hP273 hH277
   have hJ280:=HS.pushE hJ279 (i:=0) rfl
   obtain ⟨Ls281,Lf282,hG283,hF284,hP285⟩:=HS.putG hJ280 hG271 hG278 (j:=0) rfl
   obtain ⟨Ls286,Lf287,hG288,hF289,hP290⟩:=HS.putG hP285 hG283 hF284 (j:=1) rfl
   obtain ⟨Ls291,Lf292,hG293,hF294,hP295⟩:=HS.putG hP290 hG288 hF289 (j:=2) rfl
   cases hF294
   have hH296:=HS.push0 hP295
   refine nl ?_
   exact AW.res [] [] trivial trivial (KJ88 (y247.2.2.1,y247.2.2.2.1,y247.2.2.2.2,y247.2.1,p14,p15,p16,p24,m237,w252,z253,f254,e255,h249,k250,z17,f18,e19,h21,k22,h238,k239,s274,Ls291) _ _ ⟨h256,ho251,h20,ho23,ho240,hH296,hG293,h⟩)
  refine cF hc246 ?_
  refine AW.skip ?_
  exact AW.res [] [] trivial trivial (KJ88 (p3,p4,p5,p13,p14,p15,p16,p24,m237,w236,z6,f7,e8,h10,k11,z17,f18,e19,h21,k22,h238,k239,s241,Ls242) _ _ ⟨h9,ho12,h20,ho23,ho240,hH243,hG244,h⟩)
 intro KJ245
 rcases oite h with ⟨hc297,h⟩ | ⟨hc297,h⟩
 ·refine cT hc297 ?_
  refine AW.region ?_
  refine q (ptr b1 0) ?_
  refine q (ptr b1 0) ?_
  refine q (ptr b1 0) ?_
  refine q (ptr b1 0) ?_
  refine q (ptr b1 8) ?_
  refine AOps.ldB (i:=0) (v:=h25) hH0 rfl rfl rfl rfl rfl rfl rfl rfl rfl ?_
  refine q (eptr [(J p1_56.Kind),(J p1_56.A),(J p1_56.B)] 1) ?_
  refine lE (J p1_56.A) ?_
  refine q (eptr [(J p1_56.Kind),(J p1_56.A),(J p1_56.B)] 1) ?_
  refine lE (J p1_56.A) ?_
  refine q (J (IntKind.wrap .i64 (p1_56.A+1))) ?_
  obtain ⟨l298,h299,h⟩:=obind h
  refine AOps.delOE (j:=2) (g:=75) own_leaf114 rfl rfl hH0 hG0 hl rfl h299 rfl rfl rfl ?_
  intro h300 k302 Ls303 s304 ho301 hG305 hH306
  refine q (ptr b1 0) ?_
  refine q (ptr b1 0) ?_
  refine q (ptr b1 8) ?_
  refine AOps.stE (i:=0) (v:=h300) hH306 hl rfl rfl rfl rfl rfl rfl rfl (one_lay ho301) (one_len ho301) (lt_b rfl) (le_b rfl) rfl ?_
  intro w307 s308 h309 h310 hH311
  rw[AV.cells_one ho301] at hH311
  refine nl ?_
  exact AW.res [(0,(ptr b1 0)),(3,(eptr [(J p1_56.Kind),(J p1_56.A),(J p1_56.B)] 0)),(5,(eptr [(J x210.First),(sl z223 f224 e225)] 0))] [] ⟨rfl,rfl,rfl,trivial⟩ trivial (KJ245 (l298,w307,h300,k302,s308,Ls303) _ _ ⟨ho301,hH311,hG305,h⟩)
 refine cF hc297 ?_
 refine AW.skip ?_
 exact AW.res [(0,(ptr b1 0)),(3,(eptr [(J p1_56.Kind),(J p1_56.A),(J p1_56.B)] 0)),(5,(eptr [(J x210.First),(sl z223 f224 e225)] 0))] [] ⟨rfl,rfl,rfl,trivial⟩ trivial (KJ245 (p28,w2,h25,k26,s,Ls0) _ _ ⟨ho27,hH0,hG0,h⟩)
theorem impl_after_K00_ok {v1:Stream} {deeds22:List Deed} {z2 z6 z10 z14 z18 z23:Nat} {f3 f7 f11 f15 f19 f24:Bool} {e4 e8 e12 e16 e20 e25:List AV} {s:St} (h5:LR rB 1 v1.Checker.Accept z2 e4) (h9:LR (rL rPush 2) 1 v1.Checker.Call z6 e8) (h13:LR (rL (rL rJ 1) 1) 1 v1.Checker.Return z10 e12) (h17:LR (rL rJ 1) 1 v1.Checker.Inner z14 e16) (h21:LR rS 1 v1.Pieces z18 e20) (h26:LR rDeed 3 deeds22 z23 e25) {r:Works × Int} (h:impl_after_K00 v1 deeds22=some r) (hs:WF s):ACall Cf 21 [(agg [(J v1.Checker.Stack),(J v1.Checker.Start),(sl z2 f3 e4),(sl z6 f7 e8),(sl z10 f11 e12),(sl z14 f15 e16),(sl z18 f19 e20)]),(sl z23 f24 e25)] s (fun v _ s'=>∃ (b1':Nat) (w2':Nat→Bool) (z3':Nat) (f4':Bool) (e5':List AV) (h7':AV) (k8':KT) (z10':Nat) (f11':Bool) (e12':List AV) (h14':AV) (k15':KT) (h17':AV) (k18':KT) (z20':Nat) (f21':Bool) (e22':List AV) (z24':Nat) (f25':Bool) (e26':List AV) (z28':Nat) (f29':Bool) (e30':List AV) (z32':Nat) (f33':Bool) (e34':List AV) (z36':Nat) (f37':Bool) (e38':List AV) (Ls':List (List BX)),v=(AV.tup [(ptr b1' 0),(J r.2)])∧HS [] true s s' (([⟨some b1',[(J r.1.Plant_.Desk_.Read),(J r.1.Plant_.Desk_.State),(sl z3' f4' e5'),h7',(J r.1.Plant_.Saved.Read),(J r.1.Plant_.Saved.State),(sl z10' f11' e12'),h14',h17',(J r.1.stream.Checker.Stack),(J r.1.stream.Checker.Start),(sl z20' f21' e22'),(sl z24' f25' e26'),(sl z28' f29' e30'),(sl z32' f33' e34'),(sl z36' f37' e38')],w2'⟩]:List BX)++Ls'.flatten)∧AllG [OS oE2 h7' k8' r.1.Plant_.Desk_.Waiting,OS oE2 h14' k15' r.1.Plant_.Saved.Waiting,OS oE114 h17' k18' r.1.Plant_.Wire] Ls'∧LR rJ 1 r.1.Plant_.Desk_.Stack z3' e5'∧h7'.one=true∧LR rJ 1 r.1.Plant_.Saved.Stack z10' e12'∧h14'.one=true∧h17'.one=true∧LR rB 1 r.1.stream.Checker.Accept z20' e22'∧LR (rL rPush 2) 1 r.1.stream.Checker.Call z24' e26'∧LR (rL (rL rJ 1) 1) 1 r.1.stream.Checker.Return z28' e30'∧LR (rL rJ 1) 1 r.1.stream.Checker.Inner z32' e34'∧LR rS 1 r.1.stream.Pieces z36' e38') true:=by
 refine ACall.keepR rfl rfl rfl ?_
 have hH0:=HS.g0 (HS.initK hs)
 have hG0:=AllG.nil
 have hl:LoOK [] true s:=LoOK.nil
 unfold impl_after_K00 at h
 refine sr ?_
 refine AOps.makeR rfl rfl rfl rfl rfl rfl (rfl:_=(eptr [(J v1.Checker.Stack),(J v1.Checker.Start),(sl z2 f3 e4),(sl z6 f7 e8),(sl z10 f11 e12),(sl z14 f15 e16),(sl z18 f19 e20)] 0)) ?_
 refine q AV.nilp ?_
 refine q (J 0) ?_
 refine ns ?_
 refine lE (agg [(J v1.Checker.Stack),(J v1.Checker.Start),(sl z2 f3 e4),(sl z6 f7 e8),(sl z10 f11 e12),(sl z14 f15 e16),(sl z18 f19 e20)]) ?_
 obtain ⟨y27,h28,h⟩:=obind h
 have hP68:=HS.pop0 hH0
 refine AOps.callF (al:=true) (g:=44) (args:=[(agg [(J v1.Checker.Stack),(J v1.Checker.Start),(sl z2 f3 e4),(sl z6 f7 e8),(sl z10 f11 e12),(sl z14 f15 e16),(sl z18 f19 e20)])]) rfl rfl rfl (impl_newWorks_K0_ok h5 h9 h13 h17 h21  h28 (HS.wf' hH0)) ?_
 rintro _ _ s69 ⟨b29,w30,z31,f32,e33,h35,k36,z38,f39,e40,h42,k43,h45,k46,z48,f49,e50,z52,f53,e54,z56,f57,e58,z60,f61,e62,z64,f65,e66,Ls71,rfl,hH72,hG73,hl34,ho37,hl41,ho44,ho47,hl51,hl55,hl59,hl63,hl67⟩
 have hJ74:=HS.joinK1 hP68 hH72
 have hJ75:=HS.pushNE (x:=⟨some b29,[(J y27.Plant_.Desk_.Read),(J y27.Plant_.Desk_.State),(sl z31 f32 e33),h35,(J y27.Plant_.Saved.Read),(J y27.Plant_.Saved.State),(sl z38 f39 e40),h42,h45,(J y27.stream.Checker.Stack),(J y27.stream.Checker.Start),(sl z48 f49 e50),(sl z52 f53 e54),(sl z56 f57 e58),(sl z60 f61 e62),(sl z64 f65 e66)],w30⟩) hJ74
 obtain ⟨Ls76,Lf77,hG78,hF79,hP80⟩:=HS.pushN hJ75 hG0 hG73
 obtain ⟨Ls81,Lf82,hG83,hF84,hP85⟩:=HS.pushN hP80 hG78 hF79
 obtain ⟨Ls86,Lf87,hG88,hF89,hP90⟩:=HS.pushN hP85 hG83 hF84
 cases hF89
 have hH91:=HS.push0 hP90
 refine aq (ptr b29 0) ?_
 refine q (J 0) ?_
 refine nl ?_
 refine AW.seq ?_
 refine sr ?_
 refine q (sl z23 f24 e25) ?_
 refine AOps.p rfl (len_eq h26) ?_
 refine q (J 0) ?_
 refine nl ?_
 refine AW.meet (σ:=Int × Int × (List Int) × (List Int) × Int × Int × (List Int) × (List Int) × (List Parcel) × Int × (Nat→Bool) × Nat × Bool × (List AV) × AV × KT × Nat × Bool × (List AV) × AV × KT × AV × KT × St × (List (List BX))) (fun (m93,m94,m95,m100,m104,m105,m106,m111,m115,done119,w92,z96,f97,e98,h101,k102,z107,f108,e109,h112,k113,h116,k117,s120,Ls121) tm os=>⟨updL tm [(6,(ptr b29 0)),(7,(J done119))],updL os [],s120⟩) (fun (m93,m94,m95,m100,m104,m105,m106,m111,m115,done119,w92,z96,f97,e98,h101,k102,z107,f108,e109,h112,k113,h116,k117,s120,Ls121)=>(LR rJ 1 m95 z96 e98)∧(h101.one=true)∧(LR rJ 1 m106 z107 e109)∧(h112.one=true)∧(h116.one=true)∧(HS [] true s s120 (([⟨some b29,[(J m93),(J m94),(sl z96 f97 e98),h101,(J m104),(J m105),(sl z107 f108 e109),h112,h116,(J y27.stream.Checker.Stack),(J y27.stream.Checker.Start),(sl z48 f49 e50),(sl z52 f53 e54),(sl z56 f57 e58),(sl z60 f61 e62),(sl z64 f65 e66)],w92⟩]:List BX)++Ls121.flatten))∧(AllG [OS oE2 h101 k102 m100,OS oE2 h112 k113 m111,OS oE114 h116 k117 m115] Ls121)∧impl_after_K00_J1 y27 m93 m94 m95 m100 m104 m105 m106 m111 m115 done119=some r) ?_ ?_
 ·rintro ⟨m93,m94,m95,m100,m104,m105,m106,m111,m115,done119,w92,z96,f97,e98,h101,k102,z107,f108,e109,h112,k113,h116,k117,s120,Ls121⟩ tm os ⟨h99,ho103,h110,ho114,ho118,hH122,hG123,h⟩
  unfold impl_after_K00_J1 at h
  refine sr ?_
  refine q (ptr b29 0) ?_
  refine q (J done119) ?_
  refine aq (ptr b29 0) ?_
  refine aq (J done119) ?_
  refine nl ?_
  cases h
  exact AW.ret ⟨_,_,rfl,⟨b29,w92,z96,f97,e98,h101,k102,z107,f108,e109,h112,k113,h116,k117,z48,f49,e50,z52,f53,e54,z56,f57,e58,z60,f61,e62,z64,f65,e66,Ls121,rfl,hH122,hG123,h99,ho103,h110,ho114,ho118,hl51,hl55,hl59,hl63,hl67⟩⟩
 intro KJ124
 refine AW.block ?_
 obtain ⟨Ls239,hG240,hH241⟩:=HS.selEG hH91 hG88 [some 0] [some 2,some 1,some 0]
 refine AW.res [(6,(ptr b29 0)),(7,(J 0)),(12,(sl z23 f24 e25)),(13,(J (deeds22.length:Int))),(14,(J 0))] [] ⟨rfl,rfl,rfl,rfl,rfl,trivial⟩ trivial ?_
 refine AW.loopF (σ:=Int × Int × (List Int) × (List Int) × Int × Int × (List Int) × (List Int) × (List Parcel) × Int × Int) (τ:=(Nat→Bool) × Nat × Bool × (List AV) × AV × KT × Nat × Bool × (List AV) × AV × KT × AV × KT × St × (List (List BX))) (fun (m126,m127,m128,m133,m137,m138,m139,m144,m148,done152,t153) (w125,z129,f130,e131,h134,k135,z140,f141,e142,h145,k146,h149,k150,s154,Ls155)=>(LR rJ 1 m128 z129 e131)∧(h134.one=true)∧(LR rJ 1 m139 z140 e142)∧(h145.one=true)∧(h149.one=true)∧(HS [] true s s154 (([⟨some b29,[(J m126),(J m127),(sl z129 f130 e131),h134,(J m137),(J m138),(sl z140 f141 e142),h145,h149,(J y27.stream.Checker.Stack),(J y27.stream.Checker.Start),(sl z48 f49 e50),(sl z52 f53 e54),(sl z56 f57 e58),(sl z60 f61 e62),(sl z64 f65 e66)],w125⟩]:List BX)++Ls155.flatten))∧(AllG [OS oE2 h134 k135 m133,OS oE2 h145 k146 m144,OS oE114 h149 k150 m148] Ls155)) (fun (m126,m127,m128,m133,m137,m138,m139,m144,m148,done152,t153) (w125,z129,f130,e131,h134,k135,z140,f141,e142,h145,k146,h149,k150,s154,Ls155) tm os=>⟨updL tm [(6,(ptr b29 0)),(7,(J done152)),(12,(sl z23 f24 e25)),(13,(J (deeds22.length:Int))),(14,(J t153))],updL os [],s154⟩) ?_ (x:=(y27.Plant_.Desk_.Read,y27.Plant_.Desk_.State,y27.Plant_.Desk_.Stack,y27.Plant_.Desk_.Waiting,y27.Plant_.Saved.Read,y27.Plant_.Saved.State,y27.Plant_.Saved.Stack,y27.Plant_.Saved.Waiting,y27.Plant_.Wire,0,0)) (y:=(w30,z31,f32,e33,h35,k36,z38,f39,e40,h42,k43,h45,k46,s69,Ls239)) h ⟨hl34,ho37,hl41,ho44,ho47,hH241,hG240⟩
 clear h
 rintro ⟨m126,m127,m128,m133,m137,m138,m139,m144,m148,done152,t153⟩ ⟨w125,z129,f130,e131,h134,k135,z140,f141,e142,h145,k146,h149,k150,s154,Ls155⟩ tm os ⟨h132,ho136,h143,ho147,ho151,hH156,hG157⟩ ee1 h hL1 hR1
 unfold impl_after_K00_S1 at h
 dsimp only at h
 refine sr ?_
 refine q (bool (decide ((t153:Int)<(deeds22.length:Int)))) ?_
 refine nl ?_
 refine AW.seq ?_
 rcases oite h with ⟨hc158,h⟩ | ⟨hc158,h⟩
 ·refine cT hc158 ?_
  refine AW.skip ?_
  refine AW.seq ?_
  refine AW.block ?_
  refine sr ?_
  obtain ⟨x159,h160,h⟩:=obind h
  obtain ⟨v163,h161,h162⟩:=idx_sl h26 h160
  obtain ⟨_,rfl,h164⟩:=h161
  obtain ⟨_,_,rfl,h165,h166⟩:=Cs_cons h164
  cases h165
  obtain ⟨_,_,rfl,h167,h168⟩:=Cs_cons h166
  cases h167
  obtain ⟨_,_,rfl,h169,h170⟩:=Cs_cons h168
  cases h169
  cases Cs_nil h170
  refine AOps.pureR rfl rfl rfl h162 rfl (rfl:_=(eptr [(J x159.Kind),(J x159.A),(J x159.B)] 0)) ?_
  refine lE (agg [(J x159.Kind),(J x159.A),(J x159.B)]) ?_
  refine AOps.allocP rfl rfl rfl rfl ⟨rfl,rfl⟩ rfl ?_
  refine AOps.stP (v:=(agg [(J x159.Kind),(J x159.A),(J x159.B)])) rfl rfl rfl rfl rfl rfl rfl rfl rfl (lt_b rfl) rfl ?_
  refine ns ?_
  refine q (ptr b29 0) ?_
  refine lE (agg [(J x159.Kind),(J x159.A),(J x159.B)]) ?_
  obtain ⟨y171,h172,h⟩:=obind h
  have hP191:=HS.pop0 hH156
  have hP192:=HS.popE hP191 (i:=0) (x:=⟨some b29,[(J m126),(J m127),(sl z129 f130 e131),h134,(J m137),(J m138),(sl z140 f141 e142),h145,h149,(J y27.stream.Checker.Stack),(J y27.stream.Checker.Start),(sl z48 f49 e50),(sl z52 f53 e54),(sl z56 f57 e58),(sl z60 f61 e62),(sl z64 f65 e66)],w125⟩) rfl
  have hF0:AllG ([]:List (List BX→Prop)) []:=AllG.nil
  obtain ⟨Ls193,Lf194,hG195,hF196,hP197⟩:=HS.popG hP192 hG157 hF0 (j:=0) rfl
  obtain ⟨Ls198,Lf199,hG200,hF201,hP202⟩:=HS.popG hP197 hG195 hF196 (j:=1) rfl
  obtain ⟨Ls203,Lf204,hG205,hF206,hP207⟩:=HS.popG hP202 hG200 hF201 (j:=2) rfl
  refine AOps.callF (al:=true) (g:=45) (args:=[(ptr b29 0),(agg [(J x159.Kind),(J x159.A),(J x159.B)])]) rfl rfl rfl (impl_works_do_K10_ok h132 ho136 h143 ho147 ho151 hl51 hl55 hl59 hl63 hl67 (HS.enterK hP207) hF206 (HS.enterLo hP207 hl) h172 (HS.wf' hH156)) ?_
  rintro _ _ s208 ⟨h173,k174,h176,k177,h179,k180,w182,z183,f184,e185,z187,f188,e189,Ls210,rfl,hH211,hG212,ho175,ho178,ho181,h186,h190⟩
  have hJ213:=HS.joinK hP207 hH211
  have hJ214:=HS.pushE hJ213 (i:=0) rfl
  obtain ⟨Ls215,Lf216,hG217,hF218,hP219⟩:=HS.putG hJ214 hG205 hG212 (j:=0) rfl
  obtain ⟨Ls220,Lf221,hG222,hF223,hP224⟩:=HS.putG hP219 hG217 hF218 (j:=1) rfl
  obtain ⟨Ls225,Lf226,hG227,hF228,hP229⟩:=HS.putG hP224 hG222 hF223 (j:=2) rfl
  cases hF228
  have hH230:=HS.push0 hP229
  refine q (bool (y171.1 == 0)) ?_
  refine nl ?_
  refine AW.meet (σ:=Int × St × (List (List BX))) (fun (done231,s232,Ls233) tm os=>⟨updL tm [(6,(ptr b29 0)),(7,(J done231)),(12,(sl z23 f24 e25)),(13,(J (deeds22.length:Int))),(14,(J t153))],updL os [],s232⟩) (fun (done231,s232,Ls233)=>(HS [] true s s232 (([⟨some b29,[(J y171.2.2.2.2.1),(J y171.2.2.2.2.2.1),(sl z183 f184 e185),h173,(J y171.2.2.2.2.2.2.2.1),(J y171.2.2.2.2.2.2.2.2.1),(sl z187 f188 e189),h176,h179,(J y27.stream.Checker.Stack),(J y27.stream.Checker.Start),(sl z48 f49 e50),(sl z52 f53 e54),(sl z56 f57 e58),(sl z60 f61 e62),(sl z64 f65 e66)],w182⟩]:List BX)++Ls233.flatten))∧(AllG [OS oE2 h173 k174 y171.2.1,OS oE2 h176 k177 y171.2.2.1,OS oE114 h179 k180 y171.2.2.2.1] Ls233)∧impl_after_K00_J2 t153 y171 done231=some ee1) ?_ ?_
  ·rintro ⟨done231,s232,Ls233⟩ tm os ⟨hH234,hG235,h⟩
   unfold impl_after_K00_J2 at h
   refine AW.inBlock ?_
   refine AW.region ?_
   refine q (J (IntKind.wrap .i64 (t153+1))) ?_
   refine q (J (IntKind.wrap .i64 (t153+1))) ?_
   refine nl ?_
   cases h
   exact AW.res [(6,(ptr b29 0)),(7,(J done231)),(12,(sl z23 f24 e25)),(13,(J (deeds22.length:Int))),(14,(J (IntKind.wrap .i64 (t153+1))))] [] ⟨rfl,rfl,rfl,rfl,rfl,trivial⟩ trivial (hL1 _ rfl (w182,z183,f184,e185,h173,k174,z187,f188,e189,h176,k177,h179,k180,s232,Ls233) _ _ ⟨h186,ho175,h190,ho178,ho181,hH234,hG235⟩)
  intro KJ236
  rcases oite h with ⟨hc237,h⟩ | ⟨hc237,h⟩
  ·refine cT hc237 ?_
   refine AW.region ?_
   refine q (J done152) ?_
   refine q (J (IntKind.wrap .i64 (done152+1))) ?_
   refine aq (J (IntKind.wrap .i64 (done152+1))) ?_
   refine nl ?_
   exact AW.res [(6,(ptr b29 0)),(7,(J (IntKind.wrap .i64 (done152+1)))),(12,(sl z23 f24 e25)),(13,(J (deeds22.length:Int))),(14,(J t153))] [] ⟨rfl,rfl,rfl,rfl,rfl,trivial⟩ trivial (KJ236 (IntKind.wrap .i64 (done152+1),s208,Ls225) _ _ ⟨hH230,hG227,h⟩)
  refine cF hc237 ?_
  refine AW.skip ?_
  exact AW.res [(6,(ptr b29 0)),(7,(J done152)),(12,(sl z23 f24 e25)),(13,(J (deeds22.length:Int))),(14,(J t153))] [] ⟨rfl,rfl,rfl,rfl,rfl,trivial⟩ trivial (KJ236 (done152,s208,Ls225) _ _ ⟨hH230,hG227,h⟩)
 refine cF hc158 ?_
 refine AW.exit rfl ?_
 obtain ⟨r238,hm,hx⟩:=omap h
 clear h
 subst hx
 have hx:=hR1 _ rfl
 rw[hx] at hm
 have h:=hm
 exact AW.res [(6,(ptr b29 0)),(7,(J done152))] [] ⟨rfl,rfl,trivial⟩ trivial (KJ124 (m126,m127,m128,m133,m137,m138,m139,m144,m148,done152,w125,z129,f130,e131,h134,k135,z140,f141,e142,h145,k146,h149,k150,s154,Ls155) _ _ ⟨h132,ho136,h143,ho147,ho151,hH156,hG157,h⟩)
theorem slices_Concat_sint64_int64_ok {slices1:List (List Int)} {z2:Nat} {f3:Bool} {e4:List AV} {s:St} (h5:LR (rL rJ 1) 1 slices1 z2 e4) {r:(List Int)} (h:slices_Concat_sint64_int64 slices1=some r) (hs:WF s):ACall Cf 107 [(sl z2 f3 e4)] s fun v _ s'=>(rL rJ 1) r v∧s'=s:=by
 refine ACall.pure rfl rfl rfl (.L fun _=>.I) ?_
 have hWF:=hs.lo'
 unfold slices_Concat_sint64_int64 at h
 refine sr ?_
 refine q (sl 0 true []) ?_
 refine ns ?_
 refine q (J 0) ?_
 refine nl ?_
 refine AW.seq ?_
 refine sr ?_
 refine q (sl z2 f3 e4) ?_
 refine AOps.p rfl (len_eq h5) ?_
 refine q (J 0) ?_
 refine nl ?_
 refine AW.meet (σ:=Int) (fun size6 tm os=>⟨updL tm [(0,(sl z2 f3 e4)),(3,(J size6))],updL os [],{ s with lo:=s.n }⟩) (fun size6=>slices_Concat_sint64_int64_J1 slices1 size6=some r) ?_ ?_
 ·rintro size6 tm os h
  unfold slices_Concat_sint64_int64_J1 at h
  refine sr ?_
  refine q (J size6) ?_
  obtain ⟨y8,h9,h⟩:=obind h
  refine AOps.callPO (g:=117) (args:=[(sl 0 true []),(J size6)]) (p:=(rL rJ 1) y8) rfl rfl rfl (ext_grow117_ok (⟨.inr ⟨rfl,rfl⟩,.nil⟩) h9 hWF) ?_
  intro _ h10
  obtain ⟨z11,f12,e13,rfl,h14⟩:=h10
  refine aq (sl z11 f12 e13) ?_
  refine nl ?_
  refine AW.seq ?_
  refine sr ?_
  refine q (sl z2 f3 e4) ?_
  refine AOps.p rfl (len_eq h5) ?_
  refine q (J 0) ?_
  refine nl ?_
  refine AW.meet (σ:=(List Int) × Nat × Bool × (List AV)) (fun (newslice16,z17,f18,e19) tm os=>⟨updL tm [(6,(sl z17 f18 e19))],updL os [(6,true)],{ s with lo:=s.n }⟩) (fun (newslice16,z17,f18,e19)=>(LR rJ 1 newslice16 z17 e19)∧slices_Concat_sint64_int64_J2 newslice16=some r) ?_ ?_
  ·rintro ⟨newslice16,z17,f18,e19⟩ tm os ⟨h20,h⟩
   unfold slices_Concat_sint64_int64_J2 at h
   refine sr ?_
   refine q (sl z17 f18 e19) ?_
   refine aq (sl z17 f18 e19) ?_
   refine nl ?_
   cases h
   exact AW.ret ⟨rfl,_,_,rfl,⟨_,_,_,rfl,h20⟩⟩
  intro KJ21
  refine AW.block ?_
  refine AW.res [(6,(sl z11 f12 e13)),(25,(sl z2 f3 e4)),(26,(J (slices1.length:Int))),(27,(J 0))] [(6,true)] ⟨rfl,rfl,rfl,rfl,trivial⟩ ⟨rfl,trivial⟩ ?_
  refine AW.loopF (σ:=(List Int) × Int) (τ:=Nat × Bool × (List AV)) (fun (newslice22,t27) (z23,f24,e25)=>(LR rJ 1 newslice22 z23 e25)) (fun (newslice22,t27) (z23,f24,e25) tm os=>⟨updL tm [(6,(sl z23 f24 e25)),(25,(sl z2 f3 e4)),(26,(J (slices1.length:Int))),(27,(J t27))],updL os [(6,true)],{ s with lo:=s.n }⟩) ?_ (x:=(y8,0)) (y:=(z11,f12,e13)) h h14
  clear h
  rintro ⟨newslice22,t27⟩ ⟨z23,f24,e25⟩ tm os h26 ee1 h hL1 hR1
  unfold slices_Concat_sint64_int64_S1 at h
  dsimp only at h
  refine sr ?_
  refine q (bool (decide ((t27:Int)<(slices1.length:Int)))) ?_
  refine nl ?_
  refine AW.seq ?_
  rcases oite h with ⟨hc28,h⟩ | ⟨hc28,h⟩
  ·refine cT hc28 ?_
   refine AW.skip ?_
   refine AW.seq ?_
   refine AW.block ?_
   refine sr ?_
   obtain ⟨x29,h30,h⟩:=obind h
   obtain ⟨v33,h31,h32⟩:=idx_sl h5 h30
   obtain ⟨z34,f35,e36,rfl,h37⟩:=h31
   refine AOps.pureR rfl rfl rfl h32 rfl (rfl:_=(eptr [(sl z34 f35 e36)] 0)) ?_
   refine lE (sl z34 f35 e36) ?_
   refine aq (sl z34 f35 e36) ?_
   refine nl ?_
   refine AW.region ?_
   refine AOps.moveR rfl rfl rfl rfl (rfl:_=(sl z23 f24 e25)) rfl ?_
   refine q (sl z34 f35 e36) ?_
   obtain ⟨l38,h39,h⟩:=obind h
   obtain ⟨h40,h41⟩:=app_LR h26 h37 h39
   refine AOps.appL (z:=z23) (f:=f24) (e:=e25) (z':=z34) (f':=f35) (e':=e36) rfl rfl rfl rfl rfl rfl rfl (appSrc_sl (LR.z h37) rfl) (LR.z h26) ⟨by decide,by decide,rfl,rfl⟩ rfl rfl h41 (Or.inr ⟨31,rfl,rfl⟩) ?_
   refine aq (sl 1 false (e25++e36)) ?_
   refine nl ?_
   refine AW.inBlock ?_
   refine AW.region ?_
   refine q (J (IntKind.wrap .i64 (t27+1))) ?_
   refine q (J (IntKind.wrap .i64 (t27+1))) ?_
   refine nl ?_
   cases h
   exact AW.res [(6,(sl 1 false (e25++e36))),(25,(sl z2 f3 e4)),(26,(J (slices1.length:Int))),(27,(J (IntKind.wrap .i64 (t27+1))))] [(6,true)] ⟨rfl,rfl,rfl,rfl,trivial⟩ ⟨rfl,trivial⟩ (hL1 _ rfl (1,false,(e25++e36)) _ _ h40)
  refine cF hc28 ?_
  refine AW.exit rfl ?_
  obtain ⟨r42,hm,hx⟩:=omap h
  clear h
  subst hx
  have hx:=hR1 _ rfl
  rw[hx] at hm
  have h:=hm
  exact AW.res [(6,(sl z23 f24 e25))] [(6,true)] ⟨rfl,trivial⟩ ⟨rfl,trivial⟩ (KJ21 (newslice22,z23,f24,e25) _ _ ⟨h26,h⟩)
 intro KJ7
 refine AW.block ?_
 refine AW.res [(0,(sl z2 f3 e4)),(3,(J 0)),(9,(sl z2 f3 e4)),(10,(J (slices1.length:Int))),(11,(J 0))] [] ⟨rfl,rfl,rfl,rfl,rfl,trivial⟩ trivial ?_
 refine AW.loopF (σ:=Int × Int) (τ:=Unit) (fun (size43,t44) _=>True) (fun (size43,t44) _ tm os=>⟨updL tm [(0,(sl z2 f3 e4)),(3,(J size43)),(9,(sl z2 f3 e4)),(10,(J (slices1.length:Int))),(11,(J t44))],updL os [],{ s with lo:=s.n }⟩) ?_ (x:=(0,0)) (y:=()) h trivial
 clear h
 rintro ⟨size43,t44⟩ _ tm os - ee1 h hL1 hR1
 unfold slices_Concat_sint64_int64_S2 at h
 dsimp only at h
 refine sr ?_
 refine q (bool (decide ((t44:Int)<(slices1.length:Int)))) ?_
 refine nl ?_
 refine AW.seq ?_
 rcases oite h with ⟨hc45,h⟩ | ⟨hc45,h⟩
 ·refine cT hc45 ?_
  refine AW.skip ?_
  refine AW.seq ?_
  refine AW.block ?_
  refine sr ?_
  obtain ⟨x46,h47,h⟩:=obind h
  obtain ⟨v50,h48,h49⟩:=idx_sl h5 h47
  obtain ⟨z51,f52,e53,rfl,h54⟩:=h48
  refine AOps.pureR rfl rfl rfl h49 rfl (rfl:_=(eptr [(sl z51 f52 e53)] 0)) ?_
  refine lE (sl z51 f52 e53) ?_
  refine aq (sl z51 f52 e53) ?_
  refine ns ?_
  refine q (J size43) ?_
  refine q (sl z51 f52 e53) ?_
  refine AOps.p rfl (len_eq h54) ?_
  refine q (J (IntKind.wrap .i64 (size43+(x46.length:Int)))) ?_
  refine aq (J (IntKind.wrap .i64 (size43+(x46.length:Int)))) ?_
  refine ns ?_
  refine q (J (IntKind.wrap .i64 (size43+(x46.length:Int)))) ?_
  refine q (bool (decide ((IntKind.wrap .i64 (size43+(x46.length:Int)):Int)<0))) ?_
  refine nl ?_
  rcases oite h with ⟨hc55,h⟩ | ⟨hc55,h⟩
  ·refine cT hc55 ?_
   refine AW.region ?_
   cases h
  refine cF hc55 ?_
  refine AW.skip ?_
  refine AW.inBlock ?_
  refine AW.region ?_
  refine q (J (IntKind.wrap .i64 (t44+1))) ?_
  refine q (J (IntKind.wrap .i64 (t44+1))) ?_
  refine nl ?_
  cases h
  exact AW.res [(0,(sl z2 f3 e4)),(3,(J (IntKind.wrap .i64 (size43+(x46.length:Int))))),(9,(sl z2 f3 e4)),(10,(J (slices1.length:Int))),(11,(J (IntKind.wrap .i64 (t44+1))))] [] ⟨rfl,rfl,rfl,rfl,rfl,trivial⟩ trivial (hL1 _ rfl () _ _ trivial)
 refine cF hc45 ?_
 refine AW.exit rfl ?_
 obtain ⟨r56,hm,hx⟩:=omap h
 clear h
 subst hx
 have hx:=hR1 _ rfl
 rw[hx] at hm
 have h:=hm
 exact AW.res [(0,(sl z2 f3 e4)),(3,(J size43))] [] ⟨rfl,rfl,trivial⟩ trivial (KJ7 (size43) _ _ h)
theorem impl_Checker_used_ok {p1:Checker} {z2 z6 z10 z14:Nat} {f3 f7 f11 f15:Bool} {e4 e8 e12 e16:List AV} {s:St} (h5:LR rB 1 p1.Accept z2 e4) (h9:LR (rL rPush 2) 1 p1.Call z6 e8) (h13:LR (rL (rL rJ 1) 1) 1 p1.Return z10 e12) (h17:LR (rL rJ 1) 1 p1.Inner z14 e16) {r:(List Int)} (h:impl_Checker_used p1=some r) (hs:WF s):ACall Cf 79 [(agg [(J p1.Stack),(J p1.Start),(sl z2 f3 e4),(sl z6 f7 e8),(sl z10 f11 e12),(sl z14 f15 e16)])] s fun v _ s'=>(rL rJ 1) r v∧s'=s:=by
 refine ACall.boxes rfl rfl rfl ?_
 have hH0:=HS.g0 (HS.init hs)
 have hG0:=AllG.nil
 have hl:LoOK [] false s:=LoOK.nil
 unfold impl_Checker_used at h
 refine sr ?_
 refine AOps.makeR rfl rfl rfl rfl rfl rfl (rfl:_=(eptr [(J p1.Stack),(J p1.Start),(sl z2 f3 e4),(sl z6 f7 e8),(sl z10 f11 e12),(sl z14 f15 e16)] 0)) ?_
 refine q (sl 0 true []) ?_
 refine ns ?_
 refine q (eptr [(J p1.Stack),(J p1.Start),(sl z2 f3 e4),(sl z6 f7 e8),(sl z10 f11 e12),(sl z14 f15 e16)] 1) ?_
 refine lE (J p1.Start) ?_
 refine AOps.litO (e:=oE2) (xs:=([p1.Start]:List Int)) (els:=[(J p1.Start)]) hH0 hG0 rfl rfl rfl rfl rfl rfl (le_b rfl) rfl ⟨rfl,rfl⟩ rfl (fun _=>AV.undef) (OL.leaf (LR.el (LR.lit (r:=rI .i64) (sz:=1) (.cons rfl .nil))) 0) rfl ?_
 intro h18 k20 Ls21 s22 ho19 hG23 hH24
 refine aq h18 ?_
 refine nl ?_
 refine AW.seq ?_
 refine sr ?_
 refine q (J 0) ?_
 refine nl ?_
 refine AW.meet (σ:=(List Int) × AV × KT × St × (List (List BX))) (fun (t25,h26,k27,s30,Ls31) tm os=>⟨updL tm [(3,h26)],updL os [],s30⟩) (fun (t25,h26,k27,s30,Ls31)=>(h26.one=true)∧(t25≠[])∧(HS [] false s s30 (([]:List BX)++Ls31.flatten))∧(AllG [OS oE2 h26 k27 t25] Ls31)∧impl_Checker_used_J1 t25=some r) ?_ ?_
 ·rintro ⟨t25,h26,k27,s30,Ls31⟩ tm os ⟨ho28,hne29,hH32,hG33,h⟩
  unfold impl_Checker_used_J1 at h
  refine sr ?_
  refine q h26 ?_
  obtain ⟨y35,h36,h⟩:=obind h
  have hP37:=HS.pop0 hH32
  have hF0:AllG ([]:List (List BX→Prop)) []:=AllG.nil
  obtain ⟨Ls39,Lf40,hG41,hF42,hP38⟩:=HS.popG hP37 hG33 hF0 (j:=0) rfl
  refine AOps.callF (al:=false) (g:=104) (args:=[h26]) rfl rfl rfl (sortK (e:=oE2) own_int rfl rfl rfl (HS.enterK hP38) hF42 (HS.enterLo hP38 hl) h36) ?_
  rintro _ _ s43 ⟨Ls44,rfl,hH45,hG46⟩
  have hJ47:=HS.joinK hP38 hH45
  obtain ⟨Ls48,Lf49,hG50,hF51,hP52⟩:=HS.putG hJ47 hG41 hG46 (j:=0) rfl
  cases hF51
  have hH53:=HS.push0 hP52
  refine ns ?_
  refine q h26 ?_
  refine aq h26 ?_
  refine nl ?_
  cases h
  obtain ⟨_,_,hr54,hf55⟩:=HS.resO hH53 hG50 (j:=0) rfl (Or.inr ⟨rfl,rfl⟩) (by decide) _
  exact AW.ret ⟨⟨_,hH53⟩,_,_,congrArg some hr54,hf55⟩
 intro KJ34
 refine AW.block ?_
 refine AW.res [(1,(eptr [(J p1.Stack),(J p1.Start),(sl z2 f3 e4),(sl z6 f7 e8),(sl z10 f11 e12),(sl z14 f15 e16)] 0)),(3,h18),(4,(J 0))] [] ⟨rfl,rfl,rfl,trivial⟩ trivial ?_
 refine AW.loopF (σ:=(List Int) × Int) (τ:=AV × KT × St × (List (List BX))) (fun (t56,t61) (h57,k58,s62,Ls63)=>(h57.one=true)∧(t56≠[])∧(HS [] false s s62 (([]:List BX)++Ls63.flatten))∧(AllG [OS oE2 h57 k58 t56] Ls63)) (fun (t56,t61) (h57,k58,s62,Ls63) tm os=>⟨updL tm [(1,(eptr [(J p1.Stack),(J p1.Start),(sl z2 f3 e4),(sl z6 f7 e8),(sl z10 f11 e12),(sl z14 f15 e16)] 0)),(3,h57),(4,(J t61))],updL os [],s62⟩) ?_ (x:=(([p1.Start]:List Int),0)) (y:=(h18,k20,s22,Ls21)) h ⟨ho19,(List.cons_ne_nil _ _),hH24,hG23⟩
 clear h
 rintro ⟨t56,t61⟩ ⟨h57,k58,s62,Ls63⟩ tm os ⟨ho59,hne60,hH64,hG65⟩ ee1 h hL1 hR1
 unfold impl_Checker_used_S1 at h
 dsimp only at h
 refine AW.seq ?_
 refine sr ?_
 refine q (J t61) ?_
 refine q h57 ?_
 refine AOps.lenO (j:=0) hG65 rfl Sub.here rfl rfl rfl rfl rfl ?_
 refine q (bool (decide ((t61:Int)<(t56.length:Int)))) ?_
 refine nl ?_
 rcases oite h with ⟨hc66,h⟩ | ⟨hc66,h⟩
 ·refine cT hc66 ?_
  refine AW.skip ?_
  refine AW.seq ?_
  refine AW.block ?_
  refine sr ?_
  refine q h57 ?_
  refine q (J t61) ?_
  obtain ⟨x69,h70,h⟩:=obind h
  refine AOps.idxO (j:=0) hG65 rfl Sub.here h70 rfl rfl rfl rfl rfl rfl rfl rfl rfl ?_
  intro b67 hb68
  refine AOps.ldO (j:=0) (q:=0) hH64 hG65 rfl Sub.here h70 hb68 rfl rfl rfl rfl rfl (lt_b rfl) (le_b rfl) rfl rfl ?_ (fun c B hc=>by obtain ⟨⟨_,hr,rfl⟩,rfl⟩:=hc; cases hr; exact ⟨_,rfl⟩)
  intro c71 B72 v73 h74 h75
  obtain ⟨⟨_,h76,rfl⟩,rfl⟩:=h74
  cases h76
  cases h75
  refine aq (J x69) ?_
  refine ns ?_
  refine q (eptr [(J p1.Stack),(J p1.Start),(sl z2 f3 e4),(sl z6 f7 e8),(sl z10 f11 e12),(sl z14 f15 e16)] 4) ?_
  refine lE (sl z10 f11 e12) ?_
  refine q (J x69) ?_
  obtain ⟨x77,h78,h⟩:=obind h
  obtain ⟨v81,h79,h80⟩:=idx_sl h13 h78
  obtain ⟨z82,f83,e84,rfl,h85⟩:=h79
  refine AOps.pureR rfl rfl rfl h80 rfl (rfl:_=(eptr [(sl z82 f83 e84)] 0)) ?_
  refine lE (sl z82 f83 e84) ?_
  obtain ⟨x86,h87,h⟩:=obind h
  obtain ⟨v90,h88,h89⟩:=idx_sl h85 h87
  obtain ⟨z91,f92,e93,rfl,h94⟩:=h88
  refine AOps.pureR rfl rfl rfl h89 rfl (rfl:_=(eptr [(sl z91 f92 e93)] 0)) ?_
  refine lE (sl z91 f92 e93) ?_
  refine q (eptr [(J p1.Stack),(J p1.Start),(sl z2 f3 e4),(sl z6 f7 e8),(sl z10 f11 e12),(sl z14 f15 e16)] 4) ?_
  refine lE (sl z10 f11 e12) ?_
  refine q (J x69) ?_
  obtain ⟨x95,h96,h⟩:=obind h
  obtain ⟨v99,h97,h98⟩:=idx_sl h13 h96
  obtain ⟨z100,f101,e102,rfl,h103⟩:=h97
  refine AOps.pureR rfl rfl rfl h98 rfl (rfl:_=(eptr [(sl z100 f101 e102)] 0)) ?_
  refine lE (sl z100 f101 e102) ?_
  obtain ⟨x104,h105,h⟩:=obind h
  obtain ⟨v108,h106,h107⟩:=idx_sl h103 h105
  obtain ⟨z109,f110,e111,rfl,h112⟩:=h106
  refine AOps.pureR rfl rfl rfl h107 rfl (rfl:_=(eptr [(sl z109 f110 e111)] 0)) ?_
  refine lE (sl z109 f110 e111) ?_
  refine q (eptr [(J p1.Stack),(J p1.Start),(sl z2 f3 e4),(sl z6 f7 e8),(sl z10 f11 e12),(sl z14 f15 e16)] 5) ?_
  refine lE (sl z14 f15 e16) ?_
  refine q (J x69) ?_
  obtain ⟨x113,h114,h⟩:=obind h
  obtain ⟨v117,h115,h116⟩:=idx_sl h17 h114
  obtain ⟨z118,f119,e120,rfl,h121⟩:=h115
  refine AOps.pureR rfl rfl rfl h116 rfl (rfl:_=(eptr [(sl z118 f119 e120)] 0)) ?_
  refine lE (sl z118 f119 e120) ?_
  refine q (eptr [(J p1.Stack),(J p1.Start),(sl z2 f3 e4),(sl z6 f7 e8),(sl z10 f11 e12),(sl z14 f15 e16)] 3) ?_
  refine lE (sl z6 f7 e8) ?_
  refine q (J x69) ?_
  obtain ⟨x122,h123,h⟩:=obind h
  obtain ⟨v126,h124,h125⟩:=idx_sl h9 h123
  obtain ⟨z127,f128,e129,rfl,h130⟩:=h124
  refine AOps.pureR rfl rfl rfl h125 rfl (rfl:_=(eptr [(sl z127 f128 e129)] 0)) ?_
  refine lE (sl z127 f128 e129) ?_
  obtain ⟨x131,h132,h⟩:=obind h
  obtain ⟨v135,h133,h134⟩:=idx_sl h130 h132
  obtain ⟨_,rfl,h136⟩:=h133
  obtain ⟨_,_,rfl,h137,h138⟩:=Cs_cons h136
  cases h137
  obtain ⟨_,_,rfl,h139,h140⟩:=Cs_cons h138
  cases h139
  cases Cs_nil h140
  refine AOps.pureR rfl rfl rfl h134 rfl (rfl:_=(eptr [(J x131.To),(J x131.Put)] 0)) ?_
  refine q (eptr [(J x131.To),(J x131.Put)] 0) ?_
  refine lE (J x131.To) ?_
  refine q (eptr [(J p1.Stack),(J p1.Start),(sl z2 f3 e4),(sl z6 f7 e8),(sl z10 f11 e12),(sl z14 f15 e16)] 3) ?_
  refine lE (sl z6 f7 e8) ?_
  refine q (J x69) ?_
  obtain ⟨x141,h142,h⟩:=obind h
  obtain ⟨v145,h143,h144⟩:=idx_sl h9 h142
  obtain ⟨z146,f147,e148,rfl,h149⟩:=h143
  refine AOps.pureR rfl rfl rfl h144 rfl (rfl:_=(eptr [(sl z146 f147 e148)] 0)) ?_
  refine lE (sl z146 f147 e148) ?_
  obtain ⟨x150,h151,h⟩:=obind h
  obtain ⟨v154,h152,h153⟩:=idx_sl h149 h151
  obtain ⟨_,rfl,h155⟩:=h152
  obtain ⟨_,_,rfl,h156,h157⟩:=Cs_cons h155
  cases h156
  obtain ⟨_,_,rfl,h158,h159⟩:=Cs_cons h157
  cases h158
  cases Cs_nil h159
  refine AOps.pureR rfl rfl rfl h153 rfl (rfl:_=(eptr [(J x150.To),(J x150.Put)] 0)) ?_
  refine q (eptr [(J x150.To),(J x150.Put)] 0) ?_
  refine lE (J x150.To) ?_
  refine AOps.makeR rfl rfl rfl rfl rfl rfl (rfl:_=(sl 1 true [(J x131.To),(J x150.To)])) ?_
  refine AOps.makeR rfl rfl rfl rfl rfl rfl (rfl:_=(sl 1 true [(sl z91 f92 e93),(sl z109 f110 e111),(sl z118 f119 e120),(sl 1 true [(J x131.To),(J x150.To)])])) ?_
  obtain ⟨y160,h161,h⟩:=obind h
  refine AOps.callDP (g:=107) (args:=[(sl 1 true [(sl z91 f92 e93),(sl z109 f110 e111),(sl z118 f119 e120),(sl 1 true [(J x131.To),(J x150.To)])])]) (p:=(rL rJ 1) y160) rfl rfl rfl (slices_Concat_sint64_int64_ok (LR.lit (r:=rL rJ 1) (sz:=1) (.cons ⟨_,_,_,rfl,h94⟩ (.cons ⟨_,_,_,rfl,h112⟩ (.cons ⟨_,_,_,rfl,h121⟩ (.cons ⟨_,_,_,rfl,LR.lit (r:=rI .i64) (sz:=1) (.cons rfl (.cons rfl .nil))⟩ .nil))))) h161 ((HS.wf' hH64).still)) (fun v hv=>Nice.pure (k:=FINK) (p:=(rL rJ 1) y160) (.L fun _=>.I) _ v hv) ?_
  intro _ o167 h162
  obtain ⟨z163,f164,e165,rfl,h166⟩:=h162
  refine aq (sl z163 f164 e165) ?_
  refine ns ?_
  refine q (sl z163 f164 e165) ?_
  refine AOps.p rfl (len_eq h166) ?_
  refine q (J 0) ?_
  refine nl ?_
  refine AW.meet (σ:=(List Int) × AV × KT × St × (List (List BX))) (fun (t168,h169,k170,s173,Ls174) tm os=>⟨updL tm [(1,(eptr [(J p1.Stack),(J p1.Start),(sl z2 f3 e4),(sl z6 f7 e8),(sl z10 f11 e12),(sl z14 f15 e16)] 0)),(3,h169),(4,(J t61))],updL os [],s173⟩) (fun (t168,h169,k170,s173,Ls174)=>(h169.one=true)∧(t168≠[])∧(HS [] false s s173 (([]:List BX)++Ls174.flatten))∧(AllG [OS oE2 h169 k170 t168] Ls174)∧impl_Checker_used_J2 t61 t168=some ee1) ?_ ?_
  ·rintro ⟨t168,h169,k170,s173,Ls174⟩ tm os ⟨ho171,hne172,hH175,hG176,h⟩
   unfold impl_Checker_used_J2 at h
   refine AW.inBlock ?_
   refine AW.region ?_
   refine q (J t61) ?_
   refine q (J (IntKind.wrap .i64 (t61+1))) ?_
   refine aq (J (IntKind.wrap .i64 (t61+1))) ?_
   refine nl ?_
   cases h
   exact AW.res [(1,(eptr [(J p1.Stack),(J p1.Start),(sl z2 f3 e4),(sl z6 f7 e8),(sl z10 f11 e12),(sl z14 f15 e16)] 0)),(3,h169),(4,(J (IntKind.wrap .i64 (t61+1))))] [] ⟨rfl,rfl,rfl,trivial⟩ trivial (hL1 _ rfl (h169,k170,s173,Ls174) _ _ ⟨ho171,hne172,hH175,hG176⟩)
  intro KJ177
  refine AW.block ?_
  refine AW.res [(1,(eptr [(J p1.Stack),(J p1.Start),(sl z2 f3 e4),(sl z6 f7 e8),(sl z10 f11 e12),(sl z14 f15 e16)] 0)),(3,h57),(4,(J t61)),(60,(sl z163 f164 e165)),(61,(J (y160.length:Int))),(62,(J 0))] [] ⟨rfl,rfl,rfl,rfl,rfl,rfl,trivial⟩ trivial ?_
  refine AW.loopF (σ:=(List Int) × Int) (τ:=AV × KT × St × (List (List BX))) (fun (t178,t183) (h179,k180,s184,Ls185)=>(h179.one=true)∧(t178≠[])∧(HS [] false s s184 (([]:List BX)++Ls185.flatten))∧(AllG [OS oE2 h179 k180 t178] Ls185)) (fun (t178,t183) (h179,k180,s184,Ls185) tm os=>⟨updL tm [(1,(eptr [(J p1.Stack),(J p1.Start),(sl z2 f3 e4),(sl z6 f7 e8),(sl z10 f11 e12),(sl z14 f15 e16)] 0)),(3,h179),(4,(J t61)),(60,(sl z163 f164 e165)),(61,(J (y160.length:Int))),(62,(J t183))],updL os [],s184⟩) ?_ (x:=(t56,0)) (y:=(h57,k58,s62,Ls63)) h ⟨ho59,hne60,hH64,hG65⟩
  clear h
  rintro ⟨t178,t183⟩ ⟨h179,k180,s184,Ls185⟩ tm os ⟨ho181,hne182,hH186,hG187⟩ ee2 h hL2 hR2
  unfold impl_Checker_used_S2 at h
  dsimp only at h
  refine sr ?_
  refine q (bool (decide ((t183:Int)<(y160.length:Int)))) ?_
  refine nl ?_
  refine AW.seq ?_
  rcases oite h with ⟨hc188,h⟩ | ⟨hc188,h⟩
  ·refine cT hc188 ?_
   refine AW.skip ?_
   refine AW.seq ?_
   refine AW.block ?_
   refine sr ?_
   obtain ⟨x189,h190,h⟩:=obind h
   obtain ⟨v193,h191,h192⟩:=idx_sl h166 h190
   cases h191
   refine AOps.pureR rfl rfl rfl h192 rfl (rfl:_=(eptr [(J x189)] 0)) ?_
   refine lE (J x189) ?_
   refine aq (J x189) ?_
   refine ns ?_
   refine q h179 ?_
   refine q (J x189) ?_
   obtain ⟨y194,h195,h⟩:=obind h
   refine AOps.lendP (g:=47) (args:=[h179,(J x189)]) (ps:=[(rL rJ 1) t178,rJ x189]) (p:=(rB) y194) rfl rfl rfl rfl rfl rfl rfl (.cons (Fin.up (by decide) (HS.finS hH186 hG187 (j:=0) rfl Sub.here (Or.inl rfl))) (.cons (Fin.of (p:=rJ x189) .I rfl) .nil)) (fun args' hc=>by obtain ⟨_,_,rfl,hv0,hd0⟩:=Cs_cons hc; obtain ⟨z196,f197,e198,rfl,h199⟩:=hv0; obtain ⟨_,_,rfl,hv1,hd1⟩:=Cs_cons hd0; cases hv1; cases Cs_nil hd1; exact slices_Contains_sint64_int64_okN h199 h195 WF.blind) (fun v n hv=>by cases hv; rfl) ?_
   intro _ h200
   cases h200
   refine q (bool (!y194)) ?_
   refine nl ?_
   refine AW.meet (σ:=(List Int) × AV × KT × St × (List (List BX))) (fun (t201,h202,k203,s206,Ls207) tm os=>⟨updL tm [(1,(eptr [(J p1.Stack),(J p1.Start),(sl z2 f3 e4),(sl z6 f7 e8),(sl z10 f11 e12),(sl z14 f15 e16)] 0)),(3,h202),(4,(J t61)),(60,(sl z163 f164 e165)),(61,(J (y160.length:Int))),(62,(J t183))],updL os [],s206⟩) (fun (t201,h202,k203,s206,Ls207)=>(h202.one=true)∧(t201≠[])∧(HS [] false s s206 (([]:List BX)++Ls207.flatten))∧(AllG [OS oE2 h202 k203 t201] Ls207)∧impl_Checker_used_J3 t183 t201=some ee2) ?_ ?_
   ·rintro ⟨t201,h202,k203,s206,Ls207⟩ tm os ⟨ho204,hne205,hH208,hG209,h⟩
    unfold impl_Checker_used_J3 at h
    refine AW.inBlock ?_
    refine AW.region ?_
    refine q (J (IntKind.wrap .i64 (t183+1))) ?_
    refine q (J (IntKind.wrap .i64 (t183+1))) ?_
    refine nl ?_
    cases h
    exact AW.res [(1,(eptr [(J p1.Stack),(J p1.Start),(sl z2 f3 e4),(sl z6 f7 e8),(sl z10 f11 e12),(sl z14 f15 e16)] 0)),(3,h202),(4,(J t61)),(60,(sl z163 f164 e165)),(61,(J (y160.length:Int))),(62,(J (IntKind.wrap .i64 (t183+1))))] [] ⟨rfl,rfl,rfl,rfl,rfl,rfl,trivial⟩ trivial (hL2 _ rfl (h202,k203,s206,Ls207) _ _ ⟨ho204,hne205,hH208,hG209⟩)
   intro KJ210
   rcases oite h with ⟨hc211,h⟩ | ⟨hc211,h⟩
   ·refine cT hc211 ?_
    refine AW.region ?_
    refine q h179 ?_
    refine q (J x189) ?_
    refine AOps.makeR rfl rfl rfl rfl rfl rfl (rfl:_=(sl 1 true [(J x189)])) ?_
    obtain ⟨l212,h213,h⟩:=obind h
    refine AOps.appLf (j:=0) (z':=1) (f':=true) (e':=[(J x189)]) hH186 hG187 rfl rfl rfl rfl rfl rfl rfl rfl (appSrc_sl (LR.z (LR.lit (r:=rI .i64) (sz:=1) (.cons rfl .nil))) rfl) ⟨by decide,by decide,rfl,rfl⟩ ⟨rfl,rfl⟩ rfl rfl h213 (LR.el (LR.lit (r:=rI .i64) (sz:=1) (.cons rfl .nil))).len (fun i=>OL.leaf (LR.el (LR.lit (r:=rI .i64) (sz:=1) (.cons rfl .nil))) i) ?_
    intro h214 k216 Ls217 s218 ho215 hG219 hH220
    refine aq h214 ?_
    refine nl ?_
    exact AW.res [(1,(eptr [(J p1.Stack),(J p1.Start),(sl z2 f3 e4),(sl z6 f7 e8),(sl z10 f11 e12),(sl z14 f15 e16)] 0)),(3,h214),(4,(J t61)),(60,(sl z163 f164 e165)),(61,(J (y160.length:Int))),(62,(J t183))] [] ⟨rfl,rfl,rfl,rfl,rfl,rfl,trivial⟩ trivial (KJ210 (l212,h214,k216,s218,Ls217) _ _ ⟨ho215,(app_ne h213 hne182),hH220,hG219,h⟩)
   refine cF hc211 ?_
   refine AW.skip ?_
   exact AW.res [(1,(eptr [(J p1.Stack),(J p1.Start),(sl z2 f3 e4),(sl z6 f7 e8),(sl z10 f11 e12),(sl z14 f15 e16)] 0)),(3,h179),(4,(J t61)),(60,(sl z163 f164 e165)),(61,(J (y160.length:Int))),(62,(J t183))] [] ⟨rfl,rfl,rfl,rfl,rfl,rfl,trivial⟩ trivial (KJ210 (t178,h179,k180,s184,Ls185) _ _ ⟨ho181,hne182,hH186,hG187,h⟩)
  refine cF hc188 ?_
  refine AW.exit rfl ?_
  obtain ⟨r221,hm,hx⟩:=omap h
  clear h
  subst hx
  have hx:=hR2 _ rfl
  rw[hx] at hm
  have h:=hm
  exact AW.res [(1,(eptr [(J p1.Stack),(J p1.Start),(sl z2 f3 e4),(sl z6 f7 e8),(sl z10 f11 e12),(sl z14 f15 e16)] 0)),(3,h179),(4,(J t61))] [] ⟨rfl,rfl,rfl,trivial⟩ trivial (KJ177 (t178,h179,k180,s184,Ls185) _ _ ⟨ho181,hne182,hH186,hG187,h⟩)
 refine cF hc66 ?_
 refine AW.exit rfl ?_
 obtain ⟨r222,hm,hx⟩:=omap h
 clear h
 subst hx
 have hx:=hR1 _ rfl
 rw[hx] at hm
 have h:=hm
 exact AW.res [(3,h57)] [] ⟨rfl,trivial⟩ trivial (KJ34 (t56,h57,k58,s62,Ls63) _ _ ⟨ho59,hne60,hH64,hG65,h⟩)
theorem impl_Checker_lost_1_ok {p0_1:Int} {c2:Checker} {z3 z7 z11 z15:Nat} {f4 f8 f12 f16:Bool} {e5 e9 e13 e17:List AV} {s:St} (h6:LR rB 1 c2.Accept z3 e5) (h10:LR (rL rPush 2) 1 c2.Call z7 e9) (h14:LR (rL (rL rJ 1) 1) 1 c2.Return z11 e13) (h18:LR (rL rJ 1) 1 c2.Inner z15 e17) {r:Bool} (h:impl_Checker_lost_1 p0_1 c2=some r) (hs:WF s):ACall Cf 80 [(J p0_1),(eptr [(J c2.Stack),(J c2.Start),(sl z3 f4 e5),(sl z7 f8 e9),(sl z11 f12 e13),(sl z15 f16 e17)] 0)] s fun v _ s'=>(rB) r v∧s'=s:=by
 refine ACall.pure rfl rfl rfl .B ?_
 have hWF:=hs.lo'
 unfold impl_Checker_lost_1 at h
 refine sr ?_
 refine q (bool false) ?_
 refine ns ?_
 refine q (eptr [(J c2.Stack),(J c2.Start),(sl z3 f4 e5),(sl z7 f8 e9),(sl z11 f12 e13),(sl z15 f16 e17)] 2) ?_
 refine lE (sl z3 f4 e5) ?_
 refine q (J p0_1) ?_
 obtain ⟨x19,h20,h⟩:=obind h
 obtain ⟨v23,h21,h22⟩:=idx_sl h6 h20
 cases h21
 refine AOps.pureR rfl rfl rfl h22 rfl (rfl:_=(eptr [(bool x19)] 0)) ?_
 refine lE (bool x19) ?_
 refine aq (bool x19) ?_
 refine nl ?_
 cases h
 exact AW.ret ⟨rfl,_,_,rfl,rfl⟩
theorem impl_Checker_lost_ok {c1:Checker} {z2 z6 z10 z14:Nat} {f3 f7 f11 f15:Bool} {e4 e8 e12 e16:List AV} {s:St} (h5:LR rB 1 c1.Accept z2 e4) (h9:LR (rL rPush 2) 1 c1.Call z6 e8) (h13:LR (rL (rL rJ 1) 1) 1 c1.Return z10 e12) (h17:LR (rL rJ 1) 1 c1.Inner z14 e16) {r:(List Int)} (h:impl_Checker_lost c1=some r) (hs:WF s):ACall Cf 48 [(agg [(J c1.Stack),(J c1.Start),(sl z2 f3 e4),(sl z6 f7 e8),(sl z10 f11 e12),(sl z14 f15 e16)])] s fun v _ s'=>(rL rJ 1) r v∧s'=s:=by
 refine ACall.boxes rfl rfl rfl ?_
 have hH0:=HS.init hs
 unfold impl_Checker_lost at h
 refine sr ?_
 refine AOps.makeR rfl rfl rfl rfl rfl rfl (rfl:_=(eptr [(J c1.Stack),(J c1.Start),(sl z2 f3 e4),(sl z6 f7 e8),(sl z10 f11 e12),(sl z14 f15 e16)] 0)) ?_
 refine q (sl 0 true []) ?_
 refine ns ?_
 refine AOps.makeR rfl rfl rfl rfl rfl rfl (rfl:_=(sl 1 true [])) ?_
 refine aq (sl 1 true []) ?_
 refine nl ?_
 refine AW.seq ?_
 refine sr ?_
 refine q (eptr [(J c1.Stack),(J c1.Start),(sl z2 f3 e4),(sl z6 f7 e8),(sl z10 f11 e12),(sl z14 f15 e16)] 2) ?_
 refine lE (sl z2 f3 e4) ?_
 refine AOps.p rfl (len_eq h5) ?_
 refine q (J 0) ?_
 refine nl ?_
 refine AW.meet (σ:=(List Int) × Nat × Bool × (List AV) × Bool × St) (fun (out18,z19,f20,e21,o23,s25) tm os=>⟨updL tm [(3,(sl z19 f20 e21))],updL os [(3,o23)],s25⟩) (fun (out18,z19,f20,e21,o23,s25)=>(LR rJ 1 out18 z19 e21)∧(f20=true∨o23=true)∧(HS [] false s s25 [])∧impl_Checker_lost_J1 out18=some r) ?_ ?_
 ·rintro ⟨out18,z19,f20,e21,o23,s25⟩ tm os ⟨h22,h24,hH26,h⟩
  unfold impl_Checker_lost_J1 at h
  refine sr ?_
  refine q (sl z19 f20 e21) ?_
  refine aq (sl z19 f20 e21) ?_
  refine nl ?_
  cases h
  exact AW.ret ⟨⟨_,hH26⟩,_,_,rfl,(Fin.of (p:=(rL rJ 1) _) (.L fun _=>.I) (⟨_,_,_,rfl,h22⟩)).2⟩
 intro KJ27
 refine AW.block ?_
 refine AW.res [(1,(eptr [(J c1.Stack),(J c1.Start),(sl z2 f3 e4),(sl z6 f7 e8),(sl z10 f11 e12),(sl z14 f15 e16)] 0)),(3,(sl 1 true [])),(9,(J (c1.Accept.length:Int))),(10,(J 0))] [(3,false)] ⟨rfl,rfl,rfl,rfl,trivial⟩ ⟨rfl,trivial⟩ ?_
 refine AW.loopF (σ:=(List Int) × Int) (τ:=Nat × Bool × (List AV) × Bool × St) (fun (out28,t35) (z29,f30,e31,o33,s36)=>(LR rJ 1 out28 z29 e31)∧(f30=true∨o33=true)∧(HS [] false s s36 [])) (fun (out28,t35) (z29,f30,e31,o33,s36) tm os=>⟨updL tm [(1,(eptr [(J c1.Stack),(J c1.Start),(sl z2 f3 e4),(sl z6 f7 e8),(sl z10 f11 e12),(sl z14 f15 e16)] 0)),(3,(sl z29 f30 e31)),(9,(J (c1.Accept.length:Int))),(10,(J t35))],updL os [(3,o33)],s36⟩) ?_ (x:=(([]:List Int),0)) (y:=(1,true,[],false,{ s with lo:=s.n })) h ⟨⟨.inl rfl,.nil⟩,(Or.inl rfl),(HS.sel hH0 [] (by decide))⟩
 clear h
 rintro ⟨out28,t35⟩ ⟨z29,f30,e31,o33,s36⟩ tm os ⟨h32,h34,hH37⟩ ee1 h hL1 hR1
 unfold impl_Checker_lost_S1 at h
 dsimp only at h
 refine sr ?_
 refine q (bool (decide ((t35:Int)<(c1.Accept.length:Int)))) ?_
 refine nl ?_
 refine AW.seq ?_
 rcases oite h with ⟨hc38,h⟩ | ⟨hc38,h⟩
 ·refine AW.condT (congrArg bool hc38) ?_
  refine AW.skip ?_
  refine AW.seq ?_
  refine AW.block ?_
  refine sr ?_
  refine q (J t35) ?_
  refine aq (J t35) ?_
  refine ns ?_
  refine lE (agg [(J c1.Stack),(J c1.Start),(sl z2 f3 e4),(sl z6 f7 e8),(sl z10 f11 e12),(sl z14 f15 e16)]) ?_
  refine AOps.alloc1 hH37 rfl rfl rfl rfl rfl rfl ?_
  intro b39 s40 hH41
  change HS [] false s s40 [⟨some b39,[(J 0),(J 0),(sl 0 true []),(sl 0 true []),(sl 0 true []),(sl 0 true [])],(fun _=>false)⟩] at hH41
  refine AOps.stB (i:=0) (v:=(agg [(J c1.Stack),(J c1.Start),(sl z2 f3 e4),(sl z6 f7 e8),(sl z10 f11 e12),(sl z14 f15 e16)])) hH41 rfl rfl rfl rfl rfl rfl rfl rfl rfl (lt_b rfl) (le_b rfl) rfl ?_
  intro w42 s43 h44 h45 hH46
  change HS [] false s s43 [⟨some b39,[(J c1.Stack),(J c1.Start),(sl z2 f3 e4),(sl z6 f7 e8),(sl z10 f11 e12),(sl z14 f15 e16)],w42⟩] at hH46
  refine ns ?_
  refine q (J t35) ?_
  refine q (ptr b39 1) ?_
  refine AOps.stB (i:=0) (v:=(J t35)) hH46 rfl rfl rfl rfl rfl rfl rfl rfl rfl (lt_b rfl) (le_b rfl) rfl ?_
  intro w47 s48 h49 h50 hH51
  change HS [] false s s48 [⟨some b39,[(J c1.Stack),(J t35),(sl z2 f3 e4),(sl z6 f7 e8),(sl z10 f11 e12),(sl z14 f15 e16)],w47⟩] at hH51
  refine ns ?_
  refine AOps.ldB (i:=0) (v:=(agg [(J c1.Stack),(J t35),(sl z2 f3 e4),(sl z6 f7 e8),(sl z10 f11 e12),(sl z14 f15 e16)])) hH51 rfl rfl rfl rfl rfl rfl rfl rfl rfl ?_
  obtain ⟨y52,h53,h⟩:=obind h
  refine AOps.callP (g:=79) (args:=[(agg [(J c1.Stack),(J t35),(sl z2 f3 e4),(sl z6 f7 e8),(sl z10 f11 e12),(sl z14 f15 e16)])]) (p:=(rL rJ 1) y52) rfl rfl rfl (impl_Checker_used_ok (p1:=⟨c1.Stack,t35,c1.Accept,c1.Call,c1.Return,c1.Inner⟩) h5 h9 h13 h17 h53 (HS.wf' hH51)) ?_
  intro _ o59 h54
  obtain ⟨z55,f56,e57,rfl,h58⟩:=h54
  refine q (AV.fn 80 [(eptr [(J c1.Stack),(J c1.Start),(sl z2 f3 e4),(sl z6 f7 e8),(sl z10 f11 e12),(sl z14 f15 e16)] 0)]) ?_
  obtain ⟨y60,h61,h⟩:=obind h
  refine AOps.callP (g:=78) (args:=[(sl z55 f56 e57),(AV.fn 80 [(eptr [(J c1.Stack),(J c1.Start),(sl z2 f3 e4),(sl z6 f7 e8),(sl z10 f11 e12),(sl z14 f15 e16)] 0)])]) (p:=(rB) y60) rfl rfl rfl (slices_ContainsFunc_sint64_int64_ok h58 (by intro x vs y hc hx s hs; obtain ⟨_,_,rfl,hv0,hd0⟩:=Cs_cons hc; cases hv0; cases Cs_nil hd0; exact impl_Checker_lost_1_ok h5 h9 h13 h17 hx hs) h61 (HS.wf' hH51)) ?_
  intro _ o63 h62
  cases h62
  refine q (bool (!y60)) ?_
  refine nl ?_
  refine AW.meet (σ:=(List Int) × Nat × Bool × (List AV) × Bool × St) (fun (out64,z65,f66,e67,o69,s71) tm os=>⟨updL tm [(1,(eptr [(J c1.Stack),(J c1.Start),(sl z2 f3 e4),(sl z6 f7 e8),(sl z10 f11 e12),(sl z14 f15 e16)] 0)),(3,(sl z65 f66 e67)),(9,(J (c1.Accept.length:Int))),(10,(J t35))],updL os [(3,o69)],s71⟩) (fun (out64,z65,f66,e67,o69,s71)=>(LR rJ 1 out64 z65 e67)∧(f66=true∨o69=true)∧(HS [] false s s71 [])∧impl_Checker_lost_J2 t35 out64=some ee1) ?_ ?_
  ·rintro ⟨out64,z65,f66,e67,o69,s71⟩ tm os ⟨h68,h70,hH72,h⟩
   unfold impl_Checker_lost_J2 at h
   refine AW.inBlock ?_
   refine AW.region ?_
   refine q (J (IntKind.wrap .i64 (t35+1))) ?_
   refine q (J (IntKind.wrap .i64 (t35+1))) ?_
   refine nl ?_
   cases h
   exact AW.res [(1,(eptr [(J c1.Stack),(J c1.Start),(sl z2 f3 e4),(sl z6 f7 e8),(sl z10 f11 e12),(sl z14 f15 e16)] 0)),(3,(sl z65 f66 e67)),(9,(J (c1.Accept.length:Int))),(10,(J (IntKind.wrap .i64 (t35+1))))] [(3,o69)] ⟨rfl,rfl,rfl,rfl,trivial⟩ ⟨rfl,trivial⟩ (hL1 _ rfl (z65,f66,e67,o69,s71) _ _ ⟨h68,h70,(HS.sel hH72 [] (by decide))⟩)
  intro KJ73
  rcases oite h with ⟨hc74,h⟩ | ⟨hc74,h⟩
  ·refine AW.condT (congrArg bool hc74) ?_
   refine AW.region ?_
   refine AOps.moveR rfl rfl rfl rfl (rfl:_=(sl z29 f30 e31)) rfl ?_
   refine q (J t35) ?_
   refine AOps.makeR rfl rfl rfl rfl rfl rfl (rfl:_=(sl 1 true [(J t35)])) ?_
   obtain ⟨l75,h76,h⟩:=obind h
   obtain ⟨h77,h78⟩:=app_LR h32 (LR.lit (r:=rI .i64) (sz:=1) (.cons rfl .nil)) h76
   refine AOps.appL (z:=z29) (f:=f30) (e:=e31) (z':=1) (f':=true) (e':=[(J t35)]) rfl rfl rfl rfl rfl rfl rfl (appSrc_sl (LR.z (LR.lit (r:=rI .i64) (sz:=1) (.cons rfl .nil))) rfl) (LR.z h32) ⟨by decide,by decide,rfl,rfl⟩ rfl rfl h78 (own_tmp h34 rfl rfl) ?_
   refine aq (sl 1 false (e31++[(J t35)])) ?_
   refine nl ?_
   exact AW.res [(1,(eptr [(J c1.Stack),(J c1.Start),(sl z2 f3 e4),(sl z6 f7 e8),(sl z10 f11 e12),(sl z14 f15 e16)] 0)),(3,(sl 1 false (e31++[(J t35)]))),(9,(J (c1.Accept.length:Int))),(10,(J t35))] [(3,true)] ⟨rfl,rfl,rfl,rfl,trivial⟩ ⟨rfl,trivial⟩ (KJ73 (l75,1,false,(e31++[(J t35)]),true,s48) _ _ ⟨h77,(Or.inr rfl),(HS.sel hH51 [] (by decide)),h⟩)
  refine AW.condF (congrArg bool hc74) ?_
  refine AW.skip ?_
  exact AW.res [(1,(eptr [(J c1.Stack),(J c1.Start),(sl z2 f3 e4),(sl z6 f7 e8),(sl z10 f11 e12),(sl z14 f15 e16)] 0)),(3,(sl z29 f30 e31)),(9,(J (c1.Accept.length:Int))),(10,(J t35))] [(3,o33)] ⟨rfl,rfl,rfl,rfl,trivial⟩ ⟨rfl,trivial⟩ (KJ73 (out28,z29,f30,e31,o33,s48) _ _ ⟨h32,h34,(HS.sel hH51 [] (by decide)),h⟩)
 refine AW.condF (congrArg bool hc38) ?_
 refine AW.exit rfl ?_
 obtain ⟨r79,hm,hx⟩:=omap h
 clear h
 subst hx
 have hx:=hR1 _ rfl
 rw[hx] at hm
 have h:=hm
 exact AW.res [(3,(sl z29 f30 e31))] [(3,o33)] ⟨rfl,trivial⟩ ⟨rfl,trivial⟩ (KJ27 (out28,z29,f30,e31,o33,s36) _ _ ⟨h32,h34,(HS.sel hH37 [] (by decide)),h⟩)
theorem impl_works_verdict_K1_ok {w3 w4 w14 w15 w29 w30:Int} {w5 w13 w16 w24:List Int} {w28:List Parcel} {w31:List Bool} {w36:List (List Push)} {w41:List (List (List Int))} {w46:List (List Int)} {w51:List (List UInt8)} {b1 z6 z17 z32 z37 z42 z47 z52:Nat} {w2:Nat→Bool} {f7 f18 f33 f38 f43 f48 f53:Bool} {e8 e19 e34 e39 e44 e49 e54:List AV} {h10 h21 h25:AV} {k11 k22 k26:KT} {s:St} (h9:LR rJ 1 w5 z6 e8) (ho12:h10.one=true) (h20:LR rJ 1 w16 z17 e19) (ho23:h21.one=true) (ho27:h25.one=true) (h35:LR rB 1 w31 z32 e34) (h40:LR (rL rPush 2) 1 w36 z37 e39) (h45:LR (rL (rL rJ 1) 1) 1 w41 z42 e44) (h50:LR (rL rJ 1) 1 w46 z47 e49) (h55:LR rS 1 w51 z52 e54) {ex:List Nat} {Ls0:List (List BX)} (hH0:HS ex true s s (([⟨some b1,[(J w3),(J w4),(sl z6 f7 e8),h10,(J w14),(J w15),(sl z17 f18 e19),h21,h25,(J w29),(J w30),(sl z32 f33 e34),(sl z37 f38 e39),(sl z42 f43 e44),(sl z47 f48 e49),(sl z52 f53 e54)],w2⟩]:List BX)++Ls0.flatten)) (hG0:AllG [OS oE2 h10 k11 w13,OS oE2 h21 k22 w24,OS oE114 h25 k26 w28] Ls0) (hl:LoOK ex true s) {r:Int} (h:impl_works_verdict_K1 w3 w4 w5 w13 w14 w15 w16 w24 w28 w29 w30 w31 w36 w41 w46 w51=some r) (hs:WF s):ACall Cf 22 [(ptr b1 0)] s (fun v _ s'=>∃ (w1':Nat→Bool) (Ls':List (List BX)),v=(J r)∧HS ex true s s' (([⟨some b1,[(J w3),(J w4),(sl z6 f7 e8),h10,(J w14),(J w15),(sl z17 f18 e19),h21,h25,(J w29),(J w30),(sl z32 f33 e34),(sl z37 f38 e39),(sl z42 f43 e44),(sl z47 f48 e49),(sl z52 f53 e54)],w1'⟩]:List BX)++Ls'.flatten)∧AllG [OS oE2 h10 k11 w13,OS oE2 h21 k22 w24,OS oE114 h25 k26 w28] Ls') true:=by
 refine ACall.keepR rfl rfl rfl ?_
 unfold impl_works_verdict_K1 at h
 refine sr ?_
 refine q (J 0) ?_
 refine ns ?_
 refine q (ptr b1 0) ?_
 refine q (ptr b1 0) ?_
 refine q (ptr b1 9) ?_
 refine q (ptr b1 9) ?_
 refine AOps.ldB (i:=0) (v:=(agg [(J w29),(J w30),(sl z32 f33 e34),(sl z37 f38 e39),(sl z42 f43 e44),(sl z47 f48 e49)])) hH0 rfl rfl rfl rfl rfl rfl rfl rfl rfl ?_
 refine q (ptr b1 0) ?_
 refine q (ptr b1 0) ?_
 refine q (ptr b1 0) ?_
 refine q (ptr b1 0) ?_
 refine q (ptr b1 0) ?_
 refine AOps.ldB (i:=0) (v:=(J w3)) hH0 rfl rfl rfl rfl rfl rfl rfl rfl rfl ?_
 refine q (ptr b1 0) ?_
 refine q (ptr b1 0) ?_
 refine q (ptr b1 9) ?_
 refine q (ptr b1 15) ?_
 refine AOps.ldB (i:=0) (v:=(sl z52 f53 e54)) hH0 rfl rfl rfl rfl rfl rfl rfl rfl rfl ?_
 obtain ⟨y56,h57,h⟩:=obind h
 refine AOps.callDP (g:=46) (args:=[(sl z52 f53 e54)]) (p:=rJ y56) rfl rfl rfl (impl_size_string_ok h55 h57 ((HS.wf' hH0).still)) (fun v hv=>Nice.pure (k:=FINK) (p:=rJ y56) .I _ v hv) ?_
 intro _ o59 h58
 cases h58
 refine q (bool (w3 == y56)) ?_
 refine AOps.allocP rfl rfl rfl rfl ⟨rfl,rfl⟩ rfl ?_
 refine AOps.stP (v:=(agg [(J w29),(J w30),(sl z32 f33 e34),(sl z37 f38 e39),(sl z42 f43 e44),(sl z47 f48 e49)])) rfl rfl rfl rfl rfl rfl rfl rfl rfl (lt_b rfl) rfl ?_
 refine aq (bool (w3 == y56)) ?_
 refine nl ?_
 refine AW.seq ?_
 refine AW.block ?_
 refine sr ?_
 refine q (bool (w3 == y56)) ?_
 refine q (bool (w3 == y56)) ?_
 obtain ⟨b61,hb,h⟩:=obind h
 refine AOps.split 11 (fun f'=>∃ tm' os',f'=⟨updL tm' [(0,(ptr b1 0)),(3,(eptr [(J w29),(J w30),(sl z32 f33 e34),(sl z37 f38 e39),(sl z42 f43 e44),(sl z47 f48 e49)] 0)),(4,(bool (w3 == y56))),(36,(bool b61))],updL os' [],s⟩) ?_ ?_
 ·rcases oite hb with ⟨hc60,hb⟩ | ⟨hc60,hb⟩
  ·have h:=hb
   refine kn 25 hc60 ?_
   refine q (eptr [(J w29),(J w30),(sl z32 f33 e34),(sl z37 f38 e39),(sl z42 f43 e44),(sl z47 f48 e49)] 2) ?_
   refine lE (sl z32 f33 e34) ?_
   refine q (ptr b1 0) ?_
   refine q (ptr b1 0) ?_
   refine q (ptr b1 0) ?_
   refine q (ptr b1 0) ?_
   refine q (ptr b1 1) ?_
   refine AOps.ldB (i:=0) (v:=(J w4)) hH0 rfl rfl rfl rfl rfl rfl rfl rfl rfl ?_
   obtain ⟨x62,h63,h⟩:=obind h
   obtain ⟨v66,h64,h65⟩:=idx_sl h35 h63
   cases h64
   refine AOps.pureR rfl rfl rfl h65 rfl (rfl:_=(eptr [(bool x62)] 0)) ?_
   refine lE (bool x62) ?_
   refine q (bool x62) ?_
   exact rR ⟨rfl,rfl,rfl,congrArg bool (Option.some.inj h),trivial⟩
  ·refine kn 25 hc60 ?_
   refine sk ?_
   refine sk ?_
   refine sk ?_
   refine sk ?_
   refine sk ?_
   refine sk ?_
   refine sk ?_
   refine sk ?_
   refine sk ?_
   refine sk ?_
   refine q (bool false) ?_
   exact rR ⟨rfl,rfl,rfl,congrArg bool (Option.some.inj hb),trivial⟩
 rintro _ ⟨tm,os,rfl⟩
 refine aq (bool b61) ?_
 refine nl ?_
 rcases oite h with ⟨hc67,h⟩ | ⟨hc67,h⟩
 ·refine cT hc67 ?_
  refine sr ?_
  refine q (J 1) ?_
  refine nl ?_
  cases h
  exact AW.ret ⟨_,_,rfl,⟨w2,Ls0,rfl,hH0,hG0⟩⟩
 refine cF hc67 ?_
 refine sr ?_
 refine q (bool (w3 == y56)) ?_
 refine q (bool (w3 == y56)) ?_
 obtain ⟨b69,hb,h⟩:=obind h
 refine AOps.split 10 (fun f'=>∃ tm' os',f'=⟨updL tm' [(49,(bool b69))],updL os' [],s⟩) ?_ ?_
 ·rcases oite hb with ⟨hc68,hb⟩ | ⟨hc68,hb⟩
  ·refine kn 39 hc68 ?_
   refine sk ?_
   refine sk ?_
   refine sk ?_
   refine sk ?_
   refine sk ?_
   refine sk ?_
   refine sk ?_
   refine sk ?_
   refine sk ?_
   refine q (bool true) ?_
   exact rR ⟨congrArg bool (Option.some.inj hb),trivial⟩
  ·have h:=hb
   refine kn 39 hc68 ?_
   refine lE (agg [(J w29),(J w30),(sl z32 f33 e34),(sl z37 f38 e39),(sl z42 f43 e44),(sl z47 f48 e49)]) ?_
   obtain ⟨y70,h71,h⟩:=obind h
   refine AOps.callDP (g:=48) (args:=[(agg [(J w29),(J w30),(sl z32 f33 e34),(sl z37 f38 e39),(sl z42 f43 e44),(sl z47 f48 e49)])]) (p:=(rL rJ 1) y70) rfl rfl rfl (impl_Checker_lost_ok h35 h40 h45 h50 h71 ((HS.wf' hH0).still)) (fun v hv=>Nice.pure (k:=FINK) (p:=(rL rJ 1) y70) (.L fun _=>.I) _ v hv) ?_
   intro _ o77 h72
   obtain ⟨z73,f74,e75,rfl,h76⟩:=h72
   refine q (ptr b1 0) ?_
   refine q (ptr b1 0) ?_
   refine q (ptr b1 0) ?_
   refine q (ptr b1 0) ?_
   refine q (ptr b1 1) ?_
   refine AOps.ldB (i:=0) (v:=(J w4)) hH0 rfl rfl rfl rfl rfl rfl rfl rfl rfl ?_
   obtain ⟨y78,h79,h⟩:=obind h
   refine AOps.lendD (g:=47) (args:=[(sl z73 f74 e75),(J w4)]) (ps:=[(rL rJ 1) y70,rJ w4]) (p:=(rB) y78) rfl rfl rfl rfl rfl rfl rfl (.cons (Fin.of (p:=(rL rJ 1) y70) (.L fun _=>.I) (⟨_,_,_,rfl,h76⟩)) (.cons (Fin.of (p:=rJ w4) .I rfl) .nil)) (fun args' hc=>by obtain ⟨_,_,rfl,hv0,hd0⟩:=Cs_cons hc; obtain ⟨z80,f81,e82,rfl,h83⟩:=hv0; obtain ⟨_,_,rfl,hv1,hd1⟩:=Cs_cons hd0; cases hv1; cases Cs_nil hd1; exact slices_Contains_sint64_int64_okN h83 h79 WF.blind) (fun v n hv=>by cases hv; rfl) (fun v hv=>Nice.pure (k:=FINK) (p:=(rB) y78) .B _ v hv) ?_
   intro _ h84
   cases h84
   refine q (bool y78) ?_
   exact rR ⟨congrArg bool (Option.some.inj h),trivial⟩
 rintro _ ⟨tm,os,rfl⟩
 refine aq (bool b69) ?_
 refine nl ?_
 rcases oite h with ⟨hc85,h⟩ | ⟨hc85,h⟩
 ·refine cT hc85 ?_
  refine sr ?_
  refine q (J 2) ?_
  refine nl ?_
  cases h
  exact AW.ret ⟨_,_,rfl,⟨w2,Ls0,rfl,hH0,hG0⟩⟩
 refine cF hc85 ?_
 refine AW.skip ?_
 refine AW.inBlock ?_
 refine sr ?_
 refine q (J 0) ?_
 refine nl ?_
 cases h
 exact AW.ret ⟨_,_,rfl,⟨w2,Ls0,rfl,hH0,hG0⟩⟩
theorem impl_VerdictAfter_ok {v1:Stream} {deeds22:List Deed} {z2 z6 z10 z14 z18 z23:Nat} {f3 f7 f11 f15 f19 f24:Bool} {e4 e8 e12 e16 e20 e25:List AV} {s:St} (h5:LR rB 1 v1.Checker.Accept z2 e4) (h9:LR (rL rPush 2) 1 v1.Checker.Call z6 e8) (h13:LR (rL (rL rJ 1) 1) 1 v1.Checker.Return z10 e12) (h17:LR (rL rJ 1) 1 v1.Checker.Inner z14 e16) (h21:LR rS 1 v1.Pieces z18 e20) (h26:LR rDeed 3 deeds22 z23 e25) {r:Int × Int} (h:impl_VerdictAfter v1 deeds22=some r) (hs:WF s):ACall Cf 9 [(agg [(J v1.Checker.Stack),(J v1.Checker.Start),(sl z2 f3 e4),(sl z6 f7 e8),(sl z10 f11 e12),(sl z14 f15 e16),(sl z18 f19 e20)]),(sl z23 f24 e25)] s fun v _ s'=>(fun x=>rT [rJ x.1,rJ x.2]) r v∧s'=s:=by
 refine ACall.boxes rfl rfl rfl ?_
 have hH0:=HS.g0 (HS.init hs)
 have hG0:=AllG.nil
 have hl:LoOK [] false s:=LoOK.nil
 unfold impl_VerdictAfter at h
 refine sr ?_
 refine AOps.makeR rfl rfl rfl rfl rfl rfl (rfl:_=(eptr [(J v1.Checker.Stack),(J v1.Checker.Start),(sl z2 f3 e4),(sl z6 f7 e8),(sl z10 f11 e12),(sl z14 f15 e16),(sl z18 f19 e20)] 0)) ?_
 refine q (J 0) ?_
 refine q (J 0) ?_
 refine nl ?_
 refine AW.seq ?_
 refine sr ?_
 refine lE (agg [(J v1.Checker.Stack),(J v1.Checker.Start),(sl z2 f3 e4),(sl z6 f7 e8),(sl z10 f11 e12),(sl z14 f15 e16),(sl z18 f19 e20)]) ?_
 refine q (sl z23 f24 e25) ?_
 obtain ⟨y27,h28,h⟩:=obind h
 refine cP (impl_deedsCode_ok h5 h9 h13 h17 h21 h26 h28 (HS.wf' hH0)) ?_
 intro _ o30 h29
 cases h29
 refine aq (J y27) ?_
 refine ns ?_
 refine q (J y27) ?_
 refine q (bool (y27 != 0)) ?_
 refine nl ?_
 rcases oite h with ⟨hc31,h⟩ | ⟨hc31,h⟩
 ·refine cT hc31 ?_
  refine sr ?_
  refine q (J y27) ?_
  refine q (J 0) ?_
  refine aq (J y27) ?_
  refine nl ?_
  cases h
  exact AW.ret ⟨⟨_,hH0⟩,_,_,rfl,(Fin.T (.cons (Fin.of (p:=rJ 0) .I rfl) (.cons (Fin.of (p:=rJ y27) .I rfl) .nil))).2⟩
 refine cF hc31 ?_
 refine AW.skip ?_
 refine sr ?_
 refine lE (agg [(J v1.Checker.Stack),(J v1.Checker.Start),(sl z2 f3 e4),(sl z6 f7 e8),(sl z10 f11 e12),(sl z14 f15 e16),(sl z18 f19 e20)]) ?_
 refine q (sl z23 f24 e25) ?_
 obtain ⟨y32,h33,h⟩:=obind h
 have hP73:=HS.pop0 hH0
 refine AOps.callF (al:=true) (g:=21) (args:=[(agg [(J v1.Checker.Stack),(J v1.Checker.Start),(sl z2 f3 e4),(sl z6 f7 e8),(sl z10 f11 e12),(sl z14 f15 e16),(sl z18 f19 e20)]),(sl z23 f24 e25)]) rfl rfl rfl (impl_after_K00_ok h5 h9 h13 h17 h21 h26  h33 (HS.wf' hH0)) ?_
 rintro _ _ s74 ⟨b34,w35,z36,f37,e38,h40,k41,z43,f44,e45,h47,k48,h50,k51,z53,f54,e55,z57,f58,e59,z61,f62,e63,z65,f66,e67,z69,f70,e71,Ls76,rfl,hH77,hG78,hl39,ho42,hl46,ho49,ho52,hl56,hl60,hl64,hl68,hl72⟩
 have hJ79:=HS.joinK1 hP73 hH77
 have hJ80:=HS.pushNE (x:=⟨some b34,[(J y32.1.Plant_.Desk_.Read),(J y32.1.Plant_.Desk_.State),(sl z36 f37 e38),h40,(J y32.1.Plant_.Saved.Read),(J y32.1.Plant_.Saved.State),(sl z43 f44 e45),h47,h50,(J y32.1.stream.Checker.Stack),(J y32.1.stream.Checker.Start),(sl z53 f54 e55),(sl z57 f58 e59),(sl z61 f62 e63),(sl z65 f66 e67),(sl z69 f70 e71)],w35⟩) hJ79
 obtain ⟨Ls81,Lf82,hG83,hF84,hP85⟩:=HS.pushN hJ80 hG0 hG78
 obtain ⟨Ls86,Lf87,hG88,hF89,hP90⟩:=HS.pushN hP85 hG83 hF84
 obtain ⟨Ls91,Lf92,hG93,hF94,hP95⟩:=HS.pushN hP90 hG88 hF89
 cases hF94
 have hH96:=HS.push0 hP95
 refine q (AV.tup [(ptr b34 0),(J y32.2)]) ?_
 refine q (ptr b34 0) ?_
 refine q (J y32.2) ?_
 refine aq (ptr b34 0) ?_
 refine aq (J y32.2) ?_
 refine ns ?_
 refine q (ptr b34 0) ?_
 obtain ⟨y97,h98,h⟩:=obind h
 have hP100:=HS.pop0 hH96
 have hP101:=HS.popE hP100 (i:=0) (x:=⟨some b34,[(J y32.1.Plant_.Desk_.Read),(J y32.1.Plant_.Desk_.State),(sl z36 f37 e38),h40,(J y32.1.Plant_.Saved.Read),(J y32.1.Plant_.Saved.State),(sl z43 f44 e45),h47,h50,(J y32.1.stream.Checker.Stack),(J y32.1.stream.Checker.Start),(sl z53 f54 e55),(sl z57 f58 e59),(sl z61 f62 e63),(sl z65 f66 e67),(sl z69 f70 e71)],w35⟩) rfl
 have hF0:AllG ([]:List (List BX→Prop)) []:=AllG.nil
 obtain ⟨Ls102,Lf103,hG104,hF105,hP106⟩:=HS.popG hP101 hG93 hF0 (j:=2) rfl
 obtain ⟨Ls107,Lf108,hG109,hF110,hP111⟩:=HS.popG hP106 hG104 hF105 (j:=1) rfl
 obtain ⟨Ls112,Lf113,hG114,hF115,hP116⟩:=HS.popG hP111 hG109 hF110 (j:=0) rfl
 refine AOps.callF (al:=true) (g:=22) (args:=[(ptr b34 0)]) rfl rfl rfl (impl_works_verdict_K1_ok hl39 ho42 hl46 ho49 ho52 hl56 hl60 hl64 hl68 hl72 (HS.enterK hP116) hF115 (HS.enterLo hP116 hl) h98 (HS.wf' hH96)) ?_
 rintro _ _ s117 ⟨w99,Ls119,rfl,hH120,hG121⟩
 have hJ122:=HS.joinK hP116 hH120
 have hJ123:=HS.pushE hJ122 (i:=0) rfl
 obtain ⟨Ls124,Lf125,hG126,hF127,hP128⟩:=HS.putG hJ123 hG114 hG121 (j:=2) rfl
 obtain ⟨Ls129,Lf130,hG131,hF132,hP133⟩:=HS.putG hP128 hG126 hF127 (j:=1) rfl
 obtain ⟨Ls134,Lf135,hG136,hF137,hP138⟩:=HS.putG hP133 hG131 hF132 (j:=0) rfl
 cases hF137
 have hH139:=HS.push0 hP138
 refine aq (J y97) ?_
 refine q (J 0) ?_
 refine nl ?_
 cases h
 exact AW.ret ⟨⟨_,hH139⟩,_,_,rfl,(Fin.T (.cons (Fin.of (p:=rJ y97) .I rfl) (.cons (Fin.of (p:=rJ 0) .I rfl) .nil))).2⟩
theorem laws_eqBoolS_ok {a1 b6:List Bool} {z2 z7:Nat} {f3 f8:Bool} {e4 e9:List AV} {s:St} (h5:LR rB 1 a1 z2 e4) (h10:LR rB 1 b6 z7 e9) {r:Bool} (h:laws_eqBoolS a1 b6=some r) (hs:WF s):ACall Cf 49 [(sl z2 f3 e4),(sl z7 f8 e9)] s fun v _ s'=>(rB) r v∧s'=s:=by
 refine ACall.pure rfl rfl rfl .B ?_
 have hWF:=hs.lo'
 unfold laws_eqBoolS at h
 refine sr ?_
 refine q (bool false) ?_
 refine nl ?_
 refine AW.seq ?_
 refine sr ?_
 refine q (sl z2 f3 e4) ?_
 refine AOps.p rfl (len_eq h5) ?_
 refine q (sl z7 f8 e9) ?_
 refine AOps.p rfl (len_eq h10) ?_
 refine q (bool ((a1.length:Int) != (b6.length:Int))) ?_
 refine nl ?_
 rcases oite h with ⟨hc11,h⟩ | ⟨hc11,h⟩
 ·refine cT hc11 ?_
  refine sr ?_
  refine q (bool false) ?_
  refine nl ?_
  cases h
  exact AW.ret ⟨rfl,_,_,rfl,rfl⟩
 refine cF hc11 ?_
 refine AW.skip ?_
 refine AW.seq ?_
 refine sr ?_
 refine q (J 0) ?_
 refine nl ?_
 refine AW.meet (σ:=Unit) (fun _ tm os=>⟨updL tm [],updL os [],{ s with lo:=s.n }⟩) (fun _=>laws_eqBoolS_J1=some r) ?_ ?_
 ·rintro _ tm os h
  unfold laws_eqBoolS_J1 at h
  refine sr ?_
  refine q (bool true) ?_
  refine nl ?_
  cases h
  exact AW.ret ⟨rfl,_,_,rfl,rfl⟩
 intro KJ12
 refine AW.block ?_
 refine AW.res [(0,(sl z2 f3 e4)),(1,(sl z7 f8 e9)),(5,(J 0))] [] ⟨rfl,rfl,rfl,trivial⟩ trivial ?_
 refine AW.loopF (σ:=Int) (τ:=Unit) (fun i13 _=>True) (fun i13 _ tm os=>⟨updL tm [(0,(sl z2 f3 e4)),(1,(sl z7 f8 e9)),(5,(J i13))],updL os [],{ s with lo:=s.n }⟩) ?_ (x:=(0)) (y:=()) h trivial
 clear h
 rintro i13 _ tm os - ee1 h hL1 hR1
 unfold laws_eqBoolS_S1 at h
 refine AW.seq ?_
 refine sr ?_
 refine q (J i13) ?_
 refine q (sl z2 f3 e4) ?_
 refine AOps.p rfl (len_eq h5) ?_
 refine q (bool (decide ((i13:Int)<(a1.length:Int)))) ?_
 refine nl ?_
 rcases oite h with ⟨hc14,h⟩ | ⟨hc14,h⟩
 ·refine cT hc14 ?_
  refine AW.skip ?_
  refine AW.seq ?_
  refine AW.block ?_
  refine sr ?_
  refine q (sl z2 f3 e4) ?_
  refine q (J i13) ?_
  obtain ⟨x15,h16,h⟩:=obind h
  obtain ⟨v19,h17,h18⟩:=idx_sl h5 h16
  cases h17
  refine AOps.pureR rfl rfl rfl h18 rfl (rfl:_=(eptr [(bool x15)] 0)) ?_
  refine lE (bool x15) ?_
  refine q (sl z7 f8 e9) ?_
  refine q (J i13) ?_
  obtain ⟨x20,h21,h⟩:=obind h
  obtain ⟨v24,h22,h23⟩:=idx_sl h10 h21
  cases h22
  refine AOps.pureR rfl rfl rfl h23 rfl (rfl:_=(eptr [(bool x20)] 0)) ?_
  refine lE (bool x20) ?_
  refine q (bool (!(x15 == x20))) ?_
  refine nl ?_
  rcases oite h with ⟨hc25,h⟩ | ⟨hc25,h⟩
  ·refine cT hc25 ?_
   refine sr ?_
   refine q (bool false) ?_
   refine nl ?_
   cases h
   have hr:=hR1 _ rfl
   subst hr
   exact AW.ret ⟨rfl,_,_,rfl,rfl⟩
  refine cF hc25 ?_
  refine AW.skip ?_
  refine AW.inBlock ?_
  refine AW.region ?_
  refine q (J i13) ?_
  refine q (J (IntKind.wrap .i64 (i13+1))) ?_
  refine aq (J (IntKind.wrap .i64 (i13+1))) ?_
  refine nl ?_
  cases h
  exact AW.res [(0,(sl z2 f3 e4)),(1,(sl z7 f8 e9)),(5,(J (IntKind.wrap .i64 (i13+1))))] [] ⟨rfl,rfl,rfl,trivial⟩ trivial (hL1 _ rfl () _ _ trivial)
 refine cF hc14 ?_
 refine AW.exit rfl ?_
 obtain ⟨r26,hm,hx⟩:=omap h
 clear h
 subst hx
 have hx:=hR1 _ rfl
 rw[hx] at hm
 have h:=hm
 exact AW.res [] [] trivial trivial (KJ12 () _ _ h)
theorem laws_eqPush_ok {a1 b2:Push} {s:St} {r:Bool} (h:laws_eqPush a1 b2=some r) (hs:WF s):ACall Cf 108 [(agg [(J a1.To),(J a1.Put)]),(agg [(J b2.To),(J b2.Put)])] s fun v _ s'=>(rB) r v∧s'=s:=by
 refine ACall.pure rfl rfl rfl .B ?_
 have hWF:=hs.lo'
 unfold laws_eqPush at h
 refine sr ?_
 refine AOps.makeR rfl rfl rfl rfl rfl rfl (rfl:_=(eptr [(J a1.To),(J a1.Put)] 0)) ?_
 refine AOps.makeR rfl rfl rfl rfl rfl rfl (rfl:_=(eptr [(J b2.To),(J b2.Put)] 0)) ?_
 refine q (bool false) ?_
 refine nl ?_
 refine AW.seq ?_
 refine sr ?_
 refine q (eptr [(J a1.To),(J a1.Put)] 0) ?_
 refine lE (J a1.To) ?_
 refine q (eptr [(J b2.To),(J b2.Put)] 0) ?_
 refine lE (J b2.To) ?_
 refine q (bool (a1.To != b2.To)) ?_
 refine nl ?_
 rcases oite h with ⟨hc3,h⟩ | ⟨hc3,h⟩
 ·refine cT hc3 ?_
  refine sr ?_
  refine q (bool false) ?_
  refine nl ?_
  cases h
  exact AW.ret ⟨rfl,_,_,rfl,rfl⟩
 refine cF hc3 ?_
 refine AW.skip ?_
 refine AW.seq ?_
 refine sr ?_
 refine q (eptr [(J a1.To),(J a1.Put)] 1) ?_
 refine lE (J a1.Put) ?_
 refine q (eptr [(J b2.To),(J b2.Put)] 1) ?_
 refine lE (J b2.Put) ?_
 refine q (bool (a1.Put != b2.Put)) ?_
 refine nl ?_
 rcases oite h with ⟨hc4,h⟩ | ⟨hc4,h⟩
 ·refine cT hc4 ?_
  refine sr ?_
  refine q (bool false) ?_
  refine nl ?_
  cases h
  exact AW.ret ⟨rfl,_,_,rfl,rfl⟩
 refine cF hc4 ?_
 refine AW.skip ?_
 refine sr ?_
 refine q (bool true) ?_
 refine nl ?_
 cases h
 exact AW.ret ⟨rfl,_,_,rfl,rfl⟩
theorem laws_eqPushS_ok {a1 b6:List Push} {z2 z7:Nat} {f3 f8:Bool} {e4 e9:List AV} {s:St} (h5:LR rPush 2 a1 z2 e4) (h10:LR rPush 2 b6 z7 e9) {r:Bool} (h:laws_eqPushS a1 b6=some r) (hs:WF s):ACall Cf 81 [(sl z2 f3 e4),(sl z7 f8 e9)] s fun v _ s'=>(rB) r v∧s'=s:=by
 refine ACall.pure rfl rfl rfl .B ?_
 have hWF:=hs.lo'
 unfold laws_eqPushS at h
 refine sr ?_
 refine q (bool false) ?_
 refine nl ?_
 refine AW.seq ?_
 refine sr ?_
 refine q (sl z2 f3 e4) ?_
 refine AOps.p rfl (len_eq h5) ?_
 refine q (sl z7 f8 e9) ?_
 refine AOps.p rfl (len_eq h10) ?_
 refine q (bool ((a1.length:Int) != (b6.length:Int))) ?_
 refine nl ?_
 rcases oite h with ⟨hc11,h⟩ | ⟨hc11,h⟩
 ·refine cT hc11 ?_
  refine sr ?_
  refine q (bool false) ?_
  refine nl ?_
  cases h
  exact AW.ret ⟨rfl,_,_,rfl,rfl⟩
 refine cF hc11 ?_
 refine AW.skip ?_
 refine AW.seq ?_
 refine sr ?_
 refine q (J 0) ?_
 refine nl ?_
 refine AW.meet (σ:=Unit) (fun _ tm os=>⟨updL tm [],updL os [],{ s with lo:=s.n }⟩) (fun _=>laws_eqPushS_J1=some r) ?_ ?_
 ·rintro _ tm os h
  unfold laws_eqPushS_J1 at h
  refine sr ?_
  refine q (bool true) ?_
  refine nl ?_
  cases h
  exact AW.ret ⟨rfl,_,_,rfl,rfl⟩
 intro KJ12
 refine AW.block ?_
 refine AW.res [(0,(sl z2 f3 e4)),(1,(sl z7 f8 e9)),(5,(J 0))] [] ⟨rfl,rfl,rfl,trivial⟩ trivial ?_
 refine AW.loopF (σ:=Int) (τ:=Unit) (fun i13 _=>True) (fun i13 _ tm os=>⟨updL tm [(0,(sl z2 f3 e4)),(1,(sl z7 f8 e9)),(5,(J i13))],updL os [],{ s with lo:=s.n }⟩) ?_ (x:=(0)) (y:=()) h trivial
 clear h
 rintro i13 _ tm os - ee1 h hL1 hR1
 unfold laws_eqPushS_S1 at h
 refine AW.seq ?_
 refine sr ?_
 refine q (J i13) ?_
 refine q (sl z2 f3 e4) ?_
 refine AOps.p rfl (len_eq h5) ?_
 refine q (bool (decide ((i13:Int)<(a1.length:Int)))) ?_
 refine nl ?_
 rcases oite h with ⟨hc14,h⟩ | ⟨hc14,h⟩
 ·refine cT hc14 ?_
  refine AW.skip ?_
  refine AW.seq ?_
  refine AW.block ?_
  refine sr ?_
  refine q (sl z2 f3 e4) ?_
  refine q (J i13) ?_
  obtain ⟨x15,h16,h⟩:=obind h
  obtain ⟨v19,h17,h18⟩:=idx_sl h5 h16
  obtain ⟨_,rfl,h20⟩:=h17
  obtain ⟨_,_,rfl,h21,h22⟩:=Cs_cons h20
  cases h21
  obtain ⟨_,_,rfl,h23,h24⟩:=Cs_cons h22
  cases h23
  cases Cs_nil h24
  refine AOps.pureR rfl rfl rfl h18 rfl (rfl:_=(eptr [(J x15.To),(J x15.Put)] 0)) ?_
  refine lE (agg [(J x15.To),(J x15.Put)]) ?_
  refine q (sl z7 f8 e9) ?_
  refine q (J i13) ?_
  obtain ⟨x25,h26,h⟩:=obind h
  obtain ⟨v29,h27,h28⟩:=idx_sl h10 h26
  obtain ⟨_,rfl,h30⟩:=h27
  obtain ⟨_,_,rfl,h31,h32⟩:=Cs_cons h30
  cases h31
  obtain ⟨_,_,rfl,h33,h34⟩:=Cs_cons h32
  cases h33
  cases Cs_nil h34
  refine AOps.pureR rfl rfl rfl h28 rfl (rfl:_=(eptr [(J x25.To),(J x25.Put)] 0)) ?_
  refine lE (agg [(J x25.To),(J x25.Put)]) ?_
  obtain ⟨y35,h36,h⟩:=obind h
  refine AOps.callDP (g:=108) (args:=[(agg [(J x15.To),(J x15.Put)]),(agg [(J x25.To),(J x25.Put)])]) (p:=(rB) y35) rfl rfl rfl (laws_eqPush_ok  h36 hWF.still) (fun v hv=>Nice.pure (k:=FINK) (p:=(rB) y35) .B _ v hv) ?_
  intro _ o38 h37
  cases h37
  refine q (bool (!y35)) ?_
  refine nl ?_
  rcases oite h with ⟨hc39,h⟩ | ⟨hc39,h⟩
  ·refine cT hc39 ?_
   refine sr ?_
   refine q (bool false) ?_
   refine nl ?_
   cases h
   have hr:=hR1 _ rfl
   subst hr
   exact AW.ret ⟨rfl,_,_,rfl,rfl⟩
  refine cF hc39 ?_
  refine AW.skip ?_
  refine AW.inBlock ?_
  refine AW.region ?_
  refine q (J i13) ?_
  refine q (J (IntKind.wrap .i64 (i13+1))) ?_
  refine aq (J (IntKind.wrap .i64 (i13+1))) ?_
  refine nl ?_
  cases h
  exact AW.res [(0,(sl z2 f3 e4)),(1,(sl z7 f8 e9)),(5,(J (IntKind.wrap .i64 (i13+1))))] [] ⟨rfl,rfl,rfl,trivial⟩ trivial (hL1 _ rfl () _ _ trivial)
 refine cF hc14 ?_
 refine AW.exit rfl ?_
 obtain ⟨r40,hm,hx⟩:=omap h
 clear h
 subst hx
 have hx:=hR1 _ rfl
 rw[hx] at hm
 have h:=hm
 exact AW.res [] [] trivial trivial (KJ12 () _ _ h)
theorem laws_eqPushSS_ok {a1 b6:List (List Push)} {z2 z7:Nat} {f3 f8:Bool} {e4 e9:List AV} {s:St} (h5:LR (rL rPush 2) 1 a1 z2 e4) (h10:LR (rL rPush 2) 1 b6 z7 e9) {r:Bool} (h:laws_eqPushSS a1 b6=some r) (hs:WF s):ACall Cf 50 [(sl z2 f3 e4),(sl z7 f8 e9)] s fun v _ s'=>(rB) r v∧s'=s:=by
 refine ACall.pure rfl rfl rfl .B ?_
 have hWF:=hs.lo'
 unfold laws_eqPushSS at h
 refine sr ?_
 refine q (bool false) ?_
 refine nl ?_
 refine AW.seq ?_
 refine sr ?_
 refine q (sl z2 f3 e4) ?_
 refine AOps.p rfl (len_eq h5) ?_
 refine q (sl z7 f8 e9) ?_
 refine AOps.p rfl (len_eq h10) ?_
 refine q (bool ((a1.length:Int) != (b6.length:Int))) ?_
 refine nl ?_
 rcases oite h with ⟨hc11,h⟩ | ⟨hc11,h⟩
 ·refine cT hc11 ?_
  refine sr ?_
  refine q (bool false) ?_
  refine nl ?_
  cases h
  exact AW.ret ⟨rfl,_,_,rfl,rfl⟩
 refine cF hc11 ?_
 refine AW.skip ?_
 refine AW.seq ?_
 refine sr ?_
 refine q (J 0) ?_
 refine nl ?_
 refine AW.meet (σ:=Unit) (fun _ tm os=>⟨updL tm [],updL os [],{ s with lo:=s.n }⟩) (fun _=>laws_eqPushSS_J1=some r) ?_ ?_
 ·rintro _ tm os h
  unfold laws_eqPushSS_J1 at h
  refine sr ?_
  refine q (bool true) ?_
  refine nl ?_
  cases h
  exact AW.ret ⟨rfl,_,_,rfl,rfl⟩
 intro KJ12
 refine AW.block ?_
 refine AW.res [(0,(sl z2 f3 e4)),(1,(sl z7 f8 e9)),(5,(J 0))] [] ⟨rfl,rfl,rfl,trivial⟩ trivial ?_
 refine AW.loopF (σ:=Int) (τ:=Unit) (fun i13 _=>True) (fun i13 _ tm os=>⟨updL tm [(0,(sl z2 f3 e4)),(1,(sl z7 f8 e9)),(5,(J i13))],updL os [],{ s with lo:=s.n }⟩) ?_ (x:=(0)) (y:=()) h trivial
 clear h
 rintro i13 _ tm os - ee1 h hL1 hR1
 unfold laws_eqPushSS_S1 at h
 refine AW.seq ?_
 refine sr ?_
 refine q (J i13) ?_
 refine q (sl z2 f3 e4) ?_
 refine AOps.p rfl (len_eq h5) ?_
 refine q (bool (decide ((i13:Int)<(a1.length:Int)))) ?_
 refine nl ?_
 rcases oite h with ⟨hc14,h⟩ | ⟨hc14,h⟩
 ·refine cT hc14 ?_
  refine AW.skip ?_
  refine AW.seq ?_
  refine AW.block ?_
  refine sr ?_
  refine q (sl z2 f3 e4) ?_
  refine q (J i13) ?_
  obtain ⟨x15,h16,h⟩:=obind h
  obtain ⟨v19,h17,h18⟩:=idx_sl h5 h16
  obtain ⟨z20,f21,e22,rfl,h23⟩:=h17
  refine AOps.pureR rfl rfl rfl h18 rfl (rfl:_=(eptr [(sl z20 f21 e22)] 0)) ?_
  refine lE (sl z20 f21 e22) ?_
  refine q (sl z7 f8 e9) ?_
  refine q (J i13) ?_
  obtain ⟨x24,h25,h⟩:=obind h
  obtain ⟨v28,h26,h27⟩:=idx_sl h10 h25
  obtain ⟨z29,f30,e31,rfl,h32⟩:=h26
  refine AOps.pureR rfl rfl rfl h27 rfl (rfl:_=(eptr [(sl z29 f30 e31)] 0)) ?_
  refine lE (sl z29 f30 e31) ?_
  obtain ⟨y33,h34,h⟩:=obind h
  refine AOps.callDP (g:=81) (args:=[(sl z20 f21 e22),(sl z29 f30 e31)]) (p:=(rB) y33) rfl rfl rfl (laws_eqPushS_ok h23 h32 h34 hWF.still) (fun v hv=>Nice.pure (k:=FINK) (p:=(rB) y33) .B _ v hv) ?_
  intro _ o36 h35
  cases h35
  refine q (bool (!y33)) ?_
  refine nl ?_
  rcases oite h with ⟨hc37,h⟩ | ⟨hc37,h⟩
  ·refine cT hc37 ?_
   refine sr ?_
   refine q (bool false) ?_
   refine nl ?_
   cases h
   have hr:=hR1 _ rfl
   subst hr
   exact AW.ret ⟨rfl,_,_,rfl,rfl⟩
  refine cF hc37 ?_
  refine AW.skip ?_
  refine AW.inBlock ?_
  refine AW.region ?_
  refine q (J i13) ?_
  refine q (J (IntKind.wrap .i64 (i13+1))) ?_
  refine aq (J (IntKind.wrap .i64 (i13+1))) ?_
  refine nl ?_
  cases h
  exact AW.res [(0,(sl z2 f3 e4)),(1,(sl z7 f8 e9)),(5,(J (IntKind.wrap .i64 (i13+1))))] [] ⟨rfl,rfl,rfl,trivial⟩ trivial (hL1 _ rfl () _ _ trivial)
 refine cF hc14 ?_
 refine AW.exit rfl ?_
 obtain ⟨r38,hm,hx⟩:=omap h
 clear h
 subst hx
 have hx:=hR1 _ rfl
 rw[hx] at hm
 have h:=hm
 exact AW.res [] [] trivial trivial (KJ12 () _ _ h)
theorem laws_eqInt64S_ok {a1 b6:List Int} {z2 z7:Nat} {f3 f8:Bool} {e4 e9:List AV} {s:St} (h5:LR rJ 1 a1 z2 e4) (h10:LR rJ 1 b6 z7 e9) {r:Bool} (h:laws_eqInt64S a1 b6=some r) (hs:WF s):ACall Cf 82 [(sl z2 f3 e4),(sl z7 f8 e9)] s fun v _ s'=>(rB) r v∧s'=s:=by
 refine ACall.pure rfl rfl rfl .B ?_
 have hWF:=hs.lo'
 unfold laws_eqInt64S at h
 refine sr ?_
 refine q (bool false) ?_
 refine nl ?_
 refine AW.seq ?_
 refine sr ?_
 refine q (sl z2 f3 e4) ?_
 refine AOps.p rfl (len_eq h5) ?_
 refine q (sl z7 f8 e9) ?_
 refine AOps.p rfl (len_eq h10) ?_
 refine q (bool ((a1.length:Int) != (b6.length:Int))) ?_
 refine nl ?_
 rcases oite h with ⟨hc11,h⟩ | ⟨hc11,h⟩
 ·refine cT hc11 ?_
  refine sr ?_
  refine q (bool false) ?_
  refine nl ?_
  cases h
  exact AW.ret ⟨rfl,_,_,rfl,rfl⟩
 refine cF hc11 ?_
 refine AW.skip ?_
 refine AW.seq ?_
 refine sr ?_
 refine q (J 0) ?_
 refine nl ?_
 refine AW.meet (σ:=Unit) (fun _ tm os=>⟨updL tm [],updL os [],{ s with lo:=s.n }⟩) (fun _=>laws_eqInt64S_J1=some r) ?_ ?_
 ·rintro _ tm os h
  unfold laws_eqInt64S_J1 at h
  refine sr ?_
  refine q (bool true) ?_
  refine nl ?_
  cases h
  exact AW.ret ⟨rfl,_,_,rfl,rfl⟩
 intro KJ12
 refine AW.block ?_
 refine AW.res [(0,(sl z2 f3 e4)),(1,(sl z7 f8 e9)),(5,(J 0))] [] ⟨rfl,rfl,rfl,trivial⟩ trivial ?_
 refine AW.loopF (σ:=Int) (τ:=Unit) (fun i13 _=>True) (fun i13 _ tm os=>⟨updL tm [(0,(sl z2 f3 e4)),(1,(sl z7 f8 e9)),(5,(J i13))],updL os [],{ s with lo:=s.n }⟩) ?_ (x:=(0)) (y:=()) h trivial
 clear h
 rintro i13 _ tm os - ee1 h hL1 hR1
 unfold laws_eqInt64S_S1 at h
 refine AW.seq ?_
 refine sr ?_
 refine q (J i13) ?_
 refine q (sl z2 f3 e4) ?_
 refine AOps.p rfl (len_eq h5) ?_
 refine q (bool (decide ((i13:Int)<(a1.length:Int)))) ?_
 refine nl ?_
 rcases oite h with ⟨hc14,h⟩ | ⟨hc14,h⟩
 ·refine cT hc14 ?_
  refine AW.skip ?_
  refine AW.seq ?_
  refine AW.block ?_
  refine sr ?_
  refine q (sl z2 f3 e4) ?_
  refine q (J i13) ?_
  obtain ⟨x15,h16,h⟩:=obind h
  obtain ⟨v19,h17,h18⟩:=idx_sl h5 h16
  cases h17
  refine AOps.pureR rfl rfl rfl h18 rfl (rfl:_=(eptr [(J x15)] 0)) ?_
  refine lE (J x15) ?_
  refine q (sl z7 f8 e9) ?_
  refine q (J i13) ?_
  obtain ⟨x20,h21,h⟩:=obind h
  obtain ⟨v24,h22,h23⟩:=idx_sl h10 h21
  cases h22
  refine AOps.pureR rfl rfl rfl h23 rfl (rfl:_=(eptr [(J x20)] 0)) ?_
  refine lE (J x20) ?_
  refine q (bool (x15 != x20)) ?_
  refine nl ?_
  rcases oite h with ⟨hc25,h⟩ | ⟨hc25,h⟩
  ·refine cT hc25 ?_
   refine sr ?_
   refine q (bool false) ?_
   refine nl ?_
   cases h
   have hr:=hR1 _ rfl
   subst hr
   exact AW.ret ⟨rfl,_,_,rfl,rfl⟩
  refine cF hc25 ?_
  refine AW.skip ?_
  refine AW.inBlock ?_
  refine AW.region ?_
  refine q (J i13) ?_
  refine q (J (IntKind.wrap .i64 (i13+1))) ?_
  refine aq (J (IntKind.wrap .i64 (i13+1))) ?_
  refine nl ?_
  cases h
  exact AW.res [(0,(sl z2 f3 e4)),(1,(sl z7 f8 e9)),(5,(J (IntKind.wrap .i64 (i13+1))))] [] ⟨rfl,rfl,rfl,trivial⟩ trivial (hL1 _ rfl () _ _ trivial)
 refine cF hc14 ?_
 refine AW.exit rfl ?_
 obtain ⟨r26,hm,hx⟩:=omap h
 clear h
 subst hx
 have hx:=hR1 _ rfl
 rw[hx] at hm
 have h:=hm
 exact AW.res [] [] trivial trivial (KJ12 () _ _ h)
theorem laws_eqInt64SS_ok {a1 b6:List (List Int)} {z2 z7:Nat} {f3 f8:Bool} {e4 e9:List AV} {s:St} (h5:LR (rL rJ 1) 1 a1 z2 e4) (h10:LR (rL rJ 1) 1 b6 z7 e9) {r:Bool} (h:laws_eqInt64SS a1 b6=some r) (hs:WF s):ACall Cf 52 [(sl z2 f3 e4),(sl z7 f8 e9)] s fun v _ s'=>(rB) r v∧s'=s:=by
 refine ACall.pure rfl rfl rfl .B ?_
 have hWF:=hs.lo'
 unfold laws_eqInt64SS at h
 refine sr ?_
 refine q (bool false) ?_
 refine nl ?_
 refine AW.seq ?_
 refine sr ?_
 refine q (sl z2 f3 e4) ?_
 refine AOps.p rfl (len_eq h5) ?_
 refine q (sl z7 f8 e9) ?_
 refine AOps.p rfl (len_eq h10) ?_
 refine q (bool ((a1.length:Int) != (b6.length:Int))) ?_
 refine nl ?_
 rcases oite h with ⟨hc11,h⟩ | ⟨hc11,h⟩
 ·refine cT hc11 ?_
  refine sr ?_
  refine q (bool false) ?_
  refine nl ?_
  cases h
  exact AW.ret ⟨rfl,_,_,rfl,rfl⟩
 refine cF hc11 ?_
 refine AW.skip ?_
 refine AW.seq ?_
 refine sr ?_
 refine q (J 0) ?_
 refine nl ?_
 refine AW.meet (σ:=Unit) (fun _ tm os=>⟨updL tm [],updL os [],{ s with lo:=s.n }⟩) (fun _=>laws_eqInt64SS_J1=some r) ?_ ?_
 ·rintro _ tm os h
  unfold laws_eqInt64SS_J1 at h
  refine sr ?_
  refine q (bool true) ?_
  refine nl ?_
  cases h
  exact AW.ret ⟨rfl,_,_,rfl,rfl⟩
 intro KJ12
 refine AW.block ?_
 refine AW.res [(0,(sl z2 f3 e4)),(1,(sl z7 f8 e9)),(5,(J 0))] [] ⟨rfl,rfl,rfl,trivial⟩ trivial ?_
 refine AW.loopF (σ:=Int) (τ:=Unit) (fun i13 _=>True) (fun i13 _ tm os=>⟨updL tm [(0,(sl z2 f3 e4)),(1,(sl z7 f8 e9)),(5,(J i13))],updL os [],{ s with lo:=s.n }⟩) ?_ (x:=(0)) (y:=()) h trivial
 clear h
 rintro i13 _ tm os - ee1 h hL1 hR1
 unfold laws_eqInt64SS_S1 at h
 refine AW.seq ?_
 refine sr ?_
 refine q (J i13) ?_
 refine q (sl z2 f3 e4) ?_
 refine AOps.p rfl (len_eq h5) ?_
 refine q (bool (decide ((i13:Int)<(a1.length:Int)))) ?_
 refine nl ?_
 rcases oite h with ⟨hc14,h⟩ | ⟨hc14,h⟩
 ·refine cT hc14 ?_
  refine AW.skip ?_
  refine AW.seq ?_
  refine AW.block ?_
  refine sr ?_
  refine q (sl z2 f3 e4) ?_
  refine q (J i13) ?_
  obtain ⟨x15,h16,h⟩:=obind h
  obtain ⟨v19,h17,h18⟩:=idx_sl h5 h16
  obtain ⟨z20,f21,e22,rfl,h23⟩:=h17
  refine AOps.pureR rfl rfl rfl h18 rfl (rfl:_=(eptr [(sl z20 f21 e22)] 0)) ?_
  refine lE (sl z20 f21 e22) ?_
  refine q (sl z7 f8 e9) ?_
  refine q (J i13) ?_
  obtain ⟨x24,h25,h⟩:=obind h
  obtain ⟨v28,h26,h27⟩:=idx_sl h10 h25
  obtain ⟨z29,f30,e31,rfl,h32⟩:=h26
  refine AOps.pureR rfl rfl rfl h27 rfl (rfl:_=(eptr [(sl z29 f30 e31)] 0)) ?_
  refine lE (sl z29 f30 e31) ?_
  obtain ⟨y33,h34,h⟩:=obind h
  refine AOps.callDP (g:=82) (args:=[(sl z20 f21 e22),(sl z29 f30 e31)]) (p:=(rB) y33) rfl rfl rfl (laws_eqInt64S_ok h23 h32 h34 hWF.still) (fun v hv=>Nice.pure (k:=FINK) (p:=(rB) y33) .B _ v hv) ?_
  intro _ o36 h35
  cases h35
  refine q (bool (!y33)) ?_
  refine nl ?_
  rcases oite h with ⟨hc37,h⟩ | ⟨hc37,h⟩
  ·refine cT hc37 ?_
   refine sr ?_
   refine q (bool false) ?_
   refine nl ?_
   cases h
   have hr:=hR1 _ rfl
   subst hr
   exact AW.ret ⟨rfl,_,_,rfl,rfl⟩
  refine cF hc37 ?_
  refine AW.skip ?_
  refine AW.inBlock ?_
  refine AW.region ?_
  refine q (J i13) ?_
  refine q (J (IntKind.wrap .i64 (i13+1))) ?_
  refine aq (J (IntKind.wrap .i64 (i13+1))) ?_
  refine nl ?_
  cases h
  exact AW.res [(0,(sl z2 f3 e4)),(1,(sl z7 f8 e9)),(5,(J (IntKind.wrap .i64 (i13+1))))] [] ⟨rfl,rfl,rfl,trivial⟩ trivial (hL1 _ rfl () _ _ trivial)
 refine cF hc14 ?_
 refine AW.exit rfl ?_
 obtain ⟨r38,hm,hx⟩:=omap h
 clear h
 subst hx
 have hx:=hR1 _ rfl
 rw[hx] at hm
 have h:=hm
 exact AW.res [] [] trivial trivial (KJ12 () _ _ h)
theorem laws_eqInt64SSS_ok {a1 b6:List (List (List Int))} {z2 z7:Nat} {f3 f8:Bool} {e4 e9:List AV} {s:St} (h5:LR (rL (rL rJ 1) 1) 1 a1 z2 e4) (h10:LR (rL (rL rJ 1) 1) 1 b6 z7 e9) {r:Bool} (h:laws_eqInt64SSS a1 b6=some r) (hs:WF s):ACall Cf 51 [(sl z2 f3 e4),(sl z7 f8 e9)] s fun v _ s'=>(rB) r v∧s'=s:=by
 refine ACall.pure rfl rfl rfl .B ?_
 have hWF:=hs.lo'
 unfold laws_eqInt64SSS at h
 refine sr ?_
 refine q (bool false) ?_
 refine nl ?_
 refine AW.seq ?_
 refine sr ?_
 refine q (sl z2 f3 e4) ?_
 refine AOps.p rfl (len_eq h5) ?_
 refine q (sl z7 f8 e9) ?_
 refine AOps.p rfl (len_eq h10) ?_
 refine q (bool ((a1.length:Int) != (b6.length:Int))) ?_
 refine nl ?_
 rcases oite h with ⟨hc11,h⟩ | ⟨hc11,h⟩
 ·refine cT hc11 ?_
  refine sr ?_
  refine q (bool false) ?_
  refine nl ?_
  cases h
  exact AW.ret ⟨rfl,_,_,rfl,rfl⟩
 refine cF hc11 ?_
 refine AW.skip ?_
 refine AW.seq ?_
 refine sr ?_
 refine q (J 0) ?_
 refine nl ?_
 refine AW.meet (σ:=Unit) (fun _ tm os=>⟨updL tm [],updL os [],{ s with lo:=s.n }⟩) (fun _=>laws_eqInt64SSS_J1=some r) ?_ ?_
 ·rintro _ tm os h
  unfold laws_eqInt64SSS_J1 at h
  refine sr ?_
  refine q (bool true) ?_
  refine nl ?_
  cases h
  exact AW.ret ⟨rfl,_,_,rfl,rfl⟩
 intro KJ12
 refine AW.block ?_
 refine AW.res [(0,(sl z2 f3 e4)),(1,(sl z7 f8 e9)),(5,(J 0))] [] ⟨rfl,rfl,rfl,trivial⟩ trivial ?_
 refine AW.loopF (σ:=Int) (τ:=Unit) (fun i13 _=>True) (fun i13 _ tm os=>⟨updL tm [(0,(sl z2 f3 e4)),(1,(sl z7 f8 e9)),(5,(J i13))],updL os [],{ s with lo:=s.n }⟩) ?_ (x:=(0)) (y:=()) h trivial
 clear h
 rintro i13 _ tm os - ee1 h hL1 hR1
 unfold laws_eqInt64SSS_S1 at h
 refine AW.seq ?_
 refine sr ?_
 refine q (J i13) ?_
 refine q (sl z2 f3 e4) ?_
 refine AOps.p rfl (len_eq h5) ?_
 refine q (bool (decide ((i13:Int)<(a1.length:Int)))) ?_
 refine nl ?_
 rcases oite h with ⟨hc14,h⟩ | ⟨hc14,h⟩
 ·refine cT hc14 ?_
  refine AW.skip ?_
  refine AW.seq ?_
  refine AW.block ?_
  refine sr ?_
  refine q (sl z2 f3 e4) ?_
  refine q (J i13) ?_
  obtain ⟨x15,h16,h⟩:=obind h
  obtain ⟨v19,h17,h18⟩:=idx_sl h5 h16
  obtain ⟨z20,f21,e22,rfl,h23⟩:=h17
  refine AOps.pureR rfl rfl rfl h18 rfl (rfl:_=(eptr [(sl z20 f21 e22)] 0)) ?_
  refine lE (sl z20 f21 e22) ?_
  refine q (sl z7 f8 e9) ?_
  refine q (J i13) ?_
  obtain ⟨x24,h25,h⟩:=obind h
  obtain ⟨v28,h26,h27⟩:=idx_sl h10 h25
  obtain ⟨z29,f30,e31,rfl,h32⟩:=h26
  refine AOps.pureR rfl rfl rfl h27 rfl (rfl:_=(eptr [(sl z29 f30 e31)] 0)) ?_
  refine lE (sl z29 f30 e31) ?_
  obtain ⟨y33,h34,h⟩:=obind h
  refine AOps.callDP (g:=52) (args:=[(sl z20 f21 e22),(sl z29 f30 e31)]) (p:=(rB) y33) rfl rfl rfl (laws_eqInt64SS_ok h23 h32 h34 hWF.still) (fun v hv=>Nice.pure (k:=FINK) (p:=(rB) y33) .B _ v hv) ?_
  intro _ o36 h35
  cases h35
  refine q (bool (!y33)) ?_
  refine nl ?_
  rcases oite h with ⟨hc37,h⟩ | ⟨hc37,h⟩
  ·refine cT hc37 ?_
   refine sr ?_
   refine q (bool false) ?_
   refine nl ?_
   cases h
   have hr:=hR1 _ rfl
   subst hr
   exact AW.ret ⟨rfl,_,_,rfl,rfl⟩
  refine cF hc37 ?_
  refine AW.skip ?_
  refine AW.inBlock ?_
  refine AW.region ?_
  refine q (J i13) ?_
  refine q (J (IntKind.wrap .i64 (i13+1))) ?_
  refine aq (J (IntKind.wrap .i64 (i13+1))) ?_
  refine nl ?_
  cases h
  exact AW.res [(0,(sl z2 f3 e4)),(1,(sl z7 f8 e9)),(5,(J (IntKind.wrap .i64 (i13+1))))] [] ⟨rfl,rfl,rfl,trivial⟩ trivial (hL1 _ rfl () _ _ trivial)
 refine cF hc14 ?_
 refine AW.exit rfl ?_
 obtain ⟨r38,hm,hx⟩:=omap h
 clear h
 subst hx
 have hx:=hR1 _ rfl
 rw[hx] at hm
 have h:=hm
 exact AW.res [] [] trivial trivial (KJ12 () _ _ h)
theorem laws_eqChecker_ok {a1 b18:Checker} {z2 z6 z10 z14 z19 z23 z27 z31:Nat} {f3 f7 f11 f15 f20 f24 f28 f32:Bool} {e4 e8 e12 e16 e21 e25 e29 e33:List AV} {s:St} (h5:LR rB 1 a1.Accept z2 e4) (h9:LR (rL rPush 2) 1 a1.Call z6 e8) (h13:LR (rL (rL rJ 1) 1) 1 a1.Return z10 e12) (h17:LR (rL rJ 1) 1 a1.Inner z14 e16) (h22:LR rB 1 b18.Accept z19 e21) (h26:LR (rL rPush 2) 1 b18.Call z23 e25) (h30:LR (rL (rL rJ 1) 1) 1 b18.Return z27 e29) (h34:LR (rL rJ 1) 1 b18.Inner z31 e33) {r:Bool} (h:laws_eqChecker a1 b18=some r) (hs:WF s):ACall Cf 23 [(agg [(J a1.Stack),(J a1.Start),(sl z2 f3 e4),(sl z6 f7 e8),(sl z10 f11 e12),(sl z14 f15 e16)]),(agg [(J b18.Stack),(J b18.Start),(sl z19 f20 e21),(sl z23 f24 e25),(sl z27 f28 e29),(sl z31 f32 e33)])] s fun v _ s'=>(rB) r v∧s'=s:=by
 refine ACall.pure rfl rfl rfl .B ?_
 have hWF:=hs.lo'
 unfold laws_eqChecker at h
 refine sr ?_
 refine AOps.makeR rfl rfl rfl rfl rfl rfl (rfl:_=(eptr [(J a1.Stack),(J a1.Start),(sl z2 f3 e4),(sl z6 f7 e8),(sl z10 f11 e12),(sl z14 f15 e16)] 0)) ?_
 refine AOps.makeR rfl rfl rfl rfl rfl rfl (rfl:_=(eptr [(J b18.Stack),(J b18.Start),(sl z19 f20 e21),(sl z23 f24 e25),(sl z27 f28 e29),(sl z31 f32 e33)] 0)) ?_
 refine q (bool false) ?_
 refine nl ?_
 refine AW.seq ?_
 refine sr ?_
 refine q (eptr [(J a1.Stack),(J a1.Start),(sl z2 f3 e4),(sl z6 f7 e8),(sl z10 f11 e12),(sl z14 f15 e16)] 0) ?_
 refine lE (J a1.Stack) ?_
 refine q (eptr [(J b18.Stack),(J b18.Start),(sl z19 f20 e21),(sl z23 f24 e25),(sl z27 f28 e29),(sl z31 f32 e33)] 0) ?_
 refine lE (J b18.Stack) ?_
 refine q (bool (a1.Stack != b18.Stack)) ?_
 refine nl ?_
 rcases oite h with ⟨hc35,h⟩ | ⟨hc35,h⟩
 ·refine cT hc35 ?_
  refine sr ?_
  refine q (bool false) ?_
  refine nl ?_
  cases h
  exact AW.ret ⟨rfl,_,_,rfl,rfl⟩
 refine cF hc35 ?_
 refine AW.skip ?_
 refine AW.seq ?_
 refine sr ?_
 refine q (eptr [(J a1.Stack),(J a1.Start),(sl z2 f3 e4),(sl z6 f7 e8),(sl z10 f11 e12),(sl z14 f15 e16)] 1) ?_
 refine lE (J a1.Start) ?_
 refine q (eptr [(J b18.Stack),(J b18.Start),(sl z19 f20 e21),(sl z23 f24 e25),(sl z27 f28 e29),(sl z31 f32 e33)] 1) ?_
 refine lE (J b18.Start) ?_
 refine q (bool (a1.Start != b18.Start)) ?_
 refine nl ?_
 rcases oite h with ⟨hc36,h⟩ | ⟨hc36,h⟩
 ·refine cT hc36 ?_
  refine sr ?_
  refine q (bool false) ?_
  refine nl ?_
  cases h
  exact AW.ret ⟨rfl,_,_,rfl,rfl⟩
 refine cF hc36 ?_
 refine AW.skip ?_
 refine AW.seq ?_
 refine sr ?_
 refine q (eptr [(J a1.Stack),(J a1.Start),(sl z2 f3 e4),(sl z6 f7 e8),(sl z10 f11 e12),(sl z14 f15 e16)] 2) ?_
 refine lE (sl z2 f3 e4) ?_
 refine q (eptr [(J b18.Stack),(J b18.Start),(sl z19 f20 e21),(sl z23 f24 e25),(sl z27 f28 e29),(sl z31 f32 e33)] 2) ?_
 refine lE (sl z19 f20 e21) ?_
 obtain ⟨y37,h38,h⟩:=obind h
 refine cP (laws_eqBoolS_ok h5 h22 h38 hWF) ?_
 intro _ o40 h39
 cases h39
 refine q (bool (!y37)) ?_
 refine nl ?_
 rcases oite h with ⟨hc41,h⟩ | ⟨hc41,h⟩
 ·refine cT hc41 ?_
  refine sr ?_
  refine q (bool false) ?_
  refine nl ?_
  cases h
  exact AW.ret ⟨rfl,_,_,rfl,rfl⟩
 refine cF hc41 ?_
 refine AW.skip ?_
 refine AW.seq ?_
 refine sr ?_
 refine q (eptr [(J a1.Stack),(J a1.Start),(sl z2 f3 e4),(sl z6 f7 e8),(sl z10 f11 e12),(sl z14 f15 e16)] 3) ?_
 refine lE (sl z6 f7 e8) ?_
 refine q (eptr [(J b18.Stack),(J b18.Start),(sl z19 f20 e21),(sl z23 f24 e25),(sl z27 f28 e29),(sl z31 f32 e33)] 3) ?_
 refine lE (sl z23 f24 e25) ?_
 obtain ⟨y42,h43,h⟩:=obind h
 refine cP (laws_eqPushSS_ok h9 h26 h43 hWF) ?_
 intro _ o45 h44
 cases h44
 refine q (bool (!y42)) ?_
 refine nl ?_
 rcases oite h with ⟨hc46,h⟩ | ⟨hc46,h⟩
 ·refine cT hc46 ?_
  refine sr ?_
  refine q (bool false) ?_
  refine nl ?_
  cases h
  exact AW.ret ⟨rfl,_,_,rfl,rfl⟩
 refine cF hc46 ?_
 refine AW.skip ?_
 refine AW.seq ?_
 refine sr ?_
 refine q (eptr [(J a1.Stack),(J a1.Start),(sl z2 f3 e4),(sl z6 f7 e8),(sl z10 f11 e12),(sl z14 f15 e16)] 4) ?_
 refine lE (sl z10 f11 e12) ?_
 refine q (eptr [(J b18.Stack),(J b18.Start),(sl z19 f20 e21),(sl z23 f24 e25),(sl z27 f28 e29),(sl z31 f32 e33)] 4) ?_
 refine lE (sl z27 f28 e29) ?_
 obtain ⟨y47,h48,h⟩:=obind h
 refine cP (laws_eqInt64SSS_ok h13 h30 h48 hWF) ?_
 intro _ o50 h49
 cases h49
 refine q (bool (!y47)) ?_
 refine nl ?_
 rcases oite h with ⟨hc51,h⟩ | ⟨hc51,h⟩
 ·refine cT hc51 ?_
  refine sr ?_
  refine q (bool false) ?_
  refine nl ?_
  cases h
  exact AW.ret ⟨rfl,_,_,rfl,rfl⟩
 refine cF hc51 ?_
 refine AW.skip ?_
 refine AW.seq ?_
 refine sr ?_
 refine q (eptr [(J a1.Stack),(J a1.Start),(sl z2 f3 e4),(sl z6 f7 e8),(sl z10 f11 e12),(sl z14 f15 e16)] 5) ?_
 refine lE (sl z14 f15 e16) ?_
 refine q (eptr [(J b18.Stack),(J b18.Start),(sl z19 f20 e21),(sl z23 f24 e25),(sl z27 f28 e29),(sl z31 f32 e33)] 5) ?_
 refine lE (sl z31 f32 e33) ?_
 obtain ⟨y52,h53,h⟩:=obind h
 refine cP (laws_eqInt64SS_ok h17 h34 h53 hWF) ?_
 intro _ o55 h54
 cases h54
 refine q (bool (!y52)) ?_
 refine nl ?_
 rcases oite h with ⟨hc56,h⟩ | ⟨hc56,h⟩
 ·refine cT hc56 ?_
  refine sr ?_
  refine q (bool false) ?_
  refine nl ?_
  cases h
  exact AW.ret ⟨rfl,_,_,rfl,rfl⟩
 refine cF hc56 ?_
 refine AW.skip ?_
 refine sr ?_
 refine q (bool true) ?_
 refine nl ?_
 cases h
 exact AW.ret ⟨rfl,_,_,rfl,rfl⟩
theorem laws_eqStringS_ok {a1 b6:List (List UInt8)} {z2 z7:Nat} {f3 f8:Bool} {e4 e9:List AV} {s:St} (h5:LR rS 1 a1 z2 e4) (h10:LR rS 1 b6 z7 e9) {r:Bool} (h:laws_eqStringS a1 b6=some r) (hs:WF s):ACall Cf 24 [(sl z2 f3 e4),(sl z7 f8 e9)] s fun v _ s'=>(rB) r v∧s'=s:=by
 refine ACall.pure rfl rfl rfl .B ?_
 have hWF:=hs.lo'
 unfold laws_eqStringS at h
 refine sr ?_
 refine q (bool false) ?_
 refine nl ?_
 refine AW.seq ?_
 refine sr ?_
 refine q (sl z2 f3 e4) ?_
 refine AOps.p rfl (len_eq h5) ?_
 refine q (sl z7 f8 e9) ?_
 refine AOps.p rfl (len_eq h10) ?_
 refine q (bool ((a1.length:Int) != (b6.length:Int))) ?_
 refine nl ?_
 rcases oite h with ⟨hc11,h⟩ | ⟨hc11,h⟩
 ·refine cT hc11 ?_
  refine sr ?_
  refine q (bool false) ?_
  refine nl ?_
  cases h
  exact AW.ret ⟨rfl,_,_,rfl,rfl⟩
 refine cF hc11 ?_
 refine AW.skip ?_
 refine AW.seq ?_
 refine sr ?_
 refine q (J 0) ?_
 refine nl ?_
 refine AW.meet (σ:=Unit) (fun _ tm os=>⟨updL tm [],updL os [],{ s with lo:=s.n }⟩) (fun _=>laws_eqStringS_J1=some r) ?_ ?_
 ·rintro _ tm os h
  unfold laws_eqStringS_J1 at h
  refine sr ?_
  refine q (bool true) ?_
  refine nl ?_
  cases h
  exact AW.ret ⟨rfl,_,_,rfl,rfl⟩
 intro KJ12
 refine AW.block ?_
 refine AW.res [(0,(sl z2 f3 e4)),(1,(sl z7 f8 e9)),(5,(J 0))] [] ⟨rfl,rfl,rfl,trivial⟩ trivial ?_
 refine AW.loopF (σ:=Int) (τ:=Unit) (fun i13 _=>True) (fun i13 _ tm os=>⟨updL tm [(0,(sl z2 f3 e4)),(1,(sl z7 f8 e9)),(5,(J i13))],updL os [],{ s with lo:=s.n }⟩) ?_ (x:=(0)) (y:=()) h trivial
 clear h
 rintro i13 _ tm os - ee1 h hL1 hR1
 unfold laws_eqStringS_S1 at h
 refine AW.seq ?_
 refine sr ?_
 refine q (J i13) ?_
 refine q (sl z2 f3 e4) ?_
 refine AOps.p rfl (len_eq h5) ?_
 refine q (bool (decide ((i13:Int)<(a1.length:Int)))) ?_
 refine nl ?_
 rcases oite h with ⟨hc14,h⟩ | ⟨hc14,h⟩
 ·refine cT hc14 ?_
  refine AW.skip ?_
  refine AW.seq ?_
  refine AW.block ?_
  refine sr ?_
  refine q (sl z2 f3 e4) ?_
  refine q (J i13) ?_
  obtain ⟨x15,h16,h⟩:=obind h
  obtain ⟨v19,h17,h18⟩:=idx_sl h5 h16
  cases h17
  refine AOps.pureR rfl rfl rfl h18 rfl (rfl:_=(eptr [(str x15)] 0)) ?_
  refine lE (str x15) ?_
  refine q (sl z7 f8 e9) ?_
  refine q (J i13) ?_
  obtain ⟨x20,h21,h⟩:=obind h
  obtain ⟨v24,h22,h23⟩:=idx_sl h10 h21
  cases h22
  refine AOps.pureR rfl rfl rfl h23 rfl (rfl:_=(eptr [(str x20)] 0)) ?_
  refine lE (str x20) ?_
  refine q (bool (!(x15 == x20))) ?_
  refine nl ?_
  rcases oite h with ⟨hc25,h⟩ | ⟨hc25,h⟩
  ·refine cT hc25 ?_
   refine sr ?_
   refine q (bool false) ?_
   refine nl ?_
   cases h
   have hr:=hR1 _ rfl
   subst hr
   exact AW.ret ⟨rfl,_,_,rfl,rfl⟩
  refine cF hc25 ?_
  refine AW.skip ?_
  refine AW.inBlock ?_
  refine AW.region ?_
  refine q (J i13) ?_
  refine q (J (IntKind.wrap .i64 (i13+1))) ?_
  refine aq (J (IntKind.wrap .i64 (i13+1))) ?_
  refine nl ?_
  cases h
  exact AW.res [(0,(sl z2 f3 e4)),(1,(sl z7 f8 e9)),(5,(J (IntKind.wrap .i64 (i13+1))))] [] ⟨rfl,rfl,rfl,trivial⟩ trivial (hL1 _ rfl () _ _ trivial)
 refine cF hc14 ?_
 refine AW.exit rfl ?_
 obtain ⟨r26,hm,hx⟩:=omap h
 clear h
 subst hx
 have hx:=hR1 _ rfl
 rw[hx] at hm
 have h:=hm
 exact AW.res [] [] trivial trivial (KJ12 () _ _ h)
theorem laws_eqStream_ok {a1 b22:Stream} {z2 z6 z10 z14 z18 z23 z27 z31 z35 z39:Nat} {f3 f7 f11 f15 f19 f24 f28 f32 f36 f40:Bool} {e4 e8 e12 e16 e20 e25 e29 e33 e37 e41:List AV} {s:St} (h5:LR rB 1 a1.Checker.Accept z2 e4) (h9:LR (rL rPush 2) 1 a1.Checker.Call z6 e8) (h13:LR (rL (rL rJ 1) 1) 1 a1.Checker.Return z10 e12) (h17:LR (rL rJ 1) 1 a1.Checker.Inner z14 e16) (h21:LR rS 1 a1.Pieces z18 e20) (h26:LR rB 1 b22.Checker.Accept z23 e25) (h30:LR (rL rPush 2) 1 b22.Checker.Call z27 e29) (h34:LR (rL (rL rJ 1) 1) 1 b22.Checker.Return z31 e33) (h38:LR (rL rJ 1) 1 b22.Checker.Inner z35 e37) (h42:LR rS 1 b22.Pieces z39 e41) {r:Bool} (h:laws_eqStream a1 b22=some r) (hs:WF s):ACall Cf 10 [(agg [(J a1.Checker.Stack),(J a1.Checker.Start),(sl z2 f3 e4),(sl z6 f7 e8),(sl z10 f11 e12),(sl z14 f15 e16),(sl z18 f19 e20)]),(agg [(J b22.Checker.Stack),(J b22.Checker.Start),(sl z23 f24 e25),(sl z27 f28 e29),(sl z31 f32 e33),(sl z35 f36 e37),(sl z39 f40 e41)])] s fun v _ s'=>(rB) r v∧s'=s:=by
 refine ACall.pure rfl rfl rfl .B ?_
 have hWF:=hs.lo'
 unfold laws_eqStream at h
 refine sr ?_
 refine AOps.makeR rfl rfl rfl rfl rfl rfl (rfl:_=(eptr [(J a1.Checker.Stack),(J a1.Checker.Start),(sl z2 f3 e4),(sl z6 f7 e8),(sl z10 f11 e12),(sl z14 f15 e16),(sl z18 f19 e20)] 0)) ?_
 refine AOps.makeR rfl rfl rfl rfl rfl rfl (rfl:_=(eptr [(J b22.Checker.Stack),(J b22.Checker.Start),(sl z23 f24 e25),(sl z27 f28 e29),(sl z31 f32 e33),(sl z35 f36 e37),(sl z39 f40 e41)] 0)) ?_
 refine q (bool false) ?_
 refine nl ?_
 refine AW.seq ?_
 refine sr ?_
 refine q (eptr [(J a1.Checker.Stack),(J a1.Checker.Start),(sl z2 f3 e4),(sl z6 f7 e8),(sl z10 f11 e12),(sl z14 f15 e16),(sl z18 f19 e20)] 0) ?_
 refine lE (agg [(J a1.Checker.Stack),(J a1.Checker.Start),(sl z2 f3 e4),(sl z6 f7 e8),(sl z10 f11 e12),(sl z14 f15 e16)]) ?_
 refine q (eptr [(J b22.Checker.Stack),(J b22.Checker.Start),(sl z23 f24 e25),(sl z27 f28 e29),(sl z31 f32 e33),(sl z35 f36 e37),(sl z39 f40 e41)] 0) ?_
 refine lE (agg [(J b22.Checker.Stack),(J b22.Checker.Start),(sl z23 f24 e25),(sl z27 f28 e29),(sl z31 f32 e33),(sl z35 f36 e37)]) ?_
 obtain ⟨y43,h44,h⟩:=obind h
 refine cP (laws_eqChecker_ok h5 h9 h13 h17 h26 h30 h34 h38 h44 hWF) ?_
 intro _ o46 h45
 cases h45
 refine q (bool (!y43)) ?_
 refine nl ?_
 rcases oite h with ⟨hc47,h⟩ | ⟨hc47,h⟩
 ·refine cT hc47 ?_
  refine sr ?_
  refine q (bool false) ?_
  refine nl ?_
  cases h
  exact AW.ret ⟨rfl,_,_,rfl,rfl⟩
 refine cF hc47 ?_
 refine AW.skip ?_
 refine AW.seq ?_
 refine sr ?_
 refine q (eptr [(J a1.Checker.Stack),(J a1.Checker.Start),(sl z2 f3 e4),(sl z6 f7 e8),(sl z10 f11 e12),(sl z14 f15 e16),(sl z18 f19 e20)] 6) ?_
 refine lE (sl z18 f19 e20) ?_
 refine q (eptr [(J b22.Checker.Stack),(J b22.Checker.Start),(sl z23 f24 e25),(sl z27 f28 e29),(sl z31 f32 e33),(sl z35 f36 e37),(sl z39 f40 e41)] 6) ?_
 refine lE (sl z39 f40 e41) ?_
 obtain ⟨y48,h49,h⟩:=obind h
 refine cP (laws_eqStringS_ok h21 h42 h49 hWF) ?_
 intro _ o51 h50
 cases h50
 refine q (bool (!y48)) ?_
 refine nl ?_
 rcases oite h with ⟨hc52,h⟩ | ⟨hc52,h⟩
 ·refine cT hc52 ?_
  refine sr ?_
  refine q (bool false) ?_
  refine nl ?_
  cases h
  exact AW.ret ⟨rfl,_,_,rfl,rfl⟩
 refine cF hc52 ?_
 refine AW.skip ?_
 refine sr ?_
 refine q (bool true) ?_
 refine nl ?_
 cases h
 exact AW.ret ⟨rfl,_,_,rfl,rfl⟩
theorem laws_eqDeed_ok {a1 b2:Deed} {s:St} {r:Bool} (h:laws_eqDeed a1 b2=some r) (hs:WF s):ACall Cf 25 [(agg [(J a1.Kind),(J a1.A),(J a1.B)]),(agg [(J b2.Kind),(J b2.A),(J b2.B)])] s fun v _ s'=>(rB) r v∧s'=s:=by
 refine ACall.pure rfl rfl rfl .B ?_
 have hWF:=hs.lo'
 unfold laws_eqDeed at h
 refine sr ?_
 refine AOps.makeR rfl rfl rfl rfl rfl rfl (rfl:_=(eptr [(J a1.Kind),(J a1.A),(J a1.B)] 0)) ?_
 refine AOps.makeR rfl rfl rfl rfl rfl rfl (rfl:_=(eptr [(J b2.Kind),(J b2.A),(J b2.B)] 0)) ?_
 refine q (bool false) ?_
 refine nl ?_
 refine AW.seq ?_
 refine sr ?_
 refine q (eptr [(J a1.Kind),(J a1.A),(J a1.B)] 0) ?_
 refine lE (J a1.Kind) ?_
 refine q (eptr [(J b2.Kind),(J b2.A),(J b2.B)] 0) ?_
 refine lE (J b2.Kind) ?_
 refine q (bool (a1.Kind != b2.Kind)) ?_
 refine nl ?_
 rcases oite h with ⟨hc3,h⟩ | ⟨hc3,h⟩
 ·refine cT hc3 ?_
  refine sr ?_
  refine q (bool false) ?_
  refine nl ?_
  cases h
  exact AW.ret ⟨rfl,_,_,rfl,rfl⟩
 refine cF hc3 ?_
 refine AW.skip ?_
 refine AW.seq ?_
 refine sr ?_
 refine q (eptr [(J a1.Kind),(J a1.A),(J a1.B)] 1) ?_
 refine lE (J a1.A) ?_
 refine q (eptr [(J b2.Kind),(J b2.A),(J b2.B)] 1) ?_
 refine lE (J b2.A) ?_
 refine q (bool (a1.A != b2.A)) ?_
 refine nl ?_
 rcases oite h with ⟨hc4,h⟩ | ⟨hc4,h⟩
 ·refine cT hc4 ?_
  refine sr ?_
  refine q (bool false) ?_
  refine nl ?_
  cases h
  exact AW.ret ⟨rfl,_,_,rfl,rfl⟩
 refine cF hc4 ?_
 refine AW.skip ?_
 refine AW.seq ?_
 refine sr ?_
 refine q (eptr [(J a1.Kind),(J a1.A),(J a1.B)] 2) ?_
 refine lE (J a1.B) ?_
 refine q (eptr [(J b2.Kind),(J b2.A),(J b2.B)] 2) ?_
 refine lE (J b2.B) ?_
 refine q (bool (a1.B != b2.B)) ?_
 refine nl ?_
 rcases oite h with ⟨hc5,h⟩ | ⟨hc5,h⟩
 ·refine cT hc5 ?_
  refine sr ?_
  refine q (bool false) ?_
  refine nl ?_
  cases h
  exact AW.ret ⟨rfl,_,_,rfl,rfl⟩
 refine cF hc5 ?_
 refine AW.skip ?_
 refine sr ?_
 refine q (bool true) ?_
 refine nl ?_
 cases h
 exact AW.ret ⟨rfl,_,_,rfl,rfl⟩
end Go.Proofs.YtmahhacghgkigaaGreat.law
