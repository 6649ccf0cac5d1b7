import Derived.Test.YtmahhacghgkigaaGreatAeD
import Derived.Test.YtmahhacghgkigaaGreatAe4
import Derived.Test.YtmahhacghgkigaaGreatAeK1
set_option linter.unusedVariables false
set_option linter.unusedSimpArgs false
namespace Go.Proofs.YtmahhacghgkigaaGreat.law
open Go Go.Proofs Ae
open Ae.AV (int sl eptr agg ptr bool str)
set_option maxRecDepth 100000
set_option linter.unusedVariables false
theorem spec_l08Run_come_F1_ok {p14:Stream} {p125 p126 p137 p138:Int} {p127 p132 p139 p144:List Int} {p149:List Parcel} {p1_55:Parcel} {b2 z5 z9 z13 z17 z21 z28 z33 z40 z45 z50 z56:Nat} {w3:Nat→Bool} {f6 f10 f14 f18 f22 f29 f34 f41 f46 f51 f57:Bool} {e7 e11 e15 e19 e23 e30 e35 e42 e47 e52 e58:List AV} {s:St} (h8:LR rB 1 p14.Checker.Accept z5 e7) (h12:LR (rL rPush 2) 1 p14.Checker.Call z9 e11) (h16:LR (rL (rL rJ 1) 1) 1 p14.Checker.Return z13 e15) (h20:LR (rL rJ 1) 1 p14.Checker.Inner z17 e19) (h24:LR rS 1 p14.Pieces z21 e23) (h31:LR rJ 1 p127 z28 e30) (h36:LR rJ 1 p132 z33 e35) (h43:LR rJ 1 p139 z40 e42) (h48:LR rJ 1 p144 z45 e47) (h53:LR rParcel 2 p149 z50 e52) (h54:f51=true∨w3 9=true) (h59:LR rS 1 p1_55.Texts z56 e58) (hE:HS [b2] false s { s with lo:=s.n } [⟨some b2,[(eptr [(J p14.Checker.Stack),(J p14.Checker.Start),(sl z5 f6 e7),(sl z9 f10 e11),(sl z13 f14 e15),(sl z17 f18 e19),(sl z21 f22 e23)] 0),(J p125),(J p126),(sl z28 f29 e30),(sl z33 f34 e35),(J p137),(J p138),(sl z40 f41 e42),(sl z45 f46 e47),(sl z50 f51 e52)],w3⟩]) {r:Unit × Int × Int × (List Int) × (List Int)} (h:spec_l08Run_come_F1 p14 p125 p126 p127 p132 p137 p138 p139 p144 p149 p1_55=some r) (hs:WF s):ACall Cf 86 [(ptr b2 0),(eptr [(J p1_55.First),(sl z56 f57 e58)] 0)] s fun v _ s'=>(fun (_:Unit)=>rT []) r.1 v∧∃ (w0':Nat→Bool) (z3':Nat) (f3':Bool) (e3':List AV) (z4':Nat) (f4':Bool) (e4':List AV),Fx [b2] s s' [⟨some b2,[(eptr [(J p14.Checker.Stack),(J p14.Checker.Start),(sl z5 f6 e7),(sl z9 f10 e11),(sl z13 f14 e15),(sl z17 f18 e19),(sl z21 f22 e23)] 0),(J r.2.1),(J r.2.2.1),(sl z3' f3' e3'),(sl z4' f4' e4'),(J p137),(J p138),(sl z40 f41 e42),(sl z45 f46 e47),(sl z50 f51 e52)],w0'⟩]∧LR rJ 1 r.2.2.2.1 z3' e3'∧LR rJ 1 r.2.2.2.2 z4' e4'∧(f51=true∨w0' 9=true):=by
 refine ACall.foreign rfl rfl rfl ?_
 unfold spec_l08Run_come_F1 at h
 refine sr ?_
 refine q (ptr b2 0) ?_
 refine q (ptr b2 0) ?_
 refine q (ptr b2 1) ?_
 refine q (ptr b2 1) ?_
 refine aq (ptr b2 1) ?_
 refine nl ?_
 refine AW.seq ?_
 refine sr ?_
 refine q (J 0) ?_
 refine nl ?_
 refine AW.meet (σ:=(List Int) × (Nat→Bool) × Nat × Bool × (List AV) × St) (fun (m61,w60,z62,f63,e64,s67) tm os=>⟨updL tm [(0,(ptr b2 0)),(4,(ptr b2 1))],updL os [],s67⟩) (fun (m61,w60,z62,f63,e64,s67)=>(LR rJ 1 m61 z62 e64)∧(f51=true∨w60 9=true)∧(HS [b2] false s s67 [⟨some b2,[(eptr [(J p14.Checker.Stack),(J p14.Checker.Start),(sl z5 f6 e7),(sl z9 f10 e11),(sl z13 f14 e15),(sl z17 f18 e19),(sl z21 f22 e23)] 0),(J p125),(J p126),(sl z28 f29 e30),(sl z62 f63 e64),(J p137),(J p138),(sl z40 f41 e42),(sl z45 f46 e47),(sl z50 f51 e52)],w60⟩])∧spec_l08Run_come_F1_J1 p14 p125 p126 p127 m61=some r) ?_ ?_
 ·rintro ⟨m61,w60,z62,f63,e64,s67⟩ tm os ⟨h65,h66,hH68,h⟩
  unfold spec_l08Run_come_F1_J1 at h
  refine AW.meet (σ:=Int × Int × (List Int) × (List Int) × (Nat→Bool) × Nat × Bool × (List AV) × Nat × Bool × (List AV) × St) (fun (m71,m72,m73,m78,w70,z74,f75,e76,z79,f80,e81,s84) tm os=>⟨updL tm [],updL os [],s84⟩) (fun (m71,m72,m73,m78,w70,z74,f75,e76,z79,f80,e81,s84)=>(LR rJ 1 m73 z74 e76)∧(LR rJ 1 m78 z79 e81)∧(f51=true∨w70 9=true)∧(HS [b2] false s s84 [⟨some b2,[(eptr [(J p14.Checker.Stack),(J p14.Checker.Start),(sl z5 f6 e7),(sl z9 f10 e11),(sl z13 f14 e15),(sl z17 f18 e19),(sl z21 f22 e23)] 0),(J m71),(J m72),(sl z74 f75 e76),(sl z79 f80 e81),(J p137),(J p138),(sl z40 f41 e42),(sl z45 f46 e47),(sl z50 f51 e52)],w70⟩])∧spec_l08Run_come_F1_J2 m71 m72 m73 m78=some r) ?_ ?_
  ·rintro ⟨m71,m72,m73,m78,w70,z74,f75,e76,z79,f80,e81,s84⟩ tm os ⟨h77,h82,h83,hH85,h⟩
   unfold spec_l08Run_come_F1_J2 at h
   cases h
   exact AW.nil ⟨_,_,rfl,finF (p:=(fun (_:Unit)=>rT []) ()) (Fin.T .nil) ⟨w70,z74,f75,e76,z79,f80,e81,HS.leaveP hH85 [0] rfl,h77,h82,h83⟩⟩
  intro KJ86
  refine AW.block ?_
  refine AW.res [(0,(ptr b2 0)),(4,(ptr b2 1))] [] ⟨rfl,rfl,trivial⟩ trivial ?_
  refine AW.loopF (σ:=Int × Int × (List Int) × (List Int)) (τ:=(Nat→Bool) × Nat × Bool × (List AV) × Nat × Bool × (List AV) × St) (fun (m88,m89,m90,m95) (w87,z91,f92,e93,z96,f97,e98,s101)=>(LR rJ 1 m90 z91 e93)∧(LR rJ 1 m95 z96 e98)∧(f51=true∨w87 9=true)∧(HS [b2] false s s101 [⟨some b2,[(eptr [(J p14.Checker.Stack),(J p14.Checker.Start),(sl z5 f6 e7),(sl z9 f10 e11),(sl z13 f14 e15),(sl z17 f18 e19),(sl z21 f22 e23)] 0),(J m88),(J m89),(sl z91 f92 e93),(sl z96 f97 e98),(J p137),(J p138),(sl z40 f41 e42),(sl z45 f46 e47),(sl z50 f51 e52)],w87⟩])) (fun (m88,m89,m90,m95) (w87,z91,f92,e93,z96,f97,e98,s101) tm os=>⟨updL tm [(0,(ptr b2 0)),(4,(ptr b2 1))],updL os [],s101⟩) ?_ (x:=(p125,p126,p127,m61)) (y:=(w60,z28,f29,e30,z62,f63,e64,s67)) h ⟨h31,h65,h66,(HS.sel hH68 [some 0] (by decide))⟩
  clear h
  rintro ⟨m88,m89,m90,m95⟩ ⟨w87,z91,f92,e93,z96,f97,e98,s101⟩ tm os ⟨h94,h99,h100,hH102⟩ ee1 h hL1 hR1
  unfold spec_l08Run_come_F1_S1 at h
  dsimp only at h
  refine AW.seq ?_
  refine sr ?_
  refine q (ptr b2 1) ?_
  refine q (ptr b2 1) ?_
  refine q (ptr b2 4) ?_
  refine AOps.ldB (i:=0) (v:=(sl z96 f97 e98)) hH102 rfl rfl rfl rfl rfl rfl rfl rfl rfl ?_
  refine AOps.p rfl (len_eq h99) ?_
  refine q (bool (decide (((m95.length:Int):Int)>0))) ?_
  refine q (bool (decide (((m95.length:Int):Int)>0))) ?_
  obtain ⟨b104,hb,h⟩:=obind h
  refine AOps.split 12 (fun f'=>∃ tm' os',f'=⟨updL tm' [(0,(ptr b2 0)),(4,(ptr b2 1)),(69,(bool b104))],updL os' [],s101⟩) ?_ ?_
  ·rcases oite hb with ⟨hc103,hb⟩ | ⟨hc103,hb⟩
   ·have h:=hb
    refine kn 57 hc103 ?_
    refine q (ptr b2 1) ?_
    refine q (ptr b2 1) ?_
    refine q (ptr b2 4) ?_
    refine AOps.ldB (i:=0) (v:=(sl z96 f97 e98)) hH102 rfl rfl rfl rfl rfl rfl rfl rfl rfl ?_
    obtain ⟨x105,h106,h⟩:=obind h
    obtain ⟨v109,h107,h108⟩:=idx_sl h99 h106
    cases h107
    refine AOps.pureR rfl rfl rfl h108 rfl (rfl:_=(eptr [(J x105)] 0)) ?_
    refine lE (J x105) ?_
    refine q (ptr b2 1) ?_
    refine q (ptr b2 1) ?_
    refine q (ptr b2 1) ?_
    refine AOps.ldB (i:=0) (v:=(J m88)) hH102 rfl rfl rfl rfl rfl rfl rfl rfl rfl ?_
    refine q (bool (x105 == m88)) ?_
    refine q (bool (x105 == m88)) ?_
    exact rR ⟨rfl,rfl,congrArg bool (Option.some.inj h),trivial⟩
   ·refine kn 57 hc103 ?_
    refine sk ?_
    refine sk ?_
    refine sk ?_
    refine sk ?_
    refine sk ?_
    refine sk ?_
    refine sk ?_
    refine sk ?_
    refine sk ?_
    refine sk ?_
    refine sk ?_
    refine q (bool false) ?_
    exact rR ⟨rfl,rfl,congrArg bool (Option.some.inj hb),trivial⟩
  rintro _ ⟨tm,os,rfl⟩
  refine nl ?_
  rcases oite h with ⟨hc110,h⟩ | ⟨hc110,h⟩
  ·refine cT hc110 ?_
   refine AW.skip ?_
   refine AW.block ?_
   refine sr ?_
   refine q (ptr b2 1) ?_
   refine q (ptr b2 1) ?_
   refine q (ptr b2 0) ?_
   refine q (ptr b2 0) ?_
   refine q (ptr b2 0) ?_
   refine AOps.ldB (i:=0) (v:=(eptr [(J p14.Checker.Stack),(J p14.Checker.Start),(sl z5 f6 e7),(sl z9 f10 e11),(sl z13 f14 e15),(sl z17 f18 e19),(sl z21 f22 e23)] 0)) hH102 rfl rfl rfl rfl rfl rfl rfl rfl rfl ?_
   refine q (eptr [(J p14.Checker.Stack),(J p14.Checker.Start),(sl z5 f6 e7),(sl z9 f10 e11),(sl z13 f14 e15),(sl z17 f18 e19),(sl z21 f22 e23)] 0) ?_
   refine q (eptr [(J p14.Checker.Stack),(J p14.Checker.Start),(sl z5 f6 e7),(sl z9 f10 e11),(sl z13 f14 e15),(sl z17 f18 e19),(sl z21 f22 e23)] 0) ?_
   refine q (ptr b2 1) ?_
   refine q (ptr b2 1) ?_
   refine q (ptr b2 2) ?_
   refine AOps.ldB (i:=0) (v:=(J m89)) hH102 rfl rfl rfl rfl rfl rfl rfl rfl rfl ?_
   refine q (ptr b2 1) ?_
   refine q (ptr b2 1) ?_
   refine q (ptr b2 3) ?_
   refine AOps.ldB (i:=0) (v:=(sl z91 f92 e93)) hH102 rfl rfl rfl rfl rfl rfl rfl rfl rfl ?_
   obtain ⟨y111,h112,h⟩:=obind h
   refine AOps.callDPO (g:=85) (args:=[(sl z91 f92 e93)]) (p:=(rL rJ 1) y111) rfl rfl rfl (spec_l00Own_okO h94 h112 ((HS.wf' hH102).still)) (fun v hv=>Nice.pure (k:=FINK) (p:=(rL rJ 1) y111) (.L fun _=>.I) _ v hv) ?_
   intro _ h113
   obtain ⟨z114,f115,e116,rfl,h117⟩:=h113
   refine q (ptr b2 0) ?_
   refine q (ptr b2 0) ?_
   refine q (ptr b2 0) ?_
   refine AOps.ldB (i:=0) (v:=(eptr [(J p14.Checker.Stack),(J p14.Checker.Start),(sl z5 f6 e7),(sl z9 f10 e11),(sl z13 f14 e15),(sl z17 f18 e19),(sl z21 f22 e23)] 0)) hH102 rfl rfl rfl rfl rfl rfl rfl rfl rfl ?_
   refine q (eptr [(J p14.Checker.Stack),(J p14.Checker.Start),(sl z5 f6 e7),(sl z9 f10 e11),(sl z13 f14 e15),(sl z17 f18 e19),(sl z21 f22 e23)] 0) ?_
   refine q (eptr [(J p14.Checker.Stack),(J p14.Checker.Start),(sl z5 f6 e7),(sl z9 f10 e11),(sl z13 f14 e15),(sl z17 f18 e19),(sl z21 f22 e23)] 6) ?_
   refine lE (sl z21 f22 e23) ?_
   refine q (ptr b2 1) ?_
   refine q (ptr b2 1) ?_
   refine q (ptr b2 1) ?_
   refine AOps.ldB (i:=0) (v:=(J m88)) hH102 rfl rfl rfl rfl rfl rfl rfl rfl rfl ?_
   obtain ⟨x119,h120,h⟩:=obind h
   obtain ⟨v123,h121,h122⟩:=idx_sl h24 h120
   cases h121
   refine AOps.pureR rfl rfl rfl h122 rfl (rfl:_=(eptr [(str x119)] 0)) ?_
   refine lE (str x119) ?_
   obtain ⟨y124,h125,h⟩:=obind h
   refine AOps.callDP (g:=109) (args:=[(eptr [(J p14.Checker.Stack),(J p14.Checker.Start),(sl z5 f6 e7),(sl z9 f10 e11),(sl z13 f14 e15),(sl z17 f18 e19),(sl z21 f22 e23)] 0),(J m89),(sl z114 f115 e116),(str x119)]) (p:=(fun x=>rT [rJ x.1,(rL rJ 1) x.2]) y124) rfl rfl rfl (spec_l02Go_w0_7ppp_ok (s:=St.still s101) h8 h12 h16 h20 h117 h125 ((HS.wf' hH102).still)) (fun v hv=>Nice.pure (k:=FINK) (p:=(fun x=>rT [rJ x.1,(rL rJ 1) x.2]) y124) (.T (.cons .I (.cons (.L fun _=>.I) .nil))) _ v hv) ?_
   intro _ o136 h126
   obtain ⟨_,rfl,h127⟩:=h126
   obtain ⟨_,_,rfl,h128,h129⟩:=Cs_cons h127
   cases h128
   obtain ⟨_,_,rfl,h130,h131⟩:=Cs_cons h129
   obtain ⟨z132,f133,e134,rfl,h135⟩:=h130
   cases Cs_nil h131
   refine q (AV.tup [(J y124.1),(sl z132 f133 e134)]) ?_
   refine q (J y124.1) ?_
   refine q (sl z132 f133 e134) ?_
   refine q (ptr b2 1) ?_
   refine q (ptr b2 2) ?_
   refine AOps.stX (i:=0) (v:=(J y124.1)) hH102 rfl rfl rfl rfl rfl rfl rfl rfl rfl (lt_b rfl) (le_b rfl) rfl rfl ?_
   intro w137 s138 h139 h140 hH141
   refine q (ptr b2 1) ?_
   refine q (ptr b2 3) ?_
   refine AOps.stX (i:=0) (v:=(sl z132 f133 e134)) hH141 rfl rfl rfl rfl rfl rfl rfl rfl rfl (lt_b rfl) (le_b rfl) rfl (Nice.pure (k:=FINK) (p:=(rL rJ 1) y124.2) (.L fun _=>.I) 0 _ ⟨_,_,_,rfl,h135⟩) ?_
   intro w142 s143 h144 h145 hH146
   refine ns ?_
   refine q (ptr b2 1) ?_
   refine q (ptr b2 1) ?_
   refine q (ptr b2 1) ?_
   refine q (ptr b2 4) ?_
   refine AOps.ldB (i:=0) (v:=(sl z96 f97 e98)) hH146 rfl rfl rfl rfl rfl rfl rfl rfl rfl ?_
   obtain ⟨l147,h148,h⟩:=obind h
   obtain ⟨f149,e150,h151,h152⟩:=cut_slL f97 h99 h148
   refine AOps.pureR rfl rfl rfl h152 rfl (rfl:_=(sl z96 f149 e150)) ?_
   obtain ⟨y153,h154,h⟩:=obind h
   refine AOps.callPO (g:=85) (args:=[(sl z96 f149 e150)]) (p:=(rL rJ 1) y153) rfl rfl rfl (spec_l00Own_okO h151 h154 (HS.wf' hH146)) ?_
   intro _ h155
   obtain ⟨z156,f157,e158,rfl,h159⟩:=h155
   refine q (ptr b2 1) ?_
   refine q (ptr b2 4) ?_
   refine AOps.stX (i:=0) (v:=(sl z156 f157 e158)) hH146 rfl rfl rfl rfl rfl rfl rfl rfl rfl (lt_b rfl) (le_b rfl) rfl (Nice.pure (k:=FINK) (p:=(rL rJ 1) y153) (.L fun _=>.I) 0 _ ⟨_,_,_,rfl,h159⟩) ?_
   intro w161 s162 h163 h164 hH165
   refine nl ?_
   refine AW.region ?_
   refine q (ptr b2 1) ?_
   refine q (ptr b2 1) ?_
   refine q (ptr b2 1) ?_
   refine AOps.ldB (i:=0) (v:=(J m88)) hH165 rfl rfl rfl rfl rfl rfl rfl rfl rfl ?_
   refine q (J (IntKind.wrap .i64 (m88+1))) ?_
   refine q (ptr b2 1) ?_
   refine q (ptr b2 1) ?_
   refine AOps.stX (i:=0) (v:=(J (IntKind.wrap .i64 (m88+1)))) hH165 rfl rfl rfl rfl rfl rfl rfl rfl rfl (lt_b rfl) (le_b rfl) rfl rfl ?_
   intro w166 s167 h168 h169 hH170
   refine nl ?_
   refine AW.inBlock ?_
   cases h
   exact AW.res [(0,(ptr b2 0)),(4,(ptr b2 1))] [] ⟨rfl,rfl,trivial⟩ trivial (hL1 _ rfl (w166,z132,f133,e134,z156,f157,e158,s167) _ _ ⟨h135,h159,(own_keep (own_keep (own_keep (own_keep h100 (h139 _ (by decide))) (h144 _ (by decide))) (h163 _ (by decide))) (h168 _ (by decide))),(HS.sel hH170 [some 0] (by decide))⟩)
  refine cF hc110 ?_
  refine AW.exit rfl ?_
  obtain ⟨r171,hm,hx⟩:=omap h
  clear h
  subst hx
  have hx:=hR1 _ rfl
  rw[hx] at hm
  have h:=hm
  exact AW.res [] [] trivial trivial (KJ86 (m88,m89,m90,m95,w87,z91,f92,e93,z96,f97,e98,s101) _ _ ⟨h94,h99,h100,(HS.sel hH102 [some 0] (by decide)),h⟩)
 intro KJ69
 refine AW.block ?_
 refine AW.res [(0,(ptr b2 0)),(1,(eptr [(J p1_55.First),(sl z56 f57 e58)] 0)),(4,(ptr b2 1)),(5,(J 0))] [] ⟨rfl,rfl,rfl,rfl,trivial⟩ trivial ?_
 refine AW.loopF (σ:=(List Int) × Int) (τ:=(Nat→Bool) × Nat × Bool × (List AV) × St) (fun (m173,t179) (w172,z174,f175,e176,s180)=>(LR rJ 1 m173 z174 e176)∧(f51=true∨w172 9=true)∧(HS [b2] false s s180 [⟨some b2,[(eptr [(J p14.Checker.Stack),(J p14.Checker.Start),(sl z5 f6 e7),(sl z9 f10 e11),(sl z13 f14 e15),(sl z17 f18 e19),(sl z21 f22 e23)] 0),(J p125),(J p126),(sl z28 f29 e30),(sl z174 f175 e176),(J p137),(J p138),(sl z40 f41 e42),(sl z45 f46 e47),(sl z50 f51 e52)],w172⟩])) (fun (m173,t179) (w172,z174,f175,e176,s180) tm os=>⟨updL tm [(0,(ptr b2 0)),(1,(eptr [(J p1_55.First),(sl z56 f57 e58)] 0)),(4,(ptr b2 1)),(5,(J t179))],updL os [],s180⟩) ?_ (x:=(p132,0)) (y:=(w3,z33,f34,e35,{ s with lo:=s.n })) h ⟨h36,h54,(HS.sel hE [some 0] (by decide))⟩
 clear h
 rintro ⟨m173,t179⟩ ⟨w172,z174,f175,e176,s180⟩ tm os ⟨h177,h178,hH181⟩ ee1 h hL1 hR1
 unfold spec_l08Run_come_F1_S2 at h
 dsimp only at h
 refine AW.seq ?_
 refine sr ?_
 refine q (J t179) ?_
 refine q (eptr [(J p1_55.First),(sl z56 f57 e58)] 0) ?_
 refine q (eptr [(J p1_55.First),(sl z56 f57 e58)] 0) ?_
 refine q (eptr [(J p1_55.First),(sl z56 f57 e58)] 1) ?_
 refine lE (sl z56 f57 e58) ?_
 refine AOps.p rfl (len_eq h59) ?_
 refine q (bool (decide ((t179:Int)<(p1_55.Texts.length:Int)))) ?_
 refine nl ?_
 rcases oite h with ⟨hc182,h⟩ | ⟨hc182,h⟩
 ·refine cT hc182 ?_
  refine AW.skip ?_
  refine AW.seq ?_
  refine AW.block ?_
  refine sr ?_
  refine q (eptr [(J p1_55.First),(sl z56 f57 e58)] 0) ?_
  refine q (eptr [(J p1_55.First),(sl z56 f57 e58)] 0) ?_
  refine q (eptr [(J p1_55.First),(sl z56 f57 e58)] 0) ?_
  refine lE (J p1_55.First) ?_
  refine q (J t179) ?_
  refine q (J (IntKind.wrap .i64 (p1_55.First+t179))) ?_
  refine aq (J (IntKind.wrap .i64 (p1_55.First+t179))) ?_
  refine ns ?_
  refine q (J (IntKind.wrap .i64 (p1_55.First+t179))) ?_
  refine q (ptr b2 1) ?_
  refine q (ptr b2 1) ?_
  refine q (ptr b2 1) ?_
  refine AOps.ldB (i:=0) (v:=(J p125)) hH181 rfl rfl rfl rfl rfl rfl rfl rfl rfl ?_
  refine q (bool (decide ((IntKind.wrap .i64 (p1_55.First+t179):Int)≥p125))) ?_
  refine q (bool (decide ((IntKind.wrap .i64 (p1_55.First+t179):Int)≥p125))) ?_
  obtain ⟨b184,hb,h⟩:=obind h
  refine AOps.split 8 (fun f'=>∃ tm' os',f'=⟨updL tm' [(0,(ptr b2 0)),(1,(eptr [(J p1_55.First),(sl z56 f57 e58)] 0)),(4,(ptr b2 1)),(5,(J t179)),(6,(J (IntKind.wrap .i64 (p1_55.First+t179)))),(40,(bool b184))],updL os' [],s180⟩) ?_ ?_
  ·rcases oite hb with ⟨hc183,hb⟩ | ⟨hc183,hb⟩
   ·have h:=hb
    refine kn 32 hc183 ?_
    refine q (ptr b2 1) ?_
    refine q (ptr b2 1) ?_
    refine q (ptr b2 4) ?_
    refine AOps.ldB (i:=0) (v:=(sl z174 f175 e176)) hH181 rfl rfl rfl rfl rfl rfl rfl rfl rfl ?_
    refine q (J (IntKind.wrap .i64 (p1_55.First+t179))) ?_
    obtain ⟨y185,h186,h⟩:=obind h
    refine cP (spec_l00Has_ok h177 h186 (HS.wf' hH181)) ?_
    intro _ o188 h187
    cases h187
    refine q (bool (!y185)) ?_
    refine q (bool (!y185)) ?_
    exact rR ⟨rfl,rfl,rfl,rfl,rfl,congrArg bool (Option.some.inj h),trivial⟩
   ·refine kn 32 hc183 ?_
    refine sk ?_
    refine sk ?_
    refine sk ?_
    refine sk ?_
    refine sk ?_
    refine sk ?_
    refine sk ?_
    refine q (bool false) ?_
    exact rR ⟨rfl,rfl,rfl,rfl,rfl,congrArg bool (Option.some.inj hb),trivial⟩
  rintro _ ⟨tm,os,rfl⟩
  refine nl ?_
  refine AW.meet (σ:=(List Int) × (Nat→Bool) × Nat × Bool × (List AV) × St) (fun (m190,w189,z191,f192,e193,s196) tm os=>⟨updL tm [(0,(ptr b2 0)),(1,(eptr [(J p1_55.First),(sl z56 f57 e58)] 0)),(4,(ptr b2 1)),(5,(J t179))],updL os [],s196⟩) (fun (m190,w189,z191,f192,e193,s196)=>(LR rJ 1 m190 z191 e193)∧(f51=true∨w189 9=true)∧(HS [b2] false s s196 [⟨some b2,[(eptr [(J p14.Checker.Stack),(J p14.Checker.Start),(sl z5 f6 e7),(sl z9 f10 e11),(sl z13 f14 e15),(sl z17 f18 e19),(sl z21 f22 e23)] 0),(J p125),(J p126),(sl z28 f29 e30),(sl z191 f192 e193),(J p137),(J p138),(sl z40 f41 e42),(sl z45 f46 e47),(sl z50 f51 e52)],w189⟩])∧spec_l08Run_come_F1_J3 t179 m190=some ee1) ?_ ?_
  ·rintro ⟨m190,w189,z191,f192,e193,s196⟩ tm os ⟨h194,h195,hH197,h⟩
   unfold spec_l08Run_come_F1_J3 at h
   refine AW.inBlock ?_
   refine AW.region ?_
   refine q (J t179) ?_
   refine q (J (IntKind.wrap .i64 (t179+1))) ?_
   refine aq (J (IntKind.wrap .i64 (t179+1))) ?_
   refine nl ?_
   cases h
   exact AW.res [(0,(ptr b2 0)),(1,(eptr [(J p1_55.First),(sl z56 f57 e58)] 0)),(4,(ptr b2 1)),(5,(J (IntKind.wrap .i64 (t179+1))))] [] ⟨rfl,rfl,rfl,rfl,trivial⟩ trivial (hL1 _ rfl (w189,z191,f192,e193,s196) _ _ ⟨h194,h195,(HS.sel hH197 [some 0] (by decide))⟩)
  intro KJ198
  rcases oite h with ⟨hc199,h⟩ | ⟨hc199,h⟩
  ·refine cT hc199 ?_
   refine AW.region ?_
   refine q (ptr b2 1) ?_
   refine q (ptr b2 1) ?_
   refine q (ptr b2 1) ?_
   refine q (ptr b2 4) ?_
   refine AOps.ldB (i:=0) (v:=(sl z174 f175 e176)) hH181 rfl rfl rfl rfl rfl rfl rfl rfl rfl ?_
   obtain ⟨y200,h201,h⟩:=obind h
   refine AOps.callPO (g:=85) (args:=[(sl z174 f175 e176)]) (p:=(rL rJ 1) y200) rfl rfl rfl (spec_l00Own_okO h177 h201 (HS.wf' hH181)) ?_
   intro _ h202
   obtain ⟨z203,f204,e205,rfl,h206⟩:=h202
   refine q (J (IntKind.wrap .i64 (p1_55.First+t179))) ?_
   obtain ⟨y208,h209,h⟩:=obind h
   refine cP (spec_l00Put_ok h206 h209 (HS.wf' hH181)) ?_
   intro _ o215 h210
   obtain ⟨z211,f212,e213,rfl,h214⟩:=h210
   refine q (ptr b2 1) ?_
   refine q (ptr b2 4) ?_
   refine AOps.stX (i:=0) (v:=(sl z211 f212 e213)) hH181 rfl rfl rfl rfl rfl rfl rfl rfl rfl (lt_b rfl) (le_b rfl) rfl (Nice.pure (k:=FINK) (p:=(rL rJ 1) y208) (.L fun _=>.I) 0 _ ⟨_,_,_,rfl,h214⟩) ?_
   intro w216 s217 h218 h219 hH220
   refine nl ?_
   exact AW.res [(0,(ptr b2 0)),(1,(eptr [(J p1_55.First),(sl z56 f57 e58)] 0)),(4,(ptr b2 1)),(5,(J t179))] [] ⟨rfl,rfl,rfl,rfl,trivial⟩ trivial (KJ198 (y208,w216,z211,f212,e213,s217) _ _ ⟨h214,(own_keep h178 (h218 _ (by decide))),(HS.sel hH220 [some 0] (by decide)),h⟩)
  refine cF hc199 ?_
  refine AW.skip ?_
  exact AW.res [(0,(ptr b2 0)),(1,(eptr [(J p1_55.First),(sl z56 f57 e58)] 0)),(4,(ptr b2 1)),(5,(J t179))] [] ⟨rfl,rfl,rfl,rfl,trivial⟩ trivial (KJ198 (m173,w172,z174,f175,e176,s180) _ _ ⟨h177,h178,(HS.sel hH181 [some 0] (by decide)),h⟩)
 refine cF hc182 ?_
 refine AW.exit rfl ?_
 obtain ⟨r221,hm,hx⟩:=omap h
 clear h
 subst hx
 have hx:=hR1 _ rfl
 rw[hx] at hm
 have h:=hm
 exact AW.res [(0,(ptr b2 0)),(4,(ptr b2 1))] [] ⟨rfl,rfl,trivial⟩ trivial (KJ69 (m173,w172,z174,f175,e176,s180) _ _ ⟨h177,h178,(HS.sel hH181 [some 0] (by decide)),h⟩)
theorem spec_l08Run_wire_F1_ok {r14:Stream} {r125 r126 r137 r138:Int} {r127 r132 r139 r144:List Int} {r149:List Parcel} {d55:Deed} {b2 z5 z9 z13 z17 z21 z28 z33 z40 z45 z50:Nat} {w3:Nat→Bool} {f6 f10 f14 f18 f22 f29 f34 f41 f46 f51:Bool} {e7 e11 e15 e19 e23 e30 e35 e42 e47 e52:List AV} {s:St} (h8:LR rB 1 r14.Checker.Accept z5 e7) (h12:LR (rL rPush 2) 1 r14.Checker.Call z9 e11) (h16:LR (rL (rL rJ 1) 1) 1 r14.Checker.Return z13 e15) (h20:LR (rL rJ 1) 1 r14.Checker.Inner z17 e19) (h24:LR rS 1 r14.Pieces z21 e23) (h31:LR rJ 1 r127 z28 e30) (h36:LR rJ 1 r132 z33 e35) (h43:LR rJ 1 r139 z40 e42) (h48:LR rJ 1 r144 z45 e47) (h53:LR rParcel 2 r149 z50 e52) (h54:f51=true∨w3 9=true) (hE:HS [b2] false s { s with lo:=s.n } [⟨some b2,[(eptr [(J r14.Checker.Stack),(J r14.Checker.Start),(sl z5 f6 e7),(sl z9 f10 e11),(sl z13 f14 e15),(sl z17 f18 e19),(sl z21 f22 e23)] 0),(J r125),(J r126),(sl z28 f29 e30),(sl z33 f34 e35),(J r137),(J r138),(sl z40 f41 e42),(sl z45 f46 e47),(sl z50 f51 e52)],w3⟩]) {r:Int × Int × Int × (List Int) × (List Int) × (List Parcel)} (h:spec_l08Run_wire_F1 r14 r125 r126 r127 r132 r137 r138 r139 r144 r149 d55=some r) (hs:WF s):ACall Cf 61 [(ptr b2 0),(agg [(J d55.Kind),(J d55.A),(J d55.B)])] s fun v _ s'=>rJ r.1 v∧∃ (w0':Nat→Bool) (z3':Nat) (f3':Bool) (e3':List AV) (z4':Nat) (f4':Bool) (e4':List AV) (z9':Nat) (f9':Bool) (e9':List AV),Fx [b2] s s' [⟨some b2,[(eptr [(J r14.Checker.Stack),(J r14.Checker.Start),(sl z5 f6 e7),(sl z9 f10 e11),(sl z13 f14 e15),(sl z17 f18 e19),(sl z21 f22 e23)] 0),(J r.2.1),(J r.2.2.1),(sl z3' f3' e3'),(sl z4' f4' e4'),(J r137),(J r138),(sl z40 f41 e42),(sl z45 f46 e47),(sl z9' f9' e9')],w0'⟩]∧LR rJ 1 r.2.2.2.1 z3' e3'∧LR rJ 1 r.2.2.2.2.1 z4' e4'∧LR rParcel 2 r.2.2.2.2.2 z9' e9'∧(f9'=true∨w0' 9=true):=by
 refine ACall.foreign rfl rfl rfl ?_
 unfold spec_l08Run_wire_F1 at h
 refine sr ?_
 refine AOps.makeR rfl rfl rfl rfl rfl rfl (rfl:_=(eptr [(J d55.Kind),(J d55.A),(J d55.B)] 0)) ?_
 refine q (J 0) ?_
 refine nl ?_
 refine AW.seq ?_
 refine sr ?_
 refine q (eptr [(J d55.Kind),(J d55.A),(J d55.B)] 1) ?_
 refine lE (J d55.A) ?_
 refine q (ptr b2 0) ?_
 refine q (ptr b2 0) ?_
 refine q (ptr b2 1) ?_
 refine q (ptr b2 9) ?_
 refine AOps.ldB (i:=0) (v:=(sl z50 f51 e52)) hE rfl rfl rfl rfl rfl rfl rfl rfl rfl ?_
 refine AOps.p rfl (len_eq h53) ?_
 refine q (bool (decide ((d55.A:Int)≥(r149.length:Int)))) ?_
 refine nl ?_
 rcases oite h with ⟨hc56,h⟩ | ⟨hc56,h⟩
 ·refine cT hc56 ?_
  refine sr ?_
  refine q (J 2) ?_
  refine nl ?_
  obtain rfl:=Option.some.inj h
  exact AW.ret ⟨_,_,rfl,finF (p:=rJ 2) (Fin.of (p:=rJ 2) .I rfl) ⟨w3,z28,f29,e30,z33,f34,e35,z50,f51,e52,HS.leaveP hE [0] rfl,h31,h36,h53,h54⟩⟩
 refine cF hc56 ?_
 refine AW.skip ?_
 refine sr ?_
 refine q (ptr b2 0) ?_
 refine q (ptr b2 0) ?_
 refine q (ptr b2 1) ?_
 refine q (ptr b2 9) ?_
 refine AOps.ldB (i:=0) (v:=(sl z50 f51 e52)) hE rfl rfl rfl rfl rfl rfl rfl rfl rfl ?_
 refine q (eptr [(J d55.Kind),(J d55.A),(J d55.B)] 1) ?_
 refine lE (J d55.A) ?_
 obtain ⟨x57,h58,h⟩:=obind h
 obtain ⟨v61,h59,h60⟩:=idx_sl h53 h58
 obtain ⟨_,rfl,h62⟩:=h59
 obtain ⟨_,_,rfl,h63,h64⟩:=Cs_cons h62
 cases h63
 obtain ⟨_,_,rfl,h65,h66⟩:=Cs_cons h64
 obtain ⟨z67,f68,e69,rfl,h70⟩:=h65
 cases Cs_nil h66
 refine AOps.pureR rfl rfl rfl h60 rfl (rfl:_=(eptr [(J x57.First),(sl z67 f68 e69)] 0)) ?_
 refine lE (agg [(J x57.First),(sl z67 f68 e69)]) ?_
 refine AOps.allocP rfl rfl rfl rfl ⟨rfl,rfl⟩ rfl ?_
 refine AOps.stP (v:=(agg [(J x57.First),(sl z67 f68 e69)])) rfl rfl rfl rfl rfl rfl rfl rfl rfl (lt_b rfl) rfl ?_
 refine nl ?_
 refine AW.seq ?_
 refine sr ?_
 refine q (eptr [(J d55.Kind),(J d55.A),(J d55.B)] 0) ?_
 refine lE (J d55.Kind) ?_
 refine q (bool (d55.Kind != 4)) ?_
 refine nl ?_
 refine AW.meet (σ:=Int × Int × (List Int) × (List Int) × (Nat→Bool) × Nat × Bool × (List AV) × Nat × Bool × (List AV) × St) (fun (m72,m73,m74,m79,w71,z75,f76,e77,z80,f81,e82,s85) tm os=>⟨updL tm [(0,(ptr b2 0)),(3,(eptr [(J d55.Kind),(J d55.A),(J d55.B)] 0))],updL os [],s85⟩) (fun (m72,m73,m74,m79,w71,z75,f76,e77,z80,f81,e82,s85)=>(LR rJ 1 m74 z75 e77)∧(LR rJ 1 m79 z80 e82)∧(f51=true∨w71 9=true)∧(HS [b2] false s s85 [⟨some b2,[(eptr [(J r14.Checker.Stack),(J r14.Checker.Start),(sl z5 f6 e7),(sl z9 f10 e11),(sl z13 f14 e15),(sl z17 f18 e19),(sl z21 f22 e23)] 0),(J m72),(J m73),(sl z75 f76 e77),(sl z80 f81 e82),(J r137),(J r138),(sl z40 f41 e42),(sl z45 f46 e47),(sl z50 f51 e52)],w71⟩])∧spec_l08Run_wire_F1_J1 r149 d55 m72 m73 m74 m79=some r) ?_ ?_
 ·rintro ⟨m72,m73,m74,m79,w71,z75,f76,e77,z80,f81,e82,s85⟩ tm os ⟨h78,h83,h84,hH86,h⟩
  unfold spec_l08Run_wire_F1_J1 at h
  refine AW.seq ?_
  refine sr ?_
  refine q (eptr [(J d55.Kind),(J d55.A),(J d55.B)] 0) ?_
  refine lE (J d55.Kind) ?_
  refine q (bool (d55.Kind != 3)) ?_
  refine nl ?_
  refine AW.meet (σ:=(List Parcel) × (Nat→Bool) × Nat × Bool × (List AV) × St) (fun (m89,w88,z90,f91,e92,s95) tm os=>⟨updL tm [],updL os [],s95⟩) (fun (m89,w88,z90,f91,e92,s95)=>(LR rParcel 2 m89 z90 e92)∧(f91=true∨w88 9=true)∧(HS [b2] false s s95 [⟨some b2,[(eptr [(J r14.Checker.Stack),(J r14.Checker.Start),(sl z5 f6 e7),(sl z9 f10 e11),(sl z13 f14 e15),(sl z17 f18 e19),(sl z21 f22 e23)] 0),(J m72),(J m73),(sl z75 f76 e77),(sl z80 f81 e82),(J r137),(J r138),(sl z40 f41 e42),(sl z45 f46 e47),(sl z90 f91 e92)],w88⟩])∧spec_l08Run_wire_F1_J2 m72 m73 m74 m79 m89=some r) ?_ ?_
  ·rintro ⟨m89,w88,z90,f91,e92,s95⟩ tm os ⟨h93,h94,hH96,h⟩
   unfold spec_l08Run_wire_F1_J2 at h
   refine sr ?_
   refine q (J 0) ?_
   refine nl ?_
   obtain rfl:=Option.some.inj h
   exact AW.ret ⟨_,_,rfl,finF (p:=rJ 0) (Fin.of (p:=rJ 0) .I rfl) ⟨w88,z75,f76,e77,z80,f81,e82,z90,f91,e92,HS.leaveP hH96 [0] rfl,h78,h83,h93,h94⟩⟩
  intro KJ97
  rcases oite h with ⟨hc98,h⟩ | ⟨hc98,h⟩
  ·refine cT hc98 ?_
   refine sr ?_
   refine AOps.makeR rfl rfl rfl rfl rfl rfl (rfl:_=(sl 2 true [])) ?_
   refine q (ptr b2 0) ?_
   refine q (ptr b2 0) ?_
   refine q (ptr b2 1) ?_
   refine q (ptr b2 9) ?_
   refine AOps.ldB (i:=0) (v:=(sl z50 f51 e52)) hH86 rfl rfl rfl rfl rfl rfl rfl rfl rfl ?_
   refine q (eptr [(J d55.Kind),(J d55.A),(J d55.B)] 1) ?_
   refine lE (J d55.A) ?_
   refine q (J (IntKind.wrap .i64 (d55.A+1))) ?_
   obtain ⟨l99,h100,h⟩:=obind h
   obtain ⟨f101,e102,h103,h104⟩:=cut_slL f51 h53 h100
   refine AOps.pureR rfl rfl rfl h104 rfl (rfl:_=(sl z50 f101 e102)) ?_
   obtain ⟨l105,h106,h⟩:=obind h
   obtain ⟨h107,h108⟩:=app_LR (show LR rParcel 2 (([]:List Parcel):List Parcel) 2 [] from ⟨.inl rfl,.nil⟩) h103 h106
   refine AOps.appL (z:=2) (f:=true) (e:=[]) (z':=z50) (f':=f101) (e':=e102) rfl rfl rfl rfl rfl rfl rfl (appSrc_sl (LR.z h103) rfl) (LR.z (show LR rParcel 2 (([]:List Parcel):List Parcel) 2 [] from ⟨.inl rfl,.nil⟩)) ⟨by decide,by decide,rfl,rfl⟩ rfl rfl h108 (Or.inl rfl) ?_
   refine aq (sl 2 false ([]++e102)) ?_
   refine nl ?_
   refine AW.region ?_
   refine q (ptr b2 0) ?_
   refine AOps.makeR rfl rfl rfl rfl rfl rfl (rfl:_=(sl 2 true [])) ?_
   refine q (ptr b2 0) ?_
   refine q (ptr b2 0) ?_
   refine q (ptr b2 1) ?_
   refine q (ptr b2 9) ?_
   refine AOps.ldB (i:=0) (v:=(sl z50 f51 e52)) hH86 rfl rfl rfl rfl rfl rfl rfl rfl rfl ?_
   refine q (eptr [(J d55.Kind),(J d55.A),(J d55.B)] 1) ?_
   refine lE (J d55.A) ?_
   obtain ⟨l109,h110,h⟩:=obind h
   obtain ⟨f111,e112,h113,h114⟩:=cut_slH f51 h53 h110
   refine AOps.pureR rfl rfl rfl h114 rfl (rfl:_=(sl z50 f111 e112)) ?_
   obtain ⟨l115,h116,h⟩:=obind h
   obtain ⟨h117,h118⟩:=app_LR (show LR rParcel 2 (([]:List Parcel):List Parcel) 2 [] from ⟨.inl rfl,.nil⟩) h113 h116
   refine AOps.appL (z:=2) (f:=true) (e:=[]) (z':=z50) (f':=f111) (e':=e112) rfl rfl rfl rfl rfl rfl rfl (appSrc_sl (LR.z h113) rfl) (LR.z (show LR rParcel 2 (([]:List Parcel):List Parcel) 2 [] from ⟨.inl rfl,.nil⟩)) ⟨by decide,by decide,rfl,rfl⟩ rfl rfl h118 (Or.inl rfl) ?_
   refine q (sl 2 false ([]++e102)) ?_
   obtain ⟨l119,h120,h⟩:=obind h
   obtain ⟨h121,h122⟩:=app_LR h117 h107 h120
   refine AOps.appL (z:=2) (f:=false) (e:=([]++e112)) (z':=2) (f':=false) (e':=([]++e102)) rfl rfl rfl rfl rfl rfl rfl (appSrc_sl (LR.z h107) rfl) (LR.z h117) ⟨by decide,by decide,rfl,rfl⟩ rfl rfl h122 (Or.inr ⟨54,rfl,rfl⟩) ?_
   refine q (ptr b2 0) ?_
   refine q (ptr b2 1) ?_
   refine q (ptr b2 9) ?_
   refine AOps.stX (i:=0) (v:=(sl 2 false (([]++e112)++([]++e102)))) hH86 rfl rfl rfl rfl rfl rfl rfl rfl rfl (lt_b rfl) (le_b rfl) rfl (Nice.pure (k:=FINK) (p:=(rL rParcel 2) l119) (.L fun _=>(.A (.cons .I (.cons (.L fun _=>.S) .nil)))) 0 _ ⟨_,_,_,rfl,h121⟩) ?_
   intro w123 s124 h125 h126 hH127
   refine nl ?_
   exact AW.res [] [] trivial trivial (KJ97 (l119,w123,2,false,(([]++e112)++([]++e102)),s124) _ _ ⟨h121,(own_st (Or.inr rfl) h126 rfl rfl rfl),(HS.sel hH127 [some 0] (by decide)),h⟩)
  refine cF hc98 ?_
  refine AW.skip ?_
  exact AW.res [] [] trivial trivial (KJ97 (r149,w71,z50,f51,e52,s85) _ _ ⟨h53,h84,(HS.sel hH86 [some 0] (by decide)),h⟩)
 intro KJ87
 rcases oite h with ⟨hc128,h⟩ | ⟨hc128,h⟩
 ·refine cT hc128 ?_
  refine AW.region ?_
  refine q (ptr b2 0) ?_
  obtain ⟨y129,h130,h⟩:=obind h
  refine AOps.callF (g:=86) (args:=[(ptr b2 0),(eptr [(J x57.First),(sl z67 f68 e69)] 0)]) rfl rfl rfl (spec_l08Run_come_F1_ok h8 h12 h16 h20 h24 h31 h36 h43 h48 h53 h54 h70 (HS.enterP hE [0] [b2] rfl (by decide)) h130 (HS.wf' hE)) ?_
  intro _ o136 s133 h135
  obtain ⟨h131,w137,z138,f139,e140,z142,f143,e144,h132,h141,h145,h146⟩:=h135
  have hH134:=HS.callP hE [0] h132 rfl rfl
  cases h131
  refine nl ?_
  exact AW.res [(0,(ptr b2 0)),(3,(eptr [(J d55.Kind),(J d55.A),(J d55.B)] 0))] [] ⟨rfl,rfl,trivial⟩ trivial (KJ87 (y129.2.1,y129.2.2.1,y129.2.2.2.1,y129.2.2.2.2,w137,z138,f139,e140,z142,f143,e144,s133) _ _ ⟨h141,h145,h146,(HS.sel hH134 [some 0] (by decide)),h⟩)
 refine cF hc128 ?_
 refine AW.skip ?_
 exact AW.res [(0,(ptr b2 0)),(3,(eptr [(J d55.Kind),(J d55.A),(J d55.B)] 0))] [] ⟨rfl,rfl,trivial⟩ trivial (KJ87 (r125,r126,r127,r132,w3,z28,f29,e30,z33,f34,e35,{ s with lo:=s.n }) _ _ ⟨h31,h36,h54,(HS.sel hE [some 0] (by decide)),h⟩)
theorem spec_l08Run_do_F1_ok {p14:Stream} {p125 p126 p137 p138:Int} {p127 p132 p139 p144:List Int} {p149:List Parcel} {p1_55:Deed} {b2 z5 z9 z13 z17 z21 z28 z33 z40 z45 z50:Nat} {w3:Nat→Bool} {f6 f10 f14 f18 f22 f29 f34 f41 f46 f51:Bool} {e7 e11 e15 e19 e23 e30 e35 e42 e47 e52:List AV} {s:St} (h8:LR rB 1 p14.Checker.Accept z5 e7) (h12:LR (rL rPush 2) 1 p14.Checker.Call z9 e11) (h16:LR (rL (rL rJ 1) 1) 1 p14.Checker.Return z13 e15) (h20:LR (rL rJ 1) 1 p14.Checker.Inner z17 e19) (h24:LR rS 1 p14.Pieces z21 e23) (h31:LR rJ 1 p127 z28 e30) (h36:LR rJ 1 p132 z33 e35) (h43:LR rJ 1 p139 z40 e42) (h48:LR rJ 1 p144 z45 e47) (h53:LR rParcel 2 p149 z50 e52) (h54:f51=true∨w3 9=true) (hE:HS [b2] false s { s with lo:=s.n } [⟨some b2,[(eptr [(J p14.Checker.Stack),(J p14.Checker.Start),(sl z5 f6 e7),(sl z9 f10 e11),(sl z13 f14 e15),(sl z17 f18 e19),(sl z21 f22 e23)] 0),(J p125),(J p126),(sl z28 f29 e30),(sl z33 f34 e35),(J p137),(J p138),(sl z40 f41 e42),(sl z45 f46 e47),(sl z50 f51 e52)],w3⟩]) {r:Int × Int × Int × (List Int) × (List Int) × Int × Int × (List Int) × (List Int) × (List Parcel)} (h:spec_l08Run_do_F1 p14 p125 p126 p127 p132 p137 p138 p139 p144 p149 p1_55=some r) (hs:WF s):ACall Cf 33 [(ptr b2 0),(agg [(J p1_55.Kind),(J p1_55.A),(J p1_55.B)])] s fun v _ s'=>rJ r.1 v∧∃ (w0':Nat→Bool) (z3':Nat) (f3':Bool) (e3':List AV) (z4':Nat) (f4':Bool) (e4':List AV) (z7':Nat) (f7':Bool) (e7':List AV) (z8':Nat) (f8':Bool) (e8':List AV) (z9':Nat) (f9':Bool) (e9':List AV),Fx [b2] s s' [⟨some b2,[(eptr [(J p14.Checker.Stack),(J p14.Checker.Start),(sl z5 f6 e7),(sl z9 f10 e11),(sl z13 f14 e15),(sl z17 f18 e19),(sl z21 f22 e23)] 0),(J r.2.1),(J r.2.2.1),(sl z3' f3' e3'),(sl z4' f4' e4'),(J r.2.2.2.2.2.1),(J r.2.2.2.2.2.2.1),(sl z7' f7' e7'),(sl z8' f8' e8'),(sl z9' f9' e9')],w0'⟩]∧LR rJ 1 r.2.2.2.1 z3' e3'∧LR rJ 1 r.2.2.2.2.1 z4' e4'∧LR rJ 1 r.2.2.2.2.2.2.2.1 z7' e7'∧LR rJ 1 r.2.2.2.2.2.2.2.2.1 z8' e8'∧LR rParcel 2 r.2.2.2.2.2.2.2.2.2 z9' e9'∧(f9'=true∨w0' 9=true):=by
 refine ACall.foreign rfl rfl rfl ?_
 unfold spec_l08Run_do_F1 at h
 refine sr ?_
 refine AOps.makeR rfl rfl rfl rfl rfl rfl (rfl:_=(eptr [(J p1_55.Kind),(J p1_55.A),(J p1_55.B)] 0)) ?_
 refine q (J 0) ?_
 refine nl ?_
 refine AW.seq ?_
 refine sr ?_
 refine q (eptr [(J p1_55.Kind),(J p1_55.A),(J p1_55.B)] 0) ?_
 refine lE (J p1_55.Kind) ?_
 refine nl ?_
 refine AW.block ?_
 refine sr ?_
 refine q (bool (p1_55.Kind == 1)) ?_
 refine aq (bool (p1_55.Kind == 1)) ?_
 refine nl ?_
 refine AW.meet (σ:=Int × Int × (List Int) × (List Int) × Int × Int × (List Int) × (List Int) × (List Parcel) × (Nat→Bool) × Nat × Bool × (List AV) × Nat × Bool × (List AV) × Nat × Bool × (List AV) × Nat × Bool × (List AV) × Nat × Bool × (List AV) × St) (fun (m57,m58,m59,m64,m69,m70,m71,m76,m81,w56,z60,f61,e62,z65,f66,e67,z72,f73,e74,z77,f78,e79,z82,f83,e84,s87) tm os=>⟨updL tm [],updL os [],s87⟩) (fun (m57,m58,m59,m64,m69,m70,m71,m76,m81,w56,z60,f61,e62,z65,f66,e67,z72,f73,e74,z77,f78,e79,z82,f83,e84,s87)=>(LR rJ 1 m59 z60 e62)∧(LR rJ 1 m64 z65 e67)∧(LR rJ 1 m71 z72 e74)∧(LR rJ 1 m76 z77 e79)∧(LR rParcel 2 m81 z82 e84)∧(f83=true∨w56 9=true)∧(HS [b2] false s s87 [⟨some b2,[(eptr [(J p14.Checker.Stack),(J p14.Checker.Start),(sl z5 f6 e7),(sl z9 f10 e11),(sl z13 f14 e15),(sl z17 f18 e19),(sl z21 f22 e23)] 0),(J m57),(J m58),(sl z60 f61 e62),(sl z65 f66 e67),(J m69),(J m70),(sl z72 f73 e74),(sl z77 f78 e79),(sl z82 f83 e84)],w56⟩])∧spec_l08Run_do_F1_J1 m57 m58 m59 m64 m69 m70 m71 m76 m81=some r) ?_ ?_
 ·rintro ⟨m57,m58,m59,m64,m69,m70,m71,m76,m81,w56,z60,f61,e62,z65,f66,e67,z72,f73,e74,z77,f78,e79,z82,f83,e84,s87⟩ tm os ⟨h63,h68,h75,h80,h85,h86,hH88,h⟩
  unfold spec_l08Run_do_F1_J1 at h
  refine AW.inBlock ?_
  refine sr ?_
  refine q (J 0) ?_
  refine nl ?_
  obtain rfl:=Option.some.inj h
  exact AW.ret ⟨_,_,rfl,finF (p:=rJ 0) (Fin.of (p:=rJ 0) .I rfl) ⟨w56,z60,f61,e62,z65,f66,e67,z72,f73,e74,z77,f78,e79,z82,f83,e84,HS.leaveP hH88 [0] rfl,h63,h68,h75,h80,h85,h86⟩⟩
 intro KJ89
 rcases oite h with ⟨hc90,h⟩ | ⟨hc90,h⟩
 ·refine cT hc90 ?_
  refine AW.seq ?_
  refine sr ?_
  refine q (eptr [(J p1_55.Kind),(J p1_55.A),(J p1_55.B)] 1) ?_
  refine lE (J p1_55.A) ?_
  refine q (eptr [(J p1_55.Kind),(J p1_55.A),(J p1_55.B)] 2) ?_
  refine lE (J p1_55.B) ?_
  refine q (bool (decide ((p1_55.A:Int)>p1_55.B))) ?_
  refine q (bool (decide ((p1_55.A:Int)>p1_55.B))) ?_
  refine AOps.split 12 (fun f'=>∃ tm' os',f'=⟨updL tm' [(0,(ptr b2 0)),(3,(eptr [(J p1_55.Kind),(J p1_55.A),(J p1_55.B)] 0)),(29,(bool ((decide ((p1_55.A:Int)>p1_55.B))||(decide ((p1_55.B:Int)≥(p14.Pieces.length:Int))))))],updL os' [],{ s with lo:=s.n }⟩) ?_ ?_
  ·rcases Bool.eq_false_or_eq_true (decide ((p1_55.A:Int)>p1_55.B)) with hc91 | hc91
   ·refine kn 17 hc91 ?_
    refine sk ?_
    refine sk ?_
    refine sk ?_
    refine sk ?_
    refine sk ?_
    refine sk ?_
    refine sk ?_
    refine sk ?_
    refine sk ?_
    refine sk ?_
    refine sk ?_
    refine q (bool true) ?_
    exact rR ⟨rfl,rfl,congrArg bool (or_t hc91),trivial⟩
   ·refine kn 17 hc91 ?_
    refine q (eptr [(J p1_55.Kind),(J p1_55.A),(J p1_55.B)] 2) ?_
    refine lE (J p1_55.B) ?_
    refine q (ptr b2 0) ?_
    refine q (ptr b2 0) ?_
    refine q (ptr b2 0) ?_
    refine AOps.ldB (i:=0) (v:=(eptr [(J p14.Checker.Stack),(J p14.Checker.Start),(sl z5 f6 e7),(sl z9 f10 e11),(sl z13 f14 e15),(sl z17 f18 e19),(sl z21 f22 e23)] 0)) hE rfl rfl rfl rfl rfl rfl rfl rfl rfl ?_
    refine q (eptr [(J p14.Checker.Stack),(J p14.Checker.Start),(sl z5 f6 e7),(sl z9 f10 e11),(sl z13 f14 e15),(sl z17 f18 e19),(sl z21 f22 e23)] 0) ?_
    refine q (eptr [(J p14.Checker.Stack),(J p14.Checker.Start),(sl z5 f6 e7),(sl z9 f10 e11),(sl z13 f14 e15),(sl z17 f18 e19),(sl z21 f22 e23)] 6) ?_
    refine lE (sl z21 f22 e23) ?_
    refine AOps.p rfl (len_eq h24) ?_
    refine q (bool (decide ((p1_55.B:Int)≥(p14.Pieces.length:Int)))) ?_
    refine q (bool (decide ((p1_55.B:Int)≥(p14.Pieces.length:Int)))) ?_
    exact rR ⟨rfl,rfl,congrArg bool (or_f hc91),trivial⟩
  rintro _ ⟨tm,os,rfl⟩
  refine nl ?_
  rcases oite h with ⟨hc92,h⟩ | ⟨hc92,h⟩
  ·refine cT hc92 ?_
   refine sr ?_
   refine q (J 2) ?_
   refine nl ?_
   obtain rfl:=Option.some.inj h
   exact AW.ret ⟨_,_,rfl,finF (p:=rJ 2) (Fin.of (p:=rJ 2) .I rfl) ⟨w3,z28,f29,e30,z33,f34,e35,z40,f41,e42,z45,f46,e47,z50,f51,e52,HS.leaveP hE [0] rfl,h31,h36,h43,h48,h53,h54⟩⟩
  refine cF hc92 ?_
  refine AW.skip ?_
  refine AW.seq ?_
  refine sr ?_
  refine q (ptr b2 0) ?_
  refine q (ptr b2 0) ?_
  refine q (ptr b2 1) ?_
  refine q (ptr b2 9) ?_
  refine AOps.ldB (i:=0) (v:=(sl z50 f51 e52)) hE rfl rfl rfl rfl rfl rfl rfl rfl rfl ?_
  refine AOps.p rfl (len_eq h53) ?_
  refine q (bool ((p149.length:Int) == 12)) ?_
  refine nl ?_
  rcases oite h with ⟨hc93,h⟩ | ⟨hc93,h⟩
  ·refine cT hc93 ?_
   refine sr ?_
   refine q (J 3) ?_
   refine nl ?_
   obtain rfl:=Option.some.inj h
   exact AW.ret ⟨_,_,rfl,finF (p:=rJ 3) (Fin.of (p:=rJ 3) .I rfl) ⟨w3,z28,f29,e30,z33,f34,e35,z40,f41,e42,z45,f46,e47,z50,f51,e52,HS.leaveP hE [0] rfl,h31,h36,h43,h48,h53,h54⟩⟩
  refine cF hc93 ?_
  refine AW.skip ?_
  refine AW.region ?_
  refine q (ptr b2 0) ?_
  refine q (ptr b2 0) ?_
  refine q (ptr b2 0) ?_
  refine q (ptr b2 1) ?_
  refine q (ptr b2 9) ?_
  refine AOps.ldMv (i:=0) (v:=(sl z50 f51 e52)) hE rfl rfl rfl rfl rfl rfl rfl rfl rfl rfl h54 ?_
  intro o94 w95 s99 h96 h97 hH98
  refine q (eptr [(J p1_55.Kind),(J p1_55.A),(J p1_55.B)] 1) ?_
  refine lE (J p1_55.A) ?_
  refine AOps.makeR rfl rfl rfl rfl rfl rfl (rfl:_=(sl 1 true [])) ?_
  refine q (ptr b2 0) ?_
  refine q (ptr b2 0) ?_
  refine q (ptr b2 0) ?_
  refine AOps.ldB (i:=0) (v:=(eptr [(J p14.Checker.Stack),(J p14.Checker.Start),(sl z5 f6 e7),(sl z9 f10 e11),(sl z13 f14 e15),(sl z17 f18 e19),(sl z21 f22 e23)] 0)) hH98 rfl rfl rfl rfl rfl rfl rfl rfl rfl ?_
  refine q (eptr [(J p14.Checker.Stack),(J p14.Checker.Start),(sl z5 f6 e7),(sl z9 f10 e11),(sl z13 f14 e15),(sl z17 f18 e19),(sl z21 f22 e23)] 0) ?_
  refine q (eptr [(J p14.Checker.Stack),(J p14.Checker.Start),(sl z5 f6 e7),(sl z9 f10 e11),(sl z13 f14 e15),(sl z17 f18 e19),(sl z21 f22 e23)] 6) ?_
  refine lE (sl z21 f22 e23) ?_
  refine q (eptr [(J p1_55.Kind),(J p1_55.A),(J p1_55.B)] 1) ?_
  refine lE (J p1_55.A) ?_
  refine q (eptr [(J p1_55.Kind),(J p1_55.A),(J p1_55.B)] 2) ?_
  refine lE (J p1_55.B) ?_
  refine q (J (IntKind.wrap .i64 (p1_55.B+1))) ?_
  obtain ⟨l100,h101,h⟩:=obind h
  obtain ⟨f102,e103,h104,h105⟩:=cut_slLH f22 h24 h101
  refine AOps.pureR rfl rfl rfl h105 rfl (rfl:_=(sl z21 f102 e103)) ?_
  obtain ⟨l106,h107,h⟩:=obind h
  obtain ⟨h108,h109⟩:=app_LR (show LR rS 1 (([]:List (List UInt8)):List (List UInt8)) 1 [] from ⟨.inl rfl,.nil⟩) h104 h107
  refine AOps.appL (z:=1) (f:=true) (e:=[]) (z':=z21) (f':=f102) (e':=e103) rfl rfl rfl rfl rfl rfl rfl (appSrc_sl (LR.z h104) rfl) (LR.z (show LR rS 1 (([]:List (List UInt8)):List (List UInt8)) 1 [] from ⟨.inl rfl,.nil⟩)) ⟨by decide,by decide,rfl,rfl⟩ rfl rfl h109 (Or.inl rfl) ?_
  refine q (agg [(J p1_55.A),(sl 1 false ([]++e103))]) ?_
  refine AOps.makeR rfl rfl rfl rfl rfl rfl (rfl:_=(sl 2 true [(agg [(J p1_55.A),(sl 1 false ([]++e103))])])) ?_
  obtain ⟨l110,h111,h⟩:=obind h
  obtain ⟨h112,h113⟩:=app_LR h53 (LR.lit (r:=rParcel) (sz:=2) (.cons ⟨_,rfl,(.cons rfl (.cons ⟨_,_,_,rfl,h108⟩ .nil))⟩ .nil)) h111
  refine AOps.appL (z:=z50) (f:=f51) (e:=e52) (z':=2) (f':=true) (e':=[(agg [(J p1_55.A),(sl 1 false ([]++e103))])]) rfl rfl rfl rfl rfl rfl rfl (appSrc_sl (LR.z (show LR rParcel 2 ([(⟨p1_55.A,l106⟩:Parcel)]:List Parcel) 2 [(agg [(J p1_55.A),(sl 1 false ([]++e103))])] from LR.lit (r:=rParcel) (sz:=2) (.cons ⟨_,rfl,(.cons rfl (.cons ⟨_,_,_,rfl,h108⟩ .nil))⟩ .nil))) rfl) (LR.z h53) ⟨by decide,by decide,rfl,rfl⟩ rfl rfl h113 (own_tmp h96 rfl rfl) ?_
  refine q (ptr b2 0) ?_
  refine q (ptr b2 1) ?_
  refine q (ptr b2 9) ?_
  refine AOps.stX (i:=0) (v:=(sl 2 false (e52++[(agg [(J p1_55.A),(sl 1 false ([]++e103))])]))) hH98 rfl rfl rfl rfl rfl rfl rfl rfl rfl (lt_b rfl) (le_b rfl) rfl (Nice.pure (k:=FINK) (p:=(rL rParcel 2) l110) (.L fun _=>(.A (.cons .I (.cons (.L fun _=>.S) .nil)))) 0 _ ⟨_,_,_,rfl,h112⟩) ?_
  intro w114 s115 h116 h117 hH118
  refine nl ?_
  exact AW.res [] [] trivial trivial (KJ89 (p125,p126,p127,p132,p137,p138,p139,p144,l110,w114,z28,f29,e30,z33,f34,e35,z40,f41,e42,z45,f46,e47,2,false,(e52++[(agg [(J p1_55.A),(sl 1 false ([]++e103))])]),s115) _ _ ⟨h31,h36,h43,h48,h112,(own_st (Or.inr rfl) h117 rfl rfl rfl),(HS.sel hH118 [some 0] (by decide)),h⟩)
 refine cF hc90 ?_
 refine sr ?_
 refine q (bool (p1_55.Kind == 5)) ?_
 refine aq (bool (p1_55.Kind == 5)) ?_
 refine nl ?_
 rcases oite h with ⟨hc119,h⟩ | ⟨hc119,h⟩
 ·refine cT hc119 ?_
  refine AW.region ?_
  refine q (ptr b2 0) ?_
  refine q (ptr b2 0) ?_
  refine q (ptr b2 0) ?_
  refine q (ptr b2 1) ?_
  refine q (ptr b2 1) ?_
  obtain ⟨y120,h121,h⟩:=obind h
  refine AOps.callF (g:=60) (args:=[(ptr b2 1)]) rfl rfl rfl (spec_l08Copy_F1_ok h8 h12 h16 h20 h24 h31 h36 h43 h48 h53 h54 (HS.enterP hE [0] [b2] rfl (by decide)) h121 (HS.wf' hE)) ?_
  intro _ o144 s124 h126
  obtain ⟨h122,w145,h123,h146⟩:=h126
  have hH125:=HS.callP hE [0] h123 rfl rfl
  obtain ⟨_,rfl,h127⟩:=h122
  obtain ⟨_,_,rfl,h128,h129⟩:=Cs_cons h127
  cases h128
  obtain ⟨_,_,rfl,h130,h131⟩:=Cs_cons h129
  cases h130
  obtain ⟨_,_,rfl,h132,h133⟩:=Cs_cons h131
  obtain ⟨z134,f135,e136,rfl,h137⟩:=h132
  obtain ⟨_,_,rfl,h138,h139⟩:=Cs_cons h133
  obtain ⟨z140,f141,e142,rfl,h143⟩:=h138
  cases Cs_nil h139
  refine q (ptr b2 0) ?_
  refine q (ptr b2 1) ?_
  refine q (ptr b2 5) ?_
  refine AOps.stX (i:=0) (v:=(agg [(J y120.Read),(J y120.State),(sl z134 f135 e136),(sl z140 f141 e142)])) hH125 rfl rfl rfl rfl rfl rfl rfl rfl rfl (lt_b rfl) (le_b rfl) rfl (Nice.pure (k:=FINK) (p:=(rDesk) y120) (.A (.cons .I (.cons .I (.cons (.L fun _=>.I) (.cons (.L fun _=>.I) .nil))))) 0 _ ⟨_,rfl,(.cons rfl (.cons rfl (.cons ⟨_,_,_,rfl,h137⟩ (.cons ⟨_,_,_,rfl,h143⟩ .nil))))⟩) ?_
  intro w147 s148 h149 h150 hH151
  refine nl ?_
  exact AW.res [] [] trivial trivial (KJ89 (p125,p126,p127,p132,y120.Read,y120.State,y120.Stack,y120.Waiting,p149,w147,z28,f29,e30,z33,f34,e35,z134,f135,e136,z140,f141,e142,z50,f51,e52,s148) _ _ ⟨h31,h36,h137,h143,h53,(own_keep h146 (h149 _ (by decide))),(HS.sel hH151 [some 0] (by decide)),h⟩)
 refine cF hc119 ?_
 refine sr ?_
 refine q (bool (p1_55.Kind == 6)) ?_
 refine aq (bool (p1_55.Kind == 6)) ?_
 refine nl ?_
 rcases oite h with ⟨hc152,h⟩ | ⟨hc152,h⟩
 ·refine cT hc152 ?_
  refine AW.region ?_
  refine q (ptr b2 0) ?_
  refine q (ptr b2 0) ?_
  refine q (ptr b2 0) ?_
  refine q (ptr b2 1) ?_
  refine q (ptr b2 5) ?_
  obtain ⟨y153,h154,h⟩:=obind h
  refine AOps.callF (g:=60) (args:=[(ptr b2 5)]) rfl rfl rfl (spec_l08Copy_F2_ok h8 h12 h16 h20 h24 h31 h36 h43 h48 h53 h54 (HS.enterP hE [0] [b2] rfl (by decide)) h154 (HS.wf' hE)) ?_
  intro _ o177 s157 h159
  obtain ⟨h155,w178,h156,h179⟩:=h159
  have hH158:=HS.callP hE [0] h156 rfl rfl
  obtain ⟨_,rfl,h160⟩:=h155
  obtain ⟨_,_,rfl,h161,h162⟩:=Cs_cons h160
  cases h161
  obtain ⟨_,_,rfl,h163,h164⟩:=Cs_cons h162
  cases h163
  obtain ⟨_,_,rfl,h165,h166⟩:=Cs_cons h164
  obtain ⟨z167,f168,e169,rfl,h170⟩:=h165
  obtain ⟨_,_,rfl,h171,h172⟩:=Cs_cons h166
  obtain ⟨z173,f174,e175,rfl,h176⟩:=h171
  cases Cs_nil h172
  refine q (ptr b2 0) ?_
  refine q (ptr b2 1) ?_
  refine q (ptr b2 1) ?_
  refine AOps.stX (i:=0) (v:=(agg [(J y153.Read),(J y153.State),(sl z167 f168 e169),(sl z173 f174 e175)])) hH158 rfl rfl rfl rfl rfl rfl rfl rfl rfl (lt_b rfl) (le_b rfl) rfl (Nice.pure (k:=FINK) (p:=(rDesk) y153) (.A (.cons .I (.cons .I (.cons (.L fun _=>.I) (.cons (.L fun _=>.I) .nil))))) 0 _ ⟨_,rfl,(.cons rfl (.cons rfl (.cons ⟨_,_,_,rfl,h170⟩ (.cons ⟨_,_,_,rfl,h176⟩ .nil))))⟩) ?_
  intro w180 s181 h182 h183 hH184
  refine nl ?_
  exact AW.res [] [] trivial trivial (KJ89 (y153.Read,y153.State,y153.Stack,y153.Waiting,p137,p138,p139,p144,p149,w180,z167,f168,e169,z173,f174,e175,z40,f41,e42,z45,f46,e47,z50,f51,e52,s181) _ _ ⟨h170,h176,h43,h48,h53,(own_keep h179 (h182 _ (by decide))),(HS.sel hH184 [some 0] (by decide)),h⟩)
 refine cF hc152 ?_
 refine sr ?_
 refine q (ptr b2 0) ?_
 refine lE (agg [(J p1_55.Kind),(J p1_55.A),(J p1_55.B)]) ?_
 obtain ⟨y185,h186,h⟩:=obind h
 refine AOps.callF (g:=61) (args:=[(ptr b2 0),(agg [(J p1_55.Kind),(J p1_55.A),(J p1_55.B)])]) rfl rfl rfl (spec_l08Run_wire_F1_ok h8 h12 h16 h20 h24 h31 h36 h43 h48 h53 h54 (HS.enterP hE [0] [b2] rfl (by decide)) h186 (HS.wf' hE)) ?_
 intro _ o192 s189 h191
 obtain ⟨h187,w193,z194,f195,e196,z198,f199,e200,z202,f203,e204,h188,h197,h201,h205,h206⟩:=h191
 have hH190:=HS.callP hE [0] h188 rfl rfl
 cases h187
 refine aq (J y185.1) ?_
 refine nl ?_
 obtain rfl:=Option.some.inj h
 exact AW.ret ⟨_,_,rfl,finF (p:=rJ y185.1) (Fin.of (p:=rJ y185.1) .I rfl) ⟨w193,z194,f195,e196,z198,f199,e200,z40,f41,e42,z45,f46,e47,z202,f203,e204,HS.leaveP hH190 [0] rfl,h197,h201,h43,h48,h205,h206⟩⟩
theorem spec_l08Play_K00_ok {v1:Stream} {deeds22:List Deed} {z2 z6 z10 z14 z18 z23:Nat} {f3 f7 f11 f15 f19 f24:Bool} {e4 e8 e12 e16 e20 e25:List AV} {s:St} (h5:LR rB 1 v1.Checker.Accept z2 e4) (h9:LR (rL rPush 2) 1 v1.Checker.Call z6 e8) (h13:LR (rL (rL rJ 1) 1) 1 v1.Checker.Return z10 e12) (h17:LR (rL rJ 1) 1 v1.Checker.Inner z14 e16) (h21:LR rS 1 v1.Pieces z18 e20) (h26:LR rDeed 3 deeds22 z23 e25) {r:L08Run × (List Int)} (h:spec_l08Play_K00 v1 deeds22=some r) (hs:WF s):ACall Cf 15 [(eptr [(J v1.Checker.Stack),(J v1.Checker.Start),(sl z2 f3 e4),(sl z6 f7 e8),(sl z10 f11 e12),(sl z14 f15 e16),(sl z18 f19 e20)] 0),(sl z23 f24 e25)] s (fun v _ s'=>∃ (b1':Nat) (w2':Nat→Bool) (z3':Nat) (f4':Bool) (e5':List AV) (z7':Nat) (f8':Bool) (e9':List AV) (z11':Nat) (f12':Bool) (e13':List AV) (z15':Nat) (f16':Bool) (e17':List AV) (z19':Nat) (f20':Bool) (e21':List AV) (h24':AV) (k25':KT) (Ls':List (List BX)),v=(AV.tup [(ptr b1' 0),h24'])∧HS [] true s s' (([⟨some b1',[(eptr [(J v1.Checker.Stack),(J v1.Checker.Start),(sl z2 f3 e4),(sl z6 f7 e8),(sl z10 f11 e12),(sl z14 f15 e16),(sl z18 f19 e20)] 0),(J r.1.n.Desk_.Read),(J r.1.n.Desk_.State),(sl z3' f4' e5'),(sl z7' f8' e9'),(J r.1.n.Saved.Read),(J r.1.n.Saved.State),(sl z11' f12' e13'),(sl z15' f16' e17'),(sl z19' f20' e21')],w2'⟩]:List BX)++Ls'.flatten)∧AllG [OS oE2 h24' k25' r.2] Ls'∧LR rJ 1 r.1.n.Desk_.Stack z3' e5'∧LR rJ 1 r.1.n.Desk_.Waiting z7' e9'∧LR rJ 1 r.1.n.Saved.Stack z11' e13'∧LR rJ 1 r.1.n.Saved.Waiting z15' e17'∧LR rParcel 2 r.1.n.Wire z19' e21'∧(f20'=true∨w2' 9=true)∧h24'.one=true) true:=by
 refine ACall.keepR rfl rfl rfl ?_
 have hH0:=HS.g0 (HS.initK hs)
 have hG0:=AllG.nil
 have hl:LoOK [] true s:=LoOK.nil
 unfold spec_l08Play_K00 at h
 refine sr ?_
 refine q AV.nilp ?_
 refine q (sl 0 true []) ?_
 refine ns ?_
 refine q (eptr [(J v1.Checker.Stack),(J v1.Checker.Start),(sl z2 f3 e4),(sl z6 f7 e8),(sl z10 f11 e12),(sl z14 f15 e16),(sl z18 f19 e20)] 0) ?_
 obtain ⟨y27,h28,h⟩:=obind h
 have hP52:=HS.pop0 hH0
 refine AOps.callF (al:=true) (g:=32) (args:=[(eptr [(J v1.Checker.Stack),(J v1.Checker.Start),(sl z2 f3 e4),(sl z6 f7 e8),(sl z10 f11 e12),(sl z14 f15 e16),(sl z18 f19 e20)] 0)]) rfl rfl rfl (spec_l08Begin_K0_ok h5 h9 h13 h17 h21  h28 (HS.wf' hH0)) ?_
 rintro _ _ s53 ⟨b29,w30,z31,f32,e33,z35,f36,e37,z39,f40,e41,z43,f44,e45,z47,f48,e49,Ls55,rfl,hH56,hG57,hl34,hl38,hl42,hl46,hl50,hb51⟩
 have hJ58:=HS.joinK1 hP52 hH56
 have hJ59:=HS.pushNE (x:=⟨some b29,[(eptr [(J v1.Checker.Stack),(J v1.Checker.Start),(sl z2 f3 e4),(sl z6 f7 e8),(sl z10 f11 e12),(sl z14 f15 e16),(sl z18 f19 e20)] 0),(J y27.n.Desk_.Read),(J y27.n.Desk_.State),(sl z31 f32 e33),(sl z35 f36 e37),(J y27.n.Saved.Read),(J y27.n.Saved.State),(sl z39 f40 e41),(sl z43 f44 e45),(sl z47 f48 e49)],w30⟩) hJ58
 cases hG57
 have hH60:=HS.push0 hJ59
 change HS [] true s s53 (([⟨some b29,[(eptr [(J v1.Checker.Stack),(J v1.Checker.Start),(sl z2 f3 e4),(sl z6 f7 e8),(sl z10 f11 e12),(sl z14 f15 e16),(sl z18 f19 e20)] 0),(J y27.n.Desk_.Read),(J y27.n.Desk_.State),(sl z31 f32 e33),(sl z35 f36 e37),(J y27.n.Saved.Read),(J y27.n.Saved.State),(sl z39 f40 e41),(sl z43 f44 e45),(sl z47 f48 e49)],w30⟩]:List BX)++List.flatten ([]:List (List BX))) at hH60
 change AllG [] ([]:List (List BX)) at hG0
 refine aq (ptr b29 0) ?_
 refine ns ?_
 refine AOps.makeR rfl rfl rfl rfl rfl rfl (rfl:_=(sl 1 true [])) ?_
 refine aq (sl 1 true []) ?_
 refine nl ?_
 refine AW.seq ?_
 refine sr ?_
 refine q (J 0) ?_
 refine nl ?_
 refine AW.meet (σ:=Int × Int × (List Int) × (List Int) × Int × Int × (List Int) × (List Int) × (List Parcel) × (List Int) × (Nat→Bool) × Nat × Bool × (List AV) × Nat × Bool × (List AV) × Nat × Bool × (List AV) × Nat × Bool × (List AV) × Nat × Bool × (List AV) × AV × KT × St × (List (List BX))) (fun (m62,m63,m64,m69,m74,m75,m76,m81,m86,codes92,w61,z65,f66,e67,z70,f71,e72,z77,f78,e79,z82,f83,e84,z87,f88,e89,h93,k94,s96,Ls97) tm os=>⟨updL tm [(6,(ptr b29 0)),(7,h93)],updL os [],s96⟩) (fun (m62,m63,m64,m69,m74,m75,m76,m81,m86,codes92,w61,z65,f66,e67,z70,f71,e72,z77,f78,e79,z82,f83,e84,z87,f88,e89,h93,k94,s96,Ls97)=>(LR rJ 1 m64 z65 e67)∧(LR rJ 1 m69 z70 e72)∧(LR rJ 1 m76 z77 e79)∧(LR rJ 1 m81 z82 e84)∧(LR rParcel 2 m86 z87 e89)∧(f88=true∨w61 9=true)∧(h93.one=true)∧(HS [] true s s96 (([⟨some b29,[(eptr [(J v1.Checker.Stack),(J v1.Checker.Start),(sl z2 f3 e4),(sl z6 f7 e8),(sl z10 f11 e12),(sl z14 f15 e16),(sl z18 f19 e20)] 0),(J m62),(J m63),(sl z65 f66 e67),(sl z70 f71 e72),(J m74),(J m75),(sl z77 f78 e79),(sl z82 f83 e84),(sl z87 f88 e89)],w61⟩]:List BX)++Ls97.flatten))∧(AllG [OS oE2 h93 k94 codes92] Ls97)∧spec_l08Play_K00_J1 v1 m62 m63 m64 m69 m74 m75 m76 m81 m86 codes92=some r) ?_ ?_
 ·rintro ⟨m62,m63,m64,m69,m74,m75,m76,m81,m86,codes92,w61,z65,f66,e67,z70,f71,e72,z77,f78,e79,z82,f83,e84,z87,f88,e89,h93,k94,s96,Ls97⟩ tm os ⟨h68,h73,h80,h85,h90,h91,ho95,hH98,hG99,h⟩
  unfold spec_l08Play_K00_J1 at h
  refine sr ?_
  refine q (ptr b29 0) ?_
  refine q h93 ?_
  refine aq (ptr b29 0) ?_
  refine aq h93 ?_
  refine nl ?_
  cases h
  exact AW.ret ⟨_,_,rfl,⟨b29,w61,z65,f66,e67,z70,f71,e72,z77,f78,e79,z82,f83,e84,z87,f88,e89,h93,k94,Ls97,rfl,hH98,hG99,h68,h73,h80,h85,h90,h91,ho95⟩⟩
 intro KJ100
 refine AW.block ?_
 obtain ⟨Ls194,hG195,hH196⟩:=HS.selEG hH60 hG0 [some 0] [none]
 change HS [] true s s53 (([⟨some b29,[(eptr [(J v1.Checker.Stack),(J v1.Checker.Start),(sl z2 f3 e4),(sl z6 f7 e8),(sl z10 f11 e12),(sl z14 f15 e16),(sl z18 f19 e20)] 0),(J y27.n.Desk_.Read),(J y27.n.Desk_.State),(sl z31 f32 e33),(sl z35 f36 e37),(J y27.n.Saved.Read),(J y27.n.Saved.State),(sl z39 f40 e41),(sl z43 f44 e45),(sl z47 f48 e49)],w30⟩]:List BX)++Ls194.flatten) at hH196
 change AllG [Non] Ls194 at hG195
 have hG197:=AllG.imp hG195 0 rfl (P':=OS oE2 (sl 1 true []) (fun _=>AV.undef) []) (fun L hL=>by cases hL; exact OS.nil (Or.inl rfl))
 change AllG [OS oE2 (sl 1 true []) (fun _=>AV.undef) ([]:List Int)] Ls194 at hG197
 refine AW.res [(1,(sl z23 f24 e25)),(6,(ptr b29 0)),(7,(sl 1 true [])),(8,(J 0))] [] ⟨rfl,rfl,rfl,rfl,trivial⟩ trivial ?_
 refine AW.loopF (σ:=Int × Int × (List Int) × (List Int) × Int × Int × (List Int) × (List Int) × (List Parcel) × (List Int) × Int) (τ:=(Nat→Bool) × Nat × Bool × (List AV) × Nat × Bool × (List AV) × Nat × Bool × (List AV) × Nat × Bool × (List AV) × Nat × Bool × (List AV) × AV × KT × St × (List (List BX))) (fun (m102,m103,m104,m109,m114,m115,m116,m121,m126,codes132,i136) (w101,z105,f106,e107,z110,f111,e112,z117,f118,e119,z122,f123,e124,z127,f128,e129,h133,k134,s137,Ls138)=>(LR rJ 1 m104 z105 e107)∧(LR rJ 1 m109 z110 e112)∧(LR rJ 1 m116 z117 e119)∧(LR rJ 1 m121 z122 e124)∧(LR rParcel 2 m126 z127 e129)∧(f128=true∨w101 9=true)∧(h133.one=true)∧(HS [] true s s137 (([⟨some b29,[(eptr [(J v1.Checker.Stack),(J v1.Checker.Start),(sl z2 f3 e4),(sl z6 f7 e8),(sl z10 f11 e12),(sl z14 f15 e16),(sl z18 f19 e20)] 0),(J m102),(J m103),(sl z105 f106 e107),(sl z110 f111 e112),(J m114),(J m115),(sl z117 f118 e119),(sl z122 f123 e124),(sl z127 f128 e129)],w101⟩]:List BX)++Ls138.flatten))∧(AllG [OS oE2 h133 k134 codes132] Ls138)) (fun (m102,m103,m104,m109,m114,m115,m116,m121,m126,codes132,i136) (w101,z105,f106,e107,z110,f111,e112,z117,f118,e119,z122,f123,e124,z127,f128,e129,h133,k134,s137,Ls138) tm os=>⟨updL tm [(1,(sl z23 f24 e25)),(6,(ptr b29 0)),(7,h133),(8,(J i136))],updL os [],s137⟩) ?_ (x:=(y27.n.Desk_.Read,y27.n.Desk_.State,y27.n.Desk_.Stack,y27.n.Desk_.Waiting,y27.n.Saved.Read,y27.n.Saved.State,y27.n.Saved.Stack,y27.n.Saved.Waiting,y27.n.Wire,([]:List Int),0)) (y:=(w30,z31,f32,e33,z35,f36,e37,z39,f40,e41,z43,f44,e45,z47,f48,e49,(sl 1 true []),(fun _=>AV.undef),s53,Ls194)) h ⟨hl34,hl38,hl42,hl46,hl50,hb51,rfl,hH196,hG197⟩
 clear h
 rintro ⟨m102,m103,m104,m109,m114,m115,m116,m121,m126,codes132,i136⟩ ⟨w101,z105,f106,e107,z110,f111,e112,z117,f118,e119,z122,f123,e124,z127,f128,e129,h133,k134,s137,Ls138⟩ tm os ⟨h108,h113,h120,h125,h130,h131,ho135,hH139,hG140⟩ ee1 h hL1 hR1
 unfold spec_l08Play_K00_S1 at h
 dsimp only at h
 refine AW.seq ?_
 refine sr ?_
 refine q (J i136) ?_
 refine q (sl z23 f24 e25) ?_
 refine AOps.p rfl (len_eq h26) ?_
 refine q (bool (decide ((i136:Int)<(deeds22.length:Int)))) ?_
 refine nl ?_
 rcases oite h with ⟨hc141,h⟩ | ⟨hc141,h⟩
 ·refine cT hc141 ?_
  refine AW.skip ?_
  refine AW.seq ?_
  refine AW.block ?_
  refine AW.region ?_
  refine q h133 ?_
  refine q (ptr b29 0) ?_
  refine q (sl z23 f24 e25) ?_
  refine q (J i136) ?_
  obtain ⟨x142,h143,h⟩:=obind h
  obtain ⟨v146,h144,h145⟩:=idx_sl h26 h143
  obtain ⟨_,rfl,h147⟩:=h144
  obtain ⟨_,_,rfl,h148,h149⟩:=Cs_cons h147
  cases h148
  obtain ⟨_,_,rfl,h150,h151⟩:=Cs_cons h149
  cases h150
  obtain ⟨_,_,rfl,h152,h153⟩:=Cs_cons h151
  cases h152
  cases Cs_nil h153
  refine AOps.pureR rfl rfl rfl h145 rfl (rfl:_=(eptr [(J x142.Kind),(J x142.A),(J x142.B)] 0)) ?_
  refine lE (agg [(J x142.Kind),(J x142.A),(J x142.B)]) ?_
  obtain ⟨y154,h155,h⟩:=obind h
  refine AOps.callF (g:=33) (args:=[(ptr b29 0),(agg [(J x142.Kind),(J x142.A),(J x142.B)])]) rfl rfl rfl (spec_l08Run_do_F1_ok h5 h9 h13 h17 h21 h108 h113 h120 h125 h130 h131 (HS.enterP hH139 [0] [b29] rfl (by decide)) h155 (HS.wf' hH139)) ?_
  intro _ o161 s158 h160
  obtain ⟨h156,w162,z163,f164,e165,z167,f168,e169,z171,f172,e173,z175,f176,e177,z179,f180,e181,h157,h166,h170,h174,h178,h182,h183⟩:=h160
  have hH159:=HS.callP hH139 [0] h157 rfl rfl
  change HS [] true s s158 (([⟨some b29,[(eptr [(J v1.Checker.Stack),(J v1.Checker.Start),(sl z2 f3 e4),(sl z6 f7 e8),(sl z10 f11 e12),(sl z14 f15 e16),(sl z18 f19 e20)] 0),(J y154.2.1),(J y154.2.2.1),(sl z163 f164 e165),(sl z167 f168 e169),(J y154.2.2.2.2.2.1),(J y154.2.2.2.2.2.2.1),(sl z171 f172 e173),(sl z175 f176 e177),(sl z179 f180 e181)],w162⟩]:List BX)++Ls138.flatten) at hH159
  cases h156
  refine AOps.makeR rfl rfl rfl rfl rfl rfl (rfl:_=(sl 1 true [(J y154.1)])) ?_
  obtain ⟨l184,h185,h⟩:=obind h
  refine AOps.appLf (j:=0) (z':=1) (f':=true) (e':=[(J y154.1)]) hH159 hG140 rfl rfl rfl rfl rfl rfl rfl rfl (appSrc_sl (LR.z (LR.lit (r:=rI .i64) (sz:=1) (.cons rfl .nil))) rfl) ⟨by decide,by decide,rfl,rfl⟩ ⟨rfl,rfl⟩ rfl rfl h185 (LR.el (LR.lit (r:=rI .i64) (sz:=1) (.cons rfl .nil))).len (fun i=>OL.leaf (LR.el (LR.lit (r:=rI .i64) (sz:=1) (.cons rfl .nil))) i) ?_
  intro h186 k188 Ls189 s190 ho187 hG191 hH192
  change HS [] true s s190 (([⟨some b29,[(eptr [(J v1.Checker.Stack),(J v1.Checker.Start),(sl z2 f3 e4),(sl z6 f7 e8),(sl z10 f11 e12),(sl z14 f15 e16),(sl z18 f19 e20)] 0),(J y154.2.1),(J y154.2.2.1),(sl z163 f164 e165),(sl z167 f168 e169),(J y154.2.2.2.2.2.1),(J y154.2.2.2.2.2.2.1),(sl z171 f172 e173),(sl z175 f176 e177),(sl z179 f180 e181)],w162⟩]:List BX)++Ls189.flatten) at hH192
  change AllG [OS oE2 h186 k188 l184] Ls189 at hG191
  refine aq h186 ?_
  refine nl ?_
  refine AW.inBlock ?_
  refine AW.region ?_
  refine q (J i136) ?_
  refine q (J (IntKind.wrap .i64 (i136+1))) ?_
  refine aq (J (IntKind.wrap .i64 (i136+1))) ?_
  refine nl ?_
  cases h
  exact AW.res [(1,(sl z23 f24 e25)),(6,(ptr b29 0)),(7,h186),(8,(J (IntKind.wrap .i64 (i136+1))))] [] ⟨rfl,rfl,rfl,rfl,trivial⟩ trivial (hL1 _ rfl (w162,z163,f164,e165,z167,f168,e169,z171,f172,e173,z175,f176,e177,z179,f180,e181,h186,k188,s190,Ls189) _ _ ⟨h166,h170,h174,h178,h182,h183,ho187,hH192,hG191⟩)
 refine cF hc141 ?_
 refine AW.exit rfl ?_
 obtain ⟨r193,hm,hx⟩:=omap h
 clear h
 subst hx
 have hx:=hR1 _ rfl
 rw[hx] at hm
 have h:=hm
 exact AW.res [(6,(ptr b29 0)),(7,h133)] [] ⟨rfl,rfl,trivial⟩ trivial (KJ100 (m102,m103,m104,m109,m114,m115,m116,m121,m126,codes132,w101,z105,f106,e107,z110,f111,e112,z117,f118,e119,z122,f123,e124,z127,f128,e129,h133,k134,s137,Ls138) _ _ ⟨h108,h113,h120,h125,h130,h131,ho135,hH139,hG140,h⟩)
theorem spec_l02Used_F1_ok {p14 p15:Int} {p16:List Bool} {p111:List (List Push)} {p116:List (List (List Int))} {p121:List (List Int)} {b2 z7 z12 z17 z22:Nat} {w3:Nat→Bool} {f8 f13 f18 f23:Bool} {e9 e14 e19 e24:List AV} {s:St} (h10:LR rB 1 p16 z7 e9) (h15:LR (rL rPush 2) 1 p111 z12 e14) (h20:LR (rL (rL rJ 1) 1) 1 p116 z17 e19) (h25:LR (rL rJ 1) 1 p121 z22 e24) (hE:HS [b2] false s { s with lo:=s.n } [⟨some b2,[(J p14),(J p15),(sl z7 f8 e9),(sl z12 f13 e14),(sl z17 f18 e19),(sl z22 f23 e24)],w3⟩]) {r:(List Int)} (h:spec_l02Used_F1 p14 p15 p16 p111 p116 p121=some r) (hs:WF s):ACall Cf 62 [(ptr b2 0)] s fun v _ s'=>(rL rJ 1) r v∧∃ (w0':Nat→Bool),Fx [b2] s s' [⟨some b2,[(J p14),(J p15),(sl z7 f8 e9),(sl z12 f13 e14),(sl z17 f18 e19),(sl z22 f23 e24)],w0'⟩]:=by
 refine ACall.foreign rfl rfl rfl ?_
 unfold spec_l02Used_F1 at h
 refine sr ?_
 refine q (sl 0 true []) ?_
 refine ns ?_
 refine q (ptr b2 0) ?_
 refine q (ptr b2 0) ?_
 refine q (ptr b2 1) ?_
 refine AOps.ldB (i:=0) (v:=(J p15)) hE rfl rfl rfl rfl rfl rfl rfl rfl rfl ?_
 refine AOps.makeR rfl rfl rfl rfl rfl rfl (rfl:_=(sl 1 true [(J p15)])) ?_
 refine aq (sl 1 true [(J p15)]) ?_
 refine ns ?_
 refine q (ptr b2 0) ?_
 refine q (ptr b2 0) ?_
 refine q (ptr b2 1) ?_
 refine AOps.ldB (i:=0) (v:=(J p15)) hE rfl rfl rfl rfl rfl rfl rfl rfl rfl ?_
 refine AOps.makeR rfl rfl rfl rfl rfl rfl (rfl:_=(sl 1 true [(J p15)])) ?_
 refine aq (sl 1 true [(J p15)]) ?_
 refine nl ?_
 refine AW.seq ?_
 refine AW.meet (σ:=(List Int) × Nat × Bool × (List AV) × St) (fun (t26,z27,f28,e29,s31) tm os=>⟨updL tm [(3,(sl z27 f28 e29))],updL os [],s31⟩) (fun (t26,z27,f28,e29,s31)=>(LR rJ 1 t26 z27 e29)∧(HS [b2] false s s31 [⟨some b2,[(J p14),(J p15),(sl z7 f8 e9),(sl z12 f13 e14),(sl z17 f18 e19),(sl z22 f23 e24)],w3⟩])∧spec_l02Used_F1_J1 t26=some r) ?_ ?_
 ·rintro ⟨t26,z27,f28,e29,s31⟩ tm os ⟨h30,hH32,h⟩
  unfold spec_l02Used_F1_J1 at h
  refine sr ?_
  refine q (sl z27 f28 e29) ?_
  refine aq (sl z27 f28 e29) ?_
  refine nl ?_
  obtain rfl:=Option.some.inj h
  exact AW.ret ⟨_,_,rfl,finF (p:=(rL rJ 1) t26) (Fin.of (p:=(rL rJ 1) t26) (.L fun _=>.I) (⟨_,_,_,rfl,h30⟩)) ⟨w3,HS.leaveP hH32 [0] rfl⟩⟩
 intro KJ33
 refine AW.block ?_
 refine AW.res [(0,(ptr b2 0)),(3,(sl 1 true [(J p15)])),(4,(sl 1 true [(J p15)]))] [(4,false)] ⟨rfl,rfl,rfl,trivial⟩ ⟨rfl,trivial⟩ ?_
 refine AW.loopF (σ:=(List Int) × (List Int)) (τ:=Nat × Bool × (List AV) × Nat × Bool × (List AV) × Bool × St) (fun (t34,t39) (z35,f36,e37,z40,f41,e42,o44,s46)=>(LR rJ 1 t34 z35 e37)∧(LR rJ 1 t39 z40 e42)∧(f41=true∨o44=true)∧(HS [b2] false s s46 [⟨some b2,[(J p14),(J p15),(sl z7 f8 e9),(sl z12 f13 e14),(sl z17 f18 e19),(sl z22 f23 e24)],w3⟩])) (fun (t34,t39) (z35,f36,e37,z40,f41,e42,o44,s46) tm os=>⟨updL tm [(0,(ptr b2 0)),(3,(sl z35 f36 e37)),(4,(sl z40 f41 e42))],updL os [(4,o44)],s46⟩) ?_ (x:=(([p15]:List Int),([p15]:List Int))) (y:=(1,true,[(J p15)],1,true,[(J p15)],false,{ s with lo:=s.n })) h ⟨LR.lit (r:=rI .i64) (sz:=1) (.cons rfl .nil),LR.lit (r:=rI .i64) (sz:=1) (.cons rfl .nil),(Or.inl rfl),(HS.sel hE [some 0] (by decide))⟩
 clear h
 rintro ⟨t34,t39⟩ ⟨z35,f36,e37,z40,f41,e42,o44,s46⟩ tm os ⟨h38,h43,h45,hH47⟩ ee1 h hL1 hR1
 unfold spec_l02Used_F1_S1 at h
 dsimp only at h
 refine AW.seq ?_
 refine sr ?_
 refine q (sl z40 f41 e42) ?_
 refine AOps.p rfl (len_eq h43) ?_
 refine q (bool (decide (((t39.length:Int):Int)>0))) ?_
 refine nl ?_
 rcases oite h with ⟨hc48,h⟩ | ⟨hc48,h⟩
 ·refine cT hc48 ?_
  refine AW.skip ?_
  refine AW.block ?_
  refine sr ?_
  refine q (sl z40 f41 e42) ?_
  obtain ⟨x49,h50,h⟩:=obind h
  obtain ⟨v53,h51,h52⟩:=idx_sl h43 h50
  cases h51
  refine AOps.pureR rfl rfl rfl h52 rfl (rfl:_=(eptr [(J x49)] 0)) ?_
  refine lE (J x49) ?_
  refine aq (J x49) ?_
  refine ns ?_
  refine AOps.moveR rfl rfl rfl rfl (rfl:_=(sl z40 f41 e42)) rfl ?_
  obtain ⟨l54,h55,h⟩:=obind h
  obtain ⟨e56,h57,h58⟩:=cut_slT f41 h43 h55
  refine AOps.cutR rfl rfl rfl rfl h58 (rfl:_=(sl z40 f41 e56)) rfl ?_
  refine aq (sl z40 f41 e56) ?_
  refine ns ?_
  refine q (ptr b2 0) ?_
  refine q (ptr b2 0) ?_
  refine q (ptr b2 5) ?_
  refine AOps.ldB (i:=0) (v:=(sl z22 f23 e24)) hH47 rfl rfl rfl rfl rfl rfl rfl rfl rfl ?_
  refine q (J x49) ?_
  obtain ⟨x59,h60,h⟩:=obind h
  obtain ⟨v63,h61,h62⟩:=idx_sl h25 h60
  obtain ⟨z64,f65,e66,rfl,h67⟩:=h61
  refine AOps.pureR rfl rfl rfl h62 rfl (rfl:_=(eptr [(sl z64 f65 e66)] 0)) ?_
  refine lE (sl z64 f65 e66) ?_
  obtain ⟨y68,h69,h⟩:=obind h
  refine AOps.callPO (g:=85) (args:=[(sl z64 f65 e66)]) (p:=(rL rJ 1) y68) rfl rfl rfl (spec_l00Own_okO h67 h69 (HS.wf' hH47)) ?_
  intro _ h70
  obtain ⟨z71,f72,e73,rfl,h74⟩:=h70
  refine aq (sl z71 f72 e73) ?_
  refine nl ?_
  refine AW.seq ?_
  refine sr ?_
  refine q (J 0) ?_
  refine nl ?_
  refine AW.meet (σ:=(List Int) × Bool × Nat × Bool × (List AV) × St) (fun (t78,o76,z79,f80,e81,s83) tm os=>⟨updL tm [(0,(ptr b2 0)),(3,(sl z35 f36 e37)),(4,(sl z40 f41 e56)),(6,(sl z79 f80 e81))],updL os [(4,o76),(6,true)],s83⟩) (fun (t78,o76,z79,f80,e81,s83)=>(f41=true∨o76=true)∧(LR rJ 1 t78 z79 e81)∧(HS [b2] false s s83 [⟨some b2,[(J p14),(J p15),(sl z7 f8 e9),(sl z12 f13 e14),(sl z17 f18 e19),(sl z22 f23 e24)],w3⟩])∧spec_l02Used_F1_J2 t34 l54 t78=some ee1) ?_ ?_
  ·rintro ⟨t78,o76,z79,f80,e81,s83⟩ tm os ⟨h77,h82,hH84,h⟩
   unfold spec_l02Used_F1_J2 at h
   refine sr ?_
   refine q (J 0) ?_
   refine nl ?_
   refine AW.meet (σ:=(List Int) × (List Int) × Nat × Bool × (List AV) × Nat × Bool × (List AV) × Bool × St) (fun (t86,t91,z87,f88,e89,z92,f93,e94,o96,s98) tm os=>⟨updL tm [(0,(ptr b2 0)),(3,(sl z87 f88 e89)),(4,(sl z92 f93 e94))],updL os [(4,o96)],s98⟩) (fun (t86,t91,z87,f88,e89,z92,f93,e94,o96,s98)=>(LR rJ 1 t86 z87 e89)∧(LR rJ 1 t91 z92 e94)∧(f93=true∨o96=true)∧(HS [b2] false s s98 [⟨some b2,[(J p14),(J p15),(sl z7 f8 e9),(sl z12 f13 e14),(sl z17 f18 e19),(sl z22 f23 e24)],w3⟩])∧spec_l02Used_F1_J3 t86 t91=some ee1) ?_ ?_
   ·rintro ⟨t86,t91,z87,f88,e89,z92,f93,e94,o96,s98⟩ tm os ⟨h90,h95,h97,hH99,h⟩
    unfold spec_l02Used_F1_J3 at h
    refine AW.inBlock ?_
    cases h
    exact AW.res [(0,(ptr b2 0)),(3,(sl z87 f88 e89)),(4,(sl z92 f93 e94))] [(4,o96)] ⟨rfl,rfl,rfl,trivial⟩ ⟨rfl,trivial⟩ (hL1 _ rfl (z87,f88,e89,z92,f93,e94,o96,s98) _ _ ⟨h90,h95,h97,(HS.sel hH99 [some 0] (by decide))⟩)
   intro KJ100
   refine AW.block ?_
   refine AW.res [(0,(ptr b2 0)),(3,(sl z35 f36 e37)),(4,(sl z40 f41 e56)),(6,(sl z79 f80 e81)),(8,(J 0))] [(4,o76),(6,true)] ⟨rfl,rfl,rfl,rfl,rfl,trivial⟩ ⟨rfl,rfl,trivial⟩ ?_
   refine AW.loopF (σ:=(List Int) × (List Int) × Int) (τ:=Nat × Bool × (List AV) × Nat × Bool × (List AV) × Bool × St) (fun (t101,t106,t113) (z102,f103,e104,z107,f108,e109,o111,s114)=>(LR rJ 1 t101 z102 e104)∧(LR rJ 1 t106 z107 e109)∧(f108=true∨o111=true)∧(HS [b2] false s s114 [⟨some b2,[(J p14),(J p15),(sl z7 f8 e9),(sl z12 f13 e14),(sl z17 f18 e19),(sl z22 f23 e24)],w3⟩])) (fun (t101,t106,t113) (z102,f103,e104,z107,f108,e109,o111,s114) tm os=>⟨updL tm [(0,(ptr b2 0)),(3,(sl z102 f103 e104)),(4,(sl z107 f108 e109)),(6,(sl z79 f80 e81)),(8,(J t113))],updL os [(4,o111),(6,true)],s114⟩) ?_ (x:=(t34,l54,0)) (y:=(z35,f36,e37,z40,f41,e56,o76,s83)) h ⟨h38,h57,h77,(HS.sel hH84 [some 0] (by decide))⟩
   clear h
   rintro ⟨t101,t106,t113⟩ ⟨z102,f103,e104,z107,f108,e109,o111,s114⟩ tm os ⟨h105,h110,h112,hH115⟩ ee2 h hL2 hR2
   unfold spec_l02Used_F1_S2 at h
   dsimp only at h
   refine AW.seq ?_
   refine sr ?_
   refine q (J t113) ?_
   refine q (sl z79 f80 e81) ?_
   refine AOps.p rfl (len_eq h82) ?_
   refine q (bool (decide ((t113:Int)<(t78.length:Int)))) ?_
   refine nl ?_
   rcases oite h with ⟨hc116,h⟩ | ⟨hc116,h⟩
   ·refine cT hc116 ?_
    refine AW.skip ?_
    refine AW.seq ?_
    refine AW.block ?_
    refine sr ?_
    refine q (sl z102 f103 e104) ?_
    refine q (sl z79 f80 e81) ?_
    refine q (J t113) ?_
    obtain ⟨x117,h118,h⟩:=obind h
    obtain ⟨v121,h119,h120⟩:=idx_sl h82 h118
    cases h119
    refine AOps.pureR rfl rfl rfl h120 rfl (rfl:_=(eptr [(J x117)] 0)) ?_
    refine lE (J x117) ?_
    obtain ⟨y122,h123,h⟩:=obind h
    refine cP (spec_l00Has_ok h105 h123 (HS.wf' hH115)) ?_
    intro _ o125 h124
    cases h124
    refine q (bool (!y122)) ?_
    refine nl ?_
    refine AW.meet (σ:=(List Int) × (List Int) × Nat × Bool × (List AV) × Nat × Bool × (List AV) × Bool × St) (fun (t126,t131,z127,f128,e129,z132,f133,e134,o136,s138) tm os=>⟨updL tm [(0,(ptr b2 0)),(3,(sl z127 f128 e129)),(4,(sl z132 f133 e134)),(6,(sl z79 f80 e81)),(8,(J t113))],updL os [(4,o136),(6,true)],s138⟩) (fun (t126,t131,z127,f128,e129,z132,f133,e134,o136,s138)=>(LR rJ 1 t126 z127 e129)∧(LR rJ 1 t131 z132 e134)∧(f133=true∨o136=true)∧(HS [b2] false s s138 [⟨some b2,[(J p14),(J p15),(sl z7 f8 e9),(sl z12 f13 e14),(sl z17 f18 e19),(sl z22 f23 e24)],w3⟩])∧spec_l02Used_F1_J4 t113 t126 t131=some ee2) ?_ ?_
    ·rintro ⟨t126,t131,z127,f128,e129,z132,f133,e134,o136,s138⟩ tm os ⟨h130,h135,h137,hH139,h⟩
     unfold spec_l02Used_F1_J4 at h
     refine AW.inBlock ?_
     refine AW.region ?_
     refine q (J t113) ?_
     refine q (J (IntKind.wrap .i64 (t113+1))) ?_
     refine aq (J (IntKind.wrap .i64 (t113+1))) ?_
     refine nl ?_
     cases h
     exact AW.res [(0,(ptr b2 0)),(3,(sl z127 f128 e129)),(4,(sl z132 f133 e134)),(6,(sl z79 f80 e81)),(8,(J (IntKind.wrap .i64 (t113+1))))] [(4,o136),(6,true)] ⟨rfl,rfl,rfl,rfl,rfl,trivial⟩ ⟨rfl,rfl,trivial⟩ (hL2 _ rfl (z127,f128,e129,z132,f133,e134,o136,s138) _ _ ⟨h130,h135,h137,(HS.sel hH139 [some 0] (by decide))⟩)
    intro KJ140
    rcases oite h with ⟨hc141,h⟩ | ⟨hc141,h⟩
    ·refine cT hc141 ?_
     refine sr ?_
     refine q (sl z102 f103 e104) ?_
     refine q (sl z79 f80 e81) ?_
     refine q (J t113) ?_
     obtain ⟨x142,h143,h⟩:=obind h
     obtain ⟨v146,h144,h145⟩:=idx_sl h82 h143
     cases h144
     refine AOps.pureR rfl rfl rfl h145 rfl (rfl:_=(eptr [(J x142)] 0)) ?_
     refine lE (J x142) ?_
     obtain ⟨y147,h148,h⟩:=obind h
     refine cP (spec_l00Put_ok h105 h148 (HS.wf' hH115)) ?_
     intro _ o154 h149
     obtain ⟨z150,f151,e152,rfl,h153⟩:=h149
     refine aq (sl z150 f151 e152) ?_
     refine nl ?_
     refine AW.region ?_
     refine AOps.moveR rfl rfl rfl rfl (rfl:_=(sl z107 f108 e109)) rfl ?_
     refine q (sl z79 f80 e81) ?_
     refine q (J t113) ?_
     obtain ⟨x155,h156,h⟩:=obind h
     obtain ⟨v159,h157,h158⟩:=idx_sl h82 h156
     cases h157
     refine AOps.pureR rfl rfl rfl h158 rfl (rfl:_=(eptr [(J x155)] 0)) ?_
     refine lE (J x155) ?_
     refine AOps.makeR rfl rfl rfl rfl rfl rfl (rfl:_=(sl 1 true [(J x155)])) ?_
     obtain ⟨l160,h161,h⟩:=obind h
     obtain ⟨h162,h163⟩:=app_LR h110 (LR.lit (r:=rI .i64) (sz:=1) (.cons rfl .nil)) h161
     refine AOps.appL (z:=z107) (f:=f108) (e:=e109) (z':=1) (f':=true) (e':=[(J x155)]) rfl rfl rfl rfl rfl rfl rfl (appSrc_sl (LR.z (LR.lit (r:=rI .i64) (sz:=1) (.cons rfl .nil))) rfl) (LR.z h110) ⟨by decide,by decide,rfl,rfl⟩ rfl rfl h163 (own_tmp h112 rfl rfl) ?_
     refine aq (sl 1 false (e109++[(J x155)])) ?_
     refine nl ?_
     exact AW.res [(0,(ptr b2 0)),(3,(sl z150 f151 e152)),(4,(sl 1 false (e109++[(J x155)]))),(6,(sl z79 f80 e81)),(8,(J t113))] [(4,true),(6,true)] ⟨rfl,rfl,rfl,rfl,rfl,trivial⟩ ⟨rfl,rfl,trivial⟩ (KJ140 (y147,l160,z150,f151,e152,1,false,(e109++[(J x155)]),true,s114) _ _ ⟨h153,h162,(Or.inr rfl),(HS.sel hH115 [some 0] (by decide)),h⟩)
    refine cF hc141 ?_
    refine AW.skip ?_
    exact AW.res [(0,(ptr b2 0)),(3,(sl z102 f103 e104)),(4,(sl z107 f108 e109)),(6,(sl z79 f80 e81)),(8,(J t113))] [(4,o111),(6,true)] ⟨rfl,rfl,rfl,rfl,rfl,trivial⟩ ⟨rfl,rfl,trivial⟩ (KJ140 (t101,t106,z102,f103,e104,z107,f108,e109,o111,s114) _ _ ⟨h105,h110,h112,(HS.sel hH115 [some 0] (by decide)),h⟩)
   refine cF hc116 ?_
   refine AW.exit rfl ?_
   obtain ⟨r164,hm,hx⟩:=omap h
   clear h
   subst hx
   have hx:=hR2 _ rfl
   rw[hx] at hm
   have h:=hm
   exact AW.res [(0,(ptr b2 0)),(3,(sl z102 f103 e104)),(4,(sl z107 f108 e109))] [(4,o111)] ⟨rfl,rfl,rfl,trivial⟩ ⟨rfl,trivial⟩ (KJ100 (t101,t106,z102,f103,e104,z107,f108,e109,o111,s114) _ _ ⟨h105,h110,h112,(HS.sel hH115 [some 0] (by decide)),h⟩)
  intro KJ85
  refine AW.block ?_
  refine AW.res [(0,(ptr b2 0)),(3,(sl z35 f36 e37)),(4,(sl z40 f41 e56)),(5,(J x49)),(6,(sl z71 f72 e73)),(7,(J 0))] [(4,o44),(6,true)] ⟨rfl,rfl,rfl,rfl,rfl,rfl,trivial⟩ ⟨rfl,rfl,trivial⟩ ?_
  refine AW.loopF (σ:=(List Int) × Int) (τ:=Bool × Nat × Bool × (List AV) × St) (fun (t167,t172) (o165,z168,f169,e170,s173)=>(f41=true∨o165=true)∧(LR rJ 1 t167 z168 e170)∧(HS [b2] false s s173 [⟨some b2,[(J p14),(J p15),(sl z7 f8 e9),(sl z12 f13 e14),(sl z17 f18 e19),(sl z22 f23 e24)],w3⟩])) (fun (t167,t172) (o165,z168,f169,e170,s173) tm os=>⟨updL tm [(0,(ptr b2 0)),(3,(sl z35 f36 e37)),(4,(sl z40 f41 e56)),(5,(J x49)),(6,(sl z168 f169 e170)),(7,(J t172))],updL os [(4,o165),(6,true)],s173⟩) ?_ (x:=(y68,0)) (y:=(o44,z71,f72,e73,s46)) h ⟨h45,h74,(HS.sel hH47 [some 0] (by decide))⟩
  clear h
  rintro ⟨t167,t172⟩ ⟨o165,z168,f169,e170,s173⟩ tm os ⟨h166,h171,hH174⟩ ee2 h hL2 hR2
  unfold spec_l02Used_F1_S3 at h
  dsimp only at h
  refine AW.seq ?_
  refine sr ?_
  refine q (J t172) ?_
  refine q (bool (decide ((t172:Int)<2))) ?_
  refine nl ?_
  rcases oite h with ⟨hc175,h⟩ | ⟨hc175,h⟩
  ·refine cT hc175 ?_
   refine AW.skip ?_
   refine AW.seq ?_
   refine AW.block ?_
   refine AW.region ?_
   refine AOps.moveR rfl rfl rfl rfl (rfl:_=(sl z168 f169 e170)) rfl ?_
   refine q (ptr b2 0) ?_
   refine q (ptr b2 0) ?_
   refine q (ptr b2 3) ?_
   refine AOps.ldB (i:=0) (v:=(sl z12 f13 e14)) hH174 rfl rfl rfl rfl rfl rfl rfl rfl rfl ?_
   refine q (J x49) ?_
   obtain ⟨x176,h177,h⟩:=obind h
   obtain ⟨v180,h178,h179⟩:=idx_sl h15 h177
   obtain ⟨z181,f182,e183,rfl,h184⟩:=h178
   refine AOps.pureR rfl rfl rfl h179 rfl (rfl:_=(eptr [(sl z181 f182 e183)] 0)) ?_
   refine lE (sl z181 f182 e183) ?_
   refine q (J t172) ?_
   obtain ⟨x185,h186,h⟩:=obind h
   obtain ⟨v189,h187,h188⟩:=idx_sl h184 h186
   obtain ⟨_,rfl,h190⟩:=h187
   obtain ⟨_,_,rfl,h191,h192⟩:=Cs_cons h190
   cases h191
   obtain ⟨_,_,rfl,h193,h194⟩:=Cs_cons h192
   cases h193
   cases Cs_nil h194
   refine AOps.pureR rfl rfl rfl h188 rfl (rfl:_=(eptr [(J x185.To),(J x185.Put)] 0)) ?_
   refine q (eptr [(J x185.To),(J x185.Put)] 0) ?_
   refine lE (J x185.To) ?_
   refine AOps.makeR rfl rfl rfl rfl rfl rfl (rfl:_=(sl 1 true [(J x185.To)])) ?_
   obtain ⟨l195,h196,h⟩:=obind h
   obtain ⟨h197,h198⟩:=app_LR h171 (LR.lit (r:=rI .i64) (sz:=1) (.cons rfl .nil)) h196
   refine AOps.appL (z:=z168) (f:=f169) (e:=e170) (z':=1) (f':=true) (e':=[(J x185.To)]) rfl rfl rfl rfl rfl rfl rfl (appSrc_sl (LR.z (LR.lit (r:=rI .i64) (sz:=1) (.cons rfl .nil))) rfl) (LR.z h171) ⟨by decide,by decide,rfl,rfl⟩ rfl rfl h198 (Or.inr ⟨39,rfl,rfl⟩) ?_
   refine q (ptr b2 0) ?_
   refine q (ptr b2 0) ?_
   refine q (ptr b2 4) ?_
   refine AOps.ldB (i:=0) (v:=(sl z17 f18 e19)) hH174 rfl rfl rfl rfl rfl rfl rfl rfl rfl ?_
   refine q (J x49) ?_
   obtain ⟨x199,h200,h⟩:=obind h
   obtain ⟨v203,h201,h202⟩:=idx_sl h20 h200
   obtain ⟨z204,f205,e206,rfl,h207⟩:=h201
   refine AOps.pureR rfl rfl rfl h202 rfl (rfl:_=(eptr [(sl z204 f205 e206)] 0)) ?_
   refine lE (sl z204 f205 e206) ?_
   refine q (J t172) ?_
   obtain ⟨x208,h209,h⟩:=obind h
   obtain ⟨v212,h210,h211⟩:=idx_sl h207 h209
   obtain ⟨z213,f214,e215,rfl,h216⟩:=h210
   refine AOps.pureR rfl rfl rfl h211 rfl (rfl:_=(eptr [(sl z213 f214 e215)] 0)) ?_
   refine lE (sl z213 f214 e215) ?_
   obtain ⟨l217,h218,h⟩:=obind h
   obtain ⟨h219,h220⟩:=app_LR h197 h216 h218
   refine AOps.appL (z:=1) (f:=false) (e:=(e170++[(J x185.To)])) (z':=z213) (f':=f214) (e':=e215) rfl rfl rfl rfl rfl rfl rfl (appSrc_sl (LR.z h216) rfl) (LR.z h197) ⟨by decide,by decide,rfl,rfl⟩ rfl rfl h220 (Or.inr ⟨52,rfl,rfl⟩) ?_
   refine aq (sl 1 false ((e170++[(J x185.To)])++e215)) ?_
   refine nl ?_
   refine AW.inBlock ?_
   refine AW.region ?_
   refine q (J t172) ?_
   refine q (J (IntKind.wrap .i64 (t172+1))) ?_
   refine aq (J (IntKind.wrap .i64 (t172+1))) ?_
   refine nl ?_
   cases h
   exact AW.res [(0,(ptr b2 0)),(3,(sl z35 f36 e37)),(4,(sl z40 f41 e56)),(5,(J x49)),(6,(sl 1 false ((e170++[(J x185.To)])++e215))),(7,(J (IntKind.wrap .i64 (t172+1))))] [(4,o165),(6,true)] ⟨rfl,rfl,rfl,rfl,rfl,rfl,trivial⟩ ⟨rfl,rfl,trivial⟩ (hL2 _ rfl (o165,1,false,((e170++[(J x185.To)])++e215),s173) _ _ ⟨h166,h219,(HS.sel hH174 [some 0] (by decide))⟩)
  refine cF hc175 ?_
  refine AW.exit rfl ?_
  obtain ⟨r221,hm,hx⟩:=omap h
  clear h
  subst hx
  have hx:=hR2 _ rfl
  rw[hx] at hm
  have h:=hm
  exact AW.res [(0,(ptr b2 0)),(3,(sl z35 f36 e37)),(4,(sl z40 f41 e56)),(6,(sl z168 f169 e170))] [(4,o165),(6,true)] ⟨rfl,rfl,rfl,rfl,trivial⟩ ⟨rfl,rfl,trivial⟩ (KJ85 (t167,o165,z168,f169,e170,s173) _ _ ⟨h166,h171,(HS.sel hH174 [some 0] (by decide)),h⟩)
 refine cF hc48 ?_
 refine AW.exit rfl ?_
 obtain ⟨r222,hm,hx⟩:=omap h
 clear h
 subst hx
 have hx:=hR1 _ rfl
 rw[hx] at hm
 have h:=hm
 exact AW.res [(3,(sl z35 f36 e37))] [] ⟨rfl,trivial⟩ trivial (KJ33 (t34,z35,f36,e37,s46) _ _ ⟨h38,(HS.sel hH47 [some 0] (by decide)),h⟩)
theorem spec_l08Lost_w0_7_ok {c1:Checker} {z2 z6 z10 z14:Nat} {f3 f7 f11 f15:Bool} {e4 e8 e12 e16:List AV} {j18:AV} {s:St} (h5:LR rB 1 c1.Accept z2 e4) (h9:LR (rL rPush 2) 1 c1.Call z6 e8) (h13:LR (rL (rL rJ 1) 1) 1 c1.Return z10 e12) (h17:LR (rL rJ 1) 1 c1.Inner z14 e16) {r:(List Int)} (h:spec_l08Lost_w0_7 c1=some r) (hs:WF s):ACall Cf 35 [(eptr [(J c1.Stack),(J c1.Start),(sl z2 f3 e4),(sl z6 f7 e8),(sl z10 f11 e12),(sl z14 f15 e16),j18] 0)] s fun v _ s'=>(rL rJ 1) r v∧s'=s:=by
 refine ACall.boxes rfl rfl rfl ?_
 have hH0:=HS.init hs
 unfold spec_l08Lost_w0_7 at h
 refine sr ?_
 refine q (sl 0 true []) ?_
 refine ns ?_
 refine AOps.makeR rfl rfl rfl rfl rfl rfl (rfl:_=(sl 1 true [])) ?_
 refine aq (sl 1 true []) ?_
 refine nl ?_
 refine AW.seq ?_
 refine sr ?_
 refine q (J 0) ?_
 refine nl ?_
 refine AW.meet (σ:=(List Int) × Nat × Bool × (List AV) × Bool × St) (fun (out19,z20,f21,e22,o24,s26) tm os=>⟨updL tm [(3,(sl z20 f21 e22))],updL os [(3,o24)],s26⟩) (fun (out19,z20,f21,e22,o24,s26)=>(LR rJ 1 out19 z20 e22)∧(f21=true∨o24=true)∧(HS [] false s s26 [])∧spec_l08Lost_w0_7_J1 out19=some r) ?_ ?_
 ·rintro ⟨out19,z20,f21,e22,o24,s26⟩ tm os ⟨h23,h25,hH27,h⟩
  unfold spec_l08Lost_w0_7_J1 at h
  refine sr ?_
  refine q (sl z20 f21 e22) ?_
  refine aq (sl z20 f21 e22) ?_
  refine nl ?_
  cases h
  exact AW.ret ⟨⟨_,hH27⟩,_,_,rfl,(Fin.of (p:=(rL rJ 1) _) (.L fun _=>.I) (⟨_,_,_,rfl,h23⟩)).2⟩
 intro KJ28
 refine AW.block ?_
 refine AW.res [(0,(eptr [(J c1.Stack),(J c1.Start),(sl z2 f3 e4),(sl z6 f7 e8),(sl z10 f11 e12),(sl z14 f15 e16),j18] 0)),(3,(sl 1 true [])),(4,(J 0))] [(3,false)] ⟨rfl,rfl,rfl,trivial⟩ ⟨rfl,trivial⟩ ?_
 refine AW.loopF (σ:=(List Int) × Int) (τ:=Nat × Bool × (List AV) × Bool × St) (fun (out29,s36) (z30,f31,e32,o34,s37)=>(LR rJ 1 out29 z30 e32)∧(f31=true∨o34=true)∧(HS [] false s s37 [])) (fun (out29,s36) (z30,f31,e32,o34,s37) tm os=>⟨updL tm [(0,(eptr [(J c1.Stack),(J c1.Start),(sl z2 f3 e4),(sl z6 f7 e8),(sl z10 f11 e12),(sl z14 f15 e16),j18] 0)),(3,(sl z30 f31 e32)),(4,(J s36))],updL os [(3,o34)],s37⟩) ?_ (x:=(([]:List Int),0)) (y:=(1,true,[],false,{ s with lo:=s.n })) h ⟨⟨.inl rfl,.nil⟩,(Or.inl rfl),(HS.sel hH0 [] (by decide))⟩
 clear h
 rintro ⟨out29,s36⟩ ⟨z30,f31,e32,o34,s37⟩ tm os ⟨h33,h35,hH38⟩ ee1 h hL1 hR1
 unfold spec_l08Lost_w0_7_S1 at h
 dsimp only at h
 refine AW.seq ?_
 refine sr ?_
 refine q (J s36) ?_
 refine q (eptr [(J c1.Stack),(J c1.Start),(sl z2 f3 e4),(sl z6 f7 e8),(sl z10 f11 e12),(sl z14 f15 e16),j18] 0) ?_
 refine q (eptr [(J c1.Stack),(J c1.Start),(sl z2 f3 e4),(sl z6 f7 e8),(sl z10 f11 e12),(sl z14 f15 e16),j18] 0) ?_
 refine q (eptr [(J c1.Stack),(J c1.Start),(sl z2 f3 e4),(sl z6 f7 e8),(sl z10 f11 e12),(sl z14 f15 e16),j18] 2) ?_
 refine lE (sl z2 f3 e4) ?_
 refine AOps.p rfl (len_eq h5) ?_
 refine q (bool (decide ((s36:Int)<(c1.Accept.length:Int)))) ?_
 refine nl ?_
 rcases oite h with ⟨hc39,h⟩ | ⟨hc39,h⟩
 ·refine cT hc39 ?_
  refine AW.skip ?_
  refine AW.seq ?_
  refine AW.block ?_
  refine sr ?_
  refine q (eptr [(J c1.Stack),(J c1.Start),(sl z2 f3 e4),(sl z6 f7 e8),(sl z10 f11 e12),(sl z14 f15 e16),j18] 0) ?_
  refine q (eptr [(J c1.Stack),(J c1.Start),(sl z2 f3 e4),(sl z6 f7 e8),(sl z10 f11 e12),(sl z14 f15 e16),j18] 0) ?_
  refine lE (agg [(J c1.Stack),(J c1.Start),(sl z2 f3 e4),(sl z6 f7 e8),(sl z10 f11 e12),(sl z14 f15 e16)]) ?_
  refine AOps.alloc1 hH38 rfl rfl rfl rfl rfl rfl ?_
  intro b40 s41 hH42
  refine AOps.stB (i:=0) (v:=(agg [(J c1.Stack),(J c1.Start),(sl z2 f3 e4),(sl z6 f7 e8),(sl z10 f11 e12),(sl z14 f15 e16)])) hH42 rfl rfl rfl rfl rfl rfl rfl rfl rfl (lt_b rfl) (le_b rfl) rfl ?_
  intro w43 s44 h45 h46 hH47
  refine ns ?_
  refine q (J s36) ?_
  refine q (ptr b40 1) ?_
  refine AOps.stB (i:=0) (v:=(J s36)) hH47 rfl rfl rfl rfl rfl rfl rfl rfl rfl (lt_b rfl) (le_b rfl) rfl ?_
  intro w48 s49 h50 h51 hH52
  refine ns ?_
  obtain ⟨y53,h54,h⟩:=obind h
  refine AOps.callF (g:=62) (args:=[(ptr b40 0)]) rfl rfl rfl (spec_l02Used_F1_ok h5 h9 h13 h17 (HS.enterP hH52 [0] [b40] rfl (by decide)) h54 (HS.wf' hH52)) ?_
  intro _ o64 s57 h59
  obtain ⟨h55,w65,h56⟩:=h59
  have hH58:=HS.callP hH52 [0] h56 rfl rfl
  obtain ⟨z60,f61,e62,rfl,h63⟩:=h55
  refine aq (sl z60 f61 e62) ?_
  refine ns ?_
  refine q (bool false) ?_
  refine nl ?_
  refine AW.seq ?_
  refine sr ?_
  refine q (J 0) ?_
  refine nl ?_
  refine AW.meet (σ:=Bool × Bool × St) (fun (some68,o66,s69) tm os=>⟨updL tm [(0,(eptr [(J c1.Stack),(J c1.Start),(sl z2 f3 e4),(sl z6 f7 e8),(sl z10 f11 e12),(sl z14 f15 e16),j18] 0)),(3,(sl z30 f31 e32)),(4,(J s36)),(7,(bool some68))],updL os [(3,o66)],s69⟩) (fun (some68,o66,s69)=>(f31=true∨o66=true)∧(HS [] false s s69 [])∧spec_l08Lost_w0_7_J2 out29 s36 some68=some ee1) ?_ ?_
  ·rintro ⟨some68,o66,s69⟩ tm os ⟨h67,hH70,h⟩
   unfold spec_l08Lost_w0_7_J2 at h
   refine sr ?_
   refine q (bool some68) ?_
   refine q (bool (!some68)) ?_
   refine nl ?_
   refine AW.meet (σ:=(List Int) × Nat × Bool × (List AV) × Bool × St) (fun (out72,z73,f74,e75,o77,s79) tm os=>⟨updL tm [(0,(eptr [(J c1.Stack),(J c1.Start),(sl z2 f3 e4),(sl z6 f7 e8),(sl z10 f11 e12),(sl z14 f15 e16),j18] 0)),(3,(sl z73 f74 e75)),(4,(J s36))],updL os [(3,o77)],s79⟩) (fun (out72,z73,f74,e75,o77,s79)=>(LR rJ 1 out72 z73 e75)∧(f74=true∨o77=true)∧(HS [] false s s79 [])∧spec_l08Lost_w0_7_J3 s36 out72=some ee1) ?_ ?_
   ·rintro ⟨out72,z73,f74,e75,o77,s79⟩ tm os ⟨h76,h78,hH80,h⟩
    unfold spec_l08Lost_w0_7_J3 at h
    refine AW.inBlock ?_
    refine AW.region ?_
    refine q (J s36) ?_
    refine q (J (IntKind.wrap .i64 (s36+1))) ?_
    refine aq (J (IntKind.wrap .i64 (s36+1))) ?_
    refine nl ?_
    cases h
    exact AW.res [(0,(eptr [(J c1.Stack),(J c1.Start),(sl z2 f3 e4),(sl z6 f7 e8),(sl z10 f11 e12),(sl z14 f15 e16),j18] 0)),(3,(sl z73 f74 e75)),(4,(J (IntKind.wrap .i64 (s36+1))))] [(3,o77)] ⟨rfl,rfl,rfl,trivial⟩ ⟨rfl,trivial⟩ (hL1 _ rfl (z73,f74,e75,o77,s79) _ _ ⟨h76,h78,(HS.sel hH80 [] (by decide))⟩)
   intro KJ81
   rcases oite h with ⟨hc82,h⟩ | ⟨hc82,h⟩
   ·refine cT hc82 ?_
    refine AW.region ?_
    refine AOps.moveR rfl rfl rfl rfl (rfl:_=(sl z30 f31 e32)) rfl ?_
    refine q (J s36) ?_
    refine AOps.makeR rfl rfl rfl rfl rfl rfl (rfl:_=(sl 1 true [(J s36)])) ?_
    obtain ⟨l83,h84,h⟩:=obind h
    obtain ⟨h85,h86⟩:=app_LR h33 (LR.lit (r:=rI .i64) (sz:=1) (.cons rfl .nil)) h84
    refine AOps.appL (z:=z30) (f:=f31) (e:=e32) (z':=1) (f':=true) (e':=[(J s36)]) rfl rfl rfl rfl rfl rfl rfl (appSrc_sl (LR.z (LR.lit (r:=rI .i64) (sz:=1) (.cons rfl .nil))) rfl) (LR.z h33) ⟨by decide,by decide,rfl,rfl⟩ rfl rfl h86 (own_tmp h67 rfl rfl) ?_
    refine aq (sl 1 false (e32++[(J s36)])) ?_
    refine nl ?_
    exact AW.res [(0,(eptr [(J c1.Stack),(J c1.Start),(sl z2 f3 e4),(sl z6 f7 e8),(sl z10 f11 e12),(sl z14 f15 e16),j18] 0)),(3,(sl 1 false (e32++[(J s36)]))),(4,(J s36))] [(3,true)] ⟨rfl,rfl,rfl,trivial⟩ ⟨rfl,trivial⟩ (KJ81 (l83,1,false,(e32++[(J s36)]),true,s69) _ _ ⟨h85,(Or.inr rfl),(HS.sel hH70 [] (by decide)),h⟩)
   refine cF hc82 ?_
   refine AW.skip ?_
   exact AW.res [(0,(eptr [(J c1.Stack),(J c1.Start),(sl z2 f3 e4),(sl z6 f7 e8),(sl z10 f11 e12),(sl z14 f15 e16),j18] 0)),(3,(sl z30 f31 e32)),(4,(J s36))] [(3,o66)] ⟨rfl,rfl,rfl,trivial⟩ ⟨rfl,trivial⟩ (KJ81 (out29,z30,f31,e32,o66,s69) _ _ ⟨h33,h67,(HS.sel hH70 [] (by decide)),h⟩)
  intro KJ71
  refine AW.block ?_
  refine AW.res [(0,(eptr [(J c1.Stack),(J c1.Start),(sl z2 f3 e4),(sl z6 f7 e8),(sl z10 f11 e12),(sl z14 f15 e16),j18] 0)),(3,(sl z30 f31 e32)),(4,(J s36)),(6,(sl z60 f61 e62)),(7,(bool false)),(8,(J 0))] [(3,o34)] ⟨rfl,rfl,rfl,rfl,rfl,rfl,trivial⟩ ⟨rfl,trivial⟩ ?_
  refine AW.loopF (σ:=Bool × Int) (τ:=Bool × St) (fun (some89,i90) (o87,s91)=>(f31=true∨o87=true)∧(HS [] false s s91 [])) (fun (some89,i90) (o87,s91) tm os=>⟨updL tm [(0,(eptr [(J c1.Stack),(J c1.Start),(sl z2 f3 e4),(sl z6 f7 e8),(sl z10 f11 e12),(sl z14 f15 e16),j18] 0)),(3,(sl z30 f31 e32)),(4,(J s36)),(6,(sl z60 f61 e62)),(7,(bool some89)),(8,(J i90))],updL os [(3,o87)],s91⟩) ?_ (x:=(false,0)) (y:=(o34,s57)) h ⟨h35,(HS.sel hH58 [] (by decide))⟩
  clear h
  rintro ⟨some89,i90⟩ ⟨o87,s91⟩ tm os ⟨h88,hH92⟩ ee2 h hL2 hR2
  unfold spec_l08Lost_w0_7_S2 at h
  dsimp only at h
  refine AW.seq ?_
  refine sr ?_
  refine q (J i90) ?_
  refine q (sl z60 f61 e62) ?_
  refine AOps.p rfl (len_eq h63) ?_
  refine q (bool (decide ((i90:Int)<(y53.length:Int)))) ?_
  refine nl ?_
  rcases oite h with ⟨hc93,h⟩ | ⟨hc93,h⟩
  ·refine cT hc93 ?_
   refine AW.skip ?_
   refine AW.seq ?_
   refine AW.block ?_
   refine AW.region ?_
   refine q (bool some89) ?_
   refine q (bool some89) ?_
   obtain ⟨b95,hb,h⟩:=obind h
   refine AOps.split 11 (fun f'=>∃ tm' os',f'=⟨updL tm' [(0,(eptr [(J c1.Stack),(J c1.Start),(sl z2 f3 e4),(sl z6 f7 e8),(sl z10 f11 e12),(sl z14 f15 e16),j18] 0)),(3,(sl z30 f31 e32)),(4,(J s36)),(6,(sl z60 f61 e62)),(8,(J i90)),(43,(bool b95))],updL os' [(3,o87)],s91⟩) ?_ ?_
   ·rcases oite hb with ⟨hc94,hb⟩ | ⟨hc94,hb⟩
    ·refine kn 32 hc94 ?_
     refine sk ?_
     refine sk ?_
     refine sk ?_
     refine sk ?_
     refine sk ?_
     refine sk ?_
     refine sk ?_
     refine sk ?_
     refine sk ?_
     refine sk ?_
     refine q (bool true) ?_
     refine AOps.resR [(0,(eptr [(J c1.Stack),(J c1.Start),(sl z2 f3 e4),(sl z6 f7 e8),(sl z10 f11 e12),(sl z14 f15 e16),j18] 0)),(3,(sl z30 f31 e32)),(4,(J s36)),(6,(sl z60 f61 e62)),(8,(J i90)),(43,(bool b95))] [(3,o87)] ?_ ?_ _ ⟨_,_,rfl⟩
     ·exact ⟨rfl,rfl,rfl,rfl,rfl,congrArg bool (Option.some.inj hb),trivial⟩
     exact ⟨rfl,trivial⟩
    ·have h:=hb
     refine kn 32 hc94 ?_
     refine q (eptr [(J c1.Stack),(J c1.Start),(sl z2 f3 e4),(sl z6 f7 e8),(sl z10 f11 e12),(sl z14 f15 e16),j18] 0) ?_
     refine q (eptr [(J c1.Stack),(J c1.Start),(sl z2 f3 e4),(sl z6 f7 e8),(sl z10 f11 e12),(sl z14 f15 e16),j18] 0) ?_
     refine q (eptr [(J c1.Stack),(J c1.Start),(sl z2 f3 e4),(sl z6 f7 e8),(sl z10 f11 e12),(sl z14 f15 e16),j18] 2) ?_
     refine lE (sl z2 f3 e4) ?_
     refine q (sl z60 f61 e62) ?_
     refine q (J i90) ?_
     obtain ⟨x96,h97,h⟩:=obind h
     obtain ⟨v100,h98,h99⟩:=idx_sl h63 h97
     cases h98
     refine AOps.pureR rfl rfl rfl h99 rfl (rfl:_=(eptr [(J x96)] 0)) ?_
     refine lE (J x96) ?_
     obtain ⟨x101,h102,h⟩:=obind h
     obtain ⟨v105,h103,h104⟩:=idx_sl h5 h102
     cases h103
     refine AOps.pureR rfl rfl rfl h104 rfl (rfl:_=(eptr [(bool x101)] 0)) ?_
     refine lE (bool x101) ?_
     refine q (bool x101) ?_
     refine AOps.resR [(0,(eptr [(J c1.Stack),(J c1.Start),(sl z2 f3 e4),(sl z6 f7 e8),(sl z10 f11 e12),(sl z14 f15 e16),j18] 0)),(3,(sl z30 f31 e32)),(4,(J s36)),(6,(sl z60 f61 e62)),(8,(J i90)),(43,(bool b95))] [(3,o87)] ?_ ?_ _ ⟨_,_,rfl⟩
     ·exact ⟨rfl,rfl,rfl,rfl,rfl,congrArg bool (Option.some.inj h),trivial⟩
     exact ⟨rfl,trivial⟩
   rintro _ ⟨tm,os,rfl⟩
   refine aq (bool b95) ?_
   refine nl ?_
   refine AW.inBlock ?_
   refine AW.region ?_
   refine q (J i90) ?_
   refine q (J (IntKind.wrap .i64 (i90+1))) ?_
   refine aq (J (IntKind.wrap .i64 (i90+1))) ?_
   refine nl ?_
   cases h
   exact AW.res [(0,(eptr [(J c1.Stack),(J c1.Start),(sl z2 f3 e4),(sl z6 f7 e8),(sl z10 f11 e12),(sl z14 f15 e16),j18] 0)),(3,(sl z30 f31 e32)),(4,(J s36)),(6,(sl z60 f61 e62)),(7,(bool b95)),(8,(J (IntKind.wrap .i64 (i90+1))))] [(3,o87)] ⟨rfl,rfl,rfl,rfl,rfl,rfl,trivial⟩ ⟨rfl,trivial⟩ (hL2 _ rfl (o87,s91) _ _ ⟨h88,(HS.sel hH92 [] (by decide))⟩)
  refine cF hc93 ?_
  refine AW.exit rfl ?_
  obtain ⟨r106,hm,hx⟩:=omap h
  clear h
  subst hx
  have hx:=hR2 _ rfl
  rw[hx] at hm
  have h:=hm
  exact AW.res [(0,(eptr [(J c1.Stack),(J c1.Start),(sl z2 f3 e4),(sl z6 f7 e8),(sl z10 f11 e12),(sl z14 f15 e16),j18] 0)),(3,(sl z30 f31 e32)),(4,(J s36)),(7,(bool some89))] [(3,o87)] ⟨rfl,rfl,rfl,rfl,trivial⟩ ⟨rfl,trivial⟩ (KJ71 (some89,o87,s91) _ _ ⟨h88,(HS.sel hH92 [] (by decide)),h⟩)
 refine cF hc39 ?_
 refine AW.exit rfl ?_
 obtain ⟨r107,hm,hx⟩:=omap h
 clear h
 subst hx
 have hx:=hR1 _ rfl
 rw[hx] at hm
 have h:=hm
 exact AW.res [(3,(sl z30 f31 e32))] [(3,o34)] ⟨rfl,trivial⟩ ⟨rfl,trivial⟩ (KJ28 (out29,z30,f31,e32,o34,s37) _ _ ⟨h33,h35,(HS.sel hH38 [] (by decide)),h⟩)
theorem spec_l08Run_verdict_F1_ok {r14:Stream} {r125 r126 r137 r138:Int} {r127 r132 r139 r144:List Int} {r149:List Parcel} {b2 z5 z9 z13 z17 z21 z28 z33 z40 z45 z50:Nat} {w3:Nat→Bool} {f6 f10 f14 f18 f22 f29 f34 f41 f46 f51:Bool} {e7 e11 e15 e19 e23 e30 e35 e42 e47 e52:List AV} {s:St} (h8:LR rB 1 r14.Checker.Accept z5 e7) (h12:LR (rL rPush 2) 1 r14.Checker.Call z9 e11) (h16:LR (rL (rL rJ 1) 1) 1 r14.Checker.Return z13 e15) (h20:LR (rL rJ 1) 1 r14.Checker.Inner z17 e19) (h24:LR rS 1 r14.Pieces z21 e23) (h31:LR rJ 1 r127 z28 e30) (h36:LR rJ 1 r132 z33 e35) (h43:LR rJ 1 r139 z40 e42) (h48:LR rJ 1 r144 z45 e47) (h53:LR rParcel 2 r149 z50 e52) (h54:f51=true∨w3 9=true) (hE:HS [b2] false s { s with lo:=s.n } [⟨some b2,[(eptr [(J r14.Checker.Stack),(J r14.Checker.Start),(sl z5 f6 e7),(sl z9 f10 e11),(sl z13 f14 e15),(sl z17 f18 e19),(sl z21 f22 e23)] 0),(J r125),(J r126),(sl z28 f29 e30),(sl z33 f34 e35),(J r137),(J r138),(sl z40 f41 e42),(sl z45 f46 e47),(sl z50 f51 e52)],w3⟩]) {r:Int} (h:spec_l08Run_verdict_F1 r14 r125 r126 r127 r132 r137 r138 r139 r144 r149=some r) (hs:WF s):ACall Cf 16 [(ptr b2 0)] s fun v _ s'=>rJ r v∧∃ (w0':Nat→Bool),Fx [b2] s s' [⟨some b2,[(eptr [(J r14.Checker.Stack),(J r14.Checker.Start),(sl z5 f6 e7),(sl z9 f10 e11),(sl z13 f14 e15),(sl z17 f18 e19),(sl z21 f22 e23)] 0),(J r125),(J r126),(sl z28 f29 e30),(sl z33 f34 e35),(J r137),(J r138),(sl z40 f41 e42),(sl z45 f46 e47),(sl z50 f51 e52)],w0'⟩]∧(f51=true∨w0' 9=true):=by
 refine ACall.foreign rfl rfl rfl ?_
 unfold spec_l08Run_verdict_F1 at h
 refine sr ?_
 refine q (J 0) ?_
 refine ns ?_
 refine q (ptr b2 0) ?_
 refine q (ptr b2 0) ?_
 refine q (ptr b2 1) ?_
 refine q (ptr b2 1) ?_
 refine aq (ptr b2 1) ?_
 refine ns ?_
 refine q (ptr b2 1) ?_
 refine q (ptr b2 1) ?_
 refine q (ptr b2 1) ?_
 refine AOps.ldB (i:=0) (v:=(J r125)) hE rfl rfl rfl rfl rfl rfl rfl rfl rfl ?_
 refine q (ptr b2 0) ?_
 refine q (ptr b2 0) ?_
 refine q (ptr b2 0) ?_
 refine AOps.ldB (i:=0) (v:=(eptr [(J r14.Checker.Stack),(J r14.Checker.Start),(sl z5 f6 e7),(sl z9 f10 e11),(sl z13 f14 e15),(sl z17 f18 e19),(sl z21 f22 e23)] 0)) hE rfl rfl rfl rfl rfl rfl rfl rfl rfl ?_
 refine q (eptr [(J r14.Checker.Stack),(J r14.Checker.Start),(sl z5 f6 e7),(sl z9 f10 e11),(sl z13 f14 e15),(sl z17 f18 e19),(sl z21 f22 e23)] 0) ?_
 refine q (eptr [(J r14.Checker.Stack),(J r14.Checker.Start),(sl z5 f6 e7),(sl z9 f10 e11),(sl z13 f14 e15),(sl z17 f18 e19),(sl z21 f22 e23)] 6) ?_
 refine lE (sl z21 f22 e23) ?_
 refine AOps.p rfl (len_eq h24) ?_
 refine q (bool (r125 == (r14.Pieces.length:Int))) ?_
 refine aq (bool (r125 == (r14.Pieces.length:Int))) ?_
 refine nl ?_
 refine AW.seq ?_
 refine AW.block ?_
 refine sr ?_
 refine q (bool (r125 == (r14.Pieces.length:Int))) ?_
 refine q (bool (r125 == (r14.Pieces.length:Int))) ?_
 obtain ⟨b56,hb,h⟩:=obind h
 refine AOps.split 15 (fun f'=>∃ tm' os',f'=⟨updL tm' [(0,(ptr b2 0)),(3,(ptr b2 1)),(4,(bool (r125 == (r14.Pieces.length:Int)))),(39,(bool b56))],updL os' [],{ s with lo:=s.n }⟩) ?_ ?_
 ·rcases oite hb with ⟨hc55,hb⟩ | ⟨hc55,hb⟩
  ·have h:=hb
   refine kn 24 hc55 ?_
   refine q (ptr b2 0) ?_
   refine q (ptr b2 0) ?_
   refine q (ptr b2 0) ?_
   refine AOps.ldB (i:=0) (v:=(eptr [(J r14.Checker.Stack),(J r14.Checker.Start),(sl z5 f6 e7),(sl z9 f10 e11),(sl z13 f14 e15),(sl z17 f18 e19),(sl z21 f22 e23)] 0)) hE rfl rfl rfl rfl rfl rfl rfl rfl rfl ?_
   refine q (eptr [(J r14.Checker.Stack),(J r14.Checker.Start),(sl z5 f6 e7),(sl z9 f10 e11),(sl z13 f14 e15),(sl z17 f18 e19),(sl z21 f22 e23)] 0) ?_
   refine q (eptr [(J r14.Checker.Stack),(J r14.Checker.Start),(sl z5 f6 e7),(sl z9 f10 e11),(sl z13 f14 e15),(sl z17 f18 e19),(sl z21 f22 e23)] 0) ?_
   refine q (eptr [(J r14.Checker.Stack),(J r14.Checker.Start),(sl z5 f6 e7),(sl z9 f10 e11),(sl z13 f14 e15),(sl z17 f18 e19),(sl z21 f22 e23)] 2) ?_
   refine lE (sl z5 f6 e7) ?_
   refine q (ptr b2 1) ?_
   refine q (ptr b2 1) ?_
   refine q (ptr b2 2) ?_
   refine AOps.ldB (i:=0) (v:=(J r126)) hE rfl rfl rfl rfl rfl rfl rfl rfl rfl ?_
   obtain ⟨x57,h58,h⟩:=obind h
   obtain ⟨v61,h59,h60⟩:=idx_sl h8 h58
   cases h59
   refine AOps.pureR rfl rfl rfl h60 rfl (rfl:_=(eptr [(bool x57)] 0)) ?_
   refine lE (bool x57) ?_
   refine q (bool x57) ?_
   exact rR ⟨rfl,rfl,rfl,congrArg bool (Option.some.inj h),trivial⟩
  ·refine kn 24 hc55 ?_
   refine sk ?_
   refine sk ?_
   refine sk ?_
   refine sk ?_
   refine sk ?_
   refine sk ?_
   refine sk ?_
   refine sk ?_
   refine sk ?_
   refine sk ?_
   refine sk ?_
   refine sk ?_
   refine sk ?_
   refine sk ?_
   refine q (bool false) ?_
   exact rR ⟨rfl,rfl,rfl,congrArg bool (Option.some.inj hb),trivial⟩
 rintro _ ⟨tm,os,rfl⟩
 refine aq (bool b56) ?_
 refine nl ?_
 rcases oite h with ⟨hc62,h⟩ | ⟨hc62,h⟩
 ·refine cT hc62 ?_
  refine sr ?_
  refine q (J 1) ?_
  refine nl ?_
  obtain rfl:=Option.some.inj h
  exact AW.ret ⟨_,_,rfl,finF (p:=rJ 1) (Fin.of (p:=rJ 1) .I rfl) ⟨w3,HS.leaveP hE [0] rfl,h54⟩⟩
 refine cF hc62 ?_
 refine sr ?_
 refine q (bool (r125 == (r14.Pieces.length:Int))) ?_
 refine q (bool (r125 == (r14.Pieces.length:Int))) ?_
 obtain ⟨b64,hb,h⟩:=obind h
 refine AOps.split 13 (fun f'=>∃ tm' os',f'=⟨updL tm' [(55,(bool b64))],updL os' [],{ s with lo:=s.n }⟩) ?_ ?_
 ·rcases oite hb with ⟨hc63,hb⟩ | ⟨hc63,hb⟩
  ·refine kn 42 hc63 ?_
   refine sk ?_
   refine sk ?_
   refine sk ?_
   refine sk ?_
   refine sk ?_
   refine sk ?_
   refine sk ?_
   refine sk ?_
   refine sk ?_
   refine sk ?_
   refine sk ?_
   refine sk ?_
   refine q (bool true) ?_
   exact rR ⟨congrArg bool (Option.some.inj hb),trivial⟩
  ·have h:=hb
   refine kn 42 hc63 ?_
   refine q (ptr b2 0) ?_
   refine q (ptr b2 0) ?_
   refine q (ptr b2 0) ?_
   refine AOps.ldB (i:=0) (v:=(eptr [(J r14.Checker.Stack),(J r14.Checker.Start),(sl z5 f6 e7),(sl z9 f10 e11),(sl z13 f14 e15),(sl z17 f18 e19),(sl z21 f22 e23)] 0)) hE rfl rfl rfl rfl rfl rfl rfl rfl rfl ?_
   refine q (eptr [(J r14.Checker.Stack),(J r14.Checker.Start),(sl z5 f6 e7),(sl z9 f10 e11),(sl z13 f14 e15),(sl z17 f18 e19),(sl z21 f22 e23)] 0) ?_
   refine q (eptr [(J r14.Checker.Stack),(J r14.Checker.Start),(sl z5 f6 e7),(sl z9 f10 e11),(sl z13 f14 e15),(sl z17 f18 e19),(sl z21 f22 e23)] 0) ?_
   obtain ⟨y65,h66,h⟩:=obind h
   refine AOps.callDP (g:=35) (args:=[(eptr [(J r14.Checker.Stack),(J r14.Checker.Start),(sl z5 f6 e7),(sl z9 f10 e11),(sl z13 f14 e15),(sl z17 f18 e19),(sl z21 f22 e23)] 0)]) (p:=(rL rJ 1) y65) rfl rfl rfl (spec_l08Lost_w0_7_ok (s:=St.still { s with lo:=s.n }) h8 h12 h16 h20 h66 ((HS.wf' hE).still)) (fun v hv=>Nice.pure (k:=FINK) (p:=(rL rJ 1) y65) (.L fun _=>.I) _ v hv) ?_
   intro _ o72 h67
   obtain ⟨z68,f69,e70,rfl,h71⟩:=h67
   refine q (ptr b2 1) ?_
   refine q (ptr b2 1) ?_
   refine q (ptr b2 2) ?_
   refine AOps.ldB (i:=0) (v:=(J r126)) hE rfl rfl rfl rfl rfl rfl rfl rfl rfl ?_
   obtain ⟨y73,h74,h⟩:=obind h
   refine AOps.callDP (g:=34) (args:=[(sl z68 f69 e70),(J r126)]) (p:=(rB) y73) rfl rfl rfl (spec_l00Has_ok h71 h74 ((HS.wf' hE).still)) (fun v hv=>Nice.pure (k:=FINK) (p:=(rB) y73) .B _ v hv) ?_
   intro _ o76 h75
   cases h75
   refine q (bool y73) ?_
   exact rR ⟨congrArg bool (Option.some.inj h),trivial⟩
 rintro _ ⟨tm,os,rfl⟩
 refine aq (bool b64) ?_
 refine nl ?_
 rcases oite h with ⟨hc77,h⟩ | ⟨hc77,h⟩
 ·refine cT hc77 ?_
  refine sr ?_
  refine q (J 2) ?_
  refine nl ?_
  obtain rfl:=Option.some.inj h
  exact AW.ret ⟨_,_,rfl,finF (p:=rJ 2) (Fin.of (p:=rJ 2) .I rfl) ⟨w3,HS.leaveP hE [0] rfl,h54⟩⟩
 refine cF hc77 ?_
 refine AW.skip ?_
 refine AW.inBlock ?_
 refine sr ?_
 refine q (J 0) ?_
 refine nl ?_
 obtain rfl:=Option.some.inj h
 exact AW.ret ⟨_,_,rfl,finF (p:=rJ 0) (Fin.of (p:=rJ 0) .I rfl) ⟨w3,HS.leaveP hE [0] rfl,h54⟩⟩
theorem spec_VerdictAfter_ok {v1:Stream} {deeds22:List Deed} {z2 z6 z10 z14 z18 z23:Nat} {f3 f7 f11 f15 f19 f24:Bool} {e4 e8 e12 e16 e20 e25:List AV} {s:St} (h5:LR rB 1 v1.Checker.Accept z2 e4) (h9:LR (rL rPush 2) 1 v1.Checker.Call z6 e8) (h13:LR (rL (rL rJ 1) 1) 1 v1.Checker.Return z10 e12) (h17:LR (rL rJ 1) 1 v1.Checker.Inner z14 e16) (h21:LR rS 1 v1.Pieces z18 e20) (h26:LR rDeed 3 deeds22 z23 e25) {r:Int × Int} (h:spec_VerdictAfter v1 deeds22=some r) (hs:WF s):ACall Cf 6 [(agg [(J v1.Checker.Stack),(J v1.Checker.Start),(sl z2 f3 e4),(sl z6 f7 e8),(sl z10 f11 e12),(sl z14 f15 e16),(sl z18 f19 e20)]),(sl z23 f24 e25)] s fun v _ s'=>(fun x=>rT [rJ x.1,rJ x.2]) r v∧s'=s:=by
 refine ACall.boxes rfl rfl rfl ?_
 have hH0:=HS.g0 (HS.init hs)
 have hG0:=AllG.nil
 have hl:LoOK [] false s:=LoOK.nil
 unfold spec_VerdictAfter at h
 refine sr ?_
 refine AOps.makeR rfl rfl rfl rfl rfl rfl (rfl:_=(eptr [(J v1.Checker.Stack),(J v1.Checker.Start),(sl z2 f3 e4),(sl z6 f7 e8),(sl z10 f11 e12),(sl z14 f15 e16),(sl z18 f19 e20)] 0)) ?_
 refine q (J 0) ?_
 refine q (J 0) ?_
 refine nl ?_
 refine AW.seq ?_
 refine sr ?_
 refine q (sl z23 f24 e25) ?_
 obtain ⟨y27,h28,h⟩:=obind h
 refine cP (spec_l08Asked_ok h5 h9 h13 h17 h21 h26 h28 (HS.wf' hH0)) ?_
 intro _ o30 h29
 cases h29
 refine aq (J y27) ?_
 refine ns ?_
 refine q (J y27) ?_
 refine q (bool (y27 != 0)) ?_
 refine nl ?_
 rcases oite h with ⟨hc31,h⟩ | ⟨hc31,h⟩
 ·refine cT hc31 ?_
  refine sr ?_
  refine q (J y27) ?_
  refine q (J 0) ?_
  refine aq (J y27) ?_
  refine nl ?_
  cases h
  exact AW.ret ⟨⟨_,hH0⟩,_,_,rfl,(Fin.T (.cons (Fin.of (p:=rJ 0) .I rfl) (.cons (Fin.of (p:=rJ y27) .I rfl) .nil))).2⟩
 refine cF hc31 ?_
 refine AW.skip ?_
 refine sr ?_
 refine q (sl z23 f24 e25) ?_
 obtain ⟨y32,h33,h⟩:=obind h
 have hP60:=HS.pop0 hH0
 refine AOps.callF (al:=true) (g:=15) (args:=[(eptr [(J v1.Checker.Stack),(J v1.Checker.Start),(sl z2 f3 e4),(sl z6 f7 e8),(sl z10 f11 e12),(sl z14 f15 e16),(sl z18 f19 e20)] 0),(sl z23 f24 e25)]) rfl rfl rfl (spec_l08Play_K00_ok h5 h9 h13 h17 h21 h26  h33 (HS.wf' hH0)) ?_
 rintro _ _ s61 ⟨b34,w35,z36,f37,e38,z40,f41,e42,z44,f45,e46,z48,f49,e50,z52,f53,e54,h57,k58,Ls63,rfl,hH64,hG65,hl39,hl43,hl47,hl51,hl55,hb56,ho59⟩
 have hJ66:=HS.joinK1 hP60 hH64
 have hJ67:=HS.pushNE (x:=⟨some b34,[(eptr [(J v1.Checker.Stack),(J v1.Checker.Start),(sl z2 f3 e4),(sl z6 f7 e8),(sl z10 f11 e12),(sl z14 f15 e16),(sl z18 f19 e20)] 0),(J y32.1.n.Desk_.Read),(J y32.1.n.Desk_.State),(sl z36 f37 e38),(sl z40 f41 e42),(J y32.1.n.Saved.Read),(J y32.1.n.Saved.State),(sl z44 f45 e46),(sl z48 f49 e50),(sl z52 f53 e54)],w35⟩) hJ66
 obtain ⟨Ls68,Lf69,hG70,hF71,hP72⟩:=HS.pushN hJ67 hG0 hG65
 cases hF71
 have hH73:=HS.push0 hP72
 refine q (AV.tup [(ptr b34 0),h57]) ?_
 refine q (ptr b34 0) ?_
 refine q h57 ?_
 refine aq (ptr b34 0) ?_
 refine aq h57 ?_
 refine ns ?_
 refine q (ptr b34 0) ?_
 obtain ⟨y74,h75,h⟩:=obind h
 refine AOps.callF (g:=16) (args:=[(ptr b34 0)]) rfl rfl rfl (spec_l08Run_verdict_F1_ok h5 h9 h13 h17 h21 hl39 hl43 hl47 hl51 hl55 hb56 (HS.enterP hH73 [0] [b34] rfl (by decide)) h75 (HS.wf' hH73)) ?_
 intro _ o81 s78 h80
 obtain ⟨h76,w82,h77,h83⟩:=h80
 have hH79:=HS.callP hH73 [0] h77 rfl rfl
 cases h76
 refine aq (J y74) ?_
 refine q (J 0) ?_
 refine nl ?_
 cases h
 exact AW.ret ⟨⟨_,hH79⟩,_,_,rfl,(Fin.T (.cons (Fin.of (p:=rJ y74) .I rfl) (.cons (Fin.of (p:=rJ 0) .I rfl) .nil))).2⟩
theorem impl_size_bool_ok {list1:List Bool} {z2:Nat} {f3:Bool} {e4:List AV} {s:St} (h5:LR rB 1 list1 z2 e4) {r:Int} (h:impl_size_bool list1=some r) (hs:WF s):ACall Cf 89 [(sl z2 f3 e4)] s fun v _ s'=>rJ r v∧s'=s:=by
 refine ACall.pure rfl rfl rfl .I ?_
 have hWF:=hs.lo'
 unfold impl_size_bool at h
 refine sr ?_
 refine q (J 0) ?_
 refine ns ?_
 refine q (sl z2 f3 e4) ?_
 refine AOps.p rfl (len_eq h5) ?_
 refine aq (J (list1.length:Int)) ?_
 refine nl ?_
 cases h
 exact AW.ret ⟨rfl,_,_,rfl,rfl⟩
theorem impl_within_ok {n1 low2 high3:Int} {s:St} {r:Bool} (h:impl_within n1 low2 high3=some r) (hs:WF s):ACall Cf 66 [(J n1),(J low2),(J high3)] s fun v _ s'=>(rB) r v∧s'=s:=by
 refine ACall.pure rfl rfl rfl .B ?_
 have hWF:=hs.lo'
 unfold impl_within at h
 refine sr ?_
 refine q (bool false) ?_
 refine ns ?_
 refine q (J n1) ?_
 refine q (J low2) ?_
 refine q (bool (decide ((n1:Int)≥low2))) ?_
 refine q (bool (decide ((n1:Int)≥low2))) ?_
 refine AOps.split 4 (fun f'=>∃ tm' os',f'=⟨updL tm' [(14,(bool ((decide ((n1:Int)≥low2))&&(decide ((n1:Int)≤high3)))))],updL os' [],{ s with lo:=s.n }⟩) ?_ ?_
 ·rcases Bool.eq_false_or_eq_true (decide ((n1:Int)≥low2)) with hc4 | hc4
  ·refine kn 10 hc4 ?_
   refine q (J n1) ?_
   refine q (J high3) ?_
   refine q (bool (decide ((n1:Int)≤high3))) ?_
   refine q (bool (decide ((n1:Int)≤high3))) ?_
   exact rR ⟨congrArg bool (and_t hc4),trivial⟩
  ·refine kn 10 hc4 ?_
   refine sk ?_
   refine sk ?_
   refine sk ?_
   refine q (bool false) ?_
   exact rR ⟨congrArg bool (and_f hc4),trivial⟩
 rintro _ ⟨tm,os,rfl⟩
 refine aq (bool ((decide ((n1:Int)≥low2))&&(decide ((n1:Int)≤high3)))) ?_
 refine nl ?_
 cases h
 exact AW.ret ⟨rfl,_,_,rfl,rfl⟩
theorem impl_Checker_isState_ok {c1:Checker} {s18:Int} {z2 z6 z10 z14:Nat} {f3 f7 f11 f15:Bool} {e4 e8 e12 e16:List AV} {s:St} (h5:LR rB 1 c1.Accept z2 e4) (h9:LR (rL rPush 2) 1 c1.Call z6 e8) (h13:LR (rL (rL rJ 1) 1) 1 c1.Return z10 e12) (h17:LR (rL rJ 1) 1 c1.Inner z14 e16) {r:Bool} (h:impl_Checker_isState c1 s18=some r) (hs:WF s):ACall Cf 90 [(agg [(J c1.Stack),(J c1.Start),(sl z2 f3 e4),(sl z6 f7 e8),(sl z10 f11 e12),(sl z14 f15 e16)]),(J s18)] s fun v _ s'=>(rB) r v∧s'=s:=by
 refine ACall.pure rfl rfl rfl .B ?_
 have hWF:=hs.lo'
 unfold impl_Checker_isState at h
 refine sr ?_
 refine AOps.makeR rfl rfl rfl rfl rfl rfl (rfl:_=(eptr [(J c1.Stack),(J c1.Start),(sl z2 f3 e4),(sl z6 f7 e8),(sl z10 f11 e12),(sl z14 f15 e16)] 0)) ?_
 refine q (bool false) ?_
 refine ns ?_
 refine q (J s18) ?_
 refine q (eptr [(J c1.Stack),(J c1.Start),(sl z2 f3 e4),(sl z6 f7 e8),(sl z10 f11 e12),(sl z14 f15 e16)] 2) ?_
 refine lE (sl z2 f3 e4) ?_
 obtain ⟨y19,h20,h⟩:=obind h
 refine cP (impl_size_bool_ok h5 h20 hWF) ?_
 intro _ o22 h21
 cases h21
 refine q (J (IntKind.wrap .i64 (y19 - 1))) ?_
 obtain ⟨y23,h24,h⟩:=obind h
 refine cP (impl_within_ok  h24 hWF) ?_
 intro _ o26 h25
 cases h25
 refine aq (bool y23) ?_
 refine nl ?_
 cases h
 exact AW.ret ⟨rfl,_,_,rfl,rfl⟩
theorem impl_size_simpl_Push_ok {list1:List (List Push)} {z2:Nat} {f3:Bool} {e4:List AV} {s:St} (h5:LR (rL rPush 2) 1 list1 z2 e4) {r:Int} (h:impl_size_simpl_Push list1=some r) (hs:WF s):ACall Cf 91 [(sl z2 f3 e4)] s fun v _ s'=>rJ r v∧s'=s:=by
 refine ACall.pure rfl rfl rfl .I ?_
 have hWF:=hs.lo'
 unfold impl_size_simpl_Push at h
 refine sr ?_
 refine q (J 0) ?_
 refine ns ?_
 refine q (sl z2 f3 e4) ?_
 refine AOps.p rfl (len_eq h5) ?_
 refine aq (J (list1.length:Int)) ?_
 refine nl ?_
 cases h
 exact AW.ret ⟨rfl,_,_,rfl,rfl⟩
theorem impl_size_s_int64_ok {list1:List (List (List Int))} {z2:Nat} {f3:Bool} {e4:List AV} {s:St} (h5:LR (rL (rL rJ 1) 1) 1 list1 z2 e4) {r:Int} (h:impl_size_s_int64 list1=some r) (hs:WF s):ACall Cf 92 [(sl z2 f3 e4)] s fun v _ s'=>rJ r v∧s'=s:=by
 refine ACall.pure rfl rfl rfl .I ?_
 have hWF:=hs.lo'
 unfold impl_size_s_int64 at h
 refine sr ?_
 refine q (J 0) ?_
 refine ns ?_
 refine q (sl z2 f3 e4) ?_
 refine AOps.p rfl (len_eq h5) ?_
 refine aq (J (list1.length:Int)) ?_
 refine nl ?_
 cases h
 exact AW.ret ⟨rfl,_,_,rfl,rfl⟩
theorem impl_size_sint64_ok {list1:List (List Int)} {z2:Nat} {f3:Bool} {e4:List AV} {s:St} (h5:LR (rL rJ 1) 1 list1 z2 e4) {r:Int} (h:impl_size_sint64 list1=some r) (hs:WF s):ACall Cf 93 [(sl z2 f3 e4)] s fun v _ s'=>rJ r v∧s'=s:=by
 refine ACall.pure rfl rfl rfl .I ?_
 have hWF:=hs.lo'
 unfold impl_size_sint64 at h
 refine sr ?_
 refine q (J 0) ?_
 refine ns ?_
 refine q (sl z2 f3 e4) ?_
 refine AOps.p rfl (len_eq h5) ?_
 refine aq (J (list1.length:Int)) ?_
 refine nl ?_
 cases h
 exact AW.ret ⟨rfl,_,_,rfl,rfl⟩
theorem impl_size_int64_okN {list1:List Int} {z2:Nat} {f3:Bool} {e4:List AV} {s:St} (h5:LR rJ 1 list1 z2 e4) {r:Int} (h:impl_size_int64 list1=some r) (hs:WF s):ACallN Cf 95 [(sl z2 f3 e4)] s fun v _ s'=>rJ r v∧s'=s:=by
 refine ACallN.pure rfl rfl rfl .I ?_
 have hWF:=hs.lo'
 unfold impl_size_int64 at h
 refine sr ?_
 refine q (J 0) ?_
 refine ns ?_
 refine q (sl z2 f3 e4) ?_
 refine AOps.p rfl (len_eq h5) ?_
 refine aq (J (list1.length:Int)) ?_
 refine nl ?_
 cases h
 exact AW.ret ⟨rfl,_,_,rfl,rfl⟩
theorem slices_IndexFunc_sint64_int64_ok {s1:List Int} {f6:Int→Option Bool} {z2 g7:Nat} {f3:Bool} {e4 cap8:List AV} {s:St} (h5:LR rJ 1 s1 z2 e4) (h9:∀ x vs y,Cs [rJ x] vs→f6 x=some y→∀ s,WF s→ACall Cf g7 (vs++cap8) s fun v _ s'=>(rB) y v∧s'=s) {r:Int} (h:slices_IndexFunc_sint64_int64 s1 f6=some r) (hs:WF s):ACall Cf 106 [(sl z2 f3 e4),(AV.fn g7 cap8)] s fun v _ s'=>rJ r v∧s'=s:=by
 refine ACall.pure rfl rfl rfl .I ?_
 have hWF:=hs.lo'
 unfold slices_IndexFunc_sint64_int64 at h
 refine sr ?_
 refine q (J 0) ?_
 refine nl ?_
 refine AW.seq ?_
 refine sr ?_
 refine q (sl z2 f3 e4) ?_
 refine AOps.p rfl (len_eq h5) ?_
 refine q (J 0) ?_
 refine nl ?_
 refine AW.meet (σ:=Unit) (fun _ tm os=>⟨updL tm [],updL os [],{ s with lo:=s.n }⟩) (fun _=>slices_IndexFunc_sint64_int64_J1=some r) ?_ ?_
 ·rintro _ tm os h
  unfold slices_IndexFunc_sint64_int64_J1 at h
  refine sr ?_
  refine q (J (-1)) ?_
  refine nl ?_
  cases h
  exact AW.ret ⟨rfl,_,_,rfl,rfl⟩
 intro KJ10
 refine AW.block ?_
 refine AW.res [(0,(sl z2 f3 e4)),(1,(AV.fn g7 cap8)),(7,(J (s1.length:Int))),(8,(J 0))] [] ⟨rfl,rfl,rfl,rfl,trivial⟩ trivial ?_
 refine AW.loopF (σ:=Int) (τ:=Unit) (fun t11 _=>True) (fun t11 _ tm os=>⟨updL tm [(0,(sl z2 f3 e4)),(1,(AV.fn g7 cap8)),(7,(J (s1.length:Int))),(8,(J t11))],updL os [],{ s with lo:=s.n }⟩) ?_ (x:=(0)) (y:=()) h trivial
 clear h
 rintro t11 _ tm os - ee1 h hL1 hR1
 unfold slices_IndexFunc_sint64_int64_S1 at h
 refine sr ?_
 refine q (bool (decide ((t11:Int)<(s1.length:Int)))) ?_
 refine nl ?_
 refine AW.seq ?_
 rcases oite h with ⟨hc12,h⟩ | ⟨hc12,h⟩
 ·refine cT hc12 ?_
  refine AW.skip ?_
  refine AW.seq ?_
  refine AW.block ?_
  refine sr ?_
  refine q (J t11) ?_
  refine aq (J t11) ?_
  refine ns ?_
  refine q (AV.fn g7 cap8) ?_
  refine q (sl z2 f3 e4) ?_
  refine q (J t11) ?_
  obtain ⟨x13,h14,h⟩:=obind h
  obtain ⟨v17,h15,h16⟩:=idx_sl h5 h14
  cases h15
  refine AOps.pureR rfl rfl rfl h16 rfl (rfl:_=(eptr [(J x13)] 0)) ?_
  refine lE (J x13) ?_
  obtain ⟨y18,h19,h⟩:=obind h
  refine AOps.callP (g:=g7) (args:=([(J x13)]++cap8)) (p:=(rB) y18) rfl rfl rfl (h9 x13 _ _ (.cons rfl .nil) h19 _ hWF) ?_
  intro _ o21 h20
  cases h20
  refine nl ?_
  rcases oite h with ⟨hc22,h⟩ | ⟨hc22,h⟩
  ·refine cT hc22 ?_
   refine sr ?_
   refine q (J t11) ?_
   refine aq (J t11) ?_
   refine nl ?_
   cases h
   have hr:=hR1 _ rfl
   subst hr
   exact AW.ret ⟨rfl,_,_,rfl,rfl⟩
  refine cF hc22 ?_
  refine AW.skip ?_
  refine AW.inBlock ?_
  refine AW.region ?_
  refine q (J (IntKind.wrap .i64 (t11+1))) ?_
  refine q (J (IntKind.wrap .i64 (t11+1))) ?_
  refine nl ?_
  cases h
  exact AW.res [(0,(sl z2 f3 e4)),(1,(AV.fn g7 cap8)),(7,(J (s1.length:Int))),(8,(J (IntKind.wrap .i64 (t11+1))))] [] ⟨rfl,rfl,rfl,rfl,trivial⟩ trivial (hL1 _ rfl () _ _ trivial)
 refine cF hc12 ?_
 refine AW.exit rfl ?_
 obtain ⟨r23,hm,hx⟩:=omap h
 clear h
 subst hx
 have hx:=hR1 _ rfl
 rw[hx] at hm
 have h:=hm
 exact AW.res [] [] trivial trivial (KJ10 () _ _ h)
theorem slices_ContainsFunc_sint64_int64_ok {s1:List Int} {f6:Int→Option Bool} {z2 g7:Nat} {f3:Bool} {e4 cap8:List AV} {s:St} (h5:LR rJ 1 s1 z2 e4) (h9:∀ x vs y,Cs [rJ x] vs→f6 x=some y→∀ s,WF s→ACall Cf g7 (vs++cap8) s fun v _ s'=>(rB) y v∧s'=s) {r:Bool} (h:slices_ContainsFunc_sint64_int64 s1 f6=some r) (hs:WF s):ACall Cf 78 [(sl z2 f3 e4),(AV.fn g7 cap8)] s fun v _ s'=>(rB) r v∧s'=s:=by
 refine ACall.pure rfl rfl rfl .B ?_
 have hWF:=hs.lo'
 unfold slices_ContainsFunc_sint64_int64 at h
 refine sr ?_
 refine q (bool false) ?_
 refine ns ?_
 refine q (sl z2 f3 e4) ?_
 refine q (AV.fn g7 cap8) ?_
 obtain ⟨y10,h11,h⟩:=obind h
 refine cP (slices_IndexFunc_sint64_int64_ok h5 h9 h11 hWF) ?_
 intro _ o13 h12
 cases h12
 refine q (bool (decide ((y10:Int)≥0))) ?_
 refine aq (bool (decide ((y10:Int)≥0))) ?_
 refine nl ?_
 cases h
 exact AW.ret ⟨rfl,_,_,rfl,rfl⟩
theorem impl_ValidChecker_1_1_ok {s1:Int} {c2:Checker} {z3 z7 z11 z15:Nat} {f4 f8 f12 f16:Bool} {e5 e9 e13 e17:List AV} {s:St} (h6:LR rB 1 c2.Accept z3 e5) (h10:LR (rL rPush 2) 1 c2.Call z7 e9) (h14:LR (rL (rL rJ 1) 1) 1 c2.Return z11 e13) (h18:LR (rL rJ 1) 1 c2.Inner z15 e17) {r:Bool} (h:impl_ValidChecker_1_1 s1 c2=some r) (hs:WF s):ACall Cf 96 [(J s1),(eptr [(J c2.Stack),(J c2.Start),(sl z3 f4 e5),(sl z7 f8 e9),(sl z11 f12 e13),(sl z15 f16 e17)] 0)] s fun v _ s'=>(rB) r v∧s'=s:=by
 refine ACall.pure rfl rfl rfl .B ?_
 have hWF:=hs.lo'
 unfold impl_ValidChecker_1_1 at h
 refine sr ?_
 refine q (bool false) ?_
 refine ns ?_
 refine lE (agg [(J c2.Stack),(J c2.Start),(sl z3 f4 e5),(sl z7 f8 e9),(sl z11 f12 e13),(sl z15 f16 e17)]) ?_
 refine q (J s1) ?_
 obtain ⟨y19,h20,h⟩:=obind h
 refine cP (impl_Checker_isState_ok h6 h10 h14 h18 h20 hWF) ?_
 intro _ o22 h21
 cases h21
 refine q (bool (!y19)) ?_
 refine aq (bool (!y19)) ?_
 refine nl ?_
 cases h
 exact AW.ret ⟨rfl,_,_,rfl,rfl⟩
theorem impl_ValidChecker_1_ok {list1:List Int} {many6:Int} {c7:Checker} {z2 z8 z12 z16 z20:Nat} {f3 f9 f13 f17 f21:Bool} {e4 e10 e14 e18 e22:List AV} {s:St} (h5:LR rJ 1 list1 z2 e4) (h11:LR rB 1 c7.Accept z8 e10) (h15:LR (rL rPush 2) 1 c7.Call z12 e14) (h19:LR (rL (rL rJ 1) 1) 1 c7.Return z16 e18) (h23:LR (rL rJ 1) 1 c7.Inner z20 e22) {r:Bool} (h:impl_ValidChecker_1 list1 many6 c7=some r) (hs:WF s):ACall Cf 94 [(sl z2 f3 e4),(J many6),(eptr [(J c7.Stack),(J c7.Start),(sl z8 f9 e10),(sl z12 f13 e14),(sl z16 f17 e18),(sl z20 f21 e22)] 0)] s fun v _ s'=>(rB) r v∧s'=s:=by
 refine ACall.pure rfl rfl rfl .B ?_
 have hWF:=hs.lo'
 unfold impl_ValidChecker_1 at h
 refine sr ?_
 refine q (bool false) ?_
 refine ns ?_
 refine q (sl z2 f3 e4) ?_
 obtain ⟨y24,h25,h⟩:=obind h
 refine AOps.lendP (g:=95) (args:=[(sl z2 f3 e4)]) (ps:=[(rL rJ 1) list1]) (p:=rJ y24) rfl rfl rfl rfl rfl rfl rfl (.cons (Fin.of (p:=(rL rJ 1) list1) (.L fun _=>.I) (⟨_,_,_,rfl,h5⟩)) .nil) (fun args' hc=>by obtain ⟨_,_,rfl,hv0,hd0⟩:=Cs_cons hc; obtain ⟨z26,f27,e28,rfl,h29⟩:=hv0; cases Cs_nil hd0; exact impl_size_int64_okN h29 h25 WF.blind) (fun v n hv=>by cases hv; rfl) ?_
 intro _ h30
 cases h30
 refine q (J many6) ?_
 refine q (bool (y24 == many6)) ?_
 refine q (bool (y24 == many6)) ?_
 obtain ⟨b32,hb,h⟩:=obind h
 refine AOps.split 5 (fun f'=>∃ tm' os',f'=⟨updL tm' [(15,(bool b32))],updL os' [],{ s with lo:=s.n }⟩) ?_ ?_
 ·rcases oite hb with ⟨hc31,hb⟩ | ⟨hc31,hb⟩
  ·have h:=hb
   refine AOps.know (d:=10) rfl hc31 ?_
   refine q (sl z2 f3 e4) ?_
   refine q (AV.fn 96 [(eptr [(J c7.Stack),(J c7.Start),(sl z8 f9 e10),(sl z12 f13 e14),(sl z16 f17 e18),(sl z20 f21 e22)] 0)]) ?_
   obtain ⟨y33,h34,h⟩:=obind h
   refine AOps.callP (g:=78) (args:=[(sl z2 f3 e4),(AV.fn 96 [(eptr [(J c7.Stack),(J c7.Start),(sl z8 f9 e10),(sl z12 f13 e14),(sl z16 f17 e18),(sl z20 f21 e22)] 0)])]) (p:=(rB) y33) rfl rfl rfl (slices_ContainsFunc_sint64_int64_ok h5 (by intro x vs y hc hx s hs; obtain ⟨_,_,rfl,hv0,hd0⟩:=Cs_cons hc; cases hv0; cases Cs_nil hd0; exact impl_ValidChecker_1_1_ok h11 h15 h19 h23 hx hs) h34 hWF) ?_
   intro _ o36 h35
   cases h35
   refine q (bool (!y33)) ?_
   refine q (bool (!y33)) ?_
   refine AOps.resR [(15,(bool b32))] [] ?_ ?_ _ ⟨_,_,rfl⟩
   ·exact ⟨congrArg bool (Option.some.inj h),trivial⟩
   exact trivial
  ·refine AOps.know (d:=10) rfl hc31 ?_
   refine sk ?_
   refine sk ?_
   refine sk ?_
   refine sk ?_
   refine q (bool false) ?_
   refine AOps.resR [(15,(bool b32))] [] ?_ ?_ _ ⟨_,_,rfl⟩
   ·exact ⟨congrArg bool (Option.some.inj hb),trivial⟩
   exact trivial
 rintro _ ⟨tm,os,rfl⟩
 refine aq (bool b32) ?_
 refine nl ?_
 cases h
 exact AW.ret ⟨rfl,_,_,rfl,rfl⟩
theorem impl_Checker_isMark_ok {c1:Checker} {x18:Int} {z2 z6 z10 z14:Nat} {f3 f7 f11 f15:Bool} {e4 e8 e12 e16:List AV} {s:St} (h5:LR rB 1 c1.Accept z2 e4) (h9:LR (rL rPush 2) 1 c1.Call z6 e8) (h13:LR (rL (rL rJ 1) 1) 1 c1.Return z10 e12) (h17:LR (rL rJ 1) 1 c1.Inner z14 e16) {r:Bool} (h:impl_Checker_isMark c1 x18=some r) (hs:WF s):ACall Cf 97 [(agg [(J c1.Stack),(J c1.Start),(sl z2 f3 e4),(sl z6 f7 e8),(sl z10 f11 e12),(sl z14 f15 e16)]),(J x18)] s fun v _ s'=>(rB) r v∧s'=s:=by
 refine ACall.pure rfl rfl rfl .B ?_
 have hWF:=hs.lo'
 unfold impl_Checker_isMark at h
 refine sr ?_
 refine AOps.makeR rfl rfl rfl rfl rfl rfl (rfl:_=(eptr [(J c1.Stack),(J c1.Start),(sl z2 f3 e4),(sl z6 f7 e8),(sl z10 f11 e12),(sl z14 f15 e16)] 0)) ?_
 refine q (bool false) ?_
 refine ns ?_
 refine q (J x18) ?_
 refine q (eptr [(J c1.Stack),(J c1.Start),(sl z2 f3 e4),(sl z6 f7 e8),(sl z10 f11 e12),(sl z14 f15 e16)] 0) ?_
 refine lE (J c1.Stack) ?_
 refine q (J (IntKind.wrap .i64 (c1.Stack - 1))) ?_
 obtain ⟨y19,h20,h⟩:=obind h
 refine cP (impl_within_ok  h20 hWF) ?_
 intro _ o22 h21
 cases h21
 refine aq (bool y19) ?_
 refine nl ?_
 cases h
 exact AW.ret ⟨rfl,_,_,rfl,rfl⟩
theorem impl_ValidChecker_ok {p1:Checker} {z2 z6 z10 z14:Nat} {f3 f7 f11 f15:Bool} {e4 e8 e12 e16:List AV} {s:St} (h5:LR rB 1 p1.Accept z2 e4) (h9:LR (rL rPush 2) 1 p1.Call z6 e8) (h13:LR (rL (rL rJ 1) 1) 1 p1.Return z10 e12) (h17:LR (rL rJ 1) 1 p1.Inner z14 e16) {r:Bool} (h:impl_ValidChecker p1=some r) (hs:WF s):ACall Cf 65 [(agg [(J p1.Stack),(J p1.Start),(sl z2 f3 e4),(sl z6 f7 e8),(sl z10 f11 e12),(sl z14 f15 e16)])] s fun v _ s'=>(rB) r v∧s'=s:=by
 refine ACall.pure rfl rfl rfl .B ?_
 have hWF:=hs.lo'
 unfold impl_ValidChecker at h
 refine sr ?_
 refine AOps.makeR rfl rfl rfl rfl rfl rfl (rfl:_=(eptr [(J p1.Stack),(J p1.Start),(sl z2 f3 e4),(sl z6 f7 e8),(sl z10 f11 e12),(sl z14 f15 e16)] 0)) ?_
 refine q (bool false) ?_
 refine ns ?_
 refine q (eptr [(J p1.Stack),(J p1.Start),(sl z2 f3 e4),(sl z6 f7 e8),(sl z10 f11 e12),(sl z14 f15 e16)] 2) ?_
 refine lE (sl z2 f3 e4) ?_
 obtain ⟨y18,h19,h⟩:=obind h
 refine cP (impl_size_bool_ok h5 h19 hWF) ?_
 intro _ o21 h20
 cases h20
 refine aq (J y18) ?_
 refine nl ?_
 refine AW.seq ?_
 refine sr ?_
 refine q (J y18) ?_
 obtain ⟨y22,h23,h⟩:=obind h
 refine cP (impl_within_ok  h23 hWF) ?_
 intro _ o25 h24
 cases h24
 refine q (bool (!y22)) ?_
 refine q (bool (!y22)) ?_
 obtain ⟨b27,hb,h⟩:=obind h
 refine AOps.split 5 (fun f'=>∃ tm' os',f'=⟨updL tm' [(1,(eptr [(J p1.Stack),(J p1.Start),(sl z2 f3 e4),(sl z6 f7 e8),(sl z10 f11 e12),(sl z14 f15 e16)] 0)),(3,(J y18)),(19,(bool b27))],updL os' [],{ s with lo:=s.n }⟩) ?_ ?_
 ·rcases oite hb with ⟨hc26,hb⟩ | ⟨hc26,hb⟩
  ·refine kn 14 hc26 ?_
   refine sk ?_
   refine sk ?_
   refine sk ?_
   refine sk ?_
   refine q (bool true) ?_
   exact rR ⟨rfl,rfl,congrArg bool (Option.some.inj hb),trivial⟩
  ·have h:=hb
   refine kn 14 hc26 ?_
   refine q (eptr [(J p1.Stack),(J p1.Start),(sl z2 f3 e4),(sl z6 f7 e8),(sl z10 f11 e12),(sl z14 f15 e16)] 0) ?_
   refine lE (J p1.Stack) ?_
   obtain ⟨y28,h29,h⟩:=obind h
   refine cP (impl_within_ok  h29 hWF) ?_
   intro _ o31 h30
   cases h30
   refine q (bool (!y28)) ?_
   refine q (bool (!y28)) ?_
   exact rR ⟨rfl,rfl,congrArg bool (Option.some.inj h),trivial⟩
 rintro _ ⟨tm,os,rfl⟩
 refine q (bool b27) ?_
 obtain ⟨b33,hb,h⟩:=obind h
 refine AOps.split 6 (fun f'=>∃ tm' os',f'=⟨updL tm' [(1,(eptr [(J p1.Stack),(J p1.Start),(sl z2 f3 e4),(sl z6 f7 e8),(sl z10 f11 e12),(sl z14 f15 e16)] 0)),(3,(J y18)),(26,(bool b33))],updL os' [],{ s with lo:=s.n }⟩) ?_ ?_
 ·rcases oite hb with ⟨hc32,hb⟩ | ⟨hc32,hb⟩
  ·refine kn 20 hc32 ?_
   refine sk ?_
   refine sk ?_
   refine sk ?_
   refine sk ?_
   refine sk ?_
   refine q (bool true) ?_
   exact rR ⟨rfl,rfl,congrArg bool (Option.some.inj hb),trivial⟩
  ·have h:=hb
   refine kn 20 hc32 ?_
   refine lE (agg [(J p1.Stack),(J p1.Start),(sl z2 f3 e4),(sl z6 f7 e8),(sl z10 f11 e12),(sl z14 f15 e16)]) ?_
   refine q (eptr [(J p1.Stack),(J p1.Start),(sl z2 f3 e4),(sl z6 f7 e8),(sl z10 f11 e12),(sl z14 f15 e16)] 1) ?_
   refine lE (J p1.Start) ?_
   obtain ⟨y34,h35,h⟩:=obind h
   refine cP (impl_Checker_isState_ok h5 h9 h13 h17 h35 hWF) ?_
   intro _ o37 h36
   cases h36
   refine q (bool (!y34)) ?_
   refine q (bool (!y34)) ?_
   exact rR ⟨rfl,rfl,congrArg bool (Option.some.inj h),trivial⟩
 rintro _ ⟨tm,os,rfl⟩
 refine q (bool b33) ?_
 obtain ⟨b39,hb,h⟩:=obind h
 refine AOps.split 6 (fun f'=>∃ tm' os',f'=⟨updL tm' [(1,(eptr [(J p1.Stack),(J p1.Start),(sl z2 f3 e4),(sl z6 f7 e8),(sl z10 f11 e12),(sl z14 f15 e16)] 0)),(3,(J y18)),(33,(bool b39))],updL os' [],{ s with lo:=s.n }⟩) ?_ ?_
 ·rcases oite hb with ⟨hc38,hb⟩ | ⟨hc38,hb⟩
  ·refine kn 27 hc38 ?_
   refine sk ?_
   refine sk ?_
   refine sk ?_
   refine sk ?_
   refine sk ?_
   refine q (bool true) ?_
   exact rR ⟨rfl,rfl,congrArg bool (Option.some.inj hb),trivial⟩
  ·have h:=hb
   refine kn 27 hc38 ?_
   refine q (eptr [(J p1.Stack),(J p1.Start),(sl z2 f3 e4),(sl z6 f7 e8),(sl z10 f11 e12),(sl z14 f15 e16)] 3) ?_
   refine lE (sl z6 f7 e8) ?_
   obtain ⟨y40,h41,h⟩:=obind h
   refine cP (impl_size_simpl_Push_ok h9 h41 hWF) ?_
   intro _ o43 h42
   cases h42
   refine q (J y18) ?_
   refine q (bool (y40 != y18)) ?_
   refine q (bool (y40 != y18)) ?_
   exact rR ⟨rfl,rfl,congrArg bool (Option.some.inj h),trivial⟩
 rintro _ ⟨tm,os,rfl⟩
 refine q (bool b39) ?_
 obtain ⟨b45,hb,h⟩:=obind h
 refine AOps.split 6 (fun f'=>∃ tm' os',f'=⟨updL tm' [(1,(eptr [(J p1.Stack),(J p1.Start),(sl z2 f3 e4),(sl z6 f7 e8),(sl z10 f11 e12),(sl z14 f15 e16)] 0)),(3,(J y18)),(40,(bool b45))],updL os' [],{ s with lo:=s.n }⟩) ?_ ?_
 ·rcases oite hb with ⟨hc44,hb⟩ | ⟨hc44,hb⟩
  ·refine kn 34 hc44 ?_
   refine sk ?_
   refine sk ?_
   refine sk ?_
   refine sk ?_
   refine sk ?_
   refine q (bool true) ?_
   exact rR ⟨rfl,rfl,congrArg bool (Option.some.inj hb),trivial⟩
  ·have h:=hb
   refine kn 34 hc44 ?_
   refine q (eptr [(J p1.Stack),(J p1.Start),(sl z2 f3 e4),(sl z6 f7 e8),(sl z10 f11 e12),(sl z14 f15 e16)] 4) ?_
   refine lE (sl z10 f11 e12) ?_
   obtain ⟨y46,h47,h⟩:=obind h
   refine cP (impl_size_s_int64_ok h13 h47 hWF) ?_
   intro _ o49 h48
   cases h48
   refine q (J y18) ?_
   refine q (bool (y46 != y18)) ?_
   refine q (bool (y46 != y18)) ?_
   exact rR ⟨rfl,rfl,congrArg bool (Option.some.inj h),trivial⟩
 rintro _ ⟨tm,os,rfl⟩
 refine q (bool b45) ?_
 obtain ⟨b51,hb,h⟩:=obind h
 refine AOps.split 6 (fun f'=>∃ tm' os',f'=⟨updL tm' [(1,(eptr [(J p1.Stack),(J p1.Start),(sl z2 f3 e4),(sl z6 f7 e8),(sl z10 f11 e12),(sl z14 f15 e16)] 0)),(3,(J y18)),(47,(bool b51))],updL os' [],{ s with lo:=s.n }⟩) ?_ ?_
 ·rcases oite hb with ⟨hc50,hb⟩ | ⟨hc50,hb⟩
  ·refine kn 41 hc50 ?_
   refine sk ?_
   refine sk ?_
   refine sk ?_
   refine sk ?_
   refine sk ?_
   refine q (bool true) ?_
   exact rR ⟨rfl,rfl,congrArg bool (Option.some.inj hb),trivial⟩
  ·have h:=hb
   refine kn 41 hc50 ?_
   refine q (eptr [(J p1.Stack),(J p1.Start),(sl z2 f3 e4),(sl z6 f7 e8),(sl z10 f11 e12),(sl z14 f15 e16)] 5) ?_
   refine lE (sl z14 f15 e16) ?_
   obtain ⟨y52,h53,h⟩:=obind h
   refine cP (impl_size_sint64_ok h17 h53 hWF) ?_
   intro _ o55 h54
   cases h54
   refine q (J y18) ?_
   refine q (bool (y52 != y18)) ?_
   refine q (bool (y52 != y18)) ?_
   exact rR ⟨rfl,rfl,congrArg bool (Option.some.inj h),trivial⟩
 rintro _ ⟨tm,os,rfl⟩
 refine nl ?_
 rcases oite h with ⟨hc56,h⟩ | ⟨hc56,h⟩
 ·refine cT hc56 ?_
  refine sr ?_
  refine q (bool false) ?_
  refine nl ?_
  cases h
  exact AW.ret ⟨rfl,_,_,rfl,rfl⟩
 refine cF hc56 ?_
 refine AW.skip ?_
 refine sr ?_
 refine q (AV.fn 94 [(eptr [(J p1.Stack),(J p1.Start),(sl z2 f3 e4),(sl z6 f7 e8),(sl z10 f11 e12),(sl z14 f15 e16)] 0)]) ?_
 refine aq (AV.fn 94 [(eptr [(J p1.Stack),(J p1.Start),(sl z2 f3 e4),(sl z6 f7 e8),(sl z10 f11 e12),(sl z14 f15 e16)] 0)]) ?_
 refine nl ?_
 refine AW.seq ?_
 refine sr ?_
 refine q (J y18) ?_
 refine q (J 0) ?_
 refine nl ?_
 refine AW.meet (σ:=Unit) (fun _ tm os=>⟨updL tm [],updL os [],{ s with lo:=s.n }⟩) (fun _=>impl_ValidChecker_J1=some r) ?_ ?_
 ·rintro _ tm os h
  unfold impl_ValidChecker_J1 at h
  refine sr ?_
  refine q (bool true) ?_
  refine nl ?_
  cases h
  exact AW.ret ⟨rfl,_,_,rfl,rfl⟩
 intro KJ57
 refine AW.block ?_
 refine AW.res [(1,(eptr [(J p1.Stack),(J p1.Start),(sl z2 f3 e4),(sl z6 f7 e8),(sl z10 f11 e12),(sl z14 f15 e16)] 0)),(4,(AV.fn 94 [(eptr [(J p1.Stack),(J p1.Start),(sl z2 f3 e4),(sl z6 f7 e8),(sl z10 f11 e12),(sl z14 f15 e16)] 0)])),(49,(J y18)),(50,(J 0))] [] ⟨rfl,rfl,rfl,rfl,trivial⟩ trivial ?_
 refine AW.loopF (σ:=Int) (τ:=Unit) (fun t58 _=>True) (fun t58 _ tm os=>⟨updL tm [(1,(eptr [(J p1.Stack),(J p1.Start),(sl z2 f3 e4),(sl z6 f7 e8),(sl z10 f11 e12),(sl z14 f15 e16)] 0)),(4,(AV.fn 94 [(eptr [(J p1.Stack),(J p1.Start),(sl z2 f3 e4),(sl z6 f7 e8),(sl z10 f11 e12),(sl z14 f15 e16)] 0)])),(49,(J y18)),(50,(J t58))],updL os [],{ s with lo:=s.n }⟩) ?_ (x:=(0)) (y:=()) h trivial
 clear h
 rintro t58 _ tm os - ee1 h hL1 hR1
 unfold impl_ValidChecker_S1 at h
 refine sr ?_
 refine q (bool (decide ((t58:Int)<y18))) ?_
 refine nl ?_
 refine AW.seq ?_
 rcases oite h with ⟨hc59,h⟩ | ⟨hc59,h⟩
 ·refine cT hc59 ?_
  refine AW.skip ?_
  refine AW.seq ?_
  refine AW.block ?_
  refine sr ?_
  refine q (J t58) ?_
  refine aq (J t58) ?_
  refine nl ?_
  refine AW.seq ?_
  refine sr ?_
  refine q (eptr [(J p1.Stack),(J p1.Start),(sl z2 f3 e4),(sl z6 f7 e8),(sl z10 f11 e12),(sl z14 f15 e16)] 3) ?_
  refine lE (sl z6 f7 e8) ?_
  refine q (J t58) ?_
  obtain ⟨x60,h61,h⟩:=obind h
  obtain ⟨v64,h62,h63⟩:=idx_sl h9 h61
  obtain ⟨z65,f66,e67,rfl,h68⟩:=h62
  refine AOps.pureR rfl rfl rfl h63 rfl (rfl:_=(eptr [(sl z65 f66 e67)] 0)) ?_
  refine lE (sl z65 f66 e67) ?_
  refine AOps.p rfl (len_eq h68) ?_
  refine q (bool ((x60.length:Int) != 2)) ?_
  refine q (bool ((x60.length:Int) != 2)) ?_
  obtain ⟨b70,hb,h⟩:=obind h
  refine AOps.split 8 (fun f'=>∃ tm' os',f'=⟨updL tm' [(1,(eptr [(J p1.Stack),(J p1.Start),(sl z2 f3 e4),(sl z6 f7 e8),(sl z10 f11 e12),(sl z14 f15 e16)] 0)),(4,(AV.fn 94 [(eptr [(J p1.Stack),(J p1.Start),(sl z2 f3 e4),(sl z6 f7 e8),(sl z10 f11 e12),(sl z14 f15 e16)] 0)])),(5,(J t58)),(49,(J y18)),(50,(J t58)),(68,(bool b70))],updL os' [],{ s with lo:=s.n }⟩) ?_ ?_
  ·rcases oite hb with ⟨hc69,hb⟩ | ⟨hc69,hb⟩
   ·refine kn 60 hc69 ?_
    refine sk ?_
    refine sk ?_
    refine sk ?_
    refine sk ?_
    refine sk ?_
    refine sk ?_
    refine sk ?_
    refine q (bool true) ?_
    exact rR ⟨rfl,rfl,rfl,rfl,rfl,congrArg bool (Option.some.inj hb),trivial⟩
   ·have h:=hb
    refine kn 60 hc69 ?_
    refine q (eptr [(J p1.Stack),(J p1.Start),(sl z2 f3 e4),(sl z6 f7 e8),(sl z10 f11 e12),(sl z14 f15 e16)] 4) ?_
    refine lE (sl z10 f11 e12) ?_
    refine q (J t58) ?_
    obtain ⟨x71,h72,h⟩:=obind h
    obtain ⟨v75,h73,h74⟩:=idx_sl h13 h72
    obtain ⟨z76,f77,e78,rfl,h79⟩:=h73
    refine AOps.pureR rfl rfl rfl h74 rfl (rfl:_=(eptr [(sl z76 f77 e78)] 0)) ?_
    refine lE (sl z76 f77 e78) ?_
    refine AOps.p rfl (len_eq h79) ?_
    refine q (bool ((x71.length:Int) != 2)) ?_
    refine q (bool ((x71.length:Int) != 2)) ?_
    exact rR ⟨rfl,rfl,rfl,rfl,rfl,congrArg bool (Option.some.inj h),trivial⟩
  rintro _ ⟨tm,os,rfl⟩
  refine q (bool b70) ?_
  obtain ⟨b81,hb,h⟩:=obind h
  refine AOps.split 9 (fun f'=>∃ tm' os',f'=⟨updL tm' [(1,(eptr [(J p1.Stack),(J p1.Start),(sl z2 f3 e4),(sl z6 f7 e8),(sl z10 f11 e12),(sl z14 f15 e16)] 0)),(4,(AV.fn 94 [(eptr [(J p1.Stack),(J p1.Start),(sl z2 f3 e4),(sl z6 f7 e8),(sl z10 f11 e12),(sl z14 f15 e16)] 0)])),(5,(J t58)),(49,(J y18)),(50,(J t58)),(78,(bool b81))],updL os' [],{ s with lo:=s.n }⟩) ?_ ?_
  ·rcases oite hb with ⟨hc80,hb⟩ | ⟨hc80,hb⟩
   ·refine kn 69 hc80 ?_
    refine sk ?_
    refine sk ?_
    refine sk ?_
    refine sk ?_
    refine sk ?_
    refine sk ?_
    refine sk ?_
    refine sk ?_
    refine q (bool true) ?_
    exact rR ⟨rfl,rfl,rfl,rfl,rfl,congrArg bool (Option.some.inj hb),trivial⟩
   ·have h:=hb
    refine kn 69 hc80 ?_
    refine q (AV.fn 94 [(eptr [(J p1.Stack),(J p1.Start),(sl z2 f3 e4),(sl z6 f7 e8),(sl z10 f11 e12),(sl z14 f15 e16)] 0)]) ?_
    refine q (eptr [(J p1.Stack),(J p1.Start),(sl z2 f3 e4),(sl z6 f7 e8),(sl z10 f11 e12),(sl z14 f15 e16)] 5) ?_
    refine lE (sl z14 f15 e16) ?_
    refine q (J t58) ?_
    obtain ⟨x82,h83,h⟩:=obind h
    obtain ⟨v86,h84,h85⟩:=idx_sl h17 h83
    obtain ⟨z87,f88,e89,rfl,h90⟩:=h84
    refine AOps.pureR rfl rfl rfl h85 rfl (rfl:_=(eptr [(sl z87 f88 e89)] 0)) ?_
    refine lE (sl z87 f88 e89) ?_
    obtain ⟨y91,h92,h⟩:=obind h
    refine cP (impl_ValidChecker_1_ok h90 h5 h9 h13 h17 h92 hWF) ?_
    intro _ o94 h93
    cases h93
    refine q (bool (!y91)) ?_
    refine q (bool (!y91)) ?_
    exact rR ⟨rfl,rfl,rfl,rfl,rfl,congrArg bool (Option.some.inj h),trivial⟩
  rintro _ ⟨tm,os,rfl⟩
  refine nl ?_
  rcases oite h with ⟨hc95,h⟩ | ⟨hc95,h⟩
  ·refine cT hc95 ?_
   refine sr ?_
   refine q (bool false) ?_
   refine nl ?_
   cases h
   have hr:=hR1 _ rfl
   subst hr
   exact AW.ret ⟨rfl,_,_,rfl,rfl⟩
  refine cF hc95 ?_
  refine AW.skip ?_
  refine sr ?_
  refine q (J 0) ?_
  refine nl ?_
  refine AW.meet (σ:=Unit) (fun _ tm os=>⟨updL tm [(1,(eptr [(J p1.Stack),(J p1.Start),(sl z2 f3 e4),(sl z6 f7 e8),(sl z10 f11 e12),(sl z14 f15 e16)] 0)),(4,(AV.fn 94 [(eptr [(J p1.Stack),(J p1.Start),(sl z2 f3 e4),(sl z6 f7 e8),(sl z10 f11 e12),(sl z14 f15 e16)] 0)])),(49,(J y18)),(50,(J t58))],updL os [],{ s with lo:=s.n }⟩) (fun _=>impl_ValidChecker_J2 t58=some ee1) ?_ ?_
  ·rintro _ tm os h
   unfold impl_ValidChecker_J2 at h
   refine AW.inBlock ?_
   refine AW.region ?_
   refine q (J (IntKind.wrap .i64 (t58+1))) ?_
   refine q (J (IntKind.wrap .i64 (t58+1))) ?_
   refine nl ?_
   cases h
   exact AW.res [(1,(eptr [(J p1.Stack),(J p1.Start),(sl z2 f3 e4),(sl z6 f7 e8),(sl z10 f11 e12),(sl z14 f15 e16)] 0)),(4,(AV.fn 94 [(eptr [(J p1.Stack),(J p1.Start),(sl z2 f3 e4),(sl z6 f7 e8),(sl z10 f11 e12),(sl z14 f15 e16)] 0)])),(49,(J y18)),(50,(J (IntKind.wrap .i64 (t58+1))))] [] ⟨rfl,rfl,rfl,rfl,trivial⟩ trivial (hL1 _ rfl () _ _ trivial)
  intro KJ96
  refine AW.block ?_
  refine AW.res [(1,(eptr [(J p1.Stack),(J p1.Start),(sl z2 f3 e4),(sl z6 f7 e8),(sl z10 f11 e12),(sl z14 f15 e16)] 0)),(4,(AV.fn 94 [(eptr [(J p1.Stack),(J p1.Start),(sl z2 f3 e4),(sl z6 f7 e8),(sl z10 f11 e12),(sl z14 f15 e16)] 0)])),(5,(J t58)),(49,(J y18)),(50,(J t58)),(79,(J 0))] [] ⟨rfl,rfl,rfl,rfl,rfl,rfl,trivial⟩ trivial ?_
  refine AW.loopF (σ:=Int) (τ:=Unit) (fun t97 _=>True) (fun t97 _ tm os=>⟨updL tm [(1,(eptr [(J p1.Stack),(J p1.Start),(sl z2 f3 e4),(sl z6 f7 e8),(sl z10 f11 e12),(sl z14 f15 e16)] 0)),(4,(AV.fn 94 [(eptr [(J p1.Stack),(J p1.Start),(sl z2 f3 e4),(sl z6 f7 e8),(sl z10 f11 e12),(sl z14 f15 e16)] 0)])),(5,(J t58)),(49,(J y18)),(50,(J t58)),(79,(J t97))],updL os [],{ s with lo:=s.n }⟩) ?_ (x:=(0)) (y:=()) h trivial
  clear h
  rintro t97 _ tm os - ee2 h hL2 hR2
  unfold impl_ValidChecker_S2 at h
  refine sr ?_
  refine q (bool (decide ((t97:Int)<2))) ?_
  refine nl ?_
  refine AW.seq ?_
  rcases oite h with ⟨hc98,h⟩ | ⟨hc98,h⟩
  ·refine cT hc98 ?_
   refine AW.skip ?_
   refine AW.seq ?_
   refine AW.block ?_
   refine sr ?_
   refine q (J t97) ?_
   refine aq (J t97) ?_
   refine ns ?_
   refine q (eptr [(J p1.Stack),(J p1.Start),(sl z2 f3 e4),(sl z6 f7 e8),(sl z10 f11 e12),(sl z14 f15 e16)] 3) ?_
   refine lE (sl z6 f7 e8) ?_
   refine q (J t58) ?_
   obtain ⟨x99,h100,h⟩:=obind h
   obtain ⟨v103,h101,h102⟩:=idx_sl h9 h100
   obtain ⟨z104,f105,e106,rfl,h107⟩:=h101
   refine AOps.pureR rfl rfl rfl h102 rfl (rfl:_=(eptr [(sl z104 f105 e106)] 0)) ?_
   refine lE (sl z104 f105 e106) ?_
   refine q (J t97) ?_
   obtain ⟨x108,h109,h⟩:=obind h
   obtain ⟨v112,h110,h111⟩:=idx_sl h107 h109
   obtain ⟨_,rfl,h113⟩:=h110
   obtain ⟨_,_,rfl,h114,h115⟩:=Cs_cons h113
   cases h114
   obtain ⟨_,_,rfl,h116,h117⟩:=Cs_cons h115
   cases h116
   cases Cs_nil h117
   refine AOps.pureR rfl rfl rfl h111 rfl (rfl:_=(eptr [(J x108.To),(J x108.Put)] 0)) ?_
   refine lE (agg [(J x108.To),(J x108.Put)]) ?_
   refine AOps.allocP rfl rfl rfl rfl ⟨rfl,rfl⟩ rfl ?_
   refine AOps.stP (v:=(agg [(J x108.To),(J x108.Put)])) rfl rfl rfl rfl rfl rfl rfl rfl rfl (lt_b rfl) rfl ?_
   refine ns ?_
   refine lE (agg [(J p1.Stack),(J p1.Start),(sl z2 f3 e4),(sl z6 f7 e8),(sl z10 f11 e12),(sl z14 f15 e16)]) ?_
   refine q (eptr [(J x108.To),(J x108.Put)] 0) ?_
   refine lE (J x108.To) ?_
   obtain ⟨y118,h119,h⟩:=obind h
   refine AOps.callDP (g:=90) (args:=[(agg [(J p1.Stack),(J p1.Start),(sl z2 f3 e4),(sl z6 f7 e8),(sl z10 f11 e12),(sl z14 f15 e16)]),(J x108.To)]) (p:=(rB) y118) rfl rfl rfl (impl_Checker_isState_ok h5 h9 h13 h17 h119 hWF.still) (fun v hv=>Nice.pure (k:=FINK) (p:=(rB) y118) .B _ v hv) ?_
   intro _ o121 h120
   cases h120
   refine q (bool (!y118)) ?_
   refine q (bool (!y118)) ?_
   obtain ⟨b123,hb,h⟩:=obind h
   refine AOps.split 6 (fun f'=>∃ tm' os',f'=⟨updL tm' [(1,(eptr [(J p1.Stack),(J p1.Start),(sl z2 f3 e4),(sl z6 f7 e8),(sl z10 f11 e12),(sl z14 f15 e16)] 0)),(4,(AV.fn 94 [(eptr [(J p1.Stack),(J p1.Start),(sl z2 f3 e4),(sl z6 f7 e8),(sl z10 f11 e12),(sl z14 f15 e16)] 0)])),(5,(J t58)),(6,(J t97)),(49,(J y18)),(50,(J t58)),(79,(J t97)),(101,(bool b123))],updL os' [],{ s with lo:=s.n }⟩) ?_ ?_
   ·rcases oite hb with ⟨hc122,hb⟩ | ⟨hc122,hb⟩
    ·refine kn 95 hc122 ?_
     refine sk ?_
     refine sk ?_
     refine sk ?_
     refine sk ?_
     refine sk ?_
     refine q (bool true) ?_
     exact rR ⟨rfl,rfl,rfl,rfl,rfl,rfl,rfl,congrArg bool (Option.some.inj hb),trivial⟩
    ·have h:=hb
     refine kn 95 hc122 ?_
     refine lE (agg [(J p1.Stack),(J p1.Start),(sl z2 f3 e4),(sl z6 f7 e8),(sl z10 f11 e12),(sl z14 f15 e16)]) ?_
     refine q (eptr [(J x108.To),(J x108.Put)] 1) ?_
     refine lE (J x108.Put) ?_
     obtain ⟨y124,h125,h⟩:=obind h
     refine AOps.callDP (g:=97) (args:=[(agg [(J p1.Stack),(J p1.Start),(sl z2 f3 e4),(sl z6 f7 e8),(sl z10 f11 e12),(sl z14 f15 e16)]),(J x108.Put)]) (p:=(rB) y124) rfl rfl rfl (impl_Checker_isMark_ok h5 h9 h13 h17 h125 hWF.still) (fun v hv=>Nice.pure (k:=FINK) (p:=(rB) y124) .B _ v hv) ?_
     intro _ o127 h126
     cases h126
     refine q (bool (!y124)) ?_
     refine q (bool (!y124)) ?_
     exact rR ⟨rfl,rfl,rfl,rfl,rfl,rfl,rfl,congrArg bool (Option.some.inj h),trivial⟩
   rintro _ ⟨tm,os,rfl⟩
   refine q (bool b123) ?_
   obtain ⟨b129,hb,h⟩:=obind h
   refine AOps.split 15 (fun f'=>∃ tm' os',f'=⟨updL tm' [(1,(eptr [(J p1.Stack),(J p1.Start),(sl z2 f3 e4),(sl z6 f7 e8),(sl z10 f11 e12),(sl z14 f15 e16)] 0)),(4,(AV.fn 94 [(eptr [(J p1.Stack),(J p1.Start),(sl z2 f3 e4),(sl z6 f7 e8),(sl z10 f11 e12),(sl z14 f15 e16)] 0)])),(5,(J t58)),(49,(J y18)),(50,(J t58)),(79,(J t97)),(117,(bool b129))],updL os' [],{ s with lo:=s.n }⟩) ?_ ?_
   ·rcases oite hb with ⟨hc128,hb⟩ | ⟨hc128,hb⟩
    ·refine kn 102 hc128 ?_
     refine sk ?_
     refine sk ?_
     refine sk ?_
     refine sk ?_
     refine sk ?_
     refine sk ?_
     refine sk ?_
     refine sk ?_
     refine sk ?_
     refine sk ?_
     refine sk ?_
     refine sk ?_
     refine sk ?_
     refine sk ?_
     refine q (bool true) ?_
     exact rR ⟨rfl,rfl,rfl,rfl,rfl,rfl,congrArg bool (Option.some.inj hb),trivial⟩
    ·have h:=hb
     refine kn 102 hc128 ?_
     refine q (AV.fn 94 [(eptr [(J p1.Stack),(J p1.Start),(sl z2 f3 e4),(sl z6 f7 e8),(sl z10 f11 e12),(sl z14 f15 e16)] 0)]) ?_
     refine q (eptr [(J p1.Stack),(J p1.Start),(sl z2 f3 e4),(sl z6 f7 e8),(sl z10 f11 e12),(sl z14 f15 e16)] 4) ?_
     refine lE (sl z10 f11 e12) ?_
     refine q (J t58) ?_
     obtain ⟨x130,h131,h⟩:=obind h
     obtain ⟨v134,h132,h133⟩:=idx_sl h13 h131
     obtain ⟨z135,f136,e137,rfl,h138⟩:=h132
     refine AOps.pureR rfl rfl rfl h133 rfl (rfl:_=(eptr [(sl z135 f136 e137)] 0)) ?_
     refine lE (sl z135 f136 e137) ?_
     refine q (J t97) ?_
     obtain ⟨x139,h140,h⟩:=obind h
     obtain ⟨v143,h141,h142⟩:=idx_sl h138 h140
     obtain ⟨z144,f145,e146,rfl,h147⟩:=h141
     refine AOps.pureR rfl rfl rfl h142 rfl (rfl:_=(eptr [(sl z144 f145 e146)] 0)) ?_
     refine lE (sl z144 f145 e146) ?_
     refine q (eptr [(J p1.Stack),(J p1.Start),(sl z2 f3 e4),(sl z6 f7 e8),(sl z10 f11 e12),(sl z14 f15 e16)] 0) ?_
     refine lE (J p1.Stack) ?_
     refine q (J (IntKind.wrap .i64 (p1.Stack+1))) ?_
     obtain ⟨y148,h149,h⟩:=obind h
     refine AOps.callDP (g:=94) (args:=[(sl z144 f145 e146),(J (IntKind.wrap .i64 (p1.Stack+1))),(eptr [(J p1.Stack),(J p1.Start),(sl z2 f3 e4),(sl z6 f7 e8),(sl z10 f11 e12),(sl z14 f15 e16)] 0)]) (p:=(rB) y148) rfl rfl rfl (impl_ValidChecker_1_ok h147 h5 h9 h13 h17 h149 hWF.still) (fun v hv=>Nice.pure (k:=FINK) (p:=(rB) y148) .B _ v hv) ?_
     intro _ o151 h150
     cases h150
     refine q (bool (!y148)) ?_
     refine q (bool (!y148)) ?_
     exact rR ⟨rfl,rfl,rfl,rfl,rfl,rfl,congrArg bool (Option.some.inj h),trivial⟩
   rintro _ ⟨tm,os,rfl⟩
   refine nl ?_
   rcases oite h with ⟨hc152,h⟩ | ⟨hc152,h⟩
   ·refine cT hc152 ?_
    refine sr ?_
    refine q (bool false) ?_
    refine nl ?_
    cases h
    have hr:=hR2 _ rfl
    cases hr
    have hr:=hR1 _ rfl
    subst hr
    exact AW.ret ⟨rfl,_,_,rfl,rfl⟩
   refine cF hc152 ?_
   refine AW.skip ?_
   refine AW.inBlock ?_
   refine AW.region ?_
   refine q (J (IntKind.wrap .i64 (t97+1))) ?_
   refine q (J (IntKind.wrap .i64 (t97+1))) ?_
   refine nl ?_
   cases h
   exact AW.res [(1,(eptr [(J p1.Stack),(J p1.Start),(sl z2 f3 e4),(sl z6 f7 e8),(sl z10 f11 e12),(sl z14 f15 e16)] 0)),(4,(AV.fn 94 [(eptr [(J p1.Stack),(J p1.Start),(sl z2 f3 e4),(sl z6 f7 e8),(sl z10 f11 e12),(sl z14 f15 e16)] 0)])),(5,(J t58)),(49,(J y18)),(50,(J t58)),(79,(J (IntKind.wrap .i64 (t97+1))))] [] ⟨rfl,rfl,rfl,rfl,rfl,rfl,trivial⟩ trivial (hL2 _ rfl () _ _ trivial)
  refine cF hc98 ?_
  refine AW.exit rfl ?_
  obtain ⟨r153,hm,hx⟩:=omap h
  clear h
  subst hx
  have hx:=hR2 _ rfl
  rw[hx] at hm
  have h:=hm
  exact AW.res [(1,(eptr [(J p1.Stack),(J p1.Start),(sl z2 f3 e4),(sl z6 f7 e8),(sl z10 f11 e12),(sl z14 f15 e16)] 0)),(4,(AV.fn 94 [(eptr [(J p1.Stack),(J p1.Start),(sl z2 f3 e4),(sl z6 f7 e8),(sl z10 f11 e12),(sl z14 f15 e16)] 0)])),(49,(J y18)),(50,(J t58))] [] ⟨rfl,rfl,rfl,rfl,trivial⟩ trivial (KJ96 () _ _ h)
 refine cF hc59 ?_
 refine AW.exit rfl ?_
 obtain ⟨r154,hm,hx⟩:=omap h
 clear h
 subst hx
 have hx:=hR1 _ rfl
 rw[hx] at hm
 have h:=hm
 exact AW.res [] [] trivial trivial (KJ57 () _ _ h)
theorem impl_size_string_ok {list1:List (List UInt8)} {z2:Nat} {f3:Bool} {e4:List AV} {s:St} (h5:LR rS 1 list1 z2 e4) {r:Int} (h:impl_size_string list1=some r) (hs:WF s):ACall Cf 46 [(sl z2 f3 e4)] s fun v _ s'=>rJ r v∧s'=s:=by
 refine ACall.pure rfl rfl rfl .I ?_
 have hWF:=hs.lo'
 unfold impl_size_string at h
 refine sr ?_
 refine q (J 0) ?_
 refine ns ?_
 refine q (sl z2 f3 e4) ?_
 refine AOps.p rfl (len_eq h5) ?_
 refine aq (J (list1.length:Int)) ?_
 refine nl ?_
 cases h
 exact AW.ret ⟨rfl,_,_,rfl,rfl⟩
theorem slices_IndexFunc_sstring_string_ok {s1:List (List UInt8)} {f6:(List UInt8)→Option Bool} {z2 g7:Nat} {f3:Bool} {e4 cap8:List AV} {s:St} (h5:LR rS 1 s1 z2 e4) (h9:∀ x vs y,Cs [rS x] vs→f6 x=some y→∀ s,WF s→ACall Cf g7 (vs++cap8) s fun v _ s'=>(rB) y v∧s'=s) {r:Int} (h:slices_IndexFunc_sstring_string s1 f6=some r) (hs:WF s):ACall Cf 98 [(sl z2 f3 e4),(AV.fn g7 cap8)] s fun v _ s'=>rJ r v∧s'=s:=by
 refine ACall.pure rfl rfl rfl .I ?_
 have hWF:=hs.lo'
 unfold slices_IndexFunc_sstring_string at h
 refine sr ?_
 refine q (J 0) ?_
 refine nl ?_
 refine AW.seq ?_
 refine sr ?_
 refine q (sl z2 f3 e4) ?_
 refine AOps.p rfl (len_eq h5) ?_
 refine q (J 0) ?_
 refine nl ?_
 refine AW.meet (σ:=Unit) (fun _ tm os=>⟨updL tm [],updL os [],{ s with lo:=s.n }⟩) (fun _=>slices_IndexFunc_sstring_string_J1=some r) ?_ ?_
 ·rintro _ tm os h
  unfold slices_IndexFunc_sstring_string_J1 at h
  refine sr ?_
  refine q (J (-1)) ?_
  refine nl ?_
  cases h
  exact AW.ret ⟨rfl,_,_,rfl,rfl⟩
 intro KJ10
 refine AW.block ?_
 refine AW.res [(0,(sl z2 f3 e4)),(1,(AV.fn g7 cap8)),(7,(J (s1.length:Int))),(8,(J 0))] [] ⟨rfl,rfl,rfl,rfl,trivial⟩ trivial ?_
 refine AW.loopF (σ:=Int) (τ:=Unit) (fun t11 _=>True) (fun t11 _ tm os=>⟨updL tm [(0,(sl z2 f3 e4)),(1,(AV.fn g7 cap8)),(7,(J (s1.length:Int))),(8,(J t11))],updL os [],{ s with lo:=s.n }⟩) ?_ (x:=(0)) (y:=()) h trivial
 clear h
 rintro t11 _ tm os - ee1 h hL1 hR1
 unfold slices_IndexFunc_sstring_string_S1 at h
 refine sr ?_
 refine q (bool (decide ((t11:Int)<(s1.length:Int)))) ?_
 refine nl ?_
 refine AW.seq ?_
 rcases oite h with ⟨hc12,h⟩ | ⟨hc12,h⟩
 ·refine cT hc12 ?_
  refine AW.skip ?_
  refine AW.seq ?_
  refine AW.block ?_
  refine sr ?_
  refine q (J t11) ?_
  refine aq (J t11) ?_
  refine ns ?_
  refine q (AV.fn g7 cap8) ?_
  refine q (sl z2 f3 e4) ?_
  refine q (J t11) ?_
  obtain ⟨x13,h14,h⟩:=obind h
  obtain ⟨v17,h15,h16⟩:=idx_sl h5 h14
  cases h15
  refine AOps.pureR rfl rfl rfl h16 rfl (rfl:_=(eptr [(str x13)] 0)) ?_
  refine lE (str x13) ?_
  obtain ⟨y18,h19,h⟩:=obind h
  refine AOps.callP (g:=g7) (args:=([(str x13)]++cap8)) (p:=(rB) y18) rfl rfl rfl (h9 x13 _ _ (.cons rfl .nil) h19 _ hWF) ?_
  intro _ o21 h20
  cases h20
  refine nl ?_
  rcases oite h with ⟨hc22,h⟩ | ⟨hc22,h⟩
  ·refine cT hc22 ?_
   refine sr ?_
   refine q (J t11) ?_
   refine aq (J t11) ?_
   refine nl ?_
   cases h
   have hr:=hR1 _ rfl
   subst hr
   exact AW.ret ⟨rfl,_,_,rfl,rfl⟩
  refine cF hc22 ?_
  refine AW.skip ?_
  refine AW.inBlock ?_
  refine AW.region ?_
  refine q (J (IntKind.wrap .i64 (t11+1))) ?_
  refine q (J (IntKind.wrap .i64 (t11+1))) ?_
  refine nl ?_
  cases h
  exact AW.res [(0,(sl z2 f3 e4)),(1,(AV.fn g7 cap8)),(7,(J (s1.length:Int))),(8,(J (IntKind.wrap .i64 (t11+1))))] [] ⟨rfl,rfl,rfl,rfl,trivial⟩ trivial (hL1 _ rfl () _ _ trivial)
 refine cF hc12 ?_
 refine AW.exit rfl ?_
 obtain ⟨r23,hm,hx⟩:=omap h
 clear h
 subst hx
 have hx:=hR1 _ rfl
 rw[hx] at hm
 have h:=hm
 exact AW.res [] [] trivial trivial (KJ10 () _ _ h)
theorem slices_ContainsFunc_sstring_string_ok {s1:List (List UInt8)} {f6:(List UInt8)→Option Bool} {z2 g7:Nat} {f3:Bool} {e4 cap8:List AV} {s:St} (h5:LR rS 1 s1 z2 e4) (h9:∀ x vs y,Cs [rS x] vs→f6 x=some y→∀ s,WF s→ACall Cf g7 (vs++cap8) s fun v _ s'=>(rB) y v∧s'=s) {r:Bool} (h:slices_ContainsFunc_sstring_string s1 f6=some r) (hs:WF s):ACall Cf 67 [(sl z2 f3 e4),(AV.fn g7 cap8)] s fun v _ s'=>(rB) r v∧s'=s:=by
 refine ACall.pure rfl rfl rfl .B ?_
 have hWF:=hs.lo'
 unfold slices_ContainsFunc_sstring_string at h
 refine sr ?_
 refine q (bool false) ?_
 refine ns ?_
 refine q (sl z2 f3 e4) ?_
 refine q (AV.fn g7 cap8) ?_
 obtain ⟨y10,h11,h⟩:=obind h
 refine cP (slices_IndexFunc_sstring_string_ok h5 h9 h11 hWF) ?_
 intro _ o13 h12
 cases h12
 refine q (bool (decide ((y10:Int)≥0))) ?_
 refine aq (bool (decide ((y10:Int)≥0))) ?_
 refine nl ?_
 cases h
 exact AW.ret ⟨rfl,_,_,rfl,rfl⟩
theorem internal_stringslite_IndexByte_ok {s1:List UInt8} {c2 r:Int} {s:St} (h:internal_stringslite_IndexByte s1 c2=some r) (hs:WF s):ACall Cf 110 [(str s1),(int .u8 c2)] s fun v _ s'=>rJ r v∧s'=s:=by
 refine ACall.pure rfl rfl rfl .I ?_
 have hWF:=hs.lo'
 unfold internal_stringslite_IndexByte at h
 refine sr ?_
 refine q (J 0) ?_
 refine ns ?_
 refine q (str s1) ?_
 refine q (int .u8 c2) ?_
 obtain ⟨y3,h4,h⟩:=obind h
 refine cP (ext_byte_ok h4 hWF) ?_
 intro _ o6 h5
 cases h5
 refine aq (J y3) ?_
 refine nl ?_
 cases h
 exact AW.ret ⟨rfl,_,_,rfl,rfl⟩
theorem strings_IndexByte_ok {s1:List UInt8} {c2 r:Int} {s:St} (h:strings_IndexByte s1 c2=some r) (hs:WF s):ACall Cf 99 [(str s1),(int .u8 c2)] s fun v _ s'=>rJ r v∧s'=s:=by
 refine ACall.pure rfl rfl rfl .I ?_
 have hWF:=hs.lo'
 unfold strings_IndexByte at h
 refine sr ?_
 refine q (J 0) ?_
 refine ns ?_
 refine q (str s1) ?_
 refine q (int .u8 c2) ?_
 obtain ⟨y3,h4,h⟩:=obind h
 refine cP (internal_stringslite_IndexByte_ok  h4 hWF) ?_
 intro _ o6 h5
 cases h5
 refine aq (J y3) ?_
 refine nl ?_
 cases h
 exact AW.ret ⟨rfl,_,_,rfl,rfl⟩
theorem impl_ValidWord_ok {w1:List UInt8} {s:St} {r:Bool} (h:impl_ValidWord w1=some r) (hs:WF s):ACall Cf 69 [(str w1)] s fun v _ s'=>(rB) r v∧s'=s:=by
 refine ACall.pure rfl rfl rfl .B ?_
 have hWF:=hs.lo'
 unfold impl_ValidWord at h
 refine sr ?_
 refine q (bool false) ?_
 refine nl ?_
 refine AW.seq ?_
 refine sr ?_
 refine q (str w1) ?_
 refine q (J (w1.length:Int)) ?_
 refine q (J 0) ?_
 refine nl ?_
 refine AW.meet (σ:=Unit) (fun _ tm os=>⟨updL tm [(0,(str w1))],updL os [],{ s with lo:=s.n }⟩) (fun _=>impl_ValidWord_J1 w1=some r) ?_ ?_
 ·rintro _ tm os h
  unfold impl_ValidWord_J1 at h
  refine sr ?_
  refine q (str w1) ?_
  refine q (J (w1.length:Int)) ?_
  refine q (bool (decide (((w1.length:Int):Int)≤60))) ?_
  refine aq (bool (decide (((w1.length:Int):Int)≤60))) ?_
  refine nl ?_
  cases h
  exact AW.ret ⟨rfl,_,_,rfl,rfl⟩
 intro KJ2
 refine AW.block ?_
 refine AW.res [(0,(str w1)),(5,(J (w1.length:Int))),(6,(J 0))] [] ⟨rfl,rfl,rfl,trivial⟩ trivial ?_
 refine AW.loopF (σ:=Int) (τ:=Unit) (fun t3 _=>True) (fun t3 _ tm os=>⟨updL tm [(0,(str w1)),(5,(J (w1.length:Int))),(6,(J t3))],updL os [],{ s with lo:=s.n }⟩) ?_ (x:=(0)) (y:=()) h trivial
 clear h
 rintro t3 _ tm os - ee1 h hL1 hR1
 unfold impl_ValidWord_S1 at h
 refine sr ?_
 refine q (bool (decide ((t3:Int)<(w1.length:Int)))) ?_
 refine nl ?_
 refine AW.seq ?_
 rcases oite h with ⟨hc4,h⟩ | ⟨hc4,h⟩
 ·refine cT hc4 ?_
  refine AW.skip ?_
  refine AW.seq ?_
  refine AW.block ?_
  refine sr ?_
  refine q (J t3) ?_
  refine aq (J t3) ?_
  refine ns ?_
  refine q (str w1) ?_
  refine q (J t3) ?_
  obtain ⟨c5,h6,h⟩:=obind h
  refine AOps.pureR rfl rfl rfl (chr_str h6) rfl (rfl:_=(int .u8 c5)) ?_
  obtain ⟨y7,h8,h⟩:=obind h
  refine cP (strings_IndexByte_ok  h8 hWF) ?_
  intro _ o10 h9
  cases h9
  refine q (bool (decide ((y7:Int)<0))) ?_
  refine nl ?_
  rcases oite h with ⟨hc11,h⟩ | ⟨hc11,h⟩
  ·refine cT hc11 ?_
   refine sr ?_
   refine q (bool false) ?_
   refine nl ?_
   cases h
   have hr:=hR1 _ rfl
   subst hr
   exact AW.ret ⟨rfl,_,_,rfl,rfl⟩
  refine cF hc11 ?_
  refine AW.skip ?_
  refine AW.inBlock ?_
  refine AW.region ?_
  refine q (J (IntKind.wrap .i64 (t3+1))) ?_
  refine q (J (IntKind.wrap .i64 (t3+1))) ?_
  refine nl ?_
  cases h
  exact AW.res [(0,(str w1)),(5,(J (w1.length:Int))),(6,(J (IntKind.wrap .i64 (t3+1))))] [] ⟨rfl,rfl,rfl,trivial⟩ trivial (hL1 _ rfl () _ _ trivial)
 refine cF hc4 ?_
 refine AW.exit rfl ?_
 obtain ⟨r12,hm,hx⟩:=omap h
 clear h
 subst hx
 have hx:=hR1 _ rfl
 rw[hx] at hm
 have h:=hm
 exact AW.res [(0,(str w1))] [] ⟨rfl,trivial⟩ trivial (KJ2 () _ _ h)
theorem impl_ValidStream_1_ok {w1:List UInt8} {s:St} {r:Bool} (h:impl_ValidStream_1 w1=some r) (hs:WF s):ACall Cf 68 [(str w1)] s fun v _ s'=>(rB) r v∧s'=s:=by
 refine ACall.pure rfl rfl rfl .B ?_
 have hWF:=hs.lo'
 unfold impl_ValidStream_1 at h
 refine sr ?_
 refine q (bool false) ?_
 refine ns ?_
 refine q (str w1) ?_
 obtain ⟨y2,h3,h⟩:=obind h
 refine cP (impl_ValidWord_ok  h3 hWF) ?_
 intro _ o5 h4
 cases h4
 refine q (bool (!y2)) ?_
 refine aq (bool (!y2)) ?_
 refine nl ?_
 cases h
 exact AW.ret ⟨rfl,_,_,rfl,rfl⟩
theorem impl_ValidStream_ok {v1:Stream} {z2 z6 z10 z14 z18:Nat} {f3 f7 f11 f15 f19:Bool} {e4 e8 e12 e16 e20:List AV} {s:St} (h5:LR rB 1 v1.Checker.Accept z2 e4) (h9:LR (rL rPush 2) 1 v1.Checker.Call z6 e8) (h13:LR (rL (rL rJ 1) 1) 1 v1.Checker.Return z10 e12) (h17:LR (rL rJ 1) 1 v1.Checker.Inner z14 e16) (h21:LR rS 1 v1.Pieces z18 e20) {r:Bool} (h:impl_ValidStream v1=some r) (hs:WF s):ACall Cf 40 [(agg [(J v1.Checker.Stack),(J v1.Checker.Start),(sl z2 f3 e4),(sl z6 f7 e8),(sl z10 f11 e12),(sl z14 f15 e16),(sl z18 f19 e20)])] s fun v _ s'=>(rB) r v∧s'=s:=by
 refine ACall.pure rfl rfl rfl .B ?_
 have hWF:=hs.lo'
 unfold impl_ValidStream at h
 refine sr ?_
 refine AOps.makeR rfl rfl rfl rfl rfl rfl (rfl:_=(eptr [(J v1.Checker.Stack),(J v1.Checker.Start),(sl z2 f3 e4),(sl z6 f7 e8),(sl z10 f11 e12),(sl z14 f15 e16),(sl z18 f19 e20)] 0)) ?_
 refine q (bool false) ?_
 refine ns ?_
 refine q (eptr [(J v1.Checker.Stack),(J v1.Checker.Start),(sl z2 f3 e4),(sl z6 f7 e8),(sl z10 f11 e12),(sl z14 f15 e16),(sl z18 f19 e20)] 0) ?_
 refine lE (agg [(J v1.Checker.Stack),(J v1.Checker.Start),(sl z2 f3 e4),(sl z6 f7 e8),(sl z10 f11 e12),(sl z14 f15 e16)]) ?_
 obtain ⟨y22,h23,h⟩:=obind h
 refine cP (impl_ValidChecker_ok h5 h9 h13 h17 h23 hWF) ?_
 intro _ o25 h24
 cases h24
 refine q (bool y22) ?_
 obtain ⟨b27,hb,h⟩:=obind h
 refine AOps.split 5 (fun f'=>∃ tm' os',f'=⟨updL tm' [(1,(eptr [(J v1.Checker.Stack),(J v1.Checker.Start),(sl z2 f3 e4),(sl z6 f7 e8),(sl z10 f11 e12),(sl z14 f15 e16),(sl z18 f19 e20)] 0)),(11,(bool b27))],updL os' [],{ s with lo:=s.n }⟩) ?_ ?_
 ·rcases oite hb with ⟨hc26,hb⟩ | ⟨hc26,hb⟩
  ·have h:=hb
   refine kn 6 hc26 ?_
   refine q (eptr [(J v1.Checker.Stack),(J v1.Checker.Start),(sl z2 f3 e4),(sl z6 f7 e8),(sl z10 f11 e12),(sl z14 f15 e16),(sl z18 f19 e20)] 6) ?_
   refine lE (sl z18 f19 e20) ?_
   obtain ⟨y28,h29,h⟩:=obind h
   refine cP (impl_size_string_ok h21 h29 hWF) ?_
   intro _ o31 h30
   cases h30
   obtain ⟨y32,h33,h⟩:=obind h
   refine cP (impl_within_ok  h33 hWF) ?_
   intro _ o35 h34
   cases h34
   refine q (bool y32) ?_
   exact rR ⟨rfl,congrArg bool (Option.some.inj h),trivial⟩
  ·refine kn 6 hc26 ?_
   refine sk ?_
   refine sk ?_
   refine sk ?_
   refine sk ?_
   refine q (bool false) ?_
   exact rR ⟨rfl,congrArg bool (Option.some.inj hb),trivial⟩
 rintro _ ⟨tm,os,rfl⟩
 refine q (bool b27) ?_
 obtain ⟨b37,hb,h⟩:=obind h
 refine AOps.split 5 (fun f'=>∃ tm' os',f'=⟨updL tm' [(1,(eptr [(J v1.Checker.Stack),(J v1.Checker.Start),(sl z2 f3 e4),(sl z6 f7 e8),(sl z10 f11 e12),(sl z14 f15 e16),(sl z18 f19 e20)] 0)),(17,(bool b37))],updL os' [],{ s with lo:=s.n }⟩) ?_ ?_
 ·rcases oite hb with ⟨hc36,hb⟩ | ⟨hc36,hb⟩
  ·have h:=hb
   refine kn 12 hc36 ?_
   refine q (eptr [(J v1.Checker.Stack),(J v1.Checker.Start),(sl z2 f3 e4),(sl z6 f7 e8),(sl z10 f11 e12),(sl z14 f15 e16),(sl z18 f19 e20)] 6) ?_
   refine lE (sl z18 f19 e20) ?_
   obtain ⟨y38,h39,h⟩:=obind h
   refine cP (slices_ContainsFunc_sstring_string_ok h21 (by intro x vs y hc hx s hs; obtain ⟨_,_,rfl,hv0,hd0⟩:=Cs_cons hc; cases hv0; cases Cs_nil hd0; exact impl_ValidStream_1_ok  hx hs) h39 hWF) ?_
   intro _ o41 h40
   cases h40
   refine q (bool (!y38)) ?_
   refine q (bool (!y38)) ?_
   exact rR ⟨rfl,congrArg bool (Option.some.inj h),trivial⟩
  ·refine kn 12 hc36 ?_
   refine sk ?_
   refine sk ?_
   refine sk ?_
   refine sk ?_
   refine q (bool false) ?_
   exact rR ⟨rfl,congrArg bool (Option.some.inj hb),trivial⟩
 rintro _ ⟨tm,os,rfl⟩
 refine q (bool b37) ?_
 obtain ⟨b43,hb,h⟩:=obind h
 refine AOps.split 5 (fun f'=>∃ tm' os',f'=⟨updL tm' [(23,(bool b43))],updL os' [],{ s with lo:=s.n }⟩) ?_ ?_
 ·rcases oite hb with ⟨hc42,hb⟩ | ⟨hc42,hb⟩
  ·have h:=hb
   refine kn 18 hc42 ?_
   refine q (eptr [(J v1.Checker.Stack),(J v1.Checker.Start),(sl z2 f3 e4),(sl z6 f7 e8),(sl z10 f11 e12),(sl z14 f15 e16),(sl z18 f19 e20)] 6) ?_
   refine lE (sl z18 f19 e20) ?_
   obtain ⟨y44,h45,h⟩:=obind h
   refine cP (ext_join_ok h21 h45 hWF) ?_
   intro _ o47 h46
   cases h46
   obtain ⟨y48,h49,h⟩:=obind h
   refine cP (impl_ValidWord_ok  h49 hWF) ?_
   intro _ o51 h50
   cases h50
   refine q (bool y48) ?_
   exact rR ⟨congrArg bool (Option.some.inj h),trivial⟩
  ·refine kn 18 hc42 ?_
   refine sk ?_
   refine sk ?_
   refine sk ?_
   refine sk ?_
   refine q (bool false) ?_
   exact rR ⟨congrArg bool (Option.some.inj hb),trivial⟩
 rintro _ ⟨tm,os,rfl⟩
 refine aq (bool b43) ?_
 refine nl ?_
 cases h
 exact AW.ret ⟨rfl,_,_,rfl,rfl⟩
theorem slices_IndexFunc_simpl_Deed_impl_Deed_ok {s1:List Deed} {f6:Deed→Option Bool} {z2 g7:Nat} {f3:Bool} {e4 cap8:List AV} {s:St} (h5:LR rDeed 3 s1 z2 e4) (h9:∀ x vs y,Cs [rDeed x] vs→f6 x=some y→∀ s,WF s→ACall Cf g7 (vs++cap8) s fun v _ s'=>(rB) y v∧s'=s) {r:Int} (h:slices_IndexFunc_simpl_Deed_impl_Deed s1 f6=some r) (hs:WF s):ACall Cf 71 [(sl z2 f3 e4),(AV.fn g7 cap8)] s fun v _ s'=>rJ r v∧s'=s:=by
 refine ACall.pure rfl rfl rfl .I ?_
 have hWF:=hs.lo'
 unfold slices_IndexFunc_simpl_Deed_impl_Deed at h
 refine sr ?_
 refine q (J 0) ?_
 refine nl ?_
 refine AW.seq ?_
 refine sr ?_
 refine q (sl z2 f3 e4) ?_
 refine AOps.p rfl (len_eq h5) ?_
 refine q (J 0) ?_
 refine nl ?_
 refine AW.meet (σ:=Unit) (fun _ tm os=>⟨updL tm [],updL os [],{ s with lo:=s.n }⟩) (fun _=>slices_IndexFunc_simpl_Deed_impl_Deed_J1=some r) ?_ ?_
 ·rintro _ tm os h
  unfold slices_IndexFunc_simpl_Deed_impl_Deed_J1 at h
  refine sr ?_
  refine q (J (-1)) ?_
  refine nl ?_
  cases h
  exact AW.ret ⟨rfl,_,_,rfl,rfl⟩
 intro KJ10
 refine AW.block ?_
 refine AW.res [(0,(sl z2 f3 e4)),(1,(AV.fn g7 cap8)),(7,(J (s1.length:Int))),(8,(J 0))] [] ⟨rfl,rfl,rfl,rfl,trivial⟩ trivial ?_
 refine AW.loopF (σ:=Int) (τ:=Unit) (fun t11 _=>True) (fun t11 _ tm os=>⟨updL tm [(0,(sl z2 f3 e4)),(1,(AV.fn g7 cap8)),(7,(J (s1.length:Int))),(8,(J t11))],updL os [],{ s with lo:=s.n }⟩) ?_ (x:=(0)) (y:=()) h trivial
 clear h
 rintro t11 _ tm os - ee1 h hL1 hR1
 unfold slices_IndexFunc_simpl_Deed_impl_Deed_S1 at h
 refine sr ?_
 refine q (bool (decide ((t11:Int)<(s1.length:Int)))) ?_
 refine nl ?_
 refine AW.seq ?_
 rcases oite h with ⟨hc12,h⟩ | ⟨hc12,h⟩
 ·refine cT hc12 ?_
  refine AW.skip ?_
  refine AW.seq ?_
  refine AW.block ?_
  refine sr ?_
  refine q (J t11) ?_
  refine aq (J t11) ?_
  refine ns ?_
  refine q (AV.fn g7 cap8) ?_
  refine q (sl z2 f3 e4) ?_
  refine q (J t11) ?_
  obtain ⟨x13,h14,h⟩:=obind h
  obtain ⟨v17,h15,h16⟩:=idx_sl h5 h14
  obtain ⟨_,rfl,h18⟩:=h15
  obtain ⟨_,_,rfl,h19,h20⟩:=Cs_cons h18
  cases h19
  obtain ⟨_,_,rfl,h21,h22⟩:=Cs_cons h20
  cases h21
  obtain ⟨_,_,rfl,h23,h24⟩:=Cs_cons h22
  cases h23
  cases Cs_nil h24
  refine AOps.pureR rfl rfl rfl h16 rfl (rfl:_=(eptr [(J x13.Kind),(J x13.A),(J x13.B)] 0)) ?_
  refine lE (agg [(J x13.Kind),(J x13.A),(J x13.B)]) ?_
  obtain ⟨y25,h26,h⟩:=obind h
  refine AOps.callP (g:=g7) (args:=([(agg [(J x13.Kind),(J x13.A),(J x13.B)])]++cap8)) (p:=(rB) y25) rfl rfl rfl (h9 x13 _ _ (.cons ⟨_,rfl,(.cons rfl (.cons rfl (.cons rfl .nil)))⟩ .nil) h26 _ hWF) ?_
  intro _ o28 h27
  cases h27
  refine nl ?_
  rcases oite h with ⟨hc29,h⟩ | ⟨hc29,h⟩
  ·refine cT hc29 ?_
   refine sr ?_
   refine q (J t11) ?_
   refine aq (J t11) ?_
   refine nl ?_
   cases h
   have hr:=hR1 _ rfl
   subst hr
   exact AW.ret ⟨rfl,_,_,rfl,rfl⟩
  refine cF hc29 ?_
  refine AW.skip ?_
  refine AW.inBlock ?_
  refine AW.region ?_
  refine q (J (IntKind.wrap .i64 (t11+1))) ?_
  refine q (J (IntKind.wrap .i64 (t11+1))) ?_
  refine nl ?_
  cases h
  exact AW.res [(0,(sl z2 f3 e4)),(1,(AV.fn g7 cap8)),(7,(J (s1.length:Int))),(8,(J (IntKind.wrap .i64 (t11+1))))] [] ⟨rfl,rfl,rfl,rfl,trivial⟩ trivial (hL1 _ rfl () _ _ trivial)
 refine cF hc12 ?_
 refine AW.exit rfl ?_
 obtain ⟨r30,hm,hx⟩:=omap h
 clear h
 subst hx
 have hx:=hR1 _ rfl
 rw[hx] at hm
 have h:=hm
 exact AW.res [] [] trivial trivial (KJ10 () _ _ h)
theorem slices_ContainsFunc_simpl_Deed_impl_Deed_ok {s1:List Deed} {f6:Deed→Option Bool} {z2 g7:Nat} {f3:Bool} {e4 cap8:List AV} {s:St} (h5:LR rDeed 3 s1 z2 e4) (h9:∀ x vs y,Cs [rDeed x] vs→f6 x=some y→∀ s,WF s→ACall Cf g7 (vs++cap8) s fun v _ s'=>(rB) y v∧s'=s) {r:Bool} (h:slices_ContainsFunc_simpl_Deed_impl_Deed s1 f6=some r) (hs:WF s):ACall Cf 41 [(sl z2 f3 e4),(AV.fn g7 cap8)] s fun v _ s'=>(rB) r v∧s'=s:=by
 refine ACall.pure rfl rfl rfl .B ?_
 have hWF:=hs.lo'
 unfold slices_ContainsFunc_simpl_Deed_impl_Deed at h
 refine sr ?_
 refine q (bool false) ?_
 refine ns ?_
 refine q (sl z2 f3 e4) ?_
 refine q (AV.fn g7 cap8) ?_
 obtain ⟨y10,h11,h⟩:=obind h
 refine cP (slices_IndexFunc_simpl_Deed_impl_Deed_ok h5 h9 h11 hWF) ?_
 intro _ o13 h12
 cases h12
 refine q (bool (decide ((y10:Int)≥0))) ?_
 refine aq (bool (decide ((y10:Int)≥0))) ?_
 refine nl ?_
 cases h
 exact AW.ret ⟨rfl,_,_,rfl,rfl⟩
theorem impl_deedWord_ok {kind1:Int} {s:St} {r:(List UInt8) × Int} (h:impl_deedWord kind1=some r) (hs:WF s):ACall Cf 72 [(J kind1)] s fun v _ s'=>(fun x=>rT [rS x.1,rJ x.2]) r v∧s'=s:=by
 refine ACall.pure rfl rfl rfl (.T (.cons .S (.cons .I .nil))) ?_
 have hWF:=hs.lo'
 unfold impl_deedWord at h
 refine sr ?_
 refine q (str ([]:List UInt8)) ?_
 refine q (J 0) ?_
 refine nl ?_
 refine AW.seq ?_
 refine sr ?_
 refine q (J kind1) ?_
 refine nl ?_
 refine AW.block ?_
 refine sr ?_
 refine q (bool (kind1 == 1)) ?_
 refine aq (bool (kind1 == 1)) ?_
 refine nl ?_
 rcases oite h with ⟨hc2,h⟩ | ⟨hc2,h⟩
 ·refine cT hc2 ?_
  refine sr ?_
  refine q (str ([115,101,110,100]:List UInt8)) ?_
  refine q (J 2) ?_
  refine nl ?_
  cases h
  exact AW.ret ⟨rfl,_,_,rfl,⟨_,rfl,(.cons rfl (.cons rfl .nil))⟩⟩
 refine cF hc2 ?_
 refine sr ?_
 refine q (bool (kind1 == 2)) ?_
 refine aq (bool (kind1 == 2)) ?_
 refine nl ?_
 rcases oite h with ⟨hc3,h⟩ | ⟨hc3,h⟩
 ·refine cT hc3 ?_
  refine sr ?_
  refine q (str ([100,101,108,105,118,101,114]:List UInt8)) ?_
  refine q (J 1) ?_
  refine nl ?_
  cases h
  exact AW.ret ⟨rfl,_,_,rfl,⟨_,rfl,(.cons rfl (.cons rfl .nil))⟩⟩
 refine cF hc3 ?_
 refine sr ?_
 refine q (bool (kind1 == 3)) ?_
 refine aq (bool (kind1 == 3)) ?_
 refine nl ?_
 rcases oite h with ⟨hc4,h⟩ | ⟨hc4,h⟩
 ·refine cT hc4 ?_
  refine sr ?_
  refine q (str ([99,111,112,121]:List UInt8)) ?_
  refine q (J 1) ?_
  refine nl ?_
  cases h
  exact AW.ret ⟨rfl,_,_,rfl,⟨_,rfl,(.cons rfl (.cons rfl .nil))⟩⟩
 refine cF hc4 ?_
 refine sr ?_
 refine q (bool (kind1 == 4)) ?_
 refine aq (bool (kind1 == 4)) ?_
 refine nl ?_
 rcases oite h with ⟨hc5,h⟩ | ⟨hc5,h⟩
 ·refine cT hc5 ?_
  refine sr ?_
  refine q (str ([100,114,111,112]:List UInt8)) ?_
  refine q (J 1) ?_
  refine nl ?_
  cases h
  exact AW.ret ⟨rfl,_,_,rfl,⟨_,rfl,(.cons rfl (.cons rfl .nil))⟩⟩
 refine cF hc5 ?_
 refine sr ?_
 refine q (bool (kind1 == 5)) ?_
 refine aq (bool (kind1 == 5)) ?_
 refine nl ?_
 rcases oite h with ⟨hc6,h⟩ | ⟨hc6,h⟩
 ·refine cT hc6 ?_
  refine sr ?_
  refine q (str ([115,97,118,101]:List UInt8)) ?_
  refine q (J 0) ?_
  refine nl ?_
  cases h
  exact AW.ret ⟨rfl,_,_,rfl,⟨_,rfl,(.cons rfl (.cons rfl .nil))⟩⟩
 refine cF hc6 ?_
 refine sr ?_
 refine q (bool (kind1 == 6)) ?_
 refine aq (bool (kind1 == 6)) ?_
 refine nl ?_
 rcases oite h with ⟨hc7,h⟩ | ⟨hc7,h⟩
 ·refine cT hc7 ?_
  refine sr ?_
  refine q (str ([99,114,97,115,104]:List UInt8)) ?_
  refine q (J 0) ?_
  refine nl ?_
  cases h
  exact AW.ret ⟨rfl,_,_,rfl,⟨_,rfl,(.cons rfl (.cons rfl .nil))⟩⟩
 refine cF hc7 ?_
 refine AW.skip ?_
 refine AW.inBlock ?_
 refine sr ?_
 refine q (str ([]:List UInt8)) ?_
 refine q (J 0) ?_
 refine nl ?_
 cases h
 exact AW.ret ⟨rfl,_,_,rfl,⟨_,rfl,(.cons rfl (.cons rfl .nil))⟩⟩
theorem impl_ValidDeed_ok {d1:Deed} {s:St} {r:Bool} (h:impl_ValidDeed d1=some r) (hs:WF s):ACall Cf 43 [(agg [(J d1.Kind),(J d1.A),(J d1.B)])] s fun v _ s'=>(rB) r v∧s'=s:=by
 refine ACall.pure rfl rfl rfl .B ?_
 have hWF:=hs.lo'
 unfold impl_ValidDeed at h
 refine sr ?_
 refine AOps.makeR rfl rfl rfl rfl rfl rfl (rfl:_=(eptr [(J d1.Kind),(J d1.A),(J d1.B)] 0)) ?_
 refine q (bool false) ?_
 refine ns ?_
 refine q (eptr [(J d1.Kind),(J d1.A),(J d1.B)] 0) ?_
 refine lE (J d1.Kind) ?_
 obtain ⟨y2,h3,h⟩:=obind h
 refine cP (impl_deedWord_ok  h3 hWF) ?_
 intro _ o10 h4
 obtain ⟨_,rfl,h5⟩:=h4
 obtain ⟨_,_,rfl,h6,h7⟩:=Cs_cons h5
 cases h6
 obtain ⟨_,_,rfl,h8,h9⟩:=Cs_cons h7
 cases h8
 cases Cs_nil h9
 refine q (AV.tup [(str y2.1),(J y2.2)]) ?_
 refine q (str y2.1) ?_
 refine q (J y2.2) ?_
 refine aq (str y2.1) ?_
 refine aq (J y2.2) ?_
 refine ns ?_
 refine q (str y2.1) ?_
 refine q (bool (!(y2.1 == ([]:List UInt8)))) ?_
 refine q (bool (!(y2.1 == ([]:List UInt8)))) ?_
 obtain ⟨b12,hb,h⟩:=obind h
 refine AOps.split 4 (fun f'=>∃ tm' os',f'=⟨updL tm' [(1,(eptr [(J d1.Kind),(J d1.A),(J d1.B)] 0)),(4,(J y2.2)),(17,(bool b12))],updL os' [],{ s with lo:=s.n }⟩) ?_ ?_
 ·rcases oite hb with ⟨hc11,hb⟩ | ⟨hc11,hb⟩
  ·have h:=hb
   refine kn 13 hc11 ?_
   refine q (eptr [(J d1.Kind),(J d1.A),(J d1.B)] 1) ?_
   refine lE (J d1.A) ?_
   obtain ⟨y13,h14,h⟩:=obind h
   refine cP (impl_within_ok  h14 hWF) ?_
   intro _ o16 h15
   cases h15
   refine q (bool y13) ?_
   exact rR ⟨rfl,rfl,congrArg bool (Option.some.inj h),trivial⟩
  ·refine kn 13 hc11 ?_
   refine sk ?_
   refine sk ?_
   refine sk ?_
   refine q (bool false) ?_
   exact rR ⟨rfl,rfl,congrArg bool (Option.some.inj hb),trivial⟩
 rintro _ ⟨tm,os,rfl⟩
 refine q (bool b12) ?_
 obtain ⟨b18,hb,h⟩:=obind h
 refine AOps.split 4 (fun f'=>∃ tm' os',f'=⟨updL tm' [(1,(eptr [(J d1.Kind),(J d1.A),(J d1.B)] 0)),(4,(J y2.2)),(22,(bool b18))],updL os' [],{ s with lo:=s.n }⟩) ?_ ?_
 ·rcases oite hb with ⟨hc17,hb⟩ | ⟨hc17,hb⟩
  ·have h:=hb
   refine kn 18 hc17 ?_
   refine q (eptr [(J d1.Kind),(J d1.A),(J d1.B)] 2) ?_
   refine lE (J d1.B) ?_
   obtain ⟨y19,h20,h⟩:=obind h
   refine cP (impl_within_ok  h20 hWF) ?_
   intro _ o22 h21
   cases h21
   refine q (bool y19) ?_
   exact rR ⟨rfl,rfl,congrArg bool (Option.some.inj h),trivial⟩
  ·refine kn 18 hc17 ?_
   refine sk ?_
   refine sk ?_
   refine sk ?_
   refine q (bool false) ?_
   exact rR ⟨rfl,rfl,congrArg bool (Option.some.inj hb),trivial⟩
 rintro _ ⟨tm,os,rfl⟩
 refine q (bool b18) ?_
 refine AOps.split 8 (fun f'=>∃ tm' os',f'=⟨updL tm' [(1,(eptr [(J d1.Kind),(J d1.A),(J d1.B)] 0)),(4,(J y2.2)),(31,(bool (b18&&((decide ((y2.2:Int)>0))||(d1.A == 0)))))],updL os' [],{ s with lo:=s.n }⟩) ?_ ?_
 ·rcases Bool.eq_false_or_eq_true b18 with hc23 | hc23
  ·refine kn 23 hc23 ?_
   refine q (J y2.2) ?_
   refine q (bool (decide ((y2.2:Int)>0))) ?_
   refine q (bool (decide ((y2.2:Int)>0))) ?_
   refine AOps.split 4 (fun f'=>∃ tm' os',f'=⟨updL tm' [(1,(eptr [(J d1.Kind),(J d1.A),(J d1.B)] 0)),(4,(J y2.2)),(23,(bool true)),(30,(bool ((decide ((y2.2:Int)>0))||(d1.A == 0))))],updL os' [],{ s with lo:=s.n }⟩) ?_ ?_
   ·rcases Bool.eq_false_or_eq_true (decide ((y2.2:Int)>0)) with hc24 | hc24
    ·refine kn 26 hc24 ?_
     refine sk ?_
     refine sk ?_
     refine sk ?_
     refine q (bool true) ?_
     exact rR ⟨rfl,rfl,rfl,congrArg bool (or_t hc24),trivial⟩
    ·refine kn 26 hc24 ?_
     refine q (eptr [(J d1.Kind),(J d1.A),(J d1.B)] 1) ?_
     refine lE (J d1.A) ?_
     refine q (bool (d1.A == 0)) ?_
     refine q (bool (d1.A == 0)) ?_
     exact rR ⟨rfl,rfl,rfl,congrArg bool (or_f hc24),trivial⟩
   rintro _ ⟨tm,os,rfl⟩
   refine q (bool ((decide ((y2.2:Int)>0))||(d1.A == 0))) ?_
   exact rR ⟨rfl,rfl,congrArg bool (and_t hc23),trivial⟩
  ·refine kn 23 hc23 ?_
   refine sk ?_
   refine sk ?_
   refine sk ?_
   refine sk ?_
   refine sk ?_
   refine sk ?_
   refine sk ?_
   refine q (bool false) ?_
   exact rR ⟨rfl,rfl,congrArg bool (and_f hc23),trivial⟩
 rintro _ ⟨tm,os,rfl⟩
 refine q (bool (b18&&((decide ((y2.2:Int)>0))||(d1.A == 0)))) ?_
 refine AOps.split 8 (fun f'=>∃ tm' os',f'=⟨updL tm' [(40,(bool ((b18&&((decide ((y2.2:Int)>0))||(d1.A == 0)))&&((decide ((y2.2:Int)>1))||(d1.B == 0)))))],updL os' [],{ s with lo:=s.n }⟩) ?_ ?_
 ·rcases Bool.eq_false_or_eq_true (b18&&((decide ((y2.2:Int)>0))||(d1.A == 0))) with hc25 | hc25
  ·refine kn 32 hc25 ?_
   refine q (J y2.2) ?_
   refine q (bool (decide ((y2.2:Int)>1))) ?_
   refine q (bool (decide ((y2.2:Int)>1))) ?_
   refine AOps.split 4 (fun f'=>∃ tm' os',f'=⟨updL tm' [(32,(bool true)),(39,(bool ((decide ((y2.2:Int)>1))||(d1.B == 0))))],updL os' [],{ s with lo:=s.n }⟩) ?_ ?_
   ·rcases Bool.eq_false_or_eq_true (decide ((y2.2:Int)>1)) with hc26 | hc26
    ·refine kn 35 hc26 ?_
     refine sk ?_
     refine sk ?_
     refine sk ?_
     refine q (bool true) ?_
     exact rR ⟨rfl,congrArg bool (or_t hc26),trivial⟩
    ·refine kn 35 hc26 ?_
     refine q (eptr [(J d1.Kind),(J d1.A),(J d1.B)] 2) ?_
     refine lE (J d1.B) ?_
     refine q (bool (d1.B == 0)) ?_
     refine q (bool (d1.B == 0)) ?_
     exact rR ⟨rfl,congrArg bool (or_f hc26),trivial⟩
   rintro _ ⟨tm,os,rfl⟩
   refine q (bool ((decide ((y2.2:Int)>1))||(d1.B == 0))) ?_
   exact rR ⟨congrArg bool (and_t hc25),trivial⟩
  ·refine kn 32 hc25 ?_
   refine sk ?_
   refine sk ?_
   refine sk ?_
   refine sk ?_
   refine sk ?_
   refine sk ?_
   refine sk ?_
   refine q (bool false) ?_
   exact rR ⟨congrArg bool (and_f hc25),trivial⟩
 rintro _ ⟨tm,os,rfl⟩
 refine aq (bool ((b18&&((decide ((y2.2:Int)>0))||(d1.A == 0)))&&((decide ((y2.2:Int)>1))||(d1.B == 0)))) ?_
 refine nl ?_
 cases h
 exact AW.ret ⟨rfl,_,_,rfl,rfl⟩
theorem impl_deedsCode_1_ok {x1:Deed} {s:St} {r:Bool} (h:impl_deedsCode_1 x1=some r) (hs:WF s):ACall Cf 42 [(agg [(J x1.Kind),(J x1.A),(J x1.B)])] s fun v _ s'=>(rB) r v∧s'=s:=by
 refine ACall.pure rfl rfl rfl .B ?_
 have hWF:=hs.lo'
 unfold impl_deedsCode_1 at h
 refine sr ?_
 refine AOps.makeR rfl rfl rfl rfl rfl rfl (rfl:_=(eptr [(J x1.Kind),(J x1.A),(J x1.B)] 0)) ?_
 refine q (bool false) ?_
 refine ns ?_
 refine lE (agg [(J x1.Kind),(J x1.A),(J x1.B)]) ?_
 obtain ⟨y2,h3,h⟩:=obind h
 refine cP (impl_ValidDeed_ok  h3 hWF) ?_
 intro _ o5 h4
 cases h4
 refine q (bool (!y2)) ?_
 refine aq (bool (!y2)) ?_
 refine nl ?_
 cases h
 exact AW.ret ⟨rfl,_,_,rfl,rfl⟩
end Go.Proofs.YtmahhacghgkigaaGreat.law
