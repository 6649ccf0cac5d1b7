import Derived.Test.YtbmjcddendnniaaGreatAeD
import Derived.Test.YtbmjcddendnniaaGreatAe4
import Derived.Test.YtbmjcddendnniaaGreatAeK1
set_option linter.unusedVariables false
set_option linter.unusedSimpArgs false
namespace Go.Proofs.YtbmjcddendnniaaGreat.law
open Go Go.Proofs Ae
open Ae.AV (int sl eptr agg ptr bool str)
set_option maxRecDepth 100000
set_option linter.unusedVariables false
theorem spec_l08Run_come_F1_ok {p14:Stream} {p125 p126 p137 p138:Int} {p127 p132 p139 p144:List Int} {p149:List Parcel} {p1_55:Parcel} {b2 z5 z9 z13 z17 z21 z28 z33 z40 z45 z50 z56:Nat} {w3:Nat→Bool} {f6 f10 f14 f18 f22 f29 f34 f41 f46 f51 f57:Bool} {e7 e11 e15 e19 e23 e30 e35 e42 e47 e52 e58:List AV} {s:St} (h8:LR rB 1 p14.Checker.Accept z5 e7) (h12:LR (rL rPush 2) 1 p14.Checker.Call z9 e11) (h16:LR (rL (rL rJ 1) 1) 1 p14.Checker.Return z13 e15) (h20:LR (rL rJ 1) 1 p14.Checker.Inner z17 e19) (h24:LR rS 1 p14.Pieces z21 e23) (h31:LR rJ 1 p127 z28 e30) (h36:LR rJ 1 p132 z33 e35) (h43:LR rJ 1 p139 z40 e42) (h48:LR rJ 1 p144 z45 e47) (h53:LR rParcel 2 p149 z50 e52) (h54:f51=true∨w3 9=true) (h59:LR rS 1 p1_55.Texts z56 e58) (hE:HS [b2] false s { s with lo:=s.n } [⟨some b2,[(eptr [(J p14.Checker.Stack),(J p14.Checker.Start),(sl z5 f6 e7),(sl z9 f10 e11),(sl z13 f14 e15),(sl z17 f18 e19),(sl z21 f22 e23)] 0),(J p125),(J p126),(sl z28 f29 e30),(sl z33 f34 e35),(J p137),(J p138),(sl z40 f41 e42),(sl z45 f46 e47),(sl z50 f51 e52)],w3⟩]) {r:Unit × Int × Int × (List Int) × (List Int)} (h:spec_l08Run_come_F1 p14 p125 p126 p127 p132 p137 p138 p139 p144 p149 p1_55=some r) (hs:WF s):ACall Cf 92 [(ptr b2 0),(eptr [(J p1_55.First),(sl z56 f57 e58)] 0)] s fun v _ s'=>(fun (_:Unit)=>rT []) r.1 v∧∃ (w0':Nat→Bool) (z3':Nat) (f3':Bool) (e3':List AV) (z4':Nat) (f4':Bool) (e4':List AV),Fx [b2] s s' [⟨some b2,[(eptr [(J p14.Checker.Stack),(J p14.Checker.Start),(sl z5 f6 e7),(sl z9 f10 e11),(sl z13 f14 e15),(sl z17 f18 e19),(sl z21 f22 e23)] 0),(J r.2.1),(J r.2.2.1),(sl z3' f3' e3'),(sl z4' f4' e4'),(J p137),(J p138),(sl z40 f41 e42),(sl z45 f46 e47),(sl z50 f51 e52)],w0'⟩]∧LR rJ 1 r.2.2.2.1 z3' e3'∧LR rJ 1 r.2.2.2.2 z4' e4'∧(f51=true∨w0' 9=true):=by
 refine ACall.foreign rfl rfl rfl ?_
 unfold spec_l08Run_come_F1 at h
 refine sr ?_
 refine q (ptr b2 0) ?_
 refine q (ptr b2 0) ?_
 refine q (ptr b2 1) ?_
 refine q (ptr b2 1) ?_
 refine aq (ptr b2 1) ?_
 refine nl ?_
 refine AW.seq ?_
 refine sr ?_
 refine q (J 0) ?_
 refine nl ?_
 refine AW.meet (σ:=(List Int) × (Nat→Bool) × Nat × Bool × (List AV) × St) (fun (m61,w60,z62,f63,e64,s67) tm os=>⟨updL tm [(0,(ptr b2 0)),(4,(ptr b2 1))],updL os [],s67⟩) (fun (m61,w60,z62,f63,e64,s67)=>(LR rJ 1 m61 z62 e64)∧(f51=true∨w60 9=true)∧(HS [b2] false s s67 [⟨some b2,[(eptr [(J p14.Checker.Stack),(J p14.Checker.Start),(sl z5 f6 e7),(sl z9 f10 e11),(sl z13 f14 e15),(sl z17 f18 e19),(sl z21 f22 e23)] 0),(J p125),(J p126),(sl z28 f29 e30),(sl z62 f63 e64),(J p137),(J p138),(sl z40 f41 e42),(sl z45 f46 e47),(sl z50 f51 e52)],w60⟩])∧spec_l08Run_come_F1_J1 p14 p125 p126 p127 m61=some r) ?_ ?_
 ·rintro ⟨m61,w60,z62,f63,e64,s67⟩ tm os ⟨h65,h66,hH68,h⟩
  unfold spec_l08Run_come_F1_J1 at h
  refine AW.meet (σ:=Int × Int × (List Int) × (List Int) × (Nat→Bool) × Nat × Bool × (List AV) × Nat × Bool × (List AV) × St) (fun (m71,m72,m73,m78,w70,z74,f75,e76,z79,f80,e81,s84) tm os=>⟨updL tm [],updL os [],s84⟩) (fun (m71,m72,m73,m78,w70,z74,f75,e76,z79,f80,e81,s84)=>(LR rJ 1 m73 z74 e76)∧(LR rJ 1 m78 z79 e81)∧(f51=true∨w70 9=true)∧(HS [b2] false s s84 [⟨some b2,[(eptr [(J p14.Checker.Stack),(J p14.Checker.Start),(sl z5 f6 e7),(sl z9 f10 e11),(sl z13 f14 e15),(sl z17 f18 e19),(sl z21 f22 e23)] 0),(J m71),(J m72),(sl z74 f75 e76),(sl z79 f80 e81),(J p137),(J p138),(sl z40 f41 e42),(sl z45 f46 e47),(sl z50 f51 e52)],w70⟩])∧spec_l08Run_come_F1_J2 m71 m72 m73 m78=some r) ?_ ?_
  ·rintro ⟨m71,m72,m73,m78,w70,z74,f75,e76,z79,f80,e81,s84⟩ tm os ⟨h77,h82,h83,hH85,h⟩
   unfold spec_l08Run_come_F1_J2 at h
   cases h
   exact AW.nil ⟨_,_,rfl,finF (p:=(fun (_:Unit)=>rT []) ()) (Fin.T .nil) ⟨w70,z74,f75,e76,z79,f80,e81,HS.leaveP hH85 [0] rfl,h77,h82,h83⟩⟩
  intro KJ86
  refine AW.block ?_
  refine AW.res [(0,(ptr b2 0)),(4,(ptr b2 1))] [] ⟨rfl,rfl,trivial⟩ trivial ?_
  refine AW.loopF (σ:=Int × Int × (List Int) × (List Int)) (τ:=(Nat→Bool) × Nat × Bool × (List AV) × Nat × Bool × (List AV) × St) (fun (m88,m89,m90,m95) (w87,z91,f92,e93,z96,f97,e98,s101)=>(LR rJ 1 m90 z91 e93)∧(LR rJ 1 m95 z96 e98)∧(f51=true∨w87 9=true)∧(HS [b2] false s s101 [⟨some b2,[(eptr [(J p14.Checker.Stack),(J p14.Checker.Start),(sl z5 f6 e7),(sl z9 f10 e11),(sl z13 f14 e15),(sl z17 f18 e19),(sl z21 f22 e23)] 0),(J m88),(J m89),(sl z91 f92 e93),(sl z96 f97 e98),(J p137),(J p138),(sl z40 f41 e42),(sl z45 f46 e47),(sl z50 f51 e52)],w87⟩])) (fun (m88,m89,m90,m95) (w87,z91,f92,e93,z96,f97,e98,s101) tm os=>⟨updL tm [(0,(ptr b2 0)),(4,(ptr b2 1))],updL os [],s101⟩) ?_ (x:=(p125,p126,p127,m61)) (y:=(w60,z28,f29,e30,z62,f63,e64,s67)) h ⟨h31,h65,h66,(HS.sel hH68 [some 0] (by decide))⟩
  clear h
  rintro ⟨m88,m89,m90,m95⟩ ⟨w87,z91,f92,e93,z96,f97,e98,s101⟩ tm os ⟨h94,h99,h100,hH102⟩ ee1 h hL1 hR1
  unfold spec_l08Run_come_F1_S1 at h
  dsimp only at h
  refine AW.seq ?_
  refine sr ?_
  refine q (ptr b2 1) ?_
  refine q (ptr b2 1) ?_
  refine q (ptr b2 4) ?_
  refine AOps.ldB (i:=0) (v:=(sl z96 f97 e98)) hH102 rfl rfl rfl rfl rfl rfl rfl rfl rfl ?_
  refine AOps.p rfl (len_eq h99) ?_
  refine q (bool (decide (((m95.length:Int):Int)>0))) ?_
  refine q (bool (decide (((m95.length:Int):Int)>0))) ?_
  obtain ⟨b104,hb,h⟩:=obind h
  refine AOps.split 12 (fun f'=>∃ tm' os',f'=⟨updL tm' [(0,(ptr b2 0)),(4,(ptr b2 1)),(69,(bool b104))],updL os' [],s101⟩) ?_ ?_
  ·rcases oite hb with ⟨hc103,hb⟩ | ⟨hc103,hb⟩
   ·have h:=hb
    refine kn 57 hc103 ?_
    refine q (ptr b2 1) ?_
    refine q (ptr b2 1) ?_
    refine q (ptr b2 4) ?_
    refine AOps.ldB (i:=0) (v:=(sl z96 f97 e98)) hH102 rfl rfl rfl rfl rfl rfl rfl rfl rfl ?_
    obtain ⟨x105,h106,h⟩:=obind h
    obtain ⟨v109,h107,h108⟩:=idx_sl h99 h106
    cases h107
    refine AOps.pureR rfl rfl rfl h108 rfl (rfl:_=(eptr [(J x105)] 0)) ?_
    refine lE (J x105) ?_
    refine q (ptr b2 1) ?_
    refine q (ptr b2 1) ?_
    refine q (ptr b2 1) ?_
    refine AOps.ldB (i:=0) (v:=(J m88)) hH102 rfl rfl rfl rfl rfl rfl rfl rfl rfl ?_
    refine q (bool (x105 == m88)) ?_
    refine q (bool (x105 == m88)) ?_
    exact rR ⟨rfl,rfl,congrArg bool (Option.some.inj h),trivial⟩
   ·refine kn 57 hc103 ?_
    refine sk ?_
    refine sk ?_
    refine sk ?_
    refine sk ?_
    refine sk ?_
    refine sk ?_
    refine sk ?_
    refine sk ?_
    refine sk ?_
    refine sk ?_
    refine sk ?_
    refine q (bool false) ?_
    exact rR ⟨rfl,rfl,congrArg bool (Option.some.inj hb),trivial⟩
  rintro _ ⟨tm,os,rfl⟩
  refine nl ?_
  rcases oite h with ⟨hc110,h⟩ | ⟨hc110,h⟩
  ·refine cT hc110 ?_
   refine AW.skip ?_
   refine AW.block ?_
   refine sr ?_
   refine q (ptr b2 1) ?_
   refine q (ptr b2 1) ?_
   refine q (ptr b2 0) ?_
   refine q (ptr b2 0) ?_
   refine q (ptr b2 0) ?_
   refine AOps.ldB (i:=0) (v:=(eptr [(J p14.Checker.Stack),(J p14.Checker.Start),(sl z5 f6 e7),(sl z9 f10 e11),(sl z13 f14 e15),(sl z17 f18 e19),(sl z21 f22 e23)] 0)) hH102 rfl rfl rfl rfl rfl rfl rfl rfl rfl ?_
   refine q (eptr [(J p14.Checker.Stack),(J p14.Checker.Start),(sl z5 f6 e7),(sl z9 f10 e11),(sl z13 f14 e15),(sl z17 f18 e19),(sl z21 f22 e23)] 0) ?_
   refine q (eptr [(J p14.Checker.Stack),(J p14.Checker.Start),(sl z5 f6 e7),(sl z9 f10 e11),(sl z13 f14 e15),(sl z17 f18 e19),(sl z21 f22 e23)] 0) ?_
   refine q (ptr b2 1) ?_
   refine q (ptr b2 1) ?_
   refine q (ptr b2 2) ?_
   refine AOps.ldB (i:=0) (v:=(J m89)) hH102 rfl rfl rfl rfl rfl rfl rfl rfl rfl ?_
   refine q (ptr b2 1) ?_
   refine q (ptr b2 1) ?_
   refine q (ptr b2 3) ?_
   refine AOps.ldB (i:=0) (v:=(sl z91 f92 e93)) hH102 rfl rfl rfl rfl rfl rfl rfl rfl rfl ?_
   obtain ⟨y111,h112,h⟩:=obind h
   refine AOps.callDPO (g:=91) (args:=[(sl z91 f92 e93)]) (p:=(rL rJ 1) y111) rfl rfl rfl (spec_l00Own_okO h94 h112 ((HS.wf' hH102).still)) (fun v hv=>Nice.pure (k:=FINK) (p:=(rL rJ 1) y111) (.L fun _=>.I) _ v hv) ?_
   intro _ h113
   obtain ⟨z114,f115,e116,rfl,h117⟩:=h113
   refine q (ptr b2 0) ?_
   refine q (ptr b2 0) ?_
   refine q (ptr b2 0) ?_
   refine AOps.ldB (i:=0) (v:=(eptr [(J p14.Checker.Stack),(J p14.Checker.Start),(sl z5 f6 e7),(sl z9 f10 e11),(sl z13 f14 e15),(sl z17 f18 e19),(sl z21 f22 e23)] 0)) hH102 rfl rfl rfl rfl rfl rfl rfl rfl rfl ?_
   refine q (eptr [(J p14.Checker.Stack),(J p14.Checker.Start),(sl z5 f6 e7),(sl z9 f10 e11),(sl z13 f14 e15),(sl z17 f18 e19),(sl z21 f22 e23)] 0) ?_
   refine q (eptr [(J p14.Checker.Stack),(J p14.Checker.Start),(sl z5 f6 e7),(sl z9 f10 e11),(sl z13 f14 e15),(sl z17 f18 e19),(sl z21 f22 e23)] 6) ?_
   refine lE (sl z21 f22 e23) ?_
   refine q (ptr b2 1) ?_
   refine q (ptr b2 1) ?_
   refine q (ptr b2 1) ?_
   refine AOps.ldB (i:=0) (v:=(J m88)) hH102 rfl rfl rfl rfl rfl rfl rfl rfl rfl ?_
   obtain ⟨x119,h120,h⟩:=obind h
   obtain ⟨v123,h121,h122⟩:=idx_sl h24 h120
   cases h121
   refine AOps.pureR rfl rfl rfl h122 rfl (rfl:_=(eptr [(str x119)] 0)) ?_
   refine lE (str x119) ?_
   obtain ⟨y124,h125,h⟩:=obind h
   refine AOps.callDP (g:=114) (args:=[(eptr [(J p14.Checker.Stack),(J p14.Checker.Start),(sl z5 f6 e7),(sl z9 f10 e11),(sl z13 f14 e15),(sl z17 f18 e19),(sl z21 f22 e23)] 0),(J m89),(sl z114 f115 e116),(str x119)]) (p:=(fun x=>rT [rJ x.1,(rL rJ 1) x.2]) y124) rfl rfl rfl (spec_l02Go_w0_7ppp_ok (s:=St.still s101) h8 h12 h16 h20 h117 h125 ((HS.wf' hH102).still)) (fun v hv=>Nice.pure (k:=FINK) (p:=(fun x=>rT [rJ x.1,(rL rJ 1) x.2]) y124) (.T (.cons .I (.cons (.L fun _=>.I) .nil))) _ v hv) ?_
   intro _ o136 h126
   obtain ⟨_,rfl,h127⟩:=h126
   obtain ⟨_,_,rfl,h128,h129⟩:=Cs_cons h127
   cases h128
   obtain ⟨_,_,rfl,h130,h131⟩:=Cs_cons h129
   obtain ⟨z132,f133,e134,rfl,h135⟩:=h130
   cases Cs_nil h131
   refine q (AV.tup [(J y124.1),(sl z132 f133 e134)]) ?_
   refine q (J y124.1) ?_
   refine q (sl z132 f133 e134) ?_
   refine q (ptr b2 1) ?_
   refine q (ptr b2 2) ?_
   refine AOps.stX (i:=0) (v:=(J y124.1)) hH102 rfl rfl rfl rfl rfl rfl rfl rfl rfl (lt_b rfl) (le_b rfl) rfl rfl ?_
   intro w137 s138 h139 h140 hH141
   refine q (ptr b2 1) ?_
   refine q (ptr b2 3) ?_
   refine AOps.stX (i:=0) (v:=(sl z132 f133 e134)) hH141 rfl rfl rfl rfl rfl rfl rfl rfl rfl (lt_b rfl) (le_b rfl) rfl (Nice.pure (k:=FINK) (p:=(rL rJ 1) y124.2) (.L fun _=>.I) 0 _ ⟨_,_,_,rfl,h135⟩) ?_
   intro w142 s143 h144 h145 hH146
   refine ns ?_
   refine q (ptr b2 1) ?_
   refine q (ptr b2 1) ?_
   refine q (ptr b2 1) ?_
   refine q (ptr b2 4) ?_
   refine AOps.ldB (i:=0) (v:=(sl z96 f97 e98)) hH146 rfl rfl rfl rfl rfl rfl rfl rfl rfl ?_
   obtain ⟨l147,h148,h⟩:=obind h
   obtain ⟨f149,e150,h151,h152⟩:=cut_slL f97 h99 h148
   refine AOps.pureR rfl rfl rfl h152 rfl (rfl:_=(sl z96 f149 e150)) ?_
   obtain ⟨y153,h154,h⟩:=obind h
   refine AOps.callPO (g:=91) (args:=[(sl z96 f149 e150)]) (p:=(rL rJ 1) y153) rfl rfl rfl (spec_l00Own_okO h151 h154 (HS.wf' hH146)) ?_
   intro _ h155
   obtain ⟨z156,f157,e158,rfl,h159⟩:=h155
   refine q (ptr b2 1) ?_
   refine q (ptr b2 4) ?_
   refine AOps.stX (i:=0) (v:=(sl z156 f157 e158)) hH146 rfl rfl rfl rfl rfl rfl rfl rfl rfl (lt_b rfl) (le_b rfl) rfl (Nice.pure (k:=FINK) (p:=(rL rJ 1) y153) (.L fun _=>.I) 0 _ ⟨_,_,_,rfl,h159⟩) ?_
   intro w161 s162 h163 h164 hH165
   refine nl ?_
   refine AW.region ?_
   refine q (ptr b2 1) ?_
   refine q (ptr b2 1) ?_
   refine q (ptr b2 1) ?_
   refine AOps.ldB (i:=0) (v:=(J m88)) hH165 rfl rfl rfl rfl rfl rfl rfl rfl rfl ?_
   refine q (J (IntKind.wrap .i64 (m88+1))) ?_
   refine q (ptr b2 1) ?_
   refine q (ptr b2 1) ?_
   refine AOps.stX (i:=0) (v:=(J (IntKind.wrap .i64 (m88+1)))) hH165 rfl rfl rfl rfl rfl rfl rfl rfl rfl (lt_b rfl) (le_b rfl) rfl rfl ?_
   intro w166 s167 h168 h169 hH170
   refine nl ?_
   refine AW.inBlock ?_
   cases h
   exact AW.res [(0,(ptr b2 0)),(4,(ptr b2 1))] [] ⟨rfl,rfl,trivial⟩ trivial (hL1 _ rfl (w166,z132,f133,e134,z156,f157,e158,s167) _ _ ⟨h135,h159,(own_keep (own_keep (own_keep (own_keep h100 (h139 _ (by decide))) (h144 _ (by decide))) (h163 _ (by decide))) (h168 _ (by decide))),(HS.sel hH170 [some 0] (by decide))⟩)
  refine cF hc110 ?_
  refine AW.exit rfl ?_
  obtain ⟨r171,hm,hx⟩:=omap h
  clear h
  subst hx
  have hx:=hR1 _ rfl
  rw[hx] at hm
  have h:=hm
  exact AW.res [] [] trivial trivial (KJ86 (m88,m89,m90,m95,w87,z91,f92,e93,z96,f97,e98,s101) _ _ ⟨h94,h99,h100,(HS.sel hH102 [some 0] (by decide)),h⟩)
 intro KJ69
 refine AW.block ?_
 refine AW.res [(0,(ptr b2 0)),(1,(eptr [(J p1_55.First),(sl z56 f57 e58)] 0)),(4,(ptr b2 1)),(5,(J 0))] [] ⟨rfl,rfl,rfl,rfl,trivial⟩ trivial ?_
 refine AW.loopF (σ:=(List Int) × Int) (τ:=(Nat→Bool) × Nat × Bool × (List AV) × St) (fun (m173,t179) (w172,z174,f175,e176,s180)=>(LR rJ 1 m173 z174 e176)∧(f51=true∨w172 9=true)∧(HS [b2] false s s180 [⟨some b2,[(eptr [(J p14.Checker.Stack),(J p14.Checker.Start),(sl z5 f6 e7),(sl z9 f10 e11),(sl z13 f14 e15),(sl z17 f18 e19),(sl z21 f22 e23)] 0),(J p125),(J p126),(sl z28 f29 e30),(sl z174 f175 e176),(J p137),(J p138),(sl z40 f41 e42),(sl z45 f46 e47),(sl z50 f51 e52)],w172⟩])) (fun (m173,t179) (w172,z174,f175,e176,s180) tm os=>⟨updL tm [(0,(ptr b2 0)),(1,(eptr [(J p1_55.First),(sl z56 f57 e58)] 0)),(4,(ptr b2 1)),(5,(J t179))],updL os [],s180⟩) ?_ (x:=(p132,0)) (y:=(w3,z33,f34,e35,{ s with lo:=s.n })) h ⟨h36,h54,(HS.sel hE [some 0] (by decide))⟩
 clear h
 rintro ⟨m173,t179⟩ ⟨w172,z174,f175,e176,s180⟩ tm os ⟨h177,h178,hH181⟩ ee1 h hL1 hR1
 unfold spec_l08Run_come_F1_S2 at h
 dsimp only at h
 refine AW.seq ?_
 refine sr ?_
 refine q (J t179) ?_
 refine q (eptr [(J p1_55.First),(sl z56 f57 e58)] 0) ?_
 refine q (eptr [(J p1_55.First),(sl z56 f57 e58)] 0) ?_
 refine q (eptr [(J p1_55.First),(sl z56 f57 e58)] 1) ?_
 refine lE (sl z56 f57 e58) ?_
 refine AOps.p rfl (len_eq h59) ?_
 refine q (bool (decide ((t179:Int)<(p1_55.Texts.length:Int)))) ?_
 refine nl ?_
 rcases oite h with ⟨hc182,h⟩ | ⟨hc182,h⟩
 ·refine cT hc182 ?_
  refine AW.skip ?_
  refine AW.seq ?_
  refine AW.block ?_
  refine sr ?_
  refine q (eptr [(J p1_55.First),(sl z56 f57 e58)] 0) ?_
  refine q (eptr [(J p1_55.First),(sl z56 f57 e58)] 0) ?_
  refine q (eptr [(J p1_55.First),(sl z56 f57 e58)] 0) ?_
  refine lE (J p1_55.First) ?_
  refine q (J t179) ?_
  refine q (J (IntKind.wrap .i64 (p1_55.First+t179))) ?_
  refine aq (J (IntKind.wrap .i64 (p1_55.First+t179))) ?_
  refine ns ?_
  refine q (J (IntKind.wrap .i64 (p1_55.First+t179))) ?_
  refine q (ptr b2 1) ?_
  refine q (ptr b2 1) ?_
  refine q (ptr b2 1) ?_
  refine AOps.ldB (i:=0) (v:=(J p125)) hH181 rfl rfl rfl rfl rfl rfl rfl rfl rfl ?_
  refine q (bool (decide ((IntKind.wrap .i64 (p1_55.First+t179):Int)≥p125))) ?_
  refine q (bool (decide ((IntKind.wrap .i64 (p1_55.First+t179):Int)≥p125))) ?_
  obtain ⟨b184,hb,h⟩:=obind h
  refine AOps.split 8 (fun f'=>∃ tm' os',f'=⟨updL tm' [(0,(ptr b2 0)),(1,(eptr [(J p1_55.First),(sl z56 f57 e58)] 0)),(4,(ptr b2 1)),(5,(J t179)),(6,(J (IntKind.wrap .i64 (p1_55.First+t179)))),(40,(bool b184))],updL os' [],s180⟩) ?_ ?_
  ·rcases oite hb with ⟨hc183,hb⟩ | ⟨hc183,hb⟩
   ·have h:=hb
    refine kn 32 hc183 ?_
    refine q (ptr b2 1) ?_
    refine q (ptr b2 1) ?_
    refine q (ptr b2 4) ?_
    refine AOps.ldB (i:=0) (v:=(sl z174 f175 e176)) hH181 rfl rfl rfl rfl rfl rfl rfl rfl rfl ?_
    refine q (J (IntKind.wrap .i64 (p1_55.First+t179))) ?_
    obtain ⟨y185,h186,h⟩:=obind h
    refine cP (spec_l00Has_ok h177 h186 (HS.wf' hH181)) ?_
    intro _ o188 h187
    cases h187
    refine q (bool (!y185)) ?_
    refine q (bool (!y185)) ?_
    exact rR ⟨rfl,rfl,rfl,rfl,rfl,congrArg bool (Option.some.inj h),trivial⟩
   ·refine kn 32 hc183 ?_
    refine sk ?_
    refine sk ?_
    refine sk ?_
    refine sk ?_
    refine sk ?_
    refine sk ?_
    refine sk ?_
    refine q (bool false) ?_
    exact rR ⟨rfl,rfl,rfl,rfl,rfl,congrArg bool (Option.some.inj hb),trivial⟩
  rintro _ ⟨tm,os,rfl⟩
  refine nl ?_
  refine AW.meet (σ:=(List Int) × (Nat→Bool) × Nat × Bool × (List AV) × St) (fun (m190,w189,z191,f192,e193,s196) tm os=>⟨updL tm [(0,(ptr b2 0)),(1,(eptr [(J p1_55.First),(sl z56 f57 e58)] 0)),(4,(ptr b2 1)),(5,(J t179))],updL os [],s196⟩) (fun (m190,w189,z191,f192,e193,s196)=>(LR rJ 1 m190 z191 e193)∧(f51=true∨w189 9=true)∧(HS [b2] false s s196 [⟨some b2,[(eptr [(J p14.Checker.Stack),(J p14.Checker.Start),(sl z5 f6 e7),(sl z9 f10 e11),(sl z13 f14 e15),(sl z17 f18 e19),(sl z21 f22 e23)] 0),(J p125),(J p126),(sl z28 f29 e30),(sl z191 f192 e193),(J p137),(J p138),(sl z40 f41 e42),(sl z45 f46 e47),(sl z50 f51 e52)],w189⟩])∧spec_l08Run_come_F1_J3 t179 m190=some ee1) ?_ ?_
  ·rintro ⟨m190,w189,z191,f192,e193,s196⟩ tm os ⟨h194,h195,hH197,h⟩
   unfold spec_l08Run_come_F1_J3 at h
   refine AW.inBlock ?_
   refine AW.region ?_
   refine q (J t179) ?_
   refine q (J (IntKind.wrap .i64 (t179+1))) ?_
   refine aq (J (IntKind.wrap .i64 (t179+1))) ?_
   refine nl ?_
   cases h
   exact AW.res [(0,(ptr b2 0)),(1,(eptr [(J p1_55.First),(sl z56 f57 e58)] 0)),(4,(ptr b2 1)),(5,(J (IntKind.wrap .i64 (t179+1))))] [] ⟨rfl,rfl,rfl,rfl,trivial⟩ trivial (hL1 _ rfl (w189,z191,f192,e193,s196) _ _ ⟨h194,h195,(HS.sel hH197 [some 0] (by decide))⟩)
  intro KJ198
  rcases oite h with ⟨hc199,h⟩ | ⟨hc199,h⟩
  ·refine cT hc199 ?_
   refine AW.region ?_
   refine q (ptr b2 1) ?_
   refine q (ptr b2 1) ?_
   refine q (ptr b2 1) ?_
   refine q (ptr b2 4) ?_
   refine AOps.ldB (i:=0) (v:=(sl z174 f175 e176)) hH181 rfl rfl rfl rfl rfl rfl rfl rfl rfl ?_
   obtain ⟨y200,h201,h⟩:=obind h
   refine AOps.callPO (g:=91) (args:=[(sl z174 f175 e176)]) (p:=(rL rJ 1) y200) rfl rfl rfl (spec_l00Own_okO h177 h201 (HS.wf' hH181)) ?_
   intro _ h202
   obtain ⟨z203,f204,e205,rfl,h206⟩:=h202
   refine q (J (IntKind.wrap .i64 (p1_55.First+t179))) ?_
   obtain ⟨y208,h209,h⟩:=obind h
   refine cP (spec_l00Put_ok h206 h209 (HS.wf' hH181)) ?_
   intro _ o215 h210
   obtain ⟨z211,f212,e213,rfl,h214⟩:=h210
   refine q (ptr b2 1) ?_
   refine q (ptr b2 4) ?_
   refine AOps.stX (i:=0) (v:=(sl z211 f212 e213)) hH181 rfl rfl rfl rfl rfl rfl rfl rfl rfl (lt_b rfl) (le_b rfl) rfl (Nice.pure (k:=FINK) (p:=(rL rJ 1) y208) (.L fun _=>.I) 0 _ ⟨_,_,_,rfl,h214⟩) ?_
   intro w216 s217 h218 h219 hH220
   refine nl ?_
   exact AW.res [(0,(ptr b2 0)),(1,(eptr [(J p1_55.First),(sl z56 f57 e58)] 0)),(4,(ptr b2 1)),(5,(J t179))] [] ⟨rfl,rfl,rfl,rfl,trivial⟩ trivial (KJ198 (y208,w216,z211,f212,e213,s217) _ _ ⟨h214,(own_keep h178 (h218 _ (by decide))),(HS.sel hH220 [some 0] (by decide)),h⟩)
  refine cF hc199 ?_
  refine AW.skip ?_
  exact AW.res [(0,(ptr b2 0)),(1,(eptr [(J p1_55.First),(sl z56 f57 e58)] 0)),(4,(ptr b2 1)),(5,(J t179))] [] ⟨rfl,rfl,rfl,rfl,trivial⟩ trivial (KJ198 (m173,w172,z174,f175,e176,s180) _ _ ⟨h177,h178,(HS.sel hH181 [some 0] (by decide)),h⟩)
 refine cF hc182 ?_
 refine AW.exit rfl ?_
 obtain ⟨r221,hm,hx⟩:=omap h
 clear h
 subst hx
 have hx:=hR1 _ rfl
 rw[hx] at hm
 have h:=hm
 exact AW.res [(0,(ptr b2 0)),(4,(ptr b2 1))] [] ⟨rfl,rfl,trivial⟩ trivial (KJ69 (m173,w172,z174,f175,e176,s180) _ _ ⟨h177,h178,(HS.sel hH181 [some 0] (by decide)),h⟩)
theorem spec_l08Run_wire_F1_ok {r14:Stream} {r125 r126 r137 r138:Int} {r127 r132 r139 r144:List Int} {r149:List Parcel} {d55:Deed} {b2 z5 z9 z13 z17 z21 z28 z33 z40 z45 z50:Nat} {w3:Nat→Bool} {f6 f10 f14 f18 f22 f29 f34 f41 f46 f51:Bool} {e7 e11 e15 e19 e23 e30 e35 e42 e47 e52:List AV} {s:St} (h8:LR rB 1 r14.Checker.Accept z5 e7) (h12:LR (rL rPush 2) 1 r14.Checker.Call z9 e11) (h16:LR (rL (rL rJ 1) 1) 1 r14.Checker.Return z13 e15) (h20:LR (rL rJ 1) 1 r14.Checker.Inner z17 e19) (h24:LR rS 1 r14.Pieces z21 e23) (h31:LR rJ 1 r127 z28 e30) (h36:LR rJ 1 r132 z33 e35) (h43:LR rJ 1 r139 z40 e42) (h48:LR rJ 1 r144 z45 e47) (h53:LR rParcel 2 r149 z50 e52) (h54:f51=true∨w3 9=true) (hE:HS [b2] false s { s with lo:=s.n } [⟨some b2,[(eptr [(J r14.Checker.Stack),(J r14.Checker.Start),(sl z5 f6 e7),(sl z9 f10 e11),(sl z13 f14 e15),(sl z17 f18 e19),(sl z21 f22 e23)] 0),(J r125),(J r126),(sl z28 f29 e30),(sl z33 f34 e35),(J r137),(J r138),(sl z40 f41 e42),(sl z45 f46 e47),(sl z50 f51 e52)],w3⟩]) {r:Int × Int × Int × (List Int) × (List Int) × (List Parcel)} (h:spec_l08Run_wire_F1 r14 r125 r126 r127 r132 r137 r138 r139 r144 r149 d55=some r) (hs:WF s):ACall Cf 69 [(ptr b2 0),(agg [(J d55.Kind),(J d55.A),(J d55.B)])] s fun v _ s'=>rJ r.1 v∧∃ (w0':Nat→Bool) (z3':Nat) (f3':Bool) (e3':List AV) (z4':Nat) (f4':Bool) (e4':List AV) (z9':Nat) (f9':Bool) (e9':List AV),Fx [b2] s s' [⟨some b2,[(eptr [(J r14.Checker.Stack),(J r14.Checker.Start),(sl z5 f6 e7),(sl z9 f10 e11),(sl z13 f14 e15),(sl z17 f18 e19),(sl z21 f22 e23)] 0),(J r.2.1),(J r.2.2.1),(sl z3' f3' e3'),(sl z4' f4' e4'),(J r137),(J r138),(sl z40 f41 e42),(sl z45 f46 e47),(sl z9' f9' e9')],w0'⟩]∧LR rJ 1 r.2.2.2.1 z3' e3'∧LR rJ 1 r.2.2.2.2.1 z4' e4'∧LR rParcel 2 r.2.2.2.2.2 z9' e9'∧(f9'=true∨w0' 9=true):=by
 refine ACall.foreign rfl rfl rfl ?_
 unfold spec_l08Run_wire_F1 at h
 refine sr ?_
 refine AOps.makeR rfl rfl rfl rfl rfl rfl (rfl:_=(eptr [(J d55.Kind),(J d55.A),(J d55.B)] 0)) ?_
 refine q (J 0) ?_
 refine nl ?_
 refine AW.seq ?_
 refine sr ?_
 refine q (eptr [(J d55.Kind),(J d55.A),(J d55.B)] 1) ?_
 refine lE (J d55.A) ?_
 refine q (ptr b2 0) ?_
 refine q (ptr b2 0) ?_
 refine q (ptr b2 1) ?_
 refine q (ptr b2 9) ?_
 refine AOps.ldB (i:=0) (v:=(sl z50 f51 e52)) hE rfl rfl rfl rfl rfl rfl rfl rfl rfl ?_
 refine AOps.p rfl (len_eq h53) ?_
 refine q (bool (decide ((d55.A:Int)≥(r149.length:Int)))) ?_
 refine nl ?_
 rcases oite h with ⟨hc56,h⟩ | ⟨hc56,h⟩
 ·refine cT hc56 ?_
  refine sr ?_
  refine q (J 2) ?_
  refine nl ?_
  obtain rfl:=Option.some.inj h
  exact AW.ret ⟨_,_,rfl,finF (p:=rJ 2) (Fin.of (p:=rJ 2) .I rfl) ⟨w3,z28,f29,e30,z33,f34,e35,z50,f51,e52,HS.leaveP hE [0] rfl,h31,h36,h53,h54⟩⟩
 refine cF hc56 ?_
 refine AW.skip ?_
 refine sr ?_
 refine q (ptr b2 0) ?_
 refine q (ptr b2 0) ?_
 refine q (ptr b2 1) ?_
 refine q (ptr b2 9) ?_
 refine AOps.ldB (i:=0) (v:=(sl z50 f51 e52)) hE rfl rfl rfl rfl rfl rfl rfl rfl rfl ?_
 refine q (eptr [(J d55.Kind),(J d55.A),(J d55.B)] 1) ?_
 refine lE (J d55.A) ?_
 obtain ⟨x57,h58,h⟩:=obind h
 obtain ⟨v61,h59,h60⟩:=idx_sl h53 h58
 obtain ⟨_,rfl,h62⟩:=h59
 obtain ⟨_,_,rfl,h63,h64⟩:=Cs_cons h62
 cases h63
 obtain ⟨_,_,rfl,h65,h66⟩:=Cs_cons h64
 obtain ⟨z67,f68,e69,rfl,h70⟩:=h65
 cases Cs_nil h66
 refine AOps.pureR rfl rfl rfl h60 rfl (rfl:_=(eptr [(J x57.First),(sl z67 f68 e69)] 0)) ?_
 refine lE (agg [(J x57.First),(sl z67 f68 e69)]) ?_
 refine AOps.allocP rfl rfl rfl rfl ⟨rfl,rfl⟩ rfl ?_
 refine AOps.stP (v:=(agg [(J x57.First),(sl z67 f68 e69)])) rfl rfl rfl rfl rfl rfl rfl rfl rfl (lt_b rfl) rfl ?_
 refine nl ?_
 refine AW.seq ?_
 refine sr ?_
 refine q (eptr [(J d55.Kind),(J d55.A),(J d55.B)] 0) ?_
 refine lE (J d55.Kind) ?_
 refine q (bool (d55.Kind != 4)) ?_
 refine nl ?_
 refine AW.meet (σ:=Int × Int × (List Int) × (List Int) × (Nat→Bool) × Nat × Bool × (List AV) × Nat × Bool × (List AV) × St) (fun (m72,m73,m74,m79,w71,z75,f76,e77,z80,f81,e82,s85) tm os=>⟨updL tm [(0,(ptr b2 0)),(3,(eptr [(J d55.Kind),(J d55.A),(J d55.B)] 0))],updL os [],s85⟩) (fun (m72,m73,m74,m79,w71,z75,f76,e77,z80,f81,e82,s85)=>(LR rJ 1 m74 z75 e77)∧(LR rJ 1 m79 z80 e82)∧(f51=true∨w71 9=true)∧(HS [b2] false s s85 [⟨some b2,[(eptr [(J r14.Checker.Stack),(J r14.Checker.Start),(sl z5 f6 e7),(sl z9 f10 e11),(sl z13 f14 e15),(sl z17 f18 e19),(sl z21 f22 e23)] 0),(J m72),(J m73),(sl z75 f76 e77),(sl z80 f81 e82),(J r137),(J r138),(sl z40 f41 e42),(sl z45 f46 e47),(sl z50 f51 e52)],w71⟩])∧spec_l08Run_wire_F1_J1 r149 d55 m72 m73 m74 m79=some r) ?_ ?_
 ·rintro ⟨m72,m73,m74,m79,w71,z75,f76,e77,z80,f81,e82,s85⟩ tm os ⟨h78,h83,h84,hH86,h⟩
  unfold spec_l08Run_wire_F1_J1 at h
  refine AW.seq ?_
  refine sr ?_
  refine q (eptr [(J d55.Kind),(J d55.A),(J d55.B)] 0) ?_
  refine lE (J d55.Kind) ?_
  refine q (bool (d55.Kind != 3)) ?_
  refine nl ?_
  refine AW.meet (σ:=(List Parcel) × (Nat→Bool) × Nat × Bool × (List AV) × St) (fun (m89,w88,z90,f91,e92,s95) tm os=>⟨updL tm [],updL os [],s95⟩) (fun (m89,w88,z90,f91,e92,s95)=>(LR rParcel 2 m89 z90 e92)∧(f91=true∨w88 9=true)∧(HS [b2] false s s95 [⟨some b2,[(eptr [(J r14.Checker.Stack),(J r14.Checker.Start),(sl z5 f6 e7),(sl z9 f10 e11),(sl z13 f14 e15),(sl z17 f18 e19),(sl z21 f22 e23)] 0),(J m72),(J m73),(sl z75 f76 e77),(sl z80 f81 e82),(J r137),(J r138),(sl z40 f41 e42),(sl z45 f46 e47),(sl z90 f91 e92)],w88⟩])∧spec_l08Run_wire_F1_J2 m72 m73 m74 m79 m89=some r) ?_ ?_
  ·rintro ⟨m89,w88,z90,f91,e92,s95⟩ tm os ⟨h93,h94,hH96,h⟩
   unfold spec_l08Run_wire_F1_J2 at h
   refine sr ?_
   refine q (J 0) ?_
   refine nl ?_
   obtain rfl:=Option.some.inj h
   exact AW.ret ⟨_,_,rfl,finF (p:=rJ 0) (Fin.of (p:=rJ 0) .I rfl) ⟨w88,z75,f76,e77,z80,f81,e82,z90,f91,e92,HS.leaveP hH96 [0] rfl,h78,h83,h93,h94⟩⟩
  intro KJ97
  rcases oite h with ⟨hc98,h⟩ | ⟨hc98,h⟩
  ·refine cT hc98 ?_
   refine sr ?_
   refine AOps.makeR rfl rfl rfl rfl rfl rfl (rfl:_=(sl 2 true [])) ?_
   refine q (ptr b2 0) ?_
   refine q (ptr b2 0) ?_
   refine q (ptr b2 1) ?_
   refine q (ptr b2 9) ?_
   refine AOps.ldB (i:=0) (v:=(sl z50 f51 e52)) hH86 rfl rfl rfl rfl rfl rfl rfl rfl rfl ?_
   refine q (eptr [(J d55.Kind),(J d55.A),(J d55.B)] 1) ?_
   refine lE (J d55.A) ?_
   refine q (J (IntKind.wrap .i64 (d55.A+1))) ?_
   obtain ⟨l99,h100,h⟩:=obind h
   obtain ⟨f101,e102,h103,h104⟩:=cut_slL f51 h53 h100
   refine AOps.pureR rfl rfl rfl h104 rfl (rfl:_=(sl z50 f101 e102)) ?_
   obtain ⟨l105,h106,h⟩:=obind h
   obtain ⟨h107,h108⟩:=app_LR (show LR rParcel 2 (([]:List Parcel):List Parcel) 2 [] from ⟨.inl rfl,.nil⟩) h103 h106
   refine AOps.appL (z:=2) (f:=true) (e:=[]) (z':=z50) (f':=f101) (e':=e102) rfl rfl rfl rfl rfl rfl rfl (appSrc_sl (LR.z h103) rfl) (LR.z (show LR rParcel 2 (([]:List Parcel):List Parcel) 2 [] from ⟨.inl rfl,.nil⟩)) ⟨by decide,by decide,rfl,rfl⟩ rfl rfl h108 (Or.inl rfl) ?_
   refine aq (sl 2 false ([]++e102)) ?_
   refine nl ?_
   refine AW.region ?_
   refine q (ptr b2 0) ?_
   refine AOps.makeR rfl rfl rfl rfl rfl rfl (rfl:_=(sl 2 true [])) ?_
   refine q (ptr b2 0) ?_
   refine q (ptr b2 0) ?_
   refine q (ptr b2 1) ?_
   refine q (ptr b2 9) ?_
   refine AOps.ldB (i:=0) (v:=(sl z50 f51 e52)) hH86 rfl rfl rfl rfl rfl rfl rfl rfl rfl ?_
   refine q (eptr [(J d55.Kind),(J d55.A),(J d55.B)] 1) ?_
   refine lE (J d55.A) ?_
   obtain ⟨l109,h110,h⟩:=obind h
   obtain ⟨f111,e112,h113,h114⟩:=cut_slH f51 h53 h110
   refine AOps.pureR rfl rfl rfl h114 rfl (rfl:_=(sl z50 f111 e112)) ?_
   obtain ⟨l115,h116,h⟩:=obind h
   obtain ⟨h117,h118⟩:=app_LR (show LR rParcel 2 (([]:List Parcel):List Parcel) 2 [] from ⟨.inl rfl,.nil⟩) h113 h116
   refine AOps.appL (z:=2) (f:=true) (e:=[]) (z':=z50) (f':=f111) (e':=e112) rfl rfl rfl rfl rfl rfl rfl (appSrc_sl (LR.z h113) rfl) (LR.z (show LR rParcel 2 (([]:List Parcel):List Parcel) 2 [] from ⟨.inl rfl,.nil⟩)) ⟨by decide,by decide,rfl,rfl⟩ rfl rfl h118 (Or.inl rfl) ?_
   refine q (sl 2 false ([]++e102)) ?_
   obtain ⟨l119,h120,h⟩:=obind h
   obtain ⟨h121,h122⟩:=app_LR h117 h107 h120
   refine AOps.appL (z:=2) (f:=false) (e:=([]++e112)) (z':=2) (f':=false) (e':=([]++e102)) rfl rfl rfl rfl rfl rfl rfl (appSrc_sl (LR.z h107) rfl) (LR.z h117) ⟨by decide,by decide,rfl,rfl⟩ rfl rfl h122 (Or.inr ⟨54,rfl,rfl⟩) ?_
   refine q (ptr b2 0) ?_
   refine q (ptr b2 1) ?_
   refine q (ptr b2 9) ?_
   refine AOps.stX (i:=0) (v:=(sl 2 false (([]++e112)++([]++e102)))) hH86 rfl rfl rfl rfl rfl rfl rfl rfl rfl (lt_b rfl) (le_b rfl) rfl (Nice.pure (k:=FINK) (p:=(rL rParcel 2) l119) (.L fun _=>(.A (.cons .I (.cons (.L fun _=>.S) .nil)))) 0 _ ⟨_,_,_,rfl,h121⟩) ?_
   intro w123 s124 h125 h126 hH127
   refine nl ?_
   exact AW.res [] [] trivial trivial (KJ97 (l119,w123,2,false,(([]++e112)++([]++e102)),s124) _ _ ⟨h121,(own_st (Or.inr rfl) h126 rfl rfl rfl),(HS.sel hH127 [some 0] (by decide)),h⟩)
  refine cF hc98 ?_
  refine AW.skip ?_
  exact AW.res [] [] trivial trivial (KJ97 (r149,w71,z50,f51,e52,s85) _ _ ⟨h53,h84,(HS.sel hH86 [some 0] (by decide)),h⟩)
 intro KJ87
 rcases oite h with ⟨hc128,h⟩ | ⟨hc128,h⟩
 ·refine cT hc128 ?_
  refine AW.region ?_
  refine q (ptr b2 0) ?_
  obtain ⟨y129,h130,h⟩:=obind h
  refine AOps.callF (g:=92) (args:=[(ptr b2 0),(eptr [(J x57.First),(sl z67 f68 e69)] 0)]) rfl rfl rfl (spec_l08Run_come_F1_ok h8 h12 h16 h20 h24 h31 h36 h43 h48 h53 h54 h70 (HS.enterP hE [0] [b2] rfl (by decide)) h130 (HS.wf' hE)) ?_
  intro _ o136 s133 h135
  obtain ⟨h131,w137,z138,f139,e140,z142,f143,e144,h132,h141,h145,h146⟩:=h135
  have hH134:=HS.callP hE [0] h132 rfl rfl
  cases h131
  refine nl ?_
  exact AW.res [(0,(ptr b2 0)),(3,(eptr [(J d55.Kind),(J d55.A),(J d55.B)] 0))] [] ⟨rfl,rfl,trivial⟩ trivial (KJ87 (y129.2.1,y129.2.2.1,y129.2.2.2.1,y129.2.2.2.2,w137,z138,f139,e140,z142,f143,e144,s133) _ _ ⟨h141,h145,h146,(HS.sel hH134 [some 0] (by decide)),h⟩)
 refine cF hc128 ?_
 refine AW.skip ?_
 exact AW.res [(0,(ptr b2 0)),(3,(eptr [(J d55.Kind),(J d55.A),(J d55.B)] 0))] [] ⟨rfl,rfl,trivial⟩ trivial (KJ87 (r125,r126,r127,r132,w3,z28,f29,e30,z33,f34,e35,{ s with lo:=s.n }) _ _ ⟨h31,h36,h54,(HS.sel hE [some 0] (by decide)),h⟩)
theorem spec_l08Run_do_F1_ok {p14:Stream} {p125 p126 p137 p138:Int} {p127 p132 p139 p144:List Int} {p149:List Parcel} {p1_55:Deed} {b2 z5 z9 z13 z17 z21 z28 z33 z40 z45 z50:Nat} {w3:Nat→Bool} {f6 f10 f14 f18 f22 f29 f34 f41 f46 f51:Bool} {e7 e11 e15 e19 e23 e30 e35 e42 e47 e52:List AV} {s:St} (h8:LR rB 1 p14.Checker.Accept z5 e7) (h12:LR (rL rPush 2) 1 p14.Checker.Call z9 e11) (h16:LR (rL (rL rJ 1) 1) 1 p14.Checker.Return z13 e15) (h20:LR (rL rJ 1) 1 p14.Checker.Inner z17 e19) (h24:LR rS 1 p14.Pieces z21 e23) (h31:LR rJ 1 p127 z28 e30) (h36:LR rJ 1 p132 z33 e35) (h43:LR rJ 1 p139 z40 e42) (h48:LR rJ 1 p144 z45 e47) (h53:LR rParcel 2 p149 z50 e52) (h54:f51=true∨w3 9=true) (hE:HS [b2] false s { s with lo:=s.n } [⟨some b2,[(eptr [(J p14.Checker.Stack),(J p14.Checker.Start),(sl z5 f6 e7),(sl z9 f10 e11),(sl z13 f14 e15),(sl z17 f18 e19),(sl z21 f22 e23)] 0),(J p125),(J p126),(sl z28 f29 e30),(sl z33 f34 e35),(J p137),(J p138),(sl z40 f41 e42),(sl z45 f46 e47),(sl z50 f51 e52)],w3⟩]) {r:Int × Int × Int × (List Int) × (List Int) × Int × Int × (List Int) × (List Int) × (List Parcel)} (h:spec_l08Run_do_F1 p14 p125 p126 p127 p132 p137 p138 p139 p144 p149 p1_55=some r) (hs:WF s):ACall Cf 38 [(ptr b2 0),(agg [(J p1_55.Kind),(J p1_55.A),(J p1_55.B)])] s fun v _ s'=>rJ r.1 v∧∃ (w0':Nat→Bool) (z3':Nat) (f3':Bool) (e3':List AV) (z4':Nat) (f4':Bool) (e4':List AV) (z7':Nat) (f7':Bool) (e7':List AV) (z8':Nat) (f8':Bool) (e8':List AV) (z9':Nat) (f9':Bool) (e9':List AV),Fx [b2] s s' [⟨some b2,[(eptr [(J p14.Checker.Stack),(J p14.Checker.Start),(sl z5 f6 e7),(sl z9 f10 e11),(sl z13 f14 e15),(sl z17 f18 e19),(sl z21 f22 e23)] 0),(J r.2.1),(J r.2.2.1),(sl z3' f3' e3'),(sl z4' f4' e4'),(J r.2.2.2.2.2.1),(J r.2.2.2.2.2.2.1),(sl z7' f7' e7'),(sl z8' f8' e8'),(sl z9' f9' e9')],w0'⟩]∧LR rJ 1 r.2.2.2.1 z3' e3'∧LR rJ 1 r.2.2.2.2.1 z4' e4'∧LR rJ 1 r.2.2.2.2.2.2.2.1 z7' e7'∧LR rJ 1 r.2.2.2.2.2.2.2.2.1 z8' e8'∧LR rParcel 2 r.2.2.2.2.2.2.2.2.2 z9' e9'∧(f9'=true∨w0' 9=true):=by
 refine ACall.foreign rfl rfl rfl ?_
 unfold spec_l08Run_do_F1 at h
 refine sr ?_
 refine AOps.makeR rfl rfl rfl rfl rfl rfl (rfl:_=(eptr [(J p1_55.Kind),(J p1_55.A),(J p1_55.B)] 0)) ?_
 refine q (J 0) ?_
 refine nl ?_
 refine AW.seq ?_
 refine sr ?_
 refine q (eptr [(J p1_55.Kind),(J p1_55.A),(J p1_55.B)] 0) ?_
 refine lE (J p1_55.Kind) ?_
 refine nl ?_
 refine AW.block ?_
 refine sr ?_
 refine q (bool (p1_55.Kind == 1)) ?_
 refine aq (bool (p1_55.Kind == 1)) ?_
 refine nl ?_
 refine AW.meet (σ:=Int × Int × (List Int) × (List Int) × Int × Int × (List Int) × (List Int) × (List Parcel) × (Nat→Bool) × Nat × Bool × (List AV) × Nat × Bool × (List AV) × Nat × Bool × (List AV) × Nat × Bool × (List AV) × Nat × Bool × (List AV) × St) (fun (m57,m58,m59,m64,m69,m70,m71,m76,m81,w56,z60,f61,e62,z65,f66,e67,z72,f73,e74,z77,f78,e79,z82,f83,e84,s87) tm os=>⟨updL tm [],updL os [],s87⟩) (fun (m57,m58,m59,m64,m69,m70,m71,m76,m81,w56,z60,f61,e62,z65,f66,e67,z72,f73,e74,z77,f78,e79,z82,f83,e84,s87)=>(LR rJ 1 m59 z60 e62)∧(LR rJ 1 m64 z65 e67)∧(LR rJ 1 m71 z72 e74)∧(LR rJ 1 m76 z77 e79)∧(LR rParcel 2 m81 z82 e84)∧(f83=true∨w56 9=true)∧(HS [b2] false s s87 [⟨some b2,[(eptr [(J p14.Checker.Stack),(J p14.Checker.Start),(sl z5 f6 e7),(sl z9 f10 e11),(sl z13 f14 e15),(sl z17 f18 e19),(sl z21 f22 e23)] 0),(J m57),(J m58),(sl z60 f61 e62),(sl z65 f66 e67),(J m69),(J m70),(sl z72 f73 e74),(sl z77 f78 e79),(sl z82 f83 e84)],w56⟩])∧spec_l08Run_do_F1_J1 m57 m58 m59 m64 m69 m70 m71 m76 m81=some r) ?_ ?_
 ·rintro ⟨m57,m58,m59,m64,m69,m70,m71,m76,m81,w56,z60,f61,e62,z65,f66,e67,z72,f73,e74,z77,f78,e79,z82,f83,e84,s87⟩ tm os ⟨h63,h68,h75,h80,h85,h86,hH88,h⟩
  unfold spec_l08Run_do_F1_J1 at h
  refine AW.inBlock ?_
  refine sr ?_
  refine q (J 0) ?_
  refine nl ?_
  obtain rfl:=Option.some.inj h
  exact AW.ret ⟨_,_,rfl,finF (p:=rJ 0) (Fin.of (p:=rJ 0) .I rfl) ⟨w56,z60,f61,e62,z65,f66,e67,z72,f73,e74,z77,f78,e79,z82,f83,e84,HS.leaveP hH88 [0] rfl,h63,h68,h75,h80,h85,h86⟩⟩
 intro KJ89
 rcases oite h with ⟨hc90,h⟩ | ⟨hc90,h⟩
 ·refine cT hc90 ?_
  refine AW.seq ?_
  refine sr ?_
  refine q (eptr [(J p1_55.Kind),(J p1_55.A),(J p1_55.B)] 1) ?_
  refine lE (J p1_55.A) ?_
  refine q (eptr [(J p1_55.Kind),(J p1_55.A),(J p1_55.B)] 2) ?_
  refine lE (J p1_55.B) ?_
  refine q (bool (decide ((p1_55.A:Int)>p1_55.B))) ?_
  refine q (bool (decide ((p1_55.A:Int)>p1_55.B))) ?_
  refine AOps.split 12 (fun f'=>∃ tm' os',f'=⟨updL tm' [(0,(ptr b2 0)),(3,(eptr [(J p1_55.Kind),(J p1_55.A),(J p1_55.B)] 0)),(29,(bool ((decide ((p1_55.A:Int)>p1_55.B))||(decide ((p1_55.B:Int)≥(p14.Pieces.length:Int))))))],updL os' [],{ s with lo:=s.n }⟩) ?_ ?_
  ·rcases Bool.eq_false_or_eq_true (decide ((p1_55.A:Int)>p1_55.B)) with hc91 | hc91
   ·refine kn 17 hc91 ?_
    refine sk ?_
    refine sk ?_
    refine sk ?_
    refine sk ?_
    refine sk ?_
    refine sk ?_
    refine sk ?_
    refine sk ?_
    refine sk ?_
    refine sk ?_
    refine sk ?_
    refine q (bool true) ?_
    exact rR ⟨rfl,rfl,congrArg bool (or_t hc91),trivial⟩
   ·refine kn 17 hc91 ?_
    refine q (eptr [(J p1_55.Kind),(J p1_55.A),(J p1_55.B)] 2) ?_
    refine lE (J p1_55.B) ?_
    refine q (ptr b2 0) ?_
    refine q (ptr b2 0) ?_
    refine q (ptr b2 0) ?_
    refine AOps.ldB (i:=0) (v:=(eptr [(J p14.Checker.Stack),(J p14.Checker.Start),(sl z5 f6 e7),(sl z9 f10 e11),(sl z13 f14 e15),(sl z17 f18 e19),(sl z21 f22 e23)] 0)) hE rfl rfl rfl rfl rfl rfl rfl rfl rfl ?_
    refine q (eptr [(J p14.Checker.Stack),(J p14.Checker.Start),(sl z5 f6 e7),(sl z9 f10 e11),(sl z13 f14 e15),(sl z17 f18 e19),(sl z21 f22 e23)] 0) ?_
    refine q (eptr [(J p14.Checker.Stack),(J p14.Checker.Start),(sl z5 f6 e7),(sl z9 f10 e11),(sl z13 f14 e15),(sl z17 f18 e19),(sl z21 f22 e23)] 6) ?_
    refine lE (sl z21 f22 e23) ?_
    refine AOps.p rfl (len_eq h24) ?_
    refine q (bool (decide ((p1_55.B:Int)≥(p14.Pieces.length:Int)))) ?_
    refine q (bool (decide ((p1_55.B:Int)≥(p14.Pieces.length:Int)))) ?_
    exact rR ⟨rfl,rfl,congrArg bool (or_f hc91),trivial⟩
  rintro _ ⟨tm,os,rfl⟩
  refine nl ?_
  rcases oite h with ⟨hc92,h⟩ | ⟨hc92,h⟩
  ·refine cT hc92 ?_
   refine sr ?_
   refine q (J 2) ?_
   refine nl ?_
   obtain rfl:=Option.some.inj h
   exact AW.ret ⟨_,_,rfl,finF (p:=rJ 2) (Fin.of (p:=rJ 2) .I rfl) ⟨w3,z28,f29,e30,z33,f34,e35,z40,f41,e42,z45,f46,e47,z50,f51,e52,HS.leaveP hE [0] rfl,h31,h36,h43,h48,h53,h54⟩⟩
  refine cF hc92 ?_
  refine AW.skip ?_
  refine AW.seq ?_
  refine sr ?_
  refine q (ptr b2 0) ?_
  refine q (ptr b2 0) ?_
  refine q (ptr b2 1) ?_
  refine q (ptr b2 9) ?_
  refine AOps.ldB (i:=0) (v:=(sl z50 f51 e52)) hE rfl rfl rfl rfl rfl rfl rfl rfl rfl ?_
  refine AOps.p rfl (len_eq h53) ?_
  refine q (bool ((p149.length:Int) == 12)) ?_
  refine nl ?_
  rcases oite h with ⟨hc93,h⟩ | ⟨hc93,h⟩
  ·refine cT hc93 ?_
   refine sr ?_
   refine q (J 3) ?_
   refine nl ?_
   obtain rfl:=Option.some.inj h
   exact AW.ret ⟨_,_,rfl,finF (p:=rJ 3) (Fin.of (p:=rJ 3) .I rfl) ⟨w3,z28,f29,e30,z33,f34,e35,z40,f41,e42,z45,f46,e47,z50,f51,e52,HS.leaveP hE [0] rfl,h31,h36,h43,h48,h53,h54⟩⟩
  refine cF hc93 ?_
  refine AW.skip ?_
  refine AW.region ?_
  refine q (ptr b2 0) ?_
  refine q (ptr b2 0) ?_
  refine q (ptr b2 0) ?_
  refine q (ptr b2 1) ?_
  refine q (ptr b2 9) ?_
  refine AOps.ldMv (i:=0) (v:=(sl z50 f51 e52)) hE rfl rfl rfl rfl rfl rfl rfl rfl rfl rfl h54 ?_
  intro o94 w95 s99 h96 h97 hH98
  refine q (eptr [(J p1_55.Kind),(J p1_55.A),(J p1_55.B)] 1) ?_
  refine lE (J p1_55.A) ?_
  refine AOps.makeR rfl rfl rfl rfl rfl rfl (rfl:_=(sl 1 true [])) ?_
  refine q (ptr b2 0) ?_
  refine q (ptr b2 0) ?_
  refine q (ptr b2 0) ?_
  refine AOps.ldB (i:=0) (v:=(eptr [(J p14.Checker.Stack),(J p14.Checker.Start),(sl z5 f6 e7),(sl z9 f10 e11),(sl z13 f14 e15),(sl z17 f18 e19),(sl z21 f22 e23)] 0)) hH98 rfl rfl rfl rfl rfl rfl rfl rfl rfl ?_
  refine q (eptr [(J p14.Checker.Stack),(J p14.Checker.Start),(sl z5 f6 e7),(sl z9 f10 e11),(sl z13 f14 e15),(sl z17 f18 e19),(sl z21 f22 e23)] 0) ?_
  refine q (eptr [(J p14.Checker.Stack),(J p14.Checker.Start),(sl z5 f6 e7),(sl z9 f10 e11),(sl z13 f14 e15),(sl z17 f18 e19),(sl z21 f22 e23)] 6) ?_
  refine lE (sl z21 f22 e23) ?_
  refine q (eptr [(J p1_55.Kind),(J p1_55.A),(J p1_55.B)] 1) ?_
  refine lE (J p1_55.A) ?_
  refine q (eptr [(J p1_55.Kind),(J p1_55.A),(J p1_55.B)] 2) ?_
  refine lE (J p1_55.B) ?_
  refine q (J (IntKind.wrap .i64 (p1_55.B+1))) ?_
  obtain ⟨l100,h101,h⟩:=obind h
  obtain ⟨f102,e103,h104,h105⟩:=cut_slLH f22 h24 h101
  refine AOps.pureR rfl rfl rfl h105 rfl (rfl:_=(sl z21 f102 e103)) ?_
  obtain ⟨l106,h107,h⟩:=obind h
  obtain ⟨h108,h109⟩:=app_LR (show LR rS 1 (([]:List (List UInt8)):List (List UInt8)) 1 [] from ⟨.inl rfl,.nil⟩) h104 h107
  refine AOps.appL (z:=1) (f:=true) (e:=[]) (z':=z21) (f':=f102) (e':=e103) rfl rfl rfl rfl rfl rfl rfl (appSrc_sl (LR.z h104) rfl) (LR.z (show LR rS 1 (([]:List (List UInt8)):List (List UInt8)) 1 [] from ⟨.inl rfl,.nil⟩)) ⟨by decide,by decide,rfl,rfl⟩ rfl rfl h109 (Or.inl rfl) ?_
  refine q (agg [(J p1_55.A),(sl 1 false ([]++e103))]) ?_
  refine AOps.makeR rfl rfl rfl rfl rfl rfl (rfl:_=(sl 2 true [(agg [(J p1_55.A),(sl 1 false ([]++e103))])])) ?_
  obtain ⟨l110,h111,h⟩:=obind h
  obtain ⟨h112,h113⟩:=app_LR h53 (LR.lit (r:=rParcel) (sz:=2) (.cons ⟨_,rfl,(.cons rfl (.cons ⟨_,_,_,rfl,h108⟩ .nil))⟩ .nil)) h111
  refine AOps.appL (z:=z50) (f:=f51) (e:=e52) (z':=2) (f':=true) (e':=[(agg [(J p1_55.A),(sl 1 false ([]++e103))])]) rfl rfl rfl rfl rfl rfl rfl (appSrc_sl (LR.z (show LR rParcel 2 ([(⟨p1_55.A,l106⟩:Parcel)]:List Parcel) 2 [(agg [(J p1_55.A),(sl 1 false ([]++e103))])] from LR.lit (r:=rParcel) (sz:=2) (.cons ⟨_,rfl,(.cons rfl (.cons ⟨_,_,_,rfl,h108⟩ .nil))⟩ .nil))) rfl) (LR.z h53) ⟨by decide,by decide,rfl,rfl⟩ rfl rfl h113 (own_tmp h96 rfl rfl) ?_
  refine q (ptr b2 0) ?_
  refine q (ptr b2 1) ?_
  refine q (ptr b2 9) ?_
  refine AOps.stX (i:=0) (v:=(sl 2 false (e52++[(agg [(J p1_55.A),(sl 1 false ([]++e103))])]))) hH98 rfl rfl rfl rfl rfl rfl rfl rfl rfl (lt_b rfl) (le_b rfl) rfl (Nice.pure (k:=FINK) (p:=(rL rParcel 2) l110) (.L fun _=>(.A (.cons .I (.cons (.L fun _=>.S) .nil)))) 0 _ ⟨_,_,_,rfl,h112⟩) ?_
  intro w114 s115 h116 h117 hH118
  refine nl ?_
  exact AW.res [] [] trivial trivial (KJ89 (p125,p126,p127,p132,p137,p138,p139,p144,l110,w114,z28,f29,e30,z33,f34,e35,z40,f41,e42,z45,f46,e47,2,false,(e52++[(agg [(J p1_55.A),(sl 1 false ([]++e103))])]),s115) _ _ ⟨h31,h36,h43,h48,h112,(own_st (Or.inr rfl) h117 rfl rfl rfl),(HS.sel hH118 [some 0] (by decide)),h⟩)
 refine cF hc90 ?_
 refine sr ?_
 refine q (bool (p1_55.Kind == 5)) ?_
 refine aq (bool (p1_55.Kind == 5)) ?_
 refine nl ?_
 rcases oite h with ⟨hc119,h⟩ | ⟨hc119,h⟩
 ·refine cT hc119 ?_
  refine AW.region ?_
  refine q (ptr b2 0) ?_
  refine q (ptr b2 0) ?_
  refine q (ptr b2 0) ?_
  refine q (ptr b2 1) ?_
  refine q (ptr b2 1) ?_
  obtain ⟨y120,h121,h⟩:=obind h
  refine AOps.callF (g:=68) (args:=[(ptr b2 1)]) rfl rfl rfl (spec_l08Copy_F1_ok h8 h12 h16 h20 h24 h31 h36 h43 h48 h53 h54 (HS.enterP hE [0] [b2] rfl (by decide)) h121 (HS.wf' hE)) ?_
  intro _ o144 s124 h126
  obtain ⟨h122,w145,h123,h146⟩:=h126
  have hH125:=HS.callP hE [0] h123 rfl rfl
  obtain ⟨_,rfl,h127⟩:=h122
  obtain ⟨_,_,rfl,h128,h129⟩:=Cs_cons h127
  cases h128
  obtain ⟨_,_,rfl,h130,h131⟩:=Cs_cons h129
  cases h130
  obtain ⟨_,_,rfl,h132,h133⟩:=Cs_cons h131
  obtain ⟨z134,f135,e136,rfl,h137⟩:=h132
  obtain ⟨_,_,rfl,h138,h139⟩:=Cs_cons h133
  obtain ⟨z140,f141,e142,rfl,h143⟩:=h138
  cases Cs_nil h139
  refine q (ptr b2 0) ?_
  refine q (ptr b2 1) ?_
  refine q (ptr b2 5) ?_
  refine AOps.stX (i:=0) (v:=(agg [(J y120.Read),(J y120.State),(sl z134 f135 e136),(sl z140 f141 e142)])) hH125 rfl rfl rfl rfl rfl rfl rfl rfl rfl (lt_b rfl) (le_b rfl) rfl (Nice.pure (k:=FINK) (p:=(rDesk) y120) (.A (.cons .I (.cons .I (.cons (.L fun _=>.I) (.cons (.L fun _=>.I) .nil))))) 0 _ ⟨_,rfl,(.cons rfl (.cons rfl (.cons ⟨_,_,_,rfl,h137⟩ (.cons ⟨_,_,_,rfl,h143⟩ .nil))))⟩) ?_
  intro w147 s148 h149 h150 hH151
  refine nl ?_
  exact AW.res [] [] trivial trivial (KJ89 (p125,p126,p127,p132,y120.Read,y120.State,y120.Stack,y120.Waiting,p149,w147,z28,f29,e30,z33,f34,e35,z134,f135,e136,z140,f141,e142,z50,f51,e52,s148) _ _ ⟨h31,h36,h137,h143,h53,(own_keep h146 (h149 _ (by decide))),(HS.sel hH151 [some 0] (by decide)),h⟩)
 refine cF hc119 ?_
 refine sr ?_
 refine q (bool (p1_55.Kind == 6)) ?_
 refine aq (bool (p1_55.Kind == 6)) ?_
 refine nl ?_
 rcases oite h with ⟨hc152,h⟩ | ⟨hc152,h⟩
 ·refine cT hc152 ?_
  refine AW.region ?_
  refine q (ptr b2 0) ?_
  refine q (ptr b2 0) ?_
  refine q (ptr b2 0) ?_
  refine q (ptr b2 1) ?_
  refine q (ptr b2 5) ?_
  obtain ⟨y153,h154,h⟩:=obind h
  refine AOps.callF (g:=68) (args:=[(ptr b2 5)]) rfl rfl rfl (spec_l08Copy_F2_ok h8 h12 h16 h20 h24 h31 h36 h43 h48 h53 h54 (HS.enterP hE [0] [b2] rfl (by decide)) h154 (HS.wf' hE)) ?_
  intro _ o177 s157 h159
  obtain ⟨h155,w178,h156,h179⟩:=h159
  have hH158:=HS.callP hE [0] h156 rfl rfl
  obtain ⟨_,rfl,h160⟩:=h155
  obtain ⟨_,_,rfl,h161,h162⟩:=Cs_cons h160
  cases h161
  obtain ⟨_,_,rfl,h163,h164⟩:=Cs_cons h162
  cases h163
  obtain ⟨_,_,rfl,h165,h166⟩:=Cs_cons h164
  obtain ⟨z167,f168,e169,rfl,h170⟩:=h165
  obtain ⟨_,_,rfl,h171,h172⟩:=Cs_cons h166
  obtain ⟨z173,f174,e175,rfl,h176⟩:=h171
  cases Cs_nil h172
  refine q (ptr b2 0) ?_
  refine q (ptr b2 1) ?_
  refine q (ptr b2 1) ?_
  refine AOps.stX (i:=0) (v:=(agg [(J y153.Read),(J y153.State),(sl z167 f168 e169),(sl z173 f174 e175)])) hH158 rfl rfl rfl rfl rfl rfl rfl rfl rfl (lt_b rfl) (le_b rfl) rfl (Nice.pure (k:=FINK) (p:=(rDesk) y153) (.A (.cons .I (.cons .I (.cons (.L fun _=>.I) (.cons (.L fun _=>.I) .nil))))) 0 _ ⟨_,rfl,(.cons rfl (.cons rfl (.cons ⟨_,_,_,rfl,h170⟩ (.cons ⟨_,_,_,rfl,h176⟩ .nil))))⟩) ?_
  intro w180 s181 h182 h183 hH184
  refine nl ?_
  exact AW.res [] [] trivial trivial (KJ89 (y153.Read,y153.State,y153.Stack,y153.Waiting,p137,p138,p139,p144,p149,w180,z167,f168,e169,z173,f174,e175,z40,f41,e42,z45,f46,e47,z50,f51,e52,s181) _ _ ⟨h170,h176,h43,h48,h53,(own_keep h179 (h182 _ (by decide))),(HS.sel hH184 [some 0] (by decide)),h⟩)
 refine cF hc152 ?_
 refine sr ?_
 refine q (ptr b2 0) ?_
 refine lE (agg [(J p1_55.Kind),(J p1_55.A),(J p1_55.B)]) ?_
 obtain ⟨y185,h186,h⟩:=obind h
 refine AOps.callF (g:=69) (args:=[(ptr b2 0),(agg [(J p1_55.Kind),(J p1_55.A),(J p1_55.B)])]) rfl rfl rfl (spec_l08Run_wire_F1_ok h8 h12 h16 h20 h24 h31 h36 h43 h48 h53 h54 (HS.enterP hE [0] [b2] rfl (by decide)) h186 (HS.wf' hE)) ?_
 intro _ o192 s189 h191
 obtain ⟨h187,w193,z194,f195,e196,z198,f199,e200,z202,f203,e204,h188,h197,h201,h205,h206⟩:=h191
 have hH190:=HS.callP hE [0] h188 rfl rfl
 cases h187
 refine aq (J y185.1) ?_
 refine nl ?_
 obtain rfl:=Option.some.inj h
 exact AW.ret ⟨_,_,rfl,finF (p:=rJ y185.1) (Fin.of (p:=rJ y185.1) .I rfl) ⟨w193,z194,f195,e196,z198,f199,e200,z40,f41,e42,z45,f46,e47,z202,f203,e204,HS.leaveP hH190 [0] rfl,h197,h201,h43,h48,h205,h206⟩⟩
theorem spec_l08Play_K00_ok {v1:Stream} {deeds22:List Deed} {z2 z6 z10 z14 z18 z23:Nat} {f3 f7 f11 f15 f19 f24:Bool} {e4 e8 e12 e16 e20 e25:List AV} {s:St} (h5:LR rB 1 v1.Checker.Accept z2 e4) (h9:LR (rL rPush 2) 1 v1.Checker.Call z6 e8) (h13:LR (rL (rL rJ 1) 1) 1 v1.Checker.Return z10 e12) (h17:LR (rL rJ 1) 1 v1.Checker.Inner z14 e16) (h21:LR rS 1 v1.Pieces z18 e20) (h26:LR rDeed 3 deeds22 z23 e25) {r:L08Run × (List Int)} (h:spec_l08Play_K00 v1 deeds22=some r) (hs:WF s):ACall Cf 18 [(eptr [(J v1.Checker.Stack),(J v1.Checker.Start),(sl z2 f3 e4),(sl z6 f7 e8),(sl z10 f11 e12),(sl z14 f15 e16),(sl z18 f19 e20)] 0),(sl z23 f24 e25)] s (fun v _ s'=>∃ (b1':Nat) (w2':Nat→Bool) (z3':Nat) (f4':Bool) (e5':List AV) (z7':Nat) (f8':Bool) (e9':List AV) (z11':Nat) (f12':Bool) (e13':List AV) (z15':Nat) (f16':Bool) (e17':List AV) (z19':Nat) (f20':Bool) (e21':List AV) (h24':AV) (k25':KT) (Ls':List (List BX)),v=(AV.tup [(ptr b1' 0),h24'])∧HS [] true s s' (([⟨some b1',[(eptr [(J v1.Checker.Stack),(J v1.Checker.Start),(sl z2 f3 e4),(sl z6 f7 e8),(sl z10 f11 e12),(sl z14 f15 e16),(sl z18 f19 e20)] 0),(J r.1.n.Desk_.Read),(J r.1.n.Desk_.State),(sl z3' f4' e5'),(sl z7' f8' e9'),(J r.1.n.Saved.Read),(J r.1.n.Saved.State),(sl z11' f12' e13'),(sl z15' f16' e17'),(sl z19' f20' e21')],w2'⟩]:List BX)++Ls'.flatten)∧AllG [OS oE2 h24' k25' r.2] Ls'∧LR rJ 1 r.1.n.Desk_.Stack z3' e5'∧LR rJ 1 r.1.n.Desk_.Waiting z7' e9'∧LR rJ 1 r.1.n.Saved.Stack z11' e13'∧LR rJ 1 r.1.n.Saved.Waiting z15' e17'∧LR rParcel 2 r.1.n.Wire z19' e21'∧(f20'=true∨w2' 9=true)∧h24'.one=true) true:=by
 refine ACall.keepR rfl rfl rfl ?_
 have hH0:=HS.g0 (HS.initK hs)
 have hG0:=AllG.nil
 have hl:LoOK [] true s:=LoOK.nil
 unfold spec_l08Play_K00 at h
 refine sr ?_
 refine q AV.nilp ?_
 refine q (sl 0 true []) ?_
 refine ns ?_
 refine q (eptr [(J v1.Checker.Stack),(J v1.Checker.Start),(sl z2 f3 e4),(sl z6 f7 e8),(sl z10 f11 e12),(sl z14 f15 e16),(sl z18 f19 e20)] 0) ?_
 obtain ⟨y27,h28,h⟩:=obind h
 have hP52:=HS.pop0 hH0
 refine AOps.callF (al:=true) (g:=37) (args:=[(eptr [(J v1.Checker.Stack),(J v1.Checker.Start),(sl z2 f3 e4),(sl z6 f7 e8),(sl z10 f11 e12),(sl z14 f15 e16),(sl z18 f19 e20)] 0)]) rfl rfl rfl (spec_l08Begin_K0_ok h5 h9 h13 h17 h21  h28 (HS.wf' hH0)) ?_
 rintro _ _ s53 ⟨b29,w30,z31,f32,e33,z35,f36,e37,z39,f40,e41,z43,f44,e45,z47,f48,e49,Ls55,rfl,hH56,hG57,hl34,hl38,hl42,hl46,hl50,hb51⟩
 have hJ58:=HS.joinK1 hP52 hH56
 have hJ59:=HS.pushNE (x:=⟨some b29,[(eptr [(J v1.Checker.Stack),(J v1.Checker.Start),(sl z2 f3 e4),(sl z6 f7 e8),(sl z10 f11 e12),(sl z14 f15 e16),(sl z18 f19 e20)] 0),(J y27.n.Desk_.Read),(J y27.n.Desk_.State),(sl z31 f32 e33),(sl z35 f36 e37),(J y27.n.Saved.Read),(J y27.n.Saved.State),(sl z39 f40 e41),(sl z43 f44 e45),(sl z47 f48 e49)],w30⟩) hJ58
 cases hG57
 have hH60:=HS.push0 hJ59
 change HS [] true s s53 (([⟨some b29,[(eptr [(J v1.Checker.Stack),(J v1.Checker.Start),(sl z2 f3 e4),(sl z6 f7 e8),(sl z10 f11 e12),(sl z14 f15 e16),(sl z18 f19 e20)] 0),(J y27.n.Desk_.Read),(J y27.n.Desk_.State),(sl z31 f32 e33),(sl z35 f36 e37),(J y27.n.Saved.Read),(J y27.n.Saved.State),(sl z39 f40 e41),(sl z43 f44 e45),(sl z47 f48 e49)],w30⟩]:List BX)++List.flatten ([]:List (List BX))) at hH60
 change AllG [] ([]:List (List BX)) at hG0
 refine aq (ptr b29 0) ?_
 refine ns ?_
 refine AOps.makeR rfl rfl rfl rfl rfl rfl (rfl:_=(sl 1 true [])) ?_
 refine aq (sl 1 true []) ?_
 refine nl ?_
 refine AW.seq ?_
 refine sr ?_
 refine q (J 0) ?_
 refine nl ?_
 refine AW.meet (σ:=Int × Int × (List Int) × (List Int) × Int × Int × (List Int) × (List Int) × (List Parcel) × (List Int) × (Nat→Bool) × Nat × Bool × (List AV) × Nat × Bool × (List AV) × Nat × Bool × (List AV) × Nat × Bool × (List AV) × Nat × Bool × (List AV) × AV × KT × St × (List (List BX))) (fun (m62,m63,m64,m69,m74,m75,m76,m81,m86,codes92,w61,z65,f66,e67,z70,f71,e72,z77,f78,e79,z82,f83,e84,z87,f88,e89,h93,k94,s96,Ls97) tm os=>⟨updL tm [(6,(ptr b29 0)),(7,h93)],updL os [],s96⟩) (fun (m62,m63,m64,m69,m74,m75,m76,m81,m86,codes92,w61,z65,f66,e67,z70,f71,e72,z77,f78,e79,z82,f83,e84,z87,f88,e89,h93,k94,s96,Ls97)=>(LR rJ 1 m64 z65 e67)∧(LR rJ 1 m69 z70 e72)∧(LR rJ 1 m76 z77 e79)∧(LR rJ 1 m81 z82 e84)∧(LR rParcel 2 m86 z87 e89)∧(f88=true∨w61 9=true)∧(h93.one=true)∧(HS [] true s s96 (([⟨some b29,[(eptr [(J v1.Checker.Stack),(J v1.Checker.Start),(sl z2 f3 e4),(sl z6 f7 e8),(sl z10 f11 e12),(sl z14 f15 e16),(sl z18 f19 e20)] 0),(J m62),(J m63),(sl z65 f66 e67),(sl z70 f71 e72),(J m74),(J m75),(sl z77 f78 e79),(sl z82 f83 e84),(sl z87 f88 e89)],w61⟩]:List BX)++Ls97.flatten))∧(AllG [OS oE2 h93 k94 codes92] Ls97)∧spec_l08Play_K00_J1 v1 m62 m63 m64 m69 m74 m75 m76 m81 m86 codes92=some r) ?_ ?_
 ·rintro ⟨m62,m63,m64,m69,m74,m75,m76,m81,m86,codes92,w61,z65,f66,e67,z70,f71,e72,z77,f78,e79,z82,f83,e84,z87,f88,e89,h93,k94,s96,Ls97⟩ tm os ⟨h68,h73,h80,h85,h90,h91,ho95,hH98,hG99,h⟩
  unfold spec_l08Play_K00_J1 at h
  refine sr ?_
  refine q (ptr b29 0) ?_
  refine q h93 ?_
  refine aq (ptr b29 0) ?_
  refine aq h93 ?_
  refine nl ?_
  cases h
  exact AW.ret ⟨_,_,rfl,⟨b29,w61,z65,f66,e67,z70,f71,e72,z77,f78,e79,z82,f83,e84,z87,f88,e89,h93,k94,Ls97,rfl,hH98,hG99,h68,h73,h80,h85,h90,h91,ho95⟩⟩
 intro KJ100
 refine AW.block ?_
 obtain ⟨Ls194,hG195,hH196⟩:=HS.selEG hH60 hG0 [some 0] [none]
 change HS [] true s s53 (([⟨some b29,[(eptr [(J v1.Checker.Stack),(J v1.Checker.Start),(sl z2 f3 e4),(sl z6 f7 e8),(sl z10 f11 e12),(sl z14 f15 e16),(sl z18 f19 e20)] 0),(J y27.n.Desk_.Read),(J y27.n.Desk_.State),(sl z31 f32 e33),(sl z35 f36 e37),(J y27.n.Saved.Read),(J y27.n.Saved.State),(sl z39 f40 e41),(sl z43 f44 e45),(sl z47 f48 e49)],w30⟩]:List BX)++Ls194.flatten) at hH196
 change AllG [Non] Ls194 at hG195
 have hG197:=AllG.imp hG195 0 rfl (P':=OS oE2 (sl 1 true []) (fun _=>AV.undef) []) (fun L hL=>by cases hL; exact OS.nil (Or.inl rfl))
 change AllG [OS oE2 (sl 1 true []) (fun _=>AV.undef) ([]:List Int)] Ls194 at hG197
 refine AW.res [(1,(sl z23 f24 e25)),(6,(ptr b29 0)),(7,(sl 1 true [])),(8,(J 0))] [] ⟨rfl,rfl,rfl,rfl,trivial⟩ trivial ?_
 refine AW.loopF (σ:=Int × Int × (List Int) × (List Int) × Int × Int × (List Int) × (List Int) × (List Parcel) × (List Int) × Int) (τ:=(Nat→Bool) × Nat × Bool × (List AV) × Nat × Bool × (List AV) × Nat × Bool × (List AV) × Nat × Bool × (List AV) × Nat × Bool × (List AV) × AV × KT × St × (List (List BX))) (fun (m102,m103,m104,m109,m114,m115,m116,m121,m126,codes132,i136) (w101,z105,f106,e107,z110,f111,e112,z117,f118,e119,z122,f123,e124,z127,f128,e129,h133,k134,s137,Ls138)=>(LR rJ 1 m104 z105 e107)∧(LR rJ 1 m109 z110 e112)∧(LR rJ 1 m116 z117 e119)∧(LR rJ 1 m121 z122 e124)∧(LR rParcel 2 m126 z127 e129)∧(f128=true∨w101 9=true)∧(h133.one=true)∧(HS [] true s s137 (([⟨some b29,[(eptr [(J v1.Checker.Stack),(J v1.Checker.Start),(sl z2 f3 e4),(sl z6 f7 e8),(sl z10 f11 e12),(sl z14 f15 e16),(sl z18 f19 e20)] 0),(J m102),(J m103),(sl z105 f106 e107),(sl z110 f111 e112),(J m114),(J m115),(sl z117 f118 e119),(sl z122 f123 e124),(sl z127 f128 e129)],w101⟩]:List BX)++Ls138.flatten))∧(AllG [OS oE2 h133 k134 codes132] Ls138)) (fun (m102,m103,m104,m109,m114,m115,m116,m121,m126,codes132,i136) (w101,z105,f106,e107,z110,f111,e112,z117,f118,e119,z122,f123,e124,z127,f128,e129,h133,k134,s137,Ls138) tm os=>⟨updL tm [(1,(sl z23 f24 e25)),(6,(ptr b29 0)),(7,h133),(8,(J i136))],updL os [],s137⟩) ?_ (x:=(y27.n.Desk_.Read,y27.n.Desk_.State,y27.n.Desk_.Stack,y27.n.Desk_.Waiting,y27.n.Saved.Read,y27.n.Saved.State,y27.n.Saved.Stack,y27.n.Saved.Waiting,y27.n.Wire,([]:List Int),0)) (y:=(w30,z31,f32,e33,z35,f36,e37,z39,f40,e41,z43,f44,e45,z47,f48,e49,(sl 1 true []),(fun _=>AV.undef),s53,Ls194)) h ⟨hl34,hl38,hl42,hl46,hl50,hb51,rfl,hH196,hG197⟩
 clear h
 rintro ⟨m102,m103,m104,m109,m114,m115,m116,m121,m126,codes132,i136⟩ ⟨w101,z105,f106,e107,z110,f111,e112,z117,f118,e119,z122,f123,e124,z127,f128,e129,h133,k134,s137,Ls138⟩ tm os ⟨h108,h113,h120,h125,h130,h131,ho135,hH139,hG140⟩ ee1 h hL1 hR1
 unfold spec_l08Play_K00_S1 at h
 dsimp only at h
 refine AW.seq ?_
 refine sr ?_
 refine q (J i136) ?_
 refine q (sl z23 f24 e25) ?_
 refine AOps.p rfl (len_eq h26) ?_
 refine q (bool (decide ((i136:Int)<(deeds22.length:Int)))) ?_
 refine nl ?_
 rcases oite h with ⟨hc141,h⟩ | ⟨hc141,h⟩
 ·refine cT hc141 ?_
  refine AW.skip ?_
  refine AW.seq ?_
  refine AW.block ?_
  refine AW.region ?_
  refine q h133 ?_
  refine q (ptr b29 0) ?_
  refine q (sl z23 f24 e25) ?_
  refine q (J i136) ?_
  obtain ⟨x142,h143,h⟩:=obind h
  obtain ⟨v146,h144,h145⟩:=idx_sl h26 h143
  obtain ⟨_,rfl,h147⟩:=h144
  obtain ⟨_,_,rfl,h148,h149⟩:=Cs_cons h147
  cases h148
  obtain ⟨_,_,rfl,h150,h151⟩:=Cs_cons h149
  cases h150
  obtain ⟨_,_,rfl,h152,h153⟩:=Cs_cons h151
  cases h152
  cases Cs_nil h153
  refine AOps.pureR rfl rfl rfl h145 rfl (rfl:_=(eptr [(J x142.Kind),(J x142.A),(J x142.B)] 0)) ?_
  refine lE (agg [(J x142.Kind),(J x142.A),(J x142.B)]) ?_
  obtain ⟨y154,h155,h⟩:=obind h
  refine AOps.callF (g:=38) (args:=[(ptr b29 0),(agg [(J x142.Kind),(J x142.A),(J x142.B)])]) rfl rfl rfl (spec_l08Run_do_F1_ok h5 h9 h13 h17 h21 h108 h113 h120 h125 h130 h131 (HS.enterP hH139 [0] [b29] rfl (by decide)) h155 (HS.wf' hH139)) ?_
  intro _ o161 s158 h160
  obtain ⟨h156,w162,z163,f164,e165,z167,f168,e169,z171,f172,e173,z175,f176,e177,z179,f180,e181,h157,h166,h170,h174,h178,h182,h183⟩:=h160
  have hH159:=HS.callP hH139 [0] h157 rfl rfl
  change HS [] true s s158 (([⟨some b29,[(eptr [(J v1.Checker.Stack),(J v1.Checker.Start),(sl z2 f3 e4),(sl z6 f7 e8),(sl z10 f11 e12),(sl z14 f15 e16),(sl z18 f19 e20)] 0),(J y154.2.1),(J y154.2.2.1),(sl z163 f164 e165),(sl z167 f168 e169),(J y154.2.2.2.2.2.1),(J y154.2.2.2.2.2.2.1),(sl z171 f172 e173),(sl z175 f176 e177),(sl z179 f180 e181)],w162⟩]:List BX)++Ls138.flatten) at hH159
  cases h156
  refine AOps.makeR rfl rfl rfl rfl rfl rfl (rfl:_=(sl 1 true [(J y154.1)])) ?_
  obtain ⟨l184,h185,h⟩:=obind h
  refine AOps.appLf (j:=0) (z':=1) (f':=true) (e':=[(J y154.1)]) hH159 hG140 rfl rfl rfl rfl rfl rfl rfl rfl (appSrc_sl (LR.z (LR.lit (r:=rI .i64) (sz:=1) (.cons rfl .nil))) rfl) ⟨by decide,by decide,rfl,rfl⟩ ⟨rfl,rfl⟩ rfl rfl h185 (LR.el (LR.lit (r:=rI .i64) (sz:=1) (.cons rfl .nil))).len (fun i=>OL.leaf (LR.el (LR.lit (r:=rI .i64) (sz:=1) (.cons rfl .nil))) i) ?_
  intro h186 k188 Ls189 s190 ho187 hG191 hH192
  change HS [] true s s190 (([⟨some b29,[(eptr [(J v1.Checker.Stack),(J v1.Checker.Start),(sl z2 f3 e4),(sl z6 f7 e8),(sl z10 f11 e12),(sl z14 f15 e16),(sl z18 f19 e20)] 0),(J y154.2.1),(J y154.2.2.1),(sl z163 f164 e165),(sl z167 f168 e169),(J y154.2.2.2.2.2.1),(J y154.2.2.2.2.2.2.1),(sl z171 f172 e173),(sl z175 f176 e177),(sl z179 f180 e181)],w162⟩]:List BX)++Ls189.flatten) at hH192
  change AllG [OS oE2 h186 k188 l184] Ls189 at hG191
  refine aq h186 ?_
  refine nl ?_
  refine AW.inBlock ?_
  refine AW.region ?_
  refine q (J i136) ?_
  refine q (J (IntKind.wrap .i64 (i136+1))) ?_
  refine aq (J (IntKind.wrap .i64 (i136+1))) ?_
  refine nl ?_
  cases h
  exact AW.res [(1,(sl z23 f24 e25)),(6,(ptr b29 0)),(7,h186),(8,(J (IntKind.wrap .i64 (i136+1))))] [] ⟨rfl,rfl,rfl,rfl,trivial⟩ trivial (hL1 _ rfl (w162,z163,f164,e165,z167,f168,e169,z171,f172,e173,z175,f176,e177,z179,f180,e181,h186,k188,s190,Ls189) _ _ ⟨h166,h170,h174,h178,h182,h183,ho187,hH192,hG191⟩)
 refine cF hc141 ?_
 refine AW.exit rfl ?_
 obtain ⟨r193,hm,hx⟩:=omap h
 clear h
 subst hx
 have hx:=hR1 _ rfl
 rw[hx] at hm
 have h:=hm
 exact AW.res [(6,(ptr b29 0)),(7,h133)] [] ⟨rfl,rfl,trivial⟩ trivial (KJ100 (m102,m103,m104,m109,m114,m115,m116,m121,m126,codes132,w101,z105,f106,e107,z110,f111,e112,z117,f118,e119,z122,f123,e124,z127,f128,e129,h133,k134,s137,Ls138) _ _ ⟨h108,h113,h120,h125,h130,h131,ho135,hH139,hG140,h⟩)
theorem spec_l08Run_missing_F1_ok {r14:Stream} {r125 r126 r137 r138:Int} {r127 r132 r139 r144:List Int} {r149:List Parcel} {b2 z5 z9 z13 z17 z21 z28 z33 z40 z45 z50:Nat} {w3:Nat→Bool} {f6 f10 f14 f18 f22 f29 f34 f41 f46 f51:Bool} {e7 e11 e15 e19 e23 e30 e35 e42 e47 e52:List AV} {s:St} (h8:LR rB 1 r14.Checker.Accept z5 e7) (h12:LR (rL rPush 2) 1 r14.Checker.Call z9 e11) (h16:LR (rL (rL rJ 1) 1) 1 r14.Checker.Return z13 e15) (h20:LR (rL rJ 1) 1 r14.Checker.Inner z17 e19) (h24:LR rS 1 r14.Pieces z21 e23) (h31:LR rJ 1 r127 z28 e30) (h36:LR rJ 1 r132 z33 e35) (h43:LR rJ 1 r139 z40 e42) (h48:LR rJ 1 r144 z45 e47) (h53:LR rParcel 2 r149 z50 e52) (h54:f51=true∨w3 9=true) (hE:HS [b2] false s { s with lo:=s.n } [⟨some b2,[(eptr [(J r14.Checker.Stack),(J r14.Checker.Start),(sl z5 f6 e7),(sl z9 f10 e11),(sl z13 f14 e15),(sl z17 f18 e19),(sl z21 f22 e23)] 0),(J r125),(J r126),(sl z28 f29 e30),(sl z33 f34 e35),(J r137),(J r138),(sl z40 f41 e42),(sl z45 f46 e47),(sl z50 f51 e52)],w3⟩]) {r:(List Int)} (h:spec_l08Run_missing_F1 r14 r125 r126 r127 r132 r137 r138 r139 r144 r149=some r) (hs:WF s):ACall Cf 19 [(ptr b2 0)] s fun v _ s'=>(rL rJ 1) r v∧∃ (w0':Nat→Bool),Fx [b2] s s' [⟨some b2,[(eptr [(J r14.Checker.Stack),(J r14.Checker.Start),(sl z5 f6 e7),(sl z9 f10 e11),(sl z13 f14 e15),(sl z17 f18 e19),(sl z21 f22 e23)] 0),(J r125),(J r126),(sl z28 f29 e30),(sl z33 f34 e35),(J r137),(J r138),(sl z40 f41 e42),(sl z45 f46 e47),(sl z50 f51 e52)],w0'⟩]∧(f51=true∨w0' 9=true):=by
 refine ACall.foreign rfl rfl rfl ?_
 unfold spec_l08Run_missing_F1 at h
 refine sr ?_
 refine q (sl 0 true []) ?_
 refine ns ?_
 refine AOps.makeR rfl rfl rfl rfl rfl rfl (rfl:_=(sl 1 true [])) ?_
 refine aq (sl 1 true []) ?_
 refine nl ?_
 refine AW.seq ?_
 refine sr ?_
 refine q (ptr b2 0) ?_
 refine q (ptr b2 0) ?_
 refine q (ptr b2 1) ?_
 refine q (ptr b2 1) ?_
 refine q (ptr b2 1) ?_
 refine AOps.ldB (i:=0) (v:=(J r125)) hE rfl rfl rfl rfl rfl rfl rfl rfl rfl ?_
 refine aq (J r125) ?_
 refine nl ?_
 refine AW.meet (σ:=(List Int) × Nat × Bool × (List AV) × Bool × St) (fun (out55,z56,f57,e58,o60,s62) tm os=>⟨updL tm [(3,(sl z56 f57 e58))],updL os [(3,o60)],s62⟩) (fun (out55,z56,f57,e58,o60,s62)=>(LR rJ 1 out55 z56 e58)∧(f57=true∨o60=true)∧(HS [b2] false s s62 [⟨some b2,[(eptr [(J r14.Checker.Stack),(J r14.Checker.Start),(sl z5 f6 e7),(sl z9 f10 e11),(sl z13 f14 e15),(sl z17 f18 e19),(sl z21 f22 e23)] 0),(J r125),(J r126),(sl z28 f29 e30),(sl z33 f34 e35),(J r137),(J r138),(sl z40 f41 e42),(sl z45 f46 e47),(sl z50 f51 e52)],w3⟩])∧spec_l08Run_missing_F1_J1 out55=some r) ?_ ?_
 ·rintro ⟨out55,z56,f57,e58,o60,s62⟩ tm os ⟨h59,h61,hH63,h⟩
  unfold spec_l08Run_missing_F1_J1 at h
  refine sr ?_
  refine q (sl z56 f57 e58) ?_
  refine aq (sl z56 f57 e58) ?_
  refine nl ?_
  obtain rfl:=Option.some.inj h
  exact AW.ret ⟨_,_,rfl,finF (p:=(rL rJ 1) out55) (Fin.of (p:=(rL rJ 1) out55) (.L fun _=>.I) (⟨_,_,_,rfl,h59⟩)) ⟨w3,HS.leaveP hH63 [0] rfl,h54⟩⟩
 intro KJ64
 refine AW.block ?_
 refine AW.res [(0,(ptr b2 0)),(3,(sl 1 true [])),(4,(J r125))] [(3,false)] ⟨rfl,rfl,rfl,trivial⟩ ⟨rfl,trivial⟩ ?_
 refine AW.loopF (σ:=(List Int) × Int) (τ:=Nat × Bool × (List AV) × Bool × St) (fun (out65,k72) (z66,f67,e68,o70,s73)=>(LR rJ 1 out65 z66 e68)∧(f67=true∨o70=true)∧(HS [b2] false s s73 [⟨some b2,[(eptr [(J r14.Checker.Stack),(J r14.Checker.Start),(sl z5 f6 e7),(sl z9 f10 e11),(sl z13 f14 e15),(sl z17 f18 e19),(sl z21 f22 e23)] 0),(J r125),(J r126),(sl z28 f29 e30),(sl z33 f34 e35),(J r137),(J r138),(sl z40 f41 e42),(sl z45 f46 e47),(sl z50 f51 e52)],w3⟩])) (fun (out65,k72) (z66,f67,e68,o70,s73) tm os=>⟨updL tm [(0,(ptr b2 0)),(3,(sl z66 f67 e68)),(4,(J k72))],updL os [(3,o70)],s73⟩) ?_ (x:=(([]:List Int),r125)) (y:=(1,true,[],false,{ s with lo:=s.n })) h ⟨⟨.inl rfl,.nil⟩,(Or.inl rfl),(HS.sel hE [some 0] (by decide))⟩
 clear h
 rintro ⟨out65,k72⟩ ⟨z66,f67,e68,o70,s73⟩ tm os ⟨h69,h71,hH74⟩ ee1 h hL1 hR1
 unfold spec_l08Run_missing_F1_S1 at h
 dsimp only at h
 refine AW.seq ?_
 refine sr ?_
 refine q (J k72) ?_
 refine q (ptr b2 0) ?_
 refine q (ptr b2 0) ?_
 refine q (ptr b2 0) ?_
 refine AOps.ldB (i:=0) (v:=(eptr [(J r14.Checker.Stack),(J r14.Checker.Start),(sl z5 f6 e7),(sl z9 f10 e11),(sl z13 f14 e15),(sl z17 f18 e19),(sl z21 f22 e23)] 0)) hH74 rfl rfl rfl rfl rfl rfl rfl rfl rfl ?_
 refine q (eptr [(J r14.Checker.Stack),(J r14.Checker.Start),(sl z5 f6 e7),(sl z9 f10 e11),(sl z13 f14 e15),(sl z17 f18 e19),(sl z21 f22 e23)] 0) ?_
 refine q (eptr [(J r14.Checker.Stack),(J r14.Checker.Start),(sl z5 f6 e7),(sl z9 f10 e11),(sl z13 f14 e15),(sl z17 f18 e19),(sl z21 f22 e23)] 6) ?_
 refine lE (sl z21 f22 e23) ?_
 refine AOps.p rfl (len_eq h24) ?_
 refine q (bool (decide ((k72:Int)<(r14.Pieces.length:Int)))) ?_
 refine nl ?_
 rcases oite h with ⟨hc75,h⟩ | ⟨hc75,h⟩
 ·refine cT hc75 ?_
  refine AW.skip ?_
  refine AW.seq ?_
  refine AW.block ?_
  refine sr ?_
  refine q (ptr b2 0) ?_
  refine q (ptr b2 0) ?_
  refine q (ptr b2 1) ?_
  refine q (ptr b2 1) ?_
  refine q (ptr b2 4) ?_
  refine AOps.ldB (i:=0) (v:=(sl z33 f34 e35)) hH74 rfl rfl rfl rfl rfl rfl rfl rfl rfl ?_
  refine q (J k72) ?_
  obtain ⟨y76,h77,h⟩:=obind h
  refine cP (spec_l00Has_ok h36 h77 (HS.wf' hH74)) ?_
  intro _ o79 h78
  cases h78
  refine q (bool (!y76)) ?_
  refine nl ?_
  refine AW.meet (σ:=(List Int) × Nat × Bool × (List AV) × Bool × St) (fun (out80,z81,f82,e83,o85,s87) tm os=>⟨updL tm [(0,(ptr b2 0)),(3,(sl z81 f82 e83)),(4,(J k72))],updL os [(3,o85)],s87⟩) (fun (out80,z81,f82,e83,o85,s87)=>(LR rJ 1 out80 z81 e83)∧(f82=true∨o85=true)∧(HS [b2] false s s87 [⟨some b2,[(eptr [(J r14.Checker.Stack),(J r14.Checker.Start),(sl z5 f6 e7),(sl z9 f10 e11),(sl z13 f14 e15),(sl z17 f18 e19),(sl z21 f22 e23)] 0),(J r125),(J r126),(sl z28 f29 e30),(sl z33 f34 e35),(J r137),(J r138),(sl z40 f41 e42),(sl z45 f46 e47),(sl z50 f51 e52)],w3⟩])∧spec_l08Run_missing_F1_J2 k72 out80=some ee1) ?_ ?_
  ·rintro ⟨out80,z81,f82,e83,o85,s87⟩ tm os ⟨h84,h86,hH88,h⟩
   unfold spec_l08Run_missing_F1_J2 at h
   refine AW.inBlock ?_
   refine AW.region ?_
   refine q (J k72) ?_
   refine q (J (IntKind.wrap .i64 (k72+1))) ?_
   refine aq (J (IntKind.wrap .i64 (k72+1))) ?_
   refine nl ?_
   cases h
   exact AW.res [(0,(ptr b2 0)),(3,(sl z81 f82 e83)),(4,(J (IntKind.wrap .i64 (k72+1))))] [(3,o85)] ⟨rfl,rfl,rfl,trivial⟩ ⟨rfl,trivial⟩ (hL1 _ rfl (z81,f82,e83,o85,s87) _ _ ⟨h84,h86,(HS.sel hH88 [some 0] (by decide))⟩)
  intro KJ89
  rcases oite h with ⟨hc90,h⟩ | ⟨hc90,h⟩
  ·refine cT hc90 ?_
   refine AW.region ?_
   refine AOps.moveR rfl rfl rfl rfl (rfl:_=(sl z66 f67 e68)) rfl ?_
   refine q (J k72) ?_
   refine AOps.makeR rfl rfl rfl rfl rfl rfl (rfl:_=(sl 1 true [(J k72)])) ?_
   obtain ⟨l91,h92,h⟩:=obind h
   obtain ⟨h93,h94⟩:=app_LR h69 (LR.lit (r:=rI .i64) (sz:=1) (.cons rfl .nil)) h92
   refine AOps.appL (z:=z66) (f:=f67) (e:=e68) (z':=1) (f':=true) (e':=[(J k72)]) rfl rfl rfl rfl rfl rfl rfl (appSrc_sl (LR.z (LR.lit (r:=rI .i64) (sz:=1) (.cons rfl .nil))) rfl) (LR.z h69) ⟨by decide,by decide,rfl,rfl⟩ rfl rfl h94 (own_tmp h71 rfl rfl) ?_
   refine aq (sl 1 false (e68++[(J k72)])) ?_
   refine nl ?_
   exact AW.res [(0,(ptr b2 0)),(3,(sl 1 false (e68++[(J k72)]))),(4,(J k72))] [(3,true)] ⟨rfl,rfl,rfl,trivial⟩ ⟨rfl,trivial⟩ (KJ89 (l91,1,false,(e68++[(J k72)]),true,s73) _ _ ⟨h93,(Or.inr rfl),(HS.sel hH74 [some 0] (by decide)),h⟩)
  refine cF hc90 ?_
  refine AW.skip ?_
  exact AW.res [(0,(ptr b2 0)),(3,(sl z66 f67 e68)),(4,(J k72))] [(3,o70)] ⟨rfl,rfl,rfl,trivial⟩ ⟨rfl,trivial⟩ (KJ89 (out65,z66,f67,e68,o70,s73) _ _ ⟨h69,h71,(HS.sel hH74 [some 0] (by decide)),h⟩)
 refine cF hc75 ?_
 refine AW.exit rfl ?_
 obtain ⟨r95,hm,hx⟩:=omap h
 clear h
 subst hx
 have hx:=hR1 _ rfl
 rw[hx] at hm
 have h:=hm
 exact AW.res [(3,(sl z66 f67 e68))] [(3,o70)] ⟨rfl,trivial⟩ ⟨rfl,trivial⟩ (KJ64 (out65,z66,f67,e68,o70,s73) _ _ ⟨h69,h71,(HS.sel hH74 [some 0] (by decide)),h⟩)
theorem spec_FinishDeeds_ok {p1:Stream} {p1_22:List Deed} {z2 z6 z10 z14 z18 z23:Nat} {f3 f7 f11 f15 f19 f24:Bool} {e4 e8 e12 e16 e20 e25:List AV} {s:St} (h5:LR rB 1 p1.Checker.Accept z2 e4) (h9:LR (rL rPush 2) 1 p1.Checker.Call z6 e8) (h13:LR (rL (rL rJ 1) 1) 1 p1.Checker.Return z10 e12) (h17:LR (rL rJ 1) 1 p1.Checker.Inner z14 e16) (h21:LR rS 1 p1.Pieces z18 e20) (h26:LR rDeed 3 p1_22 z23 e25) {r:(List Deed) × Int} (h:spec_FinishDeeds p1 p1_22=some r) (hs:WF s):ACall Cf 6 [(agg [(J p1.Checker.Stack),(J p1.Checker.Start),(sl z2 f3 e4),(sl z6 f7 e8),(sl z10 f11 e12),(sl z14 f15 e16),(sl z18 f19 e20)]),(sl z23 f24 e25)] s fun v _ s'=>(fun x=>rT [(rL rDeed 3) x.1,rJ x.2]) r v∧s'=s:=by
 refine ACall.boxes rfl rfl rfl ?_
 have hH0:=HS.g0 (HS.init hs)
 have hG0:=AllG.nil
 have hl:LoOK [] false s:=LoOK.nil
 unfold spec_FinishDeeds at h
 refine sr ?_
 refine AOps.makeR rfl rfl rfl rfl rfl rfl (rfl:_=(eptr [(J p1.Checker.Stack),(J p1.Checker.Start),(sl z2 f3 e4),(sl z6 f7 e8),(sl z10 f11 e12),(sl z14 f15 e16),(sl z18 f19 e20)] 0)) ?_
 refine q (sl 0 true []) ?_
 refine q (J 0) ?_
 refine nl ?_
 refine AW.seq ?_
 refine sr ?_
 refine q (sl z23 f24 e25) ?_
 obtain ⟨y27,h28,h⟩:=obind h
 refine cP (spec_l08Asked_ok h5 h9 h13 h17 h21 h26 h28 (HS.wf' hH0)) ?_
 intro _ o30 h29
 cases h29
 refine aq (J y27) ?_
 refine ns ?_
 refine q (J y27) ?_
 refine q (bool (y27 != 0)) ?_
 refine nl ?_
 rcases oite h with ⟨hc31,h⟩ | ⟨hc31,h⟩
 ·refine cT hc31 ?_
  refine sr ?_
  refine AOps.makeR rfl rfl rfl rfl rfl rfl (rfl:_=(sl 3 true [])) ?_
  refine q (J y27) ?_
  refine aq (sl 3 true []) ?_
  refine aq (J y27) ?_
  refine nl ?_
  cases h
  exact AW.ret ⟨⟨_,hH0⟩,_,_,rfl,(Fin.T (.cons (Fin.of (p:=(rL rDeed 3) ([]:List Deed)) (.L fun _=>(.A (.cons .I (.cons .I (.cons .I .nil))))) (⟨_,_,_,rfl,⟨.inl rfl,.nil⟩⟩)) (.cons (Fin.of (p:=rJ y27) .I rfl) .nil))).2⟩
 refine cF hc31 ?_
 refine AW.skip ?_
 refine sr ?_
 refine q (sl z23 f24 e25) ?_
 obtain ⟨y32,h33,h⟩:=obind h
 have hP60:=HS.pop0 hH0
 refine AOps.callF (al:=true) (g:=18) (args:=[(eptr [(J p1.Checker.Stack),(J p1.Checker.Start),(sl z2 f3 e4),(sl z6 f7 e8),(sl z10 f11 e12),(sl z14 f15 e16),(sl z18 f19 e20)] 0),(sl z23 f24 e25)]) rfl rfl rfl (spec_l08Play_K00_ok h5 h9 h13 h17 h21 h26  h33 (HS.wf' hH0)) ?_
 rintro _ _ s61 ⟨b34,w35,z36,f37,e38,z40,f41,e42,z44,f45,e46,z48,f49,e50,z52,f53,e54,h57,k58,Ls63,rfl,hH64,hG65,hl39,hl43,hl47,hl51,hl55,hb56,ho59⟩
 have hJ66:=HS.joinK1 hP60 hH64
 have hJ67:=HS.pushNE (x:=⟨some b34,[(eptr [(J p1.Checker.Stack),(J p1.Checker.Start),(sl z2 f3 e4),(sl z6 f7 e8),(sl z10 f11 e12),(sl z14 f15 e16),(sl z18 f19 e20)] 0),(J y32.1.n.Desk_.Read),(J y32.1.n.Desk_.State),(sl z36 f37 e38),(sl z40 f41 e42),(J y32.1.n.Saved.Read),(J y32.1.n.Saved.State),(sl z44 f45 e46),(sl z48 f49 e50),(sl z52 f53 e54)],w35⟩) hJ66
 obtain ⟨Ls68,Lf69,hG70,hF71,hP72⟩:=HS.pushN hJ67 hG0 hG65
 cases hF71
 have hH73:=HS.push0 hP72
 change HS [] false s s61 (([⟨some b34,[(eptr [(J p1.Checker.Stack),(J p1.Checker.Start),(sl z2 f3 e4),(sl z6 f7 e8),(sl z10 f11 e12),(sl z14 f15 e16),(sl z18 f19 e20)] 0),(J y32.1.n.Desk_.Read),(J y32.1.n.Desk_.State),(sl z36 f37 e38),(sl z40 f41 e42),(J y32.1.n.Saved.Read),(J y32.1.n.Saved.State),(sl z44 f45 e46),(sl z48 f49 e50),(sl z52 f53 e54)],w35⟩]:List BX)++Ls68.flatten) at hH73
 change AllG [OS oE2 h57 k58 y32.2] Ls68 at hG70
 refine q (AV.tup [(ptr b34 0),h57]) ?_
 refine q (ptr b34 0) ?_
 refine q h57 ?_
 refine aq (ptr b34 0) ?_
 refine aq h57 ?_
 refine ns ?_
 refine AOps.makeR rfl rfl rfl rfl rfl rfl (rfl:_=(sl 3 true [])) ?_
 refine aq (sl 3 true []) ?_
 refine nl ?_
 refine AW.seq ?_
 refine sr ?_
 refine q (ptr b34 0) ?_
 refine q (ptr b34 0) ?_
 refine q (ptr b34 1) ?_
 refine q (ptr b34 9) ?_
 refine AOps.ldB (i:=0) (v:=(sl z52 f53 e54)) hH73 rfl rfl rfl rfl rfl rfl rfl rfl rfl ?_
 refine AOps.p rfl (len_eq hl55) ?_
 refine aq (J (y32.1.n.Wire.length:Int)) ?_
 refine nl ?_
 refine AW.meet (σ:=(List Deed) × AV × KT × St × (List (List BX))) (fun (t74,h75,k76,s78,Ls79) tm os=>⟨updL tm [(1,(sl z23 f24 e25)),(7,(ptr b34 0)),(9,h75)],updL os [],s78⟩) (fun (t74,h75,k76,s78,Ls79)=>(h75.one=true)∧(HS [] false s s78 (([⟨some b34,[(eptr [(J p1.Checker.Stack),(J p1.Checker.Start),(sl z2 f3 e4),(sl z6 f7 e8),(sl z10 f11 e12),(sl z14 f15 e16),(sl z18 f19 e20)] 0),(J y32.1.n.Desk_.Read),(J y32.1.n.Desk_.State),(sl z36 f37 e38),(sl z40 f41 e42),(J y32.1.n.Saved.Read),(J y32.1.n.Saved.State),(sl z44 f45 e46),(sl z48 f49 e50),(sl z52 f53 e54)],w35⟩]:List BX)++Ls79.flatten))∧(AllG [OS oE65 h75 k76 t74] Ls79)∧spec_FinishDeeds_J1 p1 p1_22 y32 t74=some r) ?_ ?_
 ·rintro ⟨t74,h75,k76,s78,Ls79⟩ tm os ⟨ho77,hH80,hG81,h⟩
  unfold spec_FinishDeeds_J1 at h
  refine sr ?_
  refine q (ptr b34 0) ?_
  obtain ⟨y83,h84,h⟩:=obind h
  refine AOps.callF (g:=19) (args:=[(ptr b34 0)]) rfl rfl rfl (spec_l08Run_missing_F1_ok h5 h9 h13 h17 h21 hl39 hl43 hl47 hl51 hl55 hb56 (HS.enterP hH80 [0] [b34] rfl (by decide)) h84 (HS.wf' hH80)) ?_
  intro _ o94 s87 h89
  obtain ⟨h85,w95,h86,h96⟩:=h89
  have hH88:=HS.callP hH80 [0] h86 rfl rfl
  change HS [] false s s87 (([⟨some b34,[(eptr [(J p1.Checker.Stack),(J p1.Checker.Start),(sl z2 f3 e4),(sl z6 f7 e8),(sl z10 f11 e12),(sl z14 f15 e16),(sl z18 f19 e20)] 0),(J y32.1.n.Desk_.Read),(J y32.1.n.Desk_.State),(sl z36 f37 e38),(sl z40 f41 e42),(J y32.1.n.Saved.Read),(J y32.1.n.Saved.State),(sl z44 f45 e46),(sl z48 f49 e50),(sl z52 f53 e54)],w95⟩]:List BX)++Ls79.flatten) at hH88
  obtain ⟨z90,f91,e92,rfl,h93⟩:=h85
  refine aq (sl z90 f91 e92) ?_
  refine nl ?_
  refine AW.seq ?_
  refine sr ?_
  refine q (J 0) ?_
  refine nl ?_
  refine AW.meet (σ:=(List Deed) × AV × KT × St × (List (List BX))) (fun (t97,h98,k99,s101,Ls102) tm os=>⟨updL tm [(1,(sl z23 f24 e25)),(9,h98)],updL os [],s101⟩) (fun (t97,h98,k99,s101,Ls102)=>(h98.one=true)∧(HS [] false s s101 (([]:List BX)++Ls102.flatten))∧(AllG [OS oE65 h98 k99 t97] Ls102)∧spec_FinishDeeds_J2 p1_22 t97=some r) ?_ ?_
  ·rintro ⟨t97,h98,k99,s101,Ls102⟩ tm os ⟨ho100,hH103,hG104,h⟩
   unfold spec_FinishDeeds_J2 at h
   refine sr ?_
   refine q h98 ?_
   refine q (agg [(J 5),(J 0),(J 0)]) ?_
   refine AOps.makeR rfl rfl rfl rfl rfl rfl (rfl:_=(sl 3 true [(agg [(J 5),(J 0),(J 0)])])) ?_
   obtain ⟨l106,h107,h⟩:=obind h
   refine AOps.appLf (j:=0) (z':=3) (f':=true) (e':=[(agg [(J 5),(J 0),(J 0)])]) hH103 hG104 rfl rfl rfl rfl rfl rfl rfl rfl (appSrc_sl (LR.z (show LR rDeed 3 (([(⟨5,0,0⟩:Deed)]:List Deed):List Deed) 3 [(agg [(J 5),(J 0),(J 0)])] from LR.lit (r:=rDeed) (sz:=3) (.cons ⟨_,rfl,(.cons rfl (.cons rfl (.cons rfl .nil)))⟩ .nil))) rfl) ⟨by decide,by decide,rfl,rfl⟩ ⟨rfl,rfl⟩ rfl rfl h107 (LR.el (show LR rDeed 3 (([(⟨5,0,0⟩:Deed)]:List Deed):List Deed) 3 [(agg [(J 5),(J 0),(J 0)])] from LR.lit (r:=rDeed) (sz:=3) (.cons ⟨_,rfl,(.cons rfl (.cons rfl (.cons rfl .nil)))⟩ .nil))).len (fun i=>OL.leaf (LR.el (show LR rDeed 3 (([(⟨5,0,0⟩:Deed)]:List Deed):List Deed) 3 [(agg [(J 5),(J 0),(J 0)])] from LR.lit (r:=rDeed) (sz:=3) (.cons ⟨_,rfl,(.cons rfl (.cons rfl (.cons rfl .nil)))⟩ .nil))) i) ?_
   intro h108 k110 Ls111 s112 ho109 hG113 hH114
   change HS [] false s s112 (([]:List BX)++Ls111.flatten) at hH114
   change AllG [OS oE65 h108 k110 l106] Ls111 at hG113
   refine aq h108 ?_
   refine nl ?_
   refine AW.seq ?_
   refine sr ?_
   refine q (sl z23 f24 e25) ?_
   refine AOps.p rfl (len_eq h26) ?_
   refine q h108 ?_
   refine AOps.lenO (j:=0) hG113 rfl Sub.here rfl rfl rfl rfl rfl ?_
   refine q (J (IntKind.wrap .i64 ((p1_22.length:Int)+(l106.length:Int)))) ?_
   refine q (bool (decide ((IntKind.wrap .i64 ((p1_22.length:Int)+(l106.length:Int)):Int)>300))) ?_
   refine nl ?_
   rcases oite h with ⟨hc115,h⟩ | ⟨hc115,h⟩
   ·refine cT hc115 ?_
    refine sr ?_
    refine AOps.makeR rfl rfl rfl rfl rfl rfl (rfl:_=(sl 3 true [])) ?_
    refine aq (sl 3 true []) ?_
    refine q (J 3) ?_
    refine nl ?_
    cases h
    exact AW.ret ⟨⟨_,hH114⟩,_,_,rfl,(Fin.T (.cons (Fin.of (p:=(rL rDeed 3) ([]:List Deed)) (.L fun _=>(.A (.cons .I (.cons .I (.cons .I .nil))))) (⟨_,_,_,rfl,⟨.inl rfl,.nil⟩⟩)) (.cons (Fin.of (p:=rJ 3) .I rfl) .nil))).2⟩
   refine cF hc115 ?_
   refine AW.skip ?_
   refine sr ?_
   refine q h108 ?_
   refine aq h108 ?_
   refine q (J 0) ?_
   refine nl ?_
   cases h
   exact AW.ret ⟨⟨_,hH114⟩,_,_,rfl,(Fin.T (k:=8) (.cons (HS.finR hH114 hG113 (j:=0) rfl (Or.inr ⟨rfl,rfl⟩) (by decide) _) (.cons (Fin.of (p:=rJ 0) .I rfl) .nil))).2⟩
  intro KJ105
  refine AW.block ?_
  obtain ⟨Ls146,hG147,hH148⟩:=HS.selEG hH88 hG81 [] [some 0]
  change HS [] false s s87 (([]:List BX)++Ls146.flatten) at hH148
  change AllG [OS oE65 h75 k76 t74] Ls146 at hG147
  refine AW.res [(1,(sl z23 f24 e25)),(9,h75),(11,(sl z90 f91 e92)),(12,(J 0))] [] ⟨rfl,rfl,rfl,rfl,trivial⟩ trivial ?_
  refine AW.loopF (σ:=(List Deed) × Int) (τ:=AV × KT × St × (List (List BX))) (fun (t116,t120) (h117,k118,s121,Ls122)=>(h117.one=true)∧(HS [] false s s121 (([]:List BX)++Ls122.flatten))∧(AllG [OS oE65 h117 k118 t116] Ls122)) (fun (t116,t120) (h117,k118,s121,Ls122) tm os=>⟨updL tm [(1,(sl z23 f24 e25)),(9,h117),(11,(sl z90 f91 e92)),(12,(J t120))],updL os [],s121⟩) ?_ (x:=(t74,0)) (y:=(h75,k76,s87,Ls146)) h ⟨ho77,hH148,hG147⟩
  clear h
  rintro ⟨t116,t120⟩ ⟨h117,k118,s121,Ls122⟩ tm os ⟨ho119,hH123,hG124⟩ ee1 h hL1 hR1
  unfold spec_FinishDeeds_S1 at h
  dsimp only at h
  refine AW.seq ?_
  refine sr ?_
  refine q (J t120) ?_
  refine q (sl z90 f91 e92) ?_
  refine AOps.p rfl (len_eq h93) ?_
  refine q (bool (decide ((t120:Int)<(y83.length:Int)))) ?_
  refine nl ?_
  rcases oite h with ⟨hc125,h⟩ | ⟨hc125,h⟩
  ·refine cT hc125 ?_
   refine AW.skip ?_
   refine AW.seq ?_
   refine AW.block ?_
   refine AW.region ?_
   refine q h117 ?_
   refine q (sl z90 f91 e92) ?_
   refine q (J t120) ?_
   obtain ⟨x126,h127,h⟩:=obind h
   obtain ⟨v130,h128,h129⟩:=idx_sl h93 h127
   cases h128
   refine AOps.pureR rfl rfl rfl h129 rfl (rfl:_=(eptr [(J x126)] 0)) ?_
   refine lE (J x126) ?_
   refine q (sl z90 f91 e92) ?_
   refine q (J t120) ?_
   obtain ⟨x131,h132,h⟩:=obind h
   obtain ⟨v135,h133,h134⟩:=idx_sl h93 h132
   cases h133
   refine AOps.pureR rfl rfl rfl h134 rfl (rfl:_=(eptr [(J x131)] 0)) ?_
   refine lE (J x131) ?_
   refine q (agg [(J 1),(J x126),(J x131)]) ?_
   refine q (agg [(J 2),(J 0),(J 0)]) ?_
   refine AOps.makeR rfl rfl rfl rfl rfl rfl (rfl:_=(sl 3 true [(agg [(J 1),(J x126),(J x131)]),(agg [(J 2),(J 0),(J 0)])])) ?_
   obtain ⟨l136,h137,h⟩:=obind h
   refine AOps.appLf (j:=0) (z':=3) (f':=true) (e':=[(agg [(J 1),(J x126),(J x131)]),(agg [(J 2),(J 0),(J 0)])]) hH123 hG124 rfl rfl rfl rfl rfl rfl rfl rfl (appSrc_sl (LR.z (show LR rDeed 3 (([(⟨1,x126,x131⟩:Deed),(⟨2,0,0⟩:Deed)]:List Deed):List Deed) 3 [(agg [(J 1),(J x126),(J x131)]),(agg [(J 2),(J 0),(J 0)])] from LR.lit (r:=rDeed) (sz:=3) (.cons ⟨_,rfl,(.cons rfl (.cons rfl (.cons rfl .nil)))⟩ (.cons ⟨_,rfl,(.cons rfl (.cons rfl (.cons rfl .nil)))⟩ .nil)))) rfl) ⟨by decide,by decide,rfl,rfl⟩ ⟨rfl,rfl⟩ rfl rfl h137 (LR.el (show LR rDeed 3 (([(⟨1,x126,x131⟩:Deed),(⟨2,0,0⟩:Deed)]:List Deed):List Deed) 3 [(agg [(J 1),(J x126),(J x131)]),(agg [(J 2),(J 0),(J 0)])] from LR.lit (r:=rDeed) (sz:=3) (.cons ⟨_,rfl,(.cons rfl (.cons rfl (.cons rfl .nil)))⟩ (.cons ⟨_,rfl,(.cons rfl (.cons rfl (.cons rfl .nil)))⟩ .nil)))).len (fun i=>OL.leaf (LR.el (show LR rDeed 3 (([(⟨1,x126,x131⟩:Deed),(⟨2,0,0⟩:Deed)]:List Deed):List Deed) 3 [(agg [(J 1),(J x126),(J x131)]),(agg [(J 2),(J 0),(J 0)])] from LR.lit (r:=rDeed) (sz:=3) (.cons ⟨_,rfl,(.cons rfl (.cons rfl (.cons rfl .nil)))⟩ (.cons ⟨_,rfl,(.cons rfl (.cons rfl (.cons rfl .nil)))⟩ .nil)))) i) ?_
   intro h138 k140 Ls141 s142 ho139 hG143 hH144
   change HS [] false s s142 (([]:List BX)++Ls141.flatten) at hH144
   change AllG [OS oE65 h138 k140 l136] Ls141 at hG143
   refine aq h138 ?_
   refine nl ?_
   refine AW.inBlock ?_
   refine AW.region ?_
   refine q (J t120) ?_
   refine q (J (IntKind.wrap .i64 (t120+1))) ?_
   refine aq (J (IntKind.wrap .i64 (t120+1))) ?_
   refine nl ?_
   cases h
   exact AW.res [(1,(sl z23 f24 e25)),(9,h138),(11,(sl z90 f91 e92)),(12,(J (IntKind.wrap .i64 (t120+1))))] [] ⟨rfl,rfl,rfl,rfl,trivial⟩ trivial (hL1 _ rfl (h138,k140,s142,Ls141) _ _ ⟨ho139,hH144,hG143⟩)
  refine cF hc125 ?_
  refine AW.exit rfl ?_
  obtain ⟨r145,hm,hx⟩:=omap h
  clear h
  subst hx
  have hx:=hR1 _ rfl
  rw[hx] at hm
  have h:=hm
  exact AW.res [(1,(sl z23 f24 e25)),(9,h117)] [] ⟨rfl,rfl,trivial⟩ trivial (KJ105 (t116,h117,k118,s121,Ls122) _ _ ⟨ho119,hH123,hG124,h⟩)
 intro KJ82
 refine AW.block ?_
 obtain ⟨Ls169,hG170,hH171⟩:=HS.selEG hH73 hG70 [some 0] [none]
 change HS [] false s s61 (([⟨some b34,[(eptr [(J p1.Checker.Stack),(J p1.Checker.Start),(sl z2 f3 e4),(sl z6 f7 e8),(sl z10 f11 e12),(sl z14 f15 e16),(sl z18 f19 e20)] 0),(J y32.1.n.Desk_.Read),(J y32.1.n.Desk_.State),(sl z36 f37 e38),(sl z40 f41 e42),(J y32.1.n.Saved.Read),(J y32.1.n.Saved.State),(sl z44 f45 e46),(sl z48 f49 e50),(sl z52 f53 e54)],w35⟩]:List BX)++Ls169.flatten) at hH171
 change AllG [Non] Ls169 at hG170
 have hG172:=AllG.imp hG170 0 rfl (P':=OS oE65 (sl 3 true []) (fun _=>AV.undef) []) (fun L hL=>by cases hL; exact OS.nil (Or.inl rfl))
 change AllG [OS oE65 (sl 3 true []) (fun _=>AV.undef) ([]:List Deed)] Ls169 at hG172
 refine AW.res [(1,(sl z23 f24 e25)),(7,(ptr b34 0)),(9,(sl 3 true [])),(10,(J (y32.1.n.Wire.length:Int)))] [] ⟨rfl,rfl,rfl,rfl,trivial⟩ trivial ?_
 refine AW.loopF (σ:=(List Deed) × Int) (τ:=AV × KT × St × (List (List BX))) (fun (t149,t153) (h150,k151,s154,Ls155)=>(h150.one=true)∧(HS [] false s s154 (([⟨some b34,[(eptr [(J p1.Checker.Stack),(J p1.Checker.Start),(sl z2 f3 e4),(sl z6 f7 e8),(sl z10 f11 e12),(sl z14 f15 e16),(sl z18 f19 e20)] 0),(J y32.1.n.Desk_.Read),(J y32.1.n.Desk_.State),(sl z36 f37 e38),(sl z40 f41 e42),(J y32.1.n.Saved.Read),(J y32.1.n.Saved.State),(sl z44 f45 e46),(sl z48 f49 e50),(sl z52 f53 e54)],w35⟩]:List BX)++Ls155.flatten))∧(AllG [OS oE65 h150 k151 t149] Ls155)) (fun (t149,t153) (h150,k151,s154,Ls155) tm os=>⟨updL tm [(1,(sl z23 f24 e25)),(7,(ptr b34 0)),(9,h150),(10,(J t153))],updL os [],s154⟩) ?_ (x:=(([]:List Deed),(y32.1.n.Wire.length:Int))) (y:=((sl 3 true []),(fun _=>AV.undef),s61,Ls169)) h ⟨rfl,hH171,hG172⟩
 clear h
 rintro ⟨t149,t153⟩ ⟨h150,k151,s154,Ls155⟩ tm os ⟨ho152,hH156,hG157⟩ ee1 h hL1 hR1
 unfold spec_FinishDeeds_S2 at h
 dsimp only at h
 refine AW.seq ?_
 refine sr ?_
 refine q (J t153) ?_
 refine q (bool (decide ((t153:Int)>0))) ?_
 refine nl ?_
 rcases oite h with ⟨hc158,h⟩ | ⟨hc158,h⟩
 ·refine cT hc158 ?_
  refine AW.skip ?_
  refine AW.seq ?_
  refine AW.block ?_
  refine AW.region ?_
  refine q h150 ?_
  refine q (agg [(J 4),(J 0),(J 0)]) ?_
  refine AOps.makeR rfl rfl rfl rfl rfl rfl (rfl:_=(sl 3 true [(agg [(J 4),(J 0),(J 0)])])) ?_
  obtain ⟨l159,h160,h⟩:=obind h
  refine AOps.appLf (j:=0) (z':=3) (f':=true) (e':=[(agg [(J 4),(J 0),(J 0)])]) hH156 hG157 rfl rfl rfl rfl rfl rfl rfl rfl (appSrc_sl (LR.z (show LR rDeed 3 (([(⟨4,0,0⟩:Deed)]:List Deed):List Deed) 3 [(agg [(J 4),(J 0),(J 0)])] from LR.lit (r:=rDeed) (sz:=3) (.cons ⟨_,rfl,(.cons rfl (.cons rfl (.cons rfl .nil)))⟩ .nil))) rfl) ⟨by decide,by decide,rfl,rfl⟩ ⟨rfl,rfl⟩ rfl rfl h160 (LR.el (show LR rDeed 3 (([(⟨4,0,0⟩:Deed)]:List Deed):List Deed) 3 [(agg [(J 4),(J 0),(J 0)])] from LR.lit (r:=rDeed) (sz:=3) (.cons ⟨_,rfl,(.cons rfl (.cons rfl (.cons rfl .nil)))⟩ .nil))).len (fun i=>OL.leaf (LR.el (show LR rDeed 3 (([(⟨4,0,0⟩:Deed)]:List Deed):List Deed) 3 [(agg [(J 4),(J 0),(J 0)])] from LR.lit (r:=rDeed) (sz:=3) (.cons ⟨_,rfl,(.cons rfl (.cons rfl (.cons rfl .nil)))⟩ .nil))) i) ?_
  intro h161 k163 Ls164 s165 ho162 hG166 hH167
  change HS [] false s s165 (([⟨some b34,[(eptr [(J p1.Checker.Stack),(J p1.Checker.Start),(sl z2 f3 e4),(sl z6 f7 e8),(sl z10 f11 e12),(sl z14 f15 e16),(sl z18 f19 e20)] 0),(J y32.1.n.Desk_.Read),(J y32.1.n.Desk_.State),(sl z36 f37 e38),(sl z40 f41 e42),(J y32.1.n.Saved.Read),(J y32.1.n.Saved.State),(sl z44 f45 e46),(sl z48 f49 e50),(sl z52 f53 e54)],w35⟩]:List BX)++Ls164.flatten) at hH167
  change AllG [OS oE65 h161 k163 l159] Ls164 at hG166
  refine aq h161 ?_
  refine nl ?_
  refine AW.inBlock ?_
  refine AW.region ?_
  refine q (J t153) ?_
  refine q (J (IntKind.wrap .i64 (t153 - 1))) ?_
  refine aq (J (IntKind.wrap .i64 (t153 - 1))) ?_
  refine nl ?_
  cases h
  exact AW.res [(1,(sl z23 f24 e25)),(7,(ptr b34 0)),(9,h161),(10,(J (IntKind.wrap .i64 (t153 - 1))))] [] ⟨rfl,rfl,rfl,rfl,trivial⟩ trivial (hL1 _ rfl (h161,k163,s165,Ls164) _ _ ⟨ho162,hH167,hG166⟩)
 refine cF hc158 ?_
 refine AW.exit rfl ?_
 obtain ⟨r168,hm,hx⟩:=omap h
 clear h
 subst hx
 have hx:=hR1 _ rfl
 rw[hx] at hm
 have h:=hm
 exact AW.res [(1,(sl z23 f24 e25)),(7,(ptr b34 0)),(9,h150)] [] ⟨rfl,rfl,rfl,trivial⟩ trivial (KJ82 (t149,h150,k151,s154,Ls155) _ _ ⟨ho152,hH156,hG157,h⟩)
theorem laws_toBoolS_K0_ok {a1:List Bool} {z2:Nat} {f3:Bool} {e4:List AV} {s:St} (h5:LR rB 1 a1 z2 e4) {r:(List Bool)} (h:laws_toBoolS_K0 a1=some r) (hs:WF s):ACall Cf 40 [(sl z2 f3 e4)] s (fun v _ s'=>∃ (h1':AV) (k2':KT) (Ls':List (List BX)),v=h1'∧HS [] true s s' (([]:List BX)++Ls'.flatten)∧AllG [OS oE4 h1' k2' r] Ls'∧h1'.one=true) true:=by
 refine ACall.keepR rfl rfl rfl ?_
 have hH0:=HS.g0 (HS.initK hs)
 have hG0:=AllG.nil
 have hl:LoOK [] true s:=LoOK.nil
 unfold laws_toBoolS_K0 at h
 refine sr ?_
 refine q (sl 0 true []) ?_
 refine ns ?_
 refine q (sl z2 f3 e4) ?_
 refine AOps.p rfl (len_eq h5) ?_
 obtain ⟨l6,h7,h⟩:=obind h
 refine AOps.mkO (e:=oE4) (x0:=(false:Bool)) (fun _=>AV.undef) hH0 hG0 rfl rfl rfl rfl rfl rfl rfl ⟨rfl,rfl,by decide⟩ h7 ⟨rfl,rfl⟩ (fun _=>⟨⟨(bool false),rfl,rfl⟩,rfl⟩) rfl ?_
 intro h8 k10 Ls11 s12 ho9 hG13 hH14
 refine aq h8 ?_
 refine nl ?_
 refine AW.seq ?_
 refine sr ?_
 refine q (J 0) ?_
 refine nl ?_
 refine AW.meet (σ:=(List Bool) × St × (List (List BX))) (fun (out15,s16,Ls17) tm os=>⟨updL tm [(3,h8)],updL os [],s16⟩) (fun (out15,s16,Ls17)=>(HS [] true s s16 (([]:List BX)++Ls17.flatten))∧(AllG [OS oE4 h8 k10 out15] Ls17)∧laws_toBoolS_K0_J1 out15=some r) ?_ ?_
 ·rintro ⟨out15,s16,Ls17⟩ tm os ⟨hH18,hG19,h⟩
  unfold laws_toBoolS_K0_J1 at h
  refine sr ?_
  refine q h8 ?_
  refine aq h8 ?_
  refine nl ?_
  cases h
  exact AW.ret ⟨_,_,rfl,⟨h8,k10,Ls17,rfl,hH18,hG19,ho9⟩⟩
 intro KJ20
 refine AW.block ?_
 refine AW.res [(0,(sl z2 f3 e4)),(3,h8),(4,(J 0))] [] ⟨rfl,rfl,rfl,trivial⟩ trivial ?_
 refine AW.loopF (σ:=(List Bool) × Int) (τ:=St × (List (List BX))) (fun (out21,i22) (s23,Ls24)=>(HS [] true s s23 (([]:List BX)++Ls24.flatten))∧(AllG [OS oE4 h8 k10 out21] Ls24)) (fun (out21,i22) (s23,Ls24) tm os=>⟨updL tm [(0,(sl z2 f3 e4)),(3,h8),(4,(J i22))],updL os [],s23⟩) ?_ (x:=(l6,0)) (y:=(s12,Ls11)) h ⟨hH14,hG13⟩
 clear h
 rintro ⟨out21,i22⟩ ⟨s23,Ls24⟩ tm os ⟨hH25,hG26⟩ ee1 h hL1 hR1
 unfold laws_toBoolS_K0_S1 at h
 dsimp only at h
 refine AW.seq ?_
 refine sr ?_
 refine q (J i22) ?_
 refine q (sl z2 f3 e4) ?_
 refine AOps.p rfl (len_eq h5) ?_
 refine q (bool (decide ((i22:Int)<(a1.length:Int)))) ?_
 refine nl ?_
 rcases oite h with ⟨hc27,h⟩ | ⟨hc27,h⟩
 ·refine cT hc27 ?_
  refine AW.skip ?_
  refine AW.seq ?_
  refine AW.block ?_
  refine AW.region ?_
  refine q h8 ?_
  refine q (J i22) ?_
  refine q (sl z2 f3 e4) ?_
  refine q (J i22) ?_
  obtain ⟨x28,h29,h⟩:=obind h
  obtain ⟨v32,h30,h31⟩:=idx_sl h5 h29
  cases h30
  refine AOps.pureR rfl rfl rfl h31 rfl (rfl:_=(eptr [(bool x28)] 0)) ?_
  refine lE (bool x28) ?_
  obtain ⟨x35,h36,h⟩:=obind h
  refine AOps.idxO (j:=0) hG26 rfl Sub.here h36 rfl rfl rfl rfl rfl rfl rfl rfl rfl ?_
  intro b33 hb34
  refine AOps.stO (j:=0) (q:=0) (v:=(bool x28)) (y':=x28) hH25 hG26 hl rfl Sub.here h36 hb34 rfl rfl rfl rfl rfl rfl rfl rfl (lt_b rfl) (le_b rfl) rfl (fun c B hc=>oLeaf_set hc rfl) ?_
  intro Ls37 s38 hG39 hH40
  refine nl ?_
  refine AW.inBlock ?_
  refine AW.region ?_
  refine q (J i22) ?_
  refine q (J (IntKind.wrap .i64 (i22+1))) ?_
  refine aq (J (IntKind.wrap .i64 (i22+1))) ?_
  refine nl ?_
  cases h
  exact AW.res [(0,(sl z2 f3 e4)),(3,h8),(4,(J (IntKind.wrap .i64 (i22+1))))] [] ⟨rfl,rfl,rfl,trivial⟩ trivial (hL1 _ rfl (s38,Ls37) _ _ ⟨hH40,hG39⟩)
 refine cF hc27 ?_
 refine AW.exit rfl ?_
 obtain ⟨r41,hm,hx⟩:=omap h
 clear h
 subst hx
 have hx:=hR1 _ rfl
 rw[hx] at hm
 have h:=hm
 exact AW.res [(3,h8)] [] ⟨rfl,trivial⟩ trivial (KJ20 (out21,s23,Ls24) _ _ ⟨hH25,hG26,h⟩)
theorem laws_toPushS_K0_ok {a1:List Push} {z2:Nat} {f3:Bool} {e4:List AV} {s:St} (h5:LR rPush 2 a1 z2 e4) {r:(List Push)} (h:laws_toPushS_K0 a1=some r) (hs:WF s):ACall Cf 70 [(sl z2 f3 e4)] s (fun v _ s'=>∃ (h1':AV) (k2':KT) (Ls':List (List BX)),v=h1'∧HS [] true s s' (([]:List BX)++Ls'.flatten)∧AllG [OS oE139 h1' k2' r] Ls'∧h1'.one=true) true:=by
 refine ACall.keepR rfl rfl rfl ?_
 have hH0:=HS.g0 (HS.initK hs)
 have hG0:=AllG.nil
 have hl:LoOK [] true s:=LoOK.nil
 unfold laws_toPushS_K0 at h
 refine sr ?_
 refine q (sl 0 true []) ?_
 refine ns ?_
 refine q (sl z2 f3 e4) ?_
 refine AOps.p rfl (len_eq h5) ?_
 obtain ⟨l6,h7,h⟩:=obind h
 refine AOps.mkO (e:=oE139) (x0:=((⟨0,0⟩:Push):Push)) (fun _=>AV.undef) hH0 hG0 rfl rfl rfl rfl rfl rfl rfl ⟨rfl,rfl,by decide⟩ h7 ⟨rfl,rfl⟩ (fun _=>⟨⟨(agg [(J 0),(J 0)]),⟨_,rfl,(.cons rfl (.cons rfl .nil))⟩,rfl⟩,rfl⟩) rfl ?_
 intro h8 k10 Ls11 s12 ho9 hG13 hH14
 refine aq h8 ?_
 refine nl ?_
 refine AW.seq ?_
 refine sr ?_
 refine q (J 0) ?_
 refine nl ?_
 refine AW.meet (σ:=(List Push) × St × (List (List BX))) (fun (out15,s16,Ls17) tm os=>⟨updL tm [(3,h8)],updL os [],s16⟩) (fun (out15,s16,Ls17)=>(HS [] true s s16 (([]:List BX)++Ls17.flatten))∧(AllG [OS oE139 h8 k10 out15] Ls17)∧laws_toPushS_K0_J1 out15=some r) ?_ ?_
 ·rintro ⟨out15,s16,Ls17⟩ tm os ⟨hH18,hG19,h⟩
  unfold laws_toPushS_K0_J1 at h
  refine sr ?_
  refine q h8 ?_
  refine aq h8 ?_
  refine nl ?_
  cases h
  exact AW.ret ⟨_,_,rfl,⟨h8,k10,Ls17,rfl,hH18,hG19,ho9⟩⟩
 intro KJ20
 refine AW.block ?_
 refine AW.res [(0,(sl z2 f3 e4)),(3,h8),(4,(J 0))] [] ⟨rfl,rfl,rfl,trivial⟩ trivial ?_
 refine AW.loopF (σ:=(List Push) × Int) (τ:=St × (List (List BX))) (fun (out21,i22) (s23,Ls24)=>(HS [] true s s23 (([]:List BX)++Ls24.flatten))∧(AllG [OS oE139 h8 k10 out21] Ls24)) (fun (out21,i22) (s23,Ls24) tm os=>⟨updL tm [(0,(sl z2 f3 e4)),(3,h8),(4,(J i22))],updL os [],s23⟩) ?_ (x:=(l6,0)) (y:=(s12,Ls11)) h ⟨hH14,hG13⟩
 clear h
 rintro ⟨out21,i22⟩ ⟨s23,Ls24⟩ tm os ⟨hH25,hG26⟩ ee1 h hL1 hR1
 unfold laws_toPushS_K0_S1 at h
 dsimp only at h
 refine AW.seq ?_
 refine sr ?_
 refine q (J i22) ?_
 refine q (sl z2 f3 e4) ?_
 refine AOps.p rfl (len_eq h5) ?_
 refine q (bool (decide ((i22:Int)<(a1.length:Int)))) ?_
 refine nl ?_
 rcases oite h with ⟨hc27,h⟩ | ⟨hc27,h⟩
 ·refine cT hc27 ?_
  refine AW.skip ?_
  refine AW.seq ?_
  refine AW.block ?_
  refine AW.region ?_
  refine q h8 ?_
  refine q (J i22) ?_
  refine q (sl z2 f3 e4) ?_
  refine q (J i22) ?_
  obtain ⟨x28,h29,h⟩:=obind h
  obtain ⟨v32,h30,h31⟩:=idx_sl h5 h29
  obtain ⟨_,rfl,h33⟩:=h30
  obtain ⟨_,_,rfl,h34,h35⟩:=Cs_cons h33
  cases h34
  obtain ⟨_,_,rfl,h36,h37⟩:=Cs_cons h35
  cases h36
  cases Cs_nil h37
  refine AOps.pureR rfl rfl rfl h31 rfl (rfl:_=(eptr [(J x28.To),(J x28.Put)] 0)) ?_
  refine lE (agg [(J x28.To),(J x28.Put)]) ?_
  obtain ⟨y38,h39,h⟩:=obind h
  refine cP (laws_toPush_ok  h39 (HS.wf' hH25)) ?_
  intro _ o46 h40
  obtain ⟨_,rfl,h41⟩:=h40
  obtain ⟨_,_,rfl,h42,h43⟩:=Cs_cons h41
  cases h42
  obtain ⟨_,_,rfl,h44,h45⟩:=Cs_cons h43
  cases h44
  cases Cs_nil h45
  obtain ⟨x49,h50,h⟩:=obind h
  refine AOps.idxO (j:=0) hG26 rfl Sub.here h50 rfl rfl rfl rfl rfl rfl rfl rfl rfl ?_
  intro b47 hb48
  refine AOps.stO (j:=0) (q:=0) (v:=(agg [(J y38.To),(J y38.Put)])) (y':=y38) hH25 hG26 hl rfl Sub.here h50 hb48 rfl rfl rfl rfl rfl rfl rfl rfl (lt_b rfl) (le_b rfl) rfl (fun c B hc=>oLeaf_set hc ⟨_,rfl,(.cons rfl (.cons rfl .nil))⟩) ?_
  intro Ls51 s52 hG53 hH54
  refine nl ?_
  refine AW.inBlock ?_
  refine AW.region ?_
  refine q (J i22) ?_
  refine q (J (IntKind.wrap .i64 (i22+1))) ?_
  refine aq (J (IntKind.wrap .i64 (i22+1))) ?_
  refine nl ?_
  cases h
  exact AW.res [(0,(sl z2 f3 e4)),(3,h8),(4,(J (IntKind.wrap .i64 (i22+1))))] [] ⟨rfl,rfl,rfl,trivial⟩ trivial (hL1 _ rfl (s52,Ls51) _ _ ⟨hH54,hG53⟩)
 refine cF hc27 ?_
 refine AW.exit rfl ?_
 obtain ⟨r55,hm,hx⟩:=omap h
 clear h
 subst hx
 have hx:=hR1 _ rfl
 rw[hx] at hm
 have h:=hm
 exact AW.res [(3,h8)] [] ⟨rfl,trivial⟩ trivial (KJ20 (out21,s23,Ls24) _ _ ⟨hH25,hG26,h⟩)
theorem laws_toPushSS_K0_ok {a1:List (List Push)} {z2:Nat} {f3:Bool} {e4:List AV} {s:St} (h5:LR (rL rPush 2) 1 a1 z2 e4) {r:(List (List Push))} (h:laws_toPushSS_K0 a1=some r) (hs:WF s):ACall Cf 41 [(sl z2 f3 e4)] s (fun v _ s'=>∃ (h1':AV) (k2':KT) (Ls':List (List BX)),v=h1'∧HS [] true s s' (([]:List BX)++Ls'.flatten)∧AllG [OS oE119 h1' k2' r] Ls'∧h1'.one=true) true:=by
 refine ACall.keepR rfl rfl rfl ?_
 have hH0:=HS.g0 (HS.initK hs)
 have hG0:=AllG.nil
 have hl:LoOK [] true s:=LoOK.nil
 unfold laws_toPushSS_K0 at h
 refine sr ?_
 refine q (sl 0 true []) ?_
 refine ns ?_
 refine q (sl z2 f3 e4) ?_
 refine AOps.p rfl (len_eq h5) ?_
 obtain ⟨l6,h7,h⟩:=obind h
 refine AOps.mkO (e:=oE119) (x0:=(([]:List Push):List Push)) (fun _=>sl 0 true []) hH0 hG0 rfl rfl rfl rfl rfl rfl rfl ⟨rfl,rfl,by decide⟩ h7 ⟨rfl,rfl⟩ (fun _=>⟨rfl,OS.nil (Or.inr rfl)⟩) rfl ?_
 intro h8 k10 Ls11 s12 ho9 hG13 hH14
 refine aq h8 ?_
 refine nl ?_
 refine AW.seq ?_
 refine sr ?_
 refine q (J 0) ?_
 refine nl ?_
 refine AW.meet (σ:=(List (List Push)) × KT × St × (List (List BX))) (fun (out15,k16,s17,Ls18) tm os=>⟨updL tm [(3,h8)],updL os [],s17⟩) (fun (out15,k16,s17,Ls18)=>(HS [] true s s17 (([]:List BX)++Ls18.flatten))∧(AllG [OS oE119 h8 k16 out15] Ls18)∧laws_toPushSS_K0_J1 out15=some r) ?_ ?_
 ·rintro ⟨out15,k16,s17,Ls18⟩ tm os ⟨hH19,hG20,h⟩
  unfold laws_toPushSS_K0_J1 at h
  refine sr ?_
  refine q h8 ?_
  refine aq h8 ?_
  refine nl ?_
  cases h
  exact AW.ret ⟨_,_,rfl,⟨h8,k16,Ls18,rfl,hH19,hG20,ho9⟩⟩
 intro KJ21
 refine AW.block ?_
 refine AW.res [(0,(sl z2 f3 e4)),(3,h8),(4,(J 0))] [] ⟨rfl,rfl,rfl,trivial⟩ trivial ?_
 refine AW.loopF (σ:=(List (List Push)) × Int) (τ:=KT × St × (List (List BX))) (fun (out22,i24) (k23,s25,Ls26)=>(HS [] true s s25 (([]:List BX)++Ls26.flatten))∧(AllG [OS oE119 h8 k23 out22] Ls26)) (fun (out22,i24) (k23,s25,Ls26) tm os=>⟨updL tm [(0,(sl z2 f3 e4)),(3,h8),(4,(J i24))],updL os [],s25⟩) ?_ (x:=(l6,0)) (y:=(k10,s12,Ls11)) h ⟨hH14,hG13⟩
 clear h
 rintro ⟨out22,i24⟩ ⟨k23,s25,Ls26⟩ tm os ⟨hH27,hG28⟩ ee1 h hL1 hR1
 unfold laws_toPushSS_K0_S1 at h
 dsimp only at h
 refine AW.seq ?_
 refine sr ?_
 refine q (J i24) ?_
 refine q (sl z2 f3 e4) ?_
 refine AOps.p rfl (len_eq h5) ?_
 refine q (bool (decide ((i24:Int)<(a1.length:Int)))) ?_
 refine nl ?_
 rcases oite h with ⟨hc29,h⟩ | ⟨hc29,h⟩
 ·refine cT hc29 ?_
  refine AW.skip ?_
  refine AW.seq ?_
  refine AW.block ?_
  refine AW.region ?_
  refine q h8 ?_
  refine q (J i24) ?_
  refine q (sl z2 f3 e4) ?_
  refine q (J i24) ?_
  obtain ⟨x30,h31,h⟩:=obind h
  obtain ⟨v34,h32,h33⟩:=idx_sl h5 h31
  obtain ⟨z35,f36,e37,rfl,h38⟩:=h32
  refine AOps.pureR rfl rfl rfl h33 rfl (rfl:_=(eptr [(sl z35 f36 e37)] 0)) ?_
  refine lE (sl z35 f36 e37) ?_
  obtain ⟨y39,h40,h⟩:=obind h
  have hP44:=HS.pop0 hH27
  refine AOps.callF (al:=true) (g:=70) (args:=[(sl z35 f36 e37)]) rfl rfl rfl (laws_toPushS_K0_ok h38  h40 (HS.wf' hH27)) ?_
  rintro h41 _ s45 ⟨_,k42,Ls47,rfl,hH48,hG49,ho43⟩
  have hJ50:=HS.joinK1 hP44 hH48
  obtain ⟨Ls51,Lf52,hG53,hF54,hP55⟩:=HS.pushN hJ50 hG28 hG49
  cases hF54
  have hH56:=HS.push0 hP55
  obtain ⟨x59,h60,h⟩:=obind h
  refine AOps.idxO (j:=1) hG53 rfl Sub.here h60 rfl rfl rfl rfl rfl rfl rfl rfl rfl ?_
  intro b57 hb58
  refine AOps.stH (j:=1) (j2:=0) (q:=0) (y':=y39) hH56 hG53 hl rfl rfl (by decide) h60 hb58 rfl rfl rfl rfl rfl rfl rfl (le_b rfl) rfl (fun ρ=>match ρ with | []=>h41 | a::ρ=>k42 (a::ρ)) (fun c B L2 hc hO=>by obtain ⟨rfl,_⟩:=hc; exact OS.own hO) ?_
  intro k61 Ls62 s63 hG64 hH65
  refine nl ?_
  refine AW.inBlock ?_
  refine AW.region ?_
  refine q (J i24) ?_
  refine q (J (IntKind.wrap .i64 (i24+1))) ?_
  refine aq (J (IntKind.wrap .i64 (i24+1))) ?_
  refine nl ?_
  cases h
  obtain ⟨Ls66,hG67,hH68⟩:=HS.selEG hH65 hG64 [] [some 1]
  exact AW.res [(0,(sl z2 f3 e4)),(3,h8),(4,(J (IntKind.wrap .i64 (i24+1))))] [] ⟨rfl,rfl,rfl,trivial⟩ trivial (hL1 _ rfl (k61,s63,Ls66) _ _ ⟨hH68,hG67⟩)
 refine cF hc29 ?_
 refine AW.exit rfl ?_
 obtain ⟨r69,hm,hx⟩:=omap h
 clear h
 subst hx
 have hx:=hR1 _ rfl
 rw[hx] at hm
 have h:=hm
 exact AW.res [(3,h8)] [] ⟨rfl,trivial⟩ trivial (KJ21 (out22,k23,s25,Ls26) _ _ ⟨hH27,hG28,h⟩)
theorem laws_toInt64S_K0_ok {a1:List Int} {z2:Nat} {f3:Bool} {e4:List AV} {s:St} (h5:LR rJ 1 a1 z2 e4) {r:(List Int)} (h:laws_toInt64S_K0 a1=some r) (hs:WF s):ACall Cf 71 [(sl z2 f3 e4)] s (fun v _ s'=>∃ (h1':AV) (k2':KT) (Ls':List (List BX)),v=h1'∧HS [] true s s' (([]:List BX)++Ls'.flatten)∧AllG [OS oE2 h1' k2' r] Ls'∧h1'.one=true) true:=by
 refine ACall.keepR rfl rfl rfl ?_
 have hH0:=HS.g0 (HS.initK hs)
 have hG0:=AllG.nil
 have hl:LoOK [] true s:=LoOK.nil
 unfold laws_toInt64S_K0 at h
 refine sr ?_
 refine q (sl 0 true []) ?_
 refine ns ?_
 refine q (sl z2 f3 e4) ?_
 refine AOps.p rfl (len_eq h5) ?_
 obtain ⟨l6,h7,h⟩:=obind h
 refine AOps.mkO (e:=oE2) (x0:=(0:Int)) (fun _=>AV.undef) hH0 hG0 rfl rfl rfl rfl rfl rfl rfl ⟨rfl,rfl,by decide⟩ h7 ⟨rfl,rfl⟩ (fun _=>⟨⟨(J 0),rfl,rfl⟩,rfl⟩) rfl ?_
 intro h8 k10 Ls11 s12 ho9 hG13 hH14
 refine aq h8 ?_
 refine nl ?_
 refine AW.seq ?_
 refine sr ?_
 refine q (J 0) ?_
 refine nl ?_
 refine AW.meet (σ:=(List Int) × St × (List (List BX))) (fun (out15,s16,Ls17) tm os=>⟨updL tm [(3,h8)],updL os [],s16⟩) (fun (out15,s16,Ls17)=>(HS [] true s s16 (([]:List BX)++Ls17.flatten))∧(AllG [OS oE2 h8 k10 out15] Ls17)∧laws_toInt64S_K0_J1 out15=some r) ?_ ?_
 ·rintro ⟨out15,s16,Ls17⟩ tm os ⟨hH18,hG19,h⟩
  unfold laws_toInt64S_K0_J1 at h
  refine sr ?_
  refine q h8 ?_
  refine aq h8 ?_
  refine nl ?_
  cases h
  exact AW.ret ⟨_,_,rfl,⟨h8,k10,Ls17,rfl,hH18,hG19,ho9⟩⟩
 intro KJ20
 refine AW.block ?_
 refine AW.res [(0,(sl z2 f3 e4)),(3,h8),(4,(J 0))] [] ⟨rfl,rfl,rfl,trivial⟩ trivial ?_
 refine AW.loopF (σ:=(List Int) × Int) (τ:=St × (List (List BX))) (fun (out21,i22) (s23,Ls24)=>(HS [] true s s23 (([]:List BX)++Ls24.flatten))∧(AllG [OS oE2 h8 k10 out21] Ls24)) (fun (out21,i22) (s23,Ls24) tm os=>⟨updL tm [(0,(sl z2 f3 e4)),(3,h8),(4,(J i22))],updL os [],s23⟩) ?_ (x:=(l6,0)) (y:=(s12,Ls11)) h ⟨hH14,hG13⟩
 clear h
 rintro ⟨out21,i22⟩ ⟨s23,Ls24⟩ tm os ⟨hH25,hG26⟩ ee1 h hL1 hR1
 unfold laws_toInt64S_K0_S1 at h
 dsimp only at h
 refine AW.seq ?_
 refine sr ?_
 refine q (J i22) ?_
 refine q (sl z2 f3 e4) ?_
 refine AOps.p rfl (len_eq h5) ?_
 refine q (bool (decide ((i22:Int)<(a1.length:Int)))) ?_
 refine nl ?_
 rcases oite h with ⟨hc27,h⟩ | ⟨hc27,h⟩
 ·refine cT hc27 ?_
  refine AW.skip ?_
  refine AW.seq ?_
  refine AW.block ?_
  refine AW.region ?_
  refine q h8 ?_
  refine q (J i22) ?_
  refine q (sl z2 f3 e4) ?_
  refine q (J i22) ?_
  obtain ⟨x28,h29,h⟩:=obind h
  obtain ⟨v32,h30,h31⟩:=idx_sl h5 h29
  cases h30
  refine AOps.pureR rfl rfl rfl h31 rfl (rfl:_=(eptr [(J x28)] 0)) ?_
  refine lE (J x28) ?_
  obtain ⟨x35,h36,h⟩:=obind h
  refine AOps.idxO (j:=0) hG26 rfl Sub.here h36 rfl rfl rfl rfl rfl rfl rfl rfl rfl ?_
  intro b33 hb34
  refine AOps.stO (j:=0) (q:=0) (v:=(J x28)) (y':=x28) hH25 hG26 hl rfl Sub.here h36 hb34 rfl rfl rfl rfl rfl rfl rfl rfl (lt_b rfl) (le_b rfl) rfl (fun c B hc=>oLeaf_set hc rfl) ?_
  intro Ls37 s38 hG39 hH40
  refine nl ?_
  refine AW.inBlock ?_
  refine AW.region ?_
  refine q (J i22) ?_
  refine q (J (IntKind.wrap .i64 (i22+1))) ?_
  refine aq (J (IntKind.wrap .i64 (i22+1))) ?_
  refine nl ?_
  cases h
  exact AW.res [(0,(sl z2 f3 e4)),(3,h8),(4,(J (IntKind.wrap .i64 (i22+1))))] [] ⟨rfl,rfl,rfl,trivial⟩ trivial (hL1 _ rfl (s38,Ls37) _ _ ⟨hH40,hG39⟩)
 refine cF hc27 ?_
 refine AW.exit rfl ?_
 obtain ⟨r41,hm,hx⟩:=omap h
 clear h
 subst hx
 have hx:=hR1 _ rfl
 rw[hx] at hm
 have h:=hm
 exact AW.res [(3,h8)] [] ⟨rfl,trivial⟩ trivial (KJ20 (out21,s23,Ls24) _ _ ⟨hH25,hG26,h⟩)
theorem laws_toInt64SS_K0_ok {a1:List (List Int)} {z2:Nat} {f3:Bool} {e4:List AV} {s:St} (h5:LR (rL rJ 1) 1 a1 z2 e4) {r:(List (List Int))} (h:laws_toInt64SS_K0 a1=some r) (hs:WF s):ACall Cf 43 [(sl z2 f3 e4)] s (fun v _ s'=>∃ (h1':AV) (k2':KT) (Ls':List (List BX)),v=h1'∧HS [] true s s' (([]:List BX)++Ls'.flatten)∧AllG [OS oE54 h1' k2' r] Ls'∧h1'.one=true) true:=by
 refine ACall.keepR rfl rfl rfl ?_
 have hH0:=HS.g0 (HS.initK hs)
 have hG0:=AllG.nil
 have hl:LoOK [] true s:=LoOK.nil
 unfold laws_toInt64SS_K0 at h
 refine sr ?_
 refine q (sl 0 true []) ?_
 refine ns ?_
 refine q (sl z2 f3 e4) ?_
 refine AOps.p rfl (len_eq h5) ?_
 obtain ⟨l6,h7,h⟩:=obind h
 refine AOps.mkO (e:=oE54) (x0:=(([]:List Int):List Int)) (fun _=>sl 0 true []) hH0 hG0 rfl rfl rfl rfl rfl rfl rfl ⟨rfl,rfl,by decide⟩ h7 ⟨rfl,rfl⟩ (fun _=>⟨rfl,OS.nil (Or.inr rfl)⟩) rfl ?_
 intro h8 k10 Ls11 s12 ho9 hG13 hH14
 refine aq h8 ?_
 refine nl ?_
 refine AW.seq ?_
 refine sr ?_
 refine q (J 0) ?_
 refine nl ?_
 refine AW.meet (σ:=(List (List Int)) × KT × St × (List (List BX))) (fun (out15,k16,s17,Ls18) tm os=>⟨updL tm [(3,h8)],updL os [],s17⟩) (fun (out15,k16,s17,Ls18)=>(HS [] true s s17 (([]:List BX)++Ls18.flatten))∧(AllG [OS oE54 h8 k16 out15] Ls18)∧laws_toInt64SS_K0_J1 out15=some r) ?_ ?_
 ·rintro ⟨out15,k16,s17,Ls18⟩ tm os ⟨hH19,hG20,h⟩
  unfold laws_toInt64SS_K0_J1 at h
  refine sr ?_
  refine q h8 ?_
  refine aq h8 ?_
  refine nl ?_
  cases h
  exact AW.ret ⟨_,_,rfl,⟨h8,k16,Ls18,rfl,hH19,hG20,ho9⟩⟩
 intro KJ21
 refine AW.block ?_
 refine AW.res [(0,(sl z2 f3 e4)),(3,h8),(4,(J 0))] [] ⟨rfl,rfl,rfl,trivial⟩ trivial ?_
 refine AW.loopF (σ:=(List (List Int)) × Int) (τ:=KT × St × (List (List BX))) (fun (out22,i24) (k23,s25,Ls26)=>(HS [] true s s25 (([]:List BX)++Ls26.flatten))∧(AllG [OS oE54 h8 k23 out22] Ls26)) (fun (out22,i24) (k23,s25,Ls26) tm os=>⟨updL tm [(0,(sl z2 f3 e4)),(3,h8),(4,(J i24))],updL os [],s25⟩) ?_ (x:=(l6,0)) (y:=(k10,s12,Ls11)) h ⟨hH14,hG13⟩
 clear h
 rintro ⟨out22,i24⟩ ⟨k23,s25,Ls26⟩ tm os ⟨hH27,hG28⟩ ee1 h hL1 hR1
 unfold laws_toInt64SS_K0_S1 at h
 dsimp only at h
 refine AW.seq ?_
 refine sr ?_
 refine q (J i24) ?_
 refine q (sl z2 f3 e4) ?_
 refine AOps.p rfl (len_eq h5) ?_
 refine q (bool (decide ((i24:Int)<(a1.length:Int)))) ?_
 refine nl ?_
 rcases oite h with ⟨hc29,h⟩ | ⟨hc29,h⟩
 ·refine cT hc29 ?_
  refine AW.skip ?_
  refine AW.seq ?_
  refine AW.block ?_
  refine AW.region ?_
  refine q h8 ?_
  refine q (J i24) ?_
  refine q (sl z2 f3 e4) ?_
  refine q (J i24) ?_
  obtain ⟨x30,h31,h⟩:=obind h
  obtain ⟨v34,h32,h33⟩:=idx_sl h5 h31
  obtain ⟨z35,f36,e37,rfl,h38⟩:=h32
  refine AOps.pureR rfl rfl rfl h33 rfl (rfl:_=(eptr [(sl z35 f36 e37)] 0)) ?_
  refine lE (sl z35 f36 e37) ?_
  obtain ⟨y39,h40,h⟩:=obind h
  have hP44:=HS.pop0 hH27
  refine AOps.callF (al:=true) (g:=71) (args:=[(sl z35 f36 e37)]) rfl rfl rfl (laws_toInt64S_K0_ok h38  h40 (HS.wf' hH27)) ?_
  rintro h41 _ s45 ⟨_,k42,Ls47,rfl,hH48,hG49,ho43⟩
  have hJ50:=HS.joinK1 hP44 hH48
  obtain ⟨Ls51,Lf52,hG53,hF54,hP55⟩:=HS.pushN hJ50 hG28 hG49
  cases hF54
  have hH56:=HS.push0 hP55
  obtain ⟨x59,h60,h⟩:=obind h
  refine AOps.idxO (j:=1) hG53 rfl Sub.here h60 rfl rfl rfl rfl rfl rfl rfl rfl rfl ?_
  intro b57 hb58
  refine AOps.stH (j:=1) (j2:=0) (q:=0) (y':=y39) hH56 hG53 hl rfl rfl (by decide) h60 hb58 rfl rfl rfl rfl rfl rfl rfl (le_b rfl) rfl (fun ρ=>match ρ with | []=>h41 | a::ρ=>k42 (a::ρ)) (fun c B L2 hc hO=>by obtain ⟨rfl,_⟩:=hc; exact OS.own hO) ?_
  intro k61 Ls62 s63 hG64 hH65
  refine nl ?_
  refine AW.inBlock ?_
  refine AW.region ?_
  refine q (J i24) ?_
  refine q (J (IntKind.wrap .i64 (i24+1))) ?_
  refine aq (J (IntKind.wrap .i64 (i24+1))) ?_
  refine nl ?_
  cases h
  obtain ⟨Ls66,hG67,hH68⟩:=HS.selEG hH65 hG64 [] [some 1]
  exact AW.res [(0,(sl z2 f3 e4)),(3,h8),(4,(J (IntKind.wrap .i64 (i24+1))))] [] ⟨rfl,rfl,rfl,trivial⟩ trivial (hL1 _ rfl (k61,s63,Ls66) _ _ ⟨hH68,hG67⟩)
 refine cF hc29 ?_
 refine AW.exit rfl ?_
 obtain ⟨r69,hm,hx⟩:=omap h
 clear h
 subst hx
 have hx:=hR1 _ rfl
 rw[hx] at hm
 have h:=hm
 exact AW.res [(3,h8)] [] ⟨rfl,trivial⟩ trivial (KJ21 (out22,k23,s25,Ls26) _ _ ⟨hH27,hG28,h⟩)
theorem laws_toInt64SSS_K0_ok {a1:List (List (List Int))} {z2:Nat} {f3:Bool} {e4:List AV} {s:St} (h5:LR (rL (rL rJ 1) 1) 1 a1 z2 e4) {r:(List (List (List Int)))} (h:laws_toInt64SSS_K0 a1=some r) (hs:WF s):ACall Cf 42 [(sl z2 f3 e4)] s (fun v _ s'=>∃ (h1':AV) (k2':KT) (Ls':List (List BX)),v=h1'∧HS [] true s s' (([]:List BX)++Ls'.flatten)∧AllG [OS oE25 h1' k2' r] Ls'∧h1'.one=true) true:=by
 refine ACall.keepR rfl rfl rfl ?_
 have hH0:=HS.g0 (HS.initK hs)
 have hG0:=AllG.nil
 have hl:LoOK [] true s:=LoOK.nil
 unfold laws_toInt64SSS_K0 at h
 refine sr ?_
 refine q (sl 0 true []) ?_
 refine ns ?_
 refine q (sl z2 f3 e4) ?_
 refine AOps.p rfl (len_eq h5) ?_
 obtain ⟨l6,h7,h⟩:=obind h
 refine AOps.mkO (e:=oE25) (x0:=(([]:List (List Int)):List (List Int))) (fun _=>sl 0 true []) hH0 hG0 rfl rfl rfl rfl rfl rfl rfl ⟨rfl,rfl,by decide⟩ h7 ⟨rfl,rfl⟩ (fun _=>⟨rfl,OS.nil (Or.inr rfl)⟩) rfl ?_
 intro h8 k10 Ls11 s12 ho9 hG13 hH14
 refine aq h8 ?_
 refine nl ?_
 refine AW.seq ?_
 refine sr ?_
 refine q (J 0) ?_
 refine nl ?_
 refine AW.meet (σ:=(List (List (List Int))) × KT × St × (List (List BX))) (fun (out15,k16,s17,Ls18) tm os=>⟨updL tm [(3,h8)],updL os [],s17⟩) (fun (out15,k16,s17,Ls18)=>(HS [] true s s17 (([]:List BX)++Ls18.flatten))∧(AllG [OS oE25 h8 k16 out15] Ls18)∧laws_toInt64SSS_K0_J1 out15=some r) ?_ ?_
 ·rintro ⟨out15,k16,s17,Ls18⟩ tm os ⟨hH19,hG20,h⟩
  unfold laws_toInt64SSS_K0_J1 at h
  refine sr ?_
  refine q h8 ?_
  refine aq h8 ?_
  refine nl ?_
  cases h
  exact AW.ret ⟨_,_,rfl,⟨h8,k16,Ls18,rfl,hH19,hG20,ho9⟩⟩
 intro KJ21
 refine AW.block ?_
 refine AW.res [(0,(sl z2 f3 e4)),(3,h8),(4,(J 0))] [] ⟨rfl,rfl,rfl,trivial⟩ trivial ?_
 refine AW.loopF (σ:=(List (List (List Int))) × Int) (τ:=KT × St × (List (List BX))) (fun (out22,i24) (k23,s25,Ls26)=>(HS [] true s s25 (([]:List BX)++Ls26.flatten))∧(AllG [OS oE25 h8 k23 out22] Ls26)) (fun (out22,i24) (k23,s25,Ls26) tm os=>⟨updL tm [(0,(sl z2 f3 e4)),(3,h8),(4,(J i24))],updL os [],s25⟩) ?_ (x:=(l6,0)) (y:=(k10,s12,Ls11)) h ⟨hH14,hG13⟩
 clear h
 rintro ⟨out22,i24⟩ ⟨k23,s25,Ls26⟩ tm os ⟨hH27,hG28⟩ ee1 h hL1 hR1
 unfold laws_toInt64SSS_K0_S1 at h
 dsimp only at h
 refine AW.seq ?_
 refine sr ?_
 refine q (J i24) ?_
 refine q (sl z2 f3 e4) ?_
 refine AOps.p rfl (len_eq h5) ?_
 refine q (bool (decide ((i24:Int)<(a1.length:Int)))) ?_
 refine nl ?_
 rcases oite h with ⟨hc29,h⟩ | ⟨hc29,h⟩
 ·refine cT hc29 ?_
  refine AW.skip ?_
  refine AW.seq ?_
  refine AW.block ?_
  refine AW.region ?_
  refine q h8 ?_
  refine q (J i24) ?_
  refine q (sl z2 f3 e4) ?_
  refine q (J i24) ?_
  obtain ⟨x30,h31,h⟩:=obind h
  obtain ⟨v34,h32,h33⟩:=idx_sl h5 h31
  obtain ⟨z35,f36,e37,rfl,h38⟩:=h32
  refine AOps.pureR rfl rfl rfl h33 rfl (rfl:_=(eptr [(sl z35 f36 e37)] 0)) ?_
  refine lE (sl z35 f36 e37) ?_
  obtain ⟨y39,h40,h⟩:=obind h
  have hP44:=HS.pop0 hH27
  refine AOps.callF (al:=true) (g:=43) (args:=[(sl z35 f36 e37)]) rfl rfl rfl (laws_toInt64SS_K0_ok h38  h40 (HS.wf' hH27)) ?_
  rintro h41 _ s45 ⟨_,k42,Ls47,rfl,hH48,hG49,ho43⟩
  have hJ50:=HS.joinK1 hP44 hH48
  obtain ⟨Ls51,Lf52,hG53,hF54,hP55⟩:=HS.pushN hJ50 hG28 hG49
  cases hF54
  have hH56:=HS.push0 hP55
  obtain ⟨x59,h60,h⟩:=obind h
  refine AOps.idxO (j:=1) hG53 rfl Sub.here h60 rfl rfl rfl rfl rfl rfl rfl rfl rfl ?_
  intro b57 hb58
  refine AOps.stH (j:=1) (j2:=0) (q:=0) (y':=y39) hH56 hG53 hl rfl rfl (by decide) h60 hb58 rfl rfl rfl rfl rfl rfl rfl (le_b rfl) rfl (fun ρ=>match ρ with | []=>h41 | a::ρ=>k42 (a::ρ)) (fun c B L2 hc hO=>by obtain ⟨rfl,_⟩:=hc; exact OS.own hO) ?_
  intro k61 Ls62 s63 hG64 hH65
  refine nl ?_
  refine AW.inBlock ?_
  refine AW.region ?_
  refine q (J i24) ?_
  refine q (J (IntKind.wrap .i64 (i24+1))) ?_
  refine aq (J (IntKind.wrap .i64 (i24+1))) ?_
  refine nl ?_
  cases h
  obtain ⟨Ls66,hG67,hH68⟩:=HS.selEG hH65 hG64 [] [some 1]
  exact AW.res [(0,(sl z2 f3 e4)),(3,h8),(4,(J (IntKind.wrap .i64 (i24+1))))] [] ⟨rfl,rfl,rfl,trivial⟩ trivial (hL1 _ rfl (k61,s63,Ls66) _ _ ⟨hH68,hG67⟩)
 refine cF hc29 ?_
 refine AW.exit rfl ?_
 obtain ⟨r69,hm,hx⟩:=omap h
 clear h
 subst hx
 have hx:=hR1 _ rfl
 rw[hx] at hm
 have h:=hm
 exact AW.res [(3,h8)] [] ⟨rfl,trivial⟩ trivial (KJ21 (out22,k23,s25,Ls26) _ _ ⟨hH27,hG28,h⟩)
theorem laws_toChecker_K0_ok {a1:Checker} {z2 z6 z10 z14:Nat} {f3 f7 f11 f15:Bool} {e4 e8 e12 e16:List AV} {s:St} (h5:LR rB 1 a1.Accept z2 e4) (h9:LR (rL rPush 2) 1 a1.Call z6 e8) (h13:LR (rL (rL rJ 1) 1) 1 a1.Return z10 e12) (h17:LR (rL rJ 1) 1 a1.Inner z14 e16) {r:Checker} (h:laws_toChecker_K0 a1=some r) (hs:WF s):ACall Cf 20 [(agg [(J a1.Stack),(J a1.Start),(sl z2 f3 e4),(sl z6 f7 e8),(sl z10 f11 e12),(sl z14 f15 e16)])] s (fun v _ s'=>∃ (h1':AV) (k2':KT) (h4':AV) (k5':KT) (h7':AV) (k8':KT) (h10':AV) (k11':KT) (Ls':List (List BX)),v=(agg [(J r.Stack),(J r.Start),h1',h4',h7',h10'])∧HS [] true s s' (([]:List BX)++Ls'.flatten)∧AllG [OS oE4 h1' k2' r.Accept,OS oE119 h4' k5' r.Call,OS oE25 h7' k8' r.Return,OS oE54 h10' k11' r.Inner] Ls'∧h1'.one=true∧h4'.one=true∧h7'.one=true∧h10'.one=true) true:=by
 refine ACall.keepR rfl rfl rfl ?_
 have hH0:=HS.g0 (HS.initK hs)
 have hG0:=AllG.nil
 have hl:LoOK [] true s:=LoOK.nil
 unfold laws_toChecker_K0 at h
 refine sr ?_
 refine AOps.makeR rfl rfl rfl rfl rfl rfl (rfl:_=(eptr [(J a1.Stack),(J a1.Start),(sl z2 f3 e4),(sl z6 f7 e8),(sl z10 f11 e12),(sl z14 f15 e16)] 0)) ?_
 refine AOps.allocP rfl rfl rfl rfl ⟨rfl,rfl⟩ rfl ?_
 refine ns ?_
 refine AOps.alloc1 hH0 rfl rfl rfl rfl rfl rfl ?_
 intro b18 s19 hH20
 change HS [] true s s19 (([⟨some b18,[(J 0),(J 0),(sl 0 true []),(sl 0 true []),(sl 0 true []),(sl 0 true [])],(fun _=>false)⟩]:List BX)++List.flatten ([]:List (List BX))) at hH20
 refine ns ?_
 refine q (eptr [(J a1.Stack),(J a1.Start),(sl z2 f3 e4),(sl z6 f7 e8),(sl z10 f11 e12),(sl z14 f15 e16)] 0) ?_
 refine lE (J a1.Stack) ?_
 refine q (ptr b18 0) ?_
 refine AOps.stE (i:=0) (v:=(J a1.Stack)) hH20 hl rfl rfl rfl rfl rfl rfl rfl rfl rfl (lt_b rfl) (le_b rfl) rfl ?_
 intro w21 s22 h23 h24 hH25
 change HS [] true s s22 (([⟨some b18,[(J a1.Stack),(J 0),(sl 0 true []),(sl 0 true []),(sl 0 true []),(sl 0 true [])],w21⟩]:List BX)++List.flatten ([]:List (List BX))) at hH25
 refine ns ?_
 refine q (eptr [(J a1.Stack),(J a1.Start),(sl z2 f3 e4),(sl z6 f7 e8),(sl z10 f11 e12),(sl z14 f15 e16)] 1) ?_
 refine lE (J a1.Start) ?_
 refine q (ptr b18 1) ?_
 refine AOps.stE (i:=0) (v:=(J a1.Start)) hH25 hl rfl rfl rfl rfl rfl rfl rfl rfl rfl (lt_b rfl) (le_b rfl) rfl ?_
 intro w26 s27 h28 h29 hH30
 change HS [] true s s27 (([⟨some b18,[(J a1.Stack),(J a1.Start),(sl 0 true []),(sl 0 true []),(sl 0 true []),(sl 0 true [])],w26⟩]:List BX)++List.flatten ([]:List (List BX))) at hH30
 refine ns ?_
 refine q (eptr [(J a1.Stack),(J a1.Start),(sl z2 f3 e4),(sl z6 f7 e8),(sl z10 f11 e12),(sl z14 f15 e16)] 2) ?_
 refine lE (sl z2 f3 e4) ?_
 obtain ⟨y31,h32,h⟩:=obind h
 have hP36:=HS.pop0 hH30
 refine AOps.callF (al:=true) (g:=40) (args:=[(sl z2 f3 e4)]) rfl rfl rfl (laws_toBoolS_K0_ok h5  h32 (HS.wf' hH30)) ?_
 rintro h33 _ s37 ⟨_,k34,Ls39,rfl,hH40,hG41,ho35⟩
 have hJ42:=HS.joinK1 hP36 hH40
 obtain ⟨Ls43,Lf44,hG45,hF46,hP47⟩:=HS.pushN hJ42 hG0 hG41
 cases hF46
 have hH48:=HS.push0 hP47
 change HS [] true s s37 (([⟨some b18,[(J a1.Stack),(J a1.Start),(sl 0 true []),(sl 0 true []),(sl 0 true []),(sl 0 true [])],w26⟩]:List BX)++Ls43.flatten) at hH48
 change AllG [OS oE4 h33 k34 y31] Ls43 at hG45
 refine q (ptr b18 2) ?_
 refine AOps.stE (i:=0) (v:=h33) hH48 hl rfl rfl rfl rfl rfl rfl rfl (one_lay ho35) (one_len ho35) (lt_b rfl) (le_b rfl) rfl ?_
 intro w49 s50 h51 h52 hH53
 rw[AV.cells_one ho35] at hH53
 change HS [] true s s50 (([⟨some b18,[(J a1.Stack),(J a1.Start),h33,(sl 0 true []),(sl 0 true []),(sl 0 true [])],w49⟩]:List BX)++Ls43.flatten) at hH53
 refine ns ?_
 refine q (eptr [(J a1.Stack),(J a1.Start),(sl z2 f3 e4),(sl z6 f7 e8),(sl z10 f11 e12),(sl z14 f15 e16)] 3) ?_
 refine lE (sl z6 f7 e8) ?_
 obtain ⟨y54,h55,h⟩:=obind h
 have hP59:=HS.pop0 hH53
 refine AOps.callF (al:=true) (g:=41) (args:=[(sl z6 f7 e8)]) rfl rfl rfl (laws_toPushSS_K0_ok h9  h55 (HS.wf' hH53)) ?_
 rintro h56 _ s60 ⟨_,k57,Ls62,rfl,hH63,hG64,ho58⟩
 have hJ65:=HS.joinK1 hP59 hH63
 obtain ⟨Ls66,Lf67,hG68,hF69,hP70⟩:=HS.pushN hJ65 hG45 hG64
 cases hF69
 have hH71:=HS.push0 hP70
 change HS [] true s s60 (([⟨some b18,[(J a1.Stack),(J a1.Start),h33,(sl 0 true []),(sl 0 true []),(sl 0 true [])],w49⟩]:List BX)++Ls66.flatten) at hH71
 change AllG [OS oE119 h56 k57 y54,OS oE4 h33 k34 y31] Ls66 at hG68
 refine q (ptr b18 3) ?_
 refine AOps.stE (i:=0) (v:=h56) hH71 hl rfl rfl rfl rfl rfl rfl rfl (one_lay ho58) (one_len ho58) (lt_b rfl) (le_b rfl) rfl ?_
 intro w72 s73 h74 h75 hH76
 rw[AV.cells_one ho58] at hH76
 change HS [] true s s73 (([⟨some b18,[(J a1.Stack),(J a1.Start),h33,h56,(sl 0 true []),(sl 0 true [])],w72⟩]:List BX)++Ls66.flatten) at hH76
 refine ns ?_
 refine q (eptr [(J a1.Stack),(J a1.Start),(sl z2 f3 e4),(sl z6 f7 e8),(sl z10 f11 e12),(sl z14 f15 e16)] 4) ?_
 refine lE (sl z10 f11 e12) ?_
 obtain ⟨y77,h78,h⟩:=obind h
 have hP82:=HS.pop0 hH76
 refine AOps.callF (al:=true) (g:=42) (args:=[(sl z10 f11 e12)]) rfl rfl rfl (laws_toInt64SSS_K0_ok h13  h78 (HS.wf' hH76)) ?_
 rintro h79 _ s83 ⟨_,k80,Ls85,rfl,hH86,hG87,ho81⟩
 have hJ88:=HS.joinK1 hP82 hH86
 obtain ⟨Ls89,Lf90,hG91,hF92,hP93⟩:=HS.pushN hJ88 hG68 hG87
 cases hF92
 have hH94:=HS.push0 hP93
 change HS [] true s s83 (([⟨some b18,[(J a1.Stack),(J a1.Start),h33,h56,(sl 0 true []),(sl 0 true [])],w72⟩]:List BX)++Ls89.flatten) at hH94
 change AllG [OS oE25 h79 k80 y77,OS oE119 h56 k57 y54,OS oE4 h33 k34 y31] Ls89 at hG91
 refine q (ptr b18 4) ?_
 refine AOps.stE (i:=0) (v:=h79) hH94 hl rfl rfl rfl rfl rfl rfl rfl (one_lay ho81) (one_len ho81) (lt_b rfl) (le_b rfl) rfl ?_
 intro w95 s96 h97 h98 hH99
 rw[AV.cells_one ho81] at hH99
 change HS [] true s s96 (([⟨some b18,[(J a1.Stack),(J a1.Start),h33,h56,h79,(sl 0 true [])],w95⟩]:List BX)++Ls89.flatten) at hH99
 refine ns ?_
 refine q (eptr [(J a1.Stack),(J a1.Start),(sl z2 f3 e4),(sl z6 f7 e8),(sl z10 f11 e12),(sl z14 f15 e16)] 5) ?_
 refine lE (sl z14 f15 e16) ?_
 obtain ⟨y100,h101,h⟩:=obind h
 have hP105:=HS.pop0 hH99
 refine AOps.callF (al:=true) (g:=43) (args:=[(sl z14 f15 e16)]) rfl rfl rfl (laws_toInt64SS_K0_ok h17  h101 (HS.wf' hH99)) ?_
 rintro h102 _ s106 ⟨_,k103,Ls108,rfl,hH109,hG110,ho104⟩
 have hJ111:=HS.joinK1 hP105 hH109
 obtain ⟨Ls112,Lf113,hG114,hF115,hP116⟩:=HS.pushN hJ111 hG91 hG110
 cases hF115
 have hH117:=HS.push0 hP116
 change HS [] true s s106 (([⟨some b18,[(J a1.Stack),(J a1.Start),h33,h56,h79,(sl 0 true [])],w95⟩]:List BX)++Ls112.flatten) at hH117
 change AllG [OS oE54 h102 k103 y100,OS oE25 h79 k80 y77,OS oE119 h56 k57 y54,OS oE4 h33 k34 y31] Ls112 at hG114
 refine q (ptr b18 5) ?_
 refine AOps.stE (i:=0) (v:=h102) hH117 hl rfl rfl rfl rfl rfl rfl rfl (one_lay ho104) (one_len ho104) (lt_b rfl) (le_b rfl) rfl ?_
 intro w118 s119 h120 h121 hH122
 rw[AV.cells_one ho104] at hH122
 change HS [] true s s119 (([⟨some b18,[(J a1.Stack),(J a1.Start),h33,h56,h79,h102],w118⟩]:List BX)++Ls112.flatten) at hH122
 refine ns ?_
 refine AOps.ldB (i:=0) (v:=(agg [(J a1.Stack),(J a1.Start),h33,h56,h79,h102])) hH122 rfl rfl rfl rfl rfl rfl rfl rfl rfl ?_
 refine AOps.stP (v:=(agg [(J a1.Stack),(J a1.Start),h33,h56,h79,h102])) rfl rfl rfl rfl rfl rfl rfl (lay_cons rfl (lay_cons rfl (lay_cons ho35 (lay_cons ho58 (lay_cons ho81 (lay_cons ho104 lay_nil)))))) rfl (lt_b rfl) rfl ?_
 refine nl ?_
 cases h
 obtain ⟨Ls123,hG124,hH125⟩:=HS.selEG hH122 hG114 [] [some 3,some 2,some 1,some 0]
 exact AW.ret ⟨_,_,rfl,⟨h33,k34,h56,k57,h79,k80,h102,k103,Ls123,rfl,hH125,hG124,ho35,ho58,ho81,ho104⟩⟩
theorem laws_toStringS_K0_ok {a1:List (List UInt8)} {z2:Nat} {f3:Bool} {e4:List AV} {s:St} (h5:LR rS 1 a1 z2 e4) {r:(List (List UInt8))} (h:laws_toStringS_K0 a1=some r) (hs:WF s):ACall Cf 21 [(sl z2 f3 e4)] s (fun v _ s'=>∃ (h1':AV) (k2':KT) (Ls':List (List BX)),v=h1'∧HS [] true s s' (([]:List BX)++Ls'.flatten)∧AllG [OS oE9 h1' k2' r] Ls'∧h1'.one=true) true:=by
 refine ACall.keepR rfl rfl rfl ?_
 have hH0:=HS.g0 (HS.initK hs)
 have hG0:=AllG.nil
 have hl:LoOK [] true s:=LoOK.nil
 unfold laws_toStringS_K0 at h
 refine sr ?_
 refine q (sl 0 true []) ?_
 refine ns ?_
 refine q (sl z2 f3 e4) ?_
 refine AOps.p rfl (len_eq h5) ?_
 obtain ⟨l6,h7,h⟩:=obind h
 refine AOps.mkO (e:=oE9) (x0:=(([]:List UInt8):List UInt8)) (fun _=>AV.undef) hH0 hG0 rfl rfl rfl rfl rfl rfl rfl ⟨rfl,rfl,by decide⟩ h7 ⟨rfl,rfl⟩ (fun _=>⟨⟨(str ([]:List UInt8)),rfl,rfl⟩,rfl⟩) rfl ?_
 intro h8 k10 Ls11 s12 ho9 hG13 hH14
 refine aq h8 ?_
 refine nl ?_
 refine AW.seq ?_
 refine sr ?_
 refine q (J 0) ?_
 refine nl ?_
 refine AW.meet (σ:=(List (List UInt8)) × St × (List (List BX))) (fun (out15,s16,Ls17) tm os=>⟨updL tm [(3,h8)],updL os [],s16⟩) (fun (out15,s16,Ls17)=>(HS [] true s s16 (([]:List BX)++Ls17.flatten))∧(AllG [OS oE9 h8 k10 out15] Ls17)∧laws_toStringS_K0_J1 out15=some r) ?_ ?_
 ·rintro ⟨out15,s16,Ls17⟩ tm os ⟨hH18,hG19,h⟩
  unfold laws_toStringS_K0_J1 at h
  refine sr ?_
  refine q h8 ?_
  refine aq h8 ?_
  refine nl ?_
  cases h
  exact AW.ret ⟨_,_,rfl,⟨h8,k10,Ls17,rfl,hH18,hG19,ho9⟩⟩
 intro KJ20
 refine AW.block ?_
 refine AW.res [(0,(sl z2 f3 e4)),(3,h8),(4,(J 0))] [] ⟨rfl,rfl,rfl,trivial⟩ trivial ?_
 refine AW.loopF (σ:=(List (List UInt8)) × Int) (τ:=St × (List (List BX))) (fun (out21,i22) (s23,Ls24)=>(HS [] true s s23 (([]:List BX)++Ls24.flatten))∧(AllG [OS oE9 h8 k10 out21] Ls24)) (fun (out21,i22) (s23,Ls24) tm os=>⟨updL tm [(0,(sl z2 f3 e4)),(3,h8),(4,(J i22))],updL os [],s23⟩) ?_ (x:=(l6,0)) (y:=(s12,Ls11)) h ⟨hH14,hG13⟩
 clear h
 rintro ⟨out21,i22⟩ ⟨s23,Ls24⟩ tm os ⟨hH25,hG26⟩ ee1 h hL1 hR1
 unfold laws_toStringS_K0_S1 at h
 dsimp only at h
 refine AW.seq ?_
 refine sr ?_
 refine q (J i22) ?_
 refine q (sl z2 f3 e4) ?_
 refine AOps.p rfl (len_eq h5) ?_
 refine q (bool (decide ((i22:Int)<(a1.length:Int)))) ?_
 refine nl ?_
 rcases oite h with ⟨hc27,h⟩ | ⟨hc27,h⟩
 ·refine cT hc27 ?_
  refine AW.skip ?_
  refine AW.seq ?_
  refine AW.block ?_
  refine AW.region ?_
  refine q h8 ?_
  refine q (J i22) ?_
  refine q (sl z2 f3 e4) ?_
  refine q (J i22) ?_
  obtain ⟨x28,h29,h⟩:=obind h
  obtain ⟨v32,h30,h31⟩:=idx_sl h5 h29
  cases h30
  refine AOps.pureR rfl rfl rfl h31 rfl (rfl:_=(eptr [(str x28)] 0)) ?_
  refine lE (str x28) ?_
  obtain ⟨x35,h36,h⟩:=obind h
  refine AOps.idxO (j:=0) hG26 rfl Sub.here h36 rfl rfl rfl rfl rfl rfl rfl rfl rfl ?_
  intro b33 hb34
  refine AOps.stO (j:=0) (q:=0) (v:=(str x28)) (y':=x28) hH25 hG26 hl rfl Sub.here h36 hb34 rfl rfl rfl rfl rfl rfl rfl rfl (lt_b rfl) (le_b rfl) rfl (fun c B hc=>oLeaf_set hc rfl) ?_
  intro Ls37 s38 hG39 hH40
  refine nl ?_
  refine AW.inBlock ?_
  refine AW.region ?_
  refine q (J i22) ?_
  refine q (J (IntKind.wrap .i64 (i22+1))) ?_
  refine aq (J (IntKind.wrap .i64 (i22+1))) ?_
  refine nl ?_
  cases h
  exact AW.res [(0,(sl z2 f3 e4)),(3,h8),(4,(J (IntKind.wrap .i64 (i22+1))))] [] ⟨rfl,rfl,rfl,trivial⟩ trivial (hL1 _ rfl (s38,Ls37) _ _ ⟨hH40,hG39⟩)
 refine cF hc27 ?_
 refine AW.exit rfl ?_
 obtain ⟨r41,hm,hx⟩:=omap h
 clear h
 subst hx
 have hx:=hR1 _ rfl
 rw[hx] at hm
 have h:=hm
 exact AW.res [(3,h8)] [] ⟨rfl,trivial⟩ trivial (KJ20 (out21,s23,Ls24) _ _ ⟨hH25,hG26,h⟩)
theorem laws_toStream_K0_ok {a1:Stream} {z2 z6 z10 z14 z18:Nat} {f3 f7 f11 f15 f19:Bool} {e4 e8 e12 e16 e20:List AV} {s:St} (h5:LR rB 1 a1.Checker.Accept z2 e4) (h9:LR (rL rPush 2) 1 a1.Checker.Call z6 e8) (h13:LR (rL (rL rJ 1) 1) 1 a1.Checker.Return z10 e12) (h17:LR (rL rJ 1) 1 a1.Checker.Inner z14 e16) (h21:LR rS 1 a1.Pieces z18 e20) {r:Stream} (h:laws_toStream_K0 a1=some r) (hs:WF s):ACall Cf 7 [(agg [(J a1.Checker.Stack),(J a1.Checker.Start),(sl z2 f3 e4),(sl z6 f7 e8),(sl z10 f11 e12),(sl z14 f15 e16),(sl z18 f19 e20)])] s (fun v _ s'=>∃ (h1':AV) (k2':KT) (h4':AV) (k5':KT) (h7':AV) (k8':KT) (h10':AV) (k11':KT) (h13':AV) (k14':KT) (Ls':List (List BX)),v=(agg [(J r.Checker.Stack),(J r.Checker.Start),h1',h4',h7',h10',h13'])∧HS [] true s s' (([]:List BX)++Ls'.flatten)∧AllG [OS oE4 h1' k2' r.Checker.Accept,OS oE119 h4' k5' r.Checker.Call,OS oE25 h7' k8' r.Checker.Return,OS oE54 h10' k11' r.Checker.Inner,OS oE9 h13' k14' r.Pieces] Ls'∧h1'.one=true∧h4'.one=true∧h7'.one=true∧h10'.one=true∧h13'.one=true) true:=by
 refine ACall.keepR rfl rfl rfl ?_
 have hH0:=HS.g0 (HS.initK hs)
 have hG0:=AllG.nil
 have hl:LoOK [] true s:=LoOK.nil
 unfold laws_toStream_K0 at h
 refine sr ?_
 refine AOps.makeR rfl rfl rfl rfl rfl rfl (rfl:_=(eptr [(J a1.Checker.Stack),(J a1.Checker.Start),(sl z2 f3 e4),(sl z6 f7 e8),(sl z10 f11 e12),(sl z14 f15 e16),(sl z18 f19 e20)] 0)) ?_
 refine AOps.allocP rfl rfl rfl rfl ⟨rfl,rfl⟩ rfl ?_
 refine ns ?_
 refine AOps.alloc1 hH0 rfl rfl rfl rfl rfl rfl ?_
 intro b22 s23 hH24
 change HS [] true s s23 (([⟨some b22,[(J 0),(J 0),(sl 0 true []),(sl 0 true []),(sl 0 true []),(sl 0 true []),(sl 0 true [])],(fun _=>false)⟩]:List BX)++List.flatten ([]:List (List BX))) at hH24
 refine ns ?_
 refine q (eptr [(J a1.Checker.Stack),(J a1.Checker.Start),(sl z2 f3 e4),(sl z6 f7 e8),(sl z10 f11 e12),(sl z14 f15 e16),(sl z18 f19 e20)] 0) ?_
 refine lE (agg [(J a1.Checker.Stack),(J a1.Checker.Start),(sl z2 f3 e4),(sl z6 f7 e8),(sl z10 f11 e12),(sl z14 f15 e16)]) ?_
 obtain ⟨y25,h26,h⟩:=obind h
 have hP39:=HS.pop0 hH24
 refine AOps.callF (al:=true) (g:=20) (args:=[(agg [(J a1.Checker.Stack),(J a1.Checker.Start),(sl z2 f3 e4),(sl z6 f7 e8),(sl z10 f11 e12),(sl z14 f15 e16)])]) rfl rfl rfl (laws_toChecker_K0_ok h5 h9 h13 h17  h26 (HS.wf' hH24)) ?_
 rintro _ _ s40 ⟨h27,k28,h30,k31,h33,k34,h36,k37,Ls42,rfl,hH43,hG44,ho29,ho32,ho35,ho38⟩
 have hJ45:=HS.joinK1 hP39 hH43
 obtain ⟨Ls46,Lf47,hG48,hF49,hP50⟩:=HS.pushN hJ45 hG0 hG44
 obtain ⟨Ls51,Lf52,hG53,hF54,hP55⟩:=HS.pushN hP50 hG48 hF49
 obtain ⟨Ls56,Lf57,hG58,hF59,hP60⟩:=HS.pushN hP55 hG53 hF54
 obtain ⟨Ls61,Lf62,hG63,hF64,hP65⟩:=HS.pushN hP60 hG58 hF59
 cases hF64
 have hH66:=HS.push0 hP65
 change HS [] true s s40 (([⟨some b22,[(J 0),(J 0),(sl 0 true []),(sl 0 true []),(sl 0 true []),(sl 0 true []),(sl 0 true [])],(fun _=>false)⟩]:List BX)++Ls61.flatten) at hH66
 change AllG [OS oE54 h36 k37 y25.Inner,OS oE25 h33 k34 y25.Return,OS oE119 h30 k31 y25.Call,OS oE4 h27 k28 y25.Accept] Ls61 at hG63
 refine q (ptr b22 0) ?_
 refine AOps.stE (i:=0) (v:=(agg [(J y25.Stack),(J y25.Start),h27,h30,h33,h36])) hH66 hl rfl rfl rfl rfl rfl rfl rfl (lay_cons rfl (lay_cons rfl (lay_cons ho29 (lay_cons ho32 (lay_cons ho35 (lay_cons ho38 lay_nil)))))) rfl (lt_b rfl) (le_b rfl) rfl ?_
 intro w67 s68 h69 h70 hH71
 change HS [] true s s68 (([⟨some b22,[(J y25.Stack),(J y25.Start),h27,h30,h33,h36,(sl 0 true [])],w67⟩]:List BX)++Ls61.flatten) at hH71
 refine ns ?_
 refine q (eptr [(J a1.Checker.Stack),(J a1.Checker.Start),(sl z2 f3 e4),(sl z6 f7 e8),(sl z10 f11 e12),(sl z14 f15 e16),(sl z18 f19 e20)] 6) ?_
 refine lE (sl z18 f19 e20) ?_
 obtain ⟨y72,h73,h⟩:=obind h
 have hP77:=HS.pop0 hH71
 refine AOps.callF (al:=true) (g:=21) (args:=[(sl z18 f19 e20)]) rfl rfl rfl (laws_toStringS_K0_ok h21  h73 (HS.wf' hH71)) ?_
 rintro h74 _ s78 ⟨_,k75,Ls80,rfl,hH81,hG82,ho76⟩
 have hJ83:=HS.joinK1 hP77 hH81
 obtain ⟨Ls84,Lf85,hG86,hF87,hP88⟩:=HS.pushN hJ83 hG63 hG82
 cases hF87
 have hH89:=HS.push0 hP88
 change HS [] true s s78 (([⟨some b22,[(J y25.Stack),(J y25.Start),h27,h30,h33,h36,(sl 0 true [])],w67⟩]:List BX)++Ls84.flatten) at hH89
 change AllG [OS oE9 h74 k75 y72,OS oE54 h36 k37 y25.Inner,OS oE25 h33 k34 y25.Return,OS oE119 h30 k31 y25.Call,OS oE4 h27 k28 y25.Accept] Ls84 at hG86
 refine q (ptr b22 6) ?_
 refine AOps.stE (i:=0) (v:=h74) hH89 hl rfl rfl rfl rfl rfl rfl rfl (one_lay ho76) (one_len ho76) (lt_b rfl) (le_b rfl) rfl ?_
 intro w90 s91 h92 h93 hH94
 rw[AV.cells_one ho76] at hH94
 change HS [] true s s91 (([⟨some b22,[(J y25.Stack),(J y25.Start),h27,h30,h33,h36,h74],w90⟩]:List BX)++Ls84.flatten) at hH94
 refine ns ?_
 refine AOps.ldB (i:=0) (v:=(agg [(J y25.Stack),(J y25.Start),h27,h30,h33,h36,h74])) hH94 rfl rfl rfl rfl rfl rfl rfl rfl rfl ?_
 refine AOps.stP (v:=(agg [(J y25.Stack),(J y25.Start),h27,h30,h33,h36,h74])) rfl rfl rfl rfl rfl rfl rfl (lay_cons rfl (lay_cons rfl (lay_cons ho29 (lay_cons ho32 (lay_cons ho35 (lay_cons ho38 (lay_cons ho76 lay_nil))))))) rfl (lt_b rfl) rfl ?_
 refine nl ?_
 cases h
 obtain ⟨Ls95,hG96,hH97⟩:=HS.selEG hH94 hG86 [] [some 4,some 3,some 2,some 1,some 0]
 exact AW.ret ⟨_,_,rfl,⟨h27,k28,h30,k31,h33,k34,h36,k37,h74,k75,Ls95,rfl,hH97,hG96,ho29,ho32,ho35,ho38,ho76⟩⟩
theorem laws_toDeedS_K0_ok {a1:List Deed} {z2:Nat} {f3:Bool} {e4:List AV} {s:St} (h5:LR rDeed 3 a1 z2 e4) {r:(List Deed)} (h:laws_toDeedS_K0 a1=some r) (hs:WF s):ACall Cf 8 [(sl z2 f3 e4)] s (fun v _ s'=>∃ (h1':AV) (k2':KT) (Ls':List (List BX)),v=h1'∧HS [] true s s' (([]:List BX)++Ls'.flatten)∧AllG [OS oE65 h1' k2' r] Ls'∧h1'.one=true) true:=by
 refine ACall.keepR rfl rfl rfl ?_
 have hH0:=HS.g0 (HS.initK hs)
 have hG0:=AllG.nil
 have hl:LoOK [] true s:=LoOK.nil
 unfold laws_toDeedS_K0 at h
 refine sr ?_
 refine q (sl 0 true []) ?_
 refine ns ?_
 refine q (sl z2 f3 e4) ?_
 refine AOps.p rfl (len_eq h5) ?_
 obtain ⟨l6,h7,h⟩:=obind h
 refine AOps.mkO (e:=oE65) (x0:=((⟨0,0,0⟩:Deed):Deed)) (fun _=>AV.undef) hH0 hG0 rfl rfl rfl rfl rfl rfl rfl ⟨rfl,rfl,by decide⟩ h7 ⟨rfl,rfl⟩ (fun _=>⟨⟨(agg [(J 0),(J 0),(J 0)]),⟨_,rfl,(.cons rfl (.cons rfl (.cons rfl .nil)))⟩,rfl⟩,rfl⟩) rfl ?_
 intro h8 k10 Ls11 s12 ho9 hG13 hH14
 refine aq h8 ?_
 refine nl ?_
 refine AW.seq ?_
 refine sr ?_
 refine q (J 0) ?_
 refine nl ?_
 refine AW.meet (σ:=(List Deed) × St × (List (List BX))) (fun (out15,s16,Ls17) tm os=>⟨updL tm [(3,h8)],updL os [],s16⟩) (fun (out15,s16,Ls17)=>(HS [] true s s16 (([]:List BX)++Ls17.flatten))∧(AllG [OS oE65 h8 k10 out15] Ls17)∧laws_toDeedS_K0_J1 out15=some r) ?_ ?_
 ·rintro ⟨out15,s16,Ls17⟩ tm os ⟨hH18,hG19,h⟩
  unfold laws_toDeedS_K0_J1 at h
  refine sr ?_
  refine q h8 ?_
  refine aq h8 ?_
  refine nl ?_
  cases h
  exact AW.ret ⟨_,_,rfl,⟨h8,k10,Ls17,rfl,hH18,hG19,ho9⟩⟩
 intro KJ20
 refine AW.block ?_
 refine AW.res [(0,(sl z2 f3 e4)),(3,h8),(4,(J 0))] [] ⟨rfl,rfl,rfl,trivial⟩ trivial ?_
 refine AW.loopF (σ:=(List Deed) × Int) (τ:=St × (List (List BX))) (fun (out21,i22) (s23,Ls24)=>(HS [] true s s23 (([]:List BX)++Ls24.flatten))∧(AllG [OS oE65 h8 k10 out21] Ls24)) (fun (out21,i22) (s23,Ls24) tm os=>⟨updL tm [(0,(sl z2 f3 e4)),(3,h8),(4,(J i22))],updL os [],s23⟩) ?_ (x:=(l6,0)) (y:=(s12,Ls11)) h ⟨hH14,hG13⟩
 clear h
 rintro ⟨out21,i22⟩ ⟨s23,Ls24⟩ tm os ⟨hH25,hG26⟩ ee1 h hL1 hR1
 unfold laws_toDeedS_K0_S1 at h
 dsimp only at h
 refine AW.seq ?_
 refine sr ?_
 refine q (J i22) ?_
 refine q (sl z2 f3 e4) ?_
 refine AOps.p rfl (len_eq h5) ?_
 refine q (bool (decide ((i22:Int)<(a1.length:Int)))) ?_
 refine nl ?_
 rcases oite h with ⟨hc27,h⟩ | ⟨hc27,h⟩
 ·refine cT hc27 ?_
  refine AW.skip ?_
  refine AW.seq ?_
  refine AW.block ?_
  refine AW.region ?_
  refine q h8 ?_
  refine q (J i22) ?_
  refine q (sl z2 f3 e4) ?_
  refine q (J i22) ?_
  obtain ⟨x28,h29,h⟩:=obind h
  obtain ⟨v32,h30,h31⟩:=idx_sl h5 h29
  obtain ⟨_,rfl,h33⟩:=h30
  obtain ⟨_,_,rfl,h34,h35⟩:=Cs_cons h33
  cases h34
  obtain ⟨_,_,rfl,h36,h37⟩:=Cs_cons h35
  cases h36
  obtain ⟨_,_,rfl,h38,h39⟩:=Cs_cons h37
  cases h38
  cases Cs_nil h39
  refine AOps.pureR rfl rfl rfl h31 rfl (rfl:_=(eptr [(J x28.Kind),(J x28.A),(J x28.B)] 0)) ?_
  refine lE (agg [(J x28.Kind),(J x28.A),(J x28.B)]) ?_
  obtain ⟨y40,h41,h⟩:=obind h
  refine cP (laws_toDeed_ok  h41 (HS.wf' hH25)) ?_
  intro _ o50 h42
  obtain ⟨_,rfl,h43⟩:=h42
  obtain ⟨_,_,rfl,h44,h45⟩:=Cs_cons h43
  cases h44
  obtain ⟨_,_,rfl,h46,h47⟩:=Cs_cons h45
  cases h46
  obtain ⟨_,_,rfl,h48,h49⟩:=Cs_cons h47
  cases h48
  cases Cs_nil h49
  obtain ⟨x53,h54,h⟩:=obind h
  refine AOps.idxO (j:=0) hG26 rfl Sub.here h54 rfl rfl rfl rfl rfl rfl rfl rfl rfl ?_
  intro b51 hb52
  refine AOps.stO (j:=0) (q:=0) (v:=(agg [(J y40.Kind),(J y40.A),(J y40.B)])) (y':=y40) hH25 hG26 hl rfl Sub.here h54 hb52 rfl rfl rfl rfl rfl rfl rfl rfl (lt_b rfl) (le_b rfl) rfl (fun c B hc=>oLeaf_set hc ⟨_,rfl,(.cons rfl (.cons rfl (.cons rfl .nil)))⟩) ?_
  intro Ls55 s56 hG57 hH58
  refine nl ?_
  refine AW.inBlock ?_
  refine AW.region ?_
  refine q (J i22) ?_
  refine q (J (IntKind.wrap .i64 (i22+1))) ?_
  refine aq (J (IntKind.wrap .i64 (i22+1))) ?_
  refine nl ?_
  cases h
  exact AW.res [(0,(sl z2 f3 e4)),(3,h8),(4,(J (IntKind.wrap .i64 (i22+1))))] [] ⟨rfl,rfl,rfl,trivial⟩ trivial (hL1 _ rfl (s56,Ls55) _ _ ⟨hH58,hG57⟩)
 refine cF hc27 ?_
 refine AW.exit rfl ?_
 obtain ⟨r59,hm,hx⟩:=omap h
 clear h
 subst hx
 have hx:=hR1 _ rfl
 rw[hx] at hm
 have h:=hm
 exact AW.res [(3,h8)] [] ⟨rfl,trivial⟩ trivial (KJ20 (out21,s23,Ls24) _ _ ⟨hH25,hG26,h⟩)
theorem impl_size_bool_ok {list1:List Bool} {z2:Nat} {f3:Bool} {e4:List AV} {s:St} (h5:LR rB 1 list1 z2 e4) {r:Int} (h:impl_size_bool list1=some r) (hs:WF s):ACall Cf 94 [(sl z2 f3 e4)] s fun v _ s'=>rJ r v∧s'=s:=by
 refine ACall.pure rfl rfl rfl .I ?_
 have hWF:=hs.lo'
 unfold impl_size_bool at h
 refine sr ?_
 refine q (J 0) ?_
 refine ns ?_
 refine q (sl z2 f3 e4) ?_
 refine AOps.p rfl (len_eq h5) ?_
 refine aq (J (list1.length:Int)) ?_
 refine nl ?_
 cases h
 exact AW.ret ⟨rfl,_,_,rfl,rfl⟩
theorem impl_within_ok {n1 low2 high3:Int} {s:St} {r:Bool} (h:impl_within n1 low2 high3=some r) (hs:WF s):ACall Cf 73 [(J n1),(J low2),(J high3)] s fun v _ s'=>(rB) r v∧s'=s:=by
 refine ACall.pure rfl rfl rfl .B ?_
 have hWF:=hs.lo'
 unfold impl_within at h
 refine sr ?_
 refine q (bool false) ?_
 refine ns ?_
 refine q (J n1) ?_
 refine q (J low2) ?_
 refine q (bool (decide ((n1:Int)≥low2))) ?_
 refine q (bool (decide ((n1:Int)≥low2))) ?_
 refine AOps.split 4 (fun f'=>∃ tm' os',f'=⟨updL tm' [(14,(bool ((decide ((n1:Int)≥low2))&&(decide ((n1:Int)≤high3)))))],updL os' [],{ s with lo:=s.n }⟩) ?_ ?_
 ·rcases Bool.eq_false_or_eq_true (decide ((n1:Int)≥low2)) with hc4 | hc4
  ·refine kn 10 hc4 ?_
   refine q (J n1) ?_
   refine q (J high3) ?_
   refine q (bool (decide ((n1:Int)≤high3))) ?_
   refine q (bool (decide ((n1:Int)≤high3))) ?_
   exact rR ⟨congrArg bool (and_t hc4),trivial⟩
  ·refine kn 10 hc4 ?_
   refine sk ?_
   refine sk ?_
   refine sk ?_
   refine q (bool false) ?_
   exact rR ⟨congrArg bool (and_f hc4),trivial⟩
 rintro _ ⟨tm,os,rfl⟩
 refine aq (bool ((decide ((n1:Int)≥low2))&&(decide ((n1:Int)≤high3)))) ?_
 refine nl ?_
 cases h
 exact AW.ret ⟨rfl,_,_,rfl,rfl⟩
theorem impl_Checker_isState_ok {c1:Checker} {s18:Int} {z2 z6 z10 z14:Nat} {f3 f7 f11 f15:Bool} {e4 e8 e12 e16:List AV} {s:St} (h5:LR rB 1 c1.Accept z2 e4) (h9:LR (rL rPush 2) 1 c1.Call z6 e8) (h13:LR (rL (rL rJ 1) 1) 1 c1.Return z10 e12) (h17:LR (rL rJ 1) 1 c1.Inner z14 e16) {r:Bool} (h:impl_Checker_isState c1 s18=some r) (hs:WF s):ACall Cf 95 [(agg [(J c1.Stack),(J c1.Start),(sl z2 f3 e4),(sl z6 f7 e8),(sl z10 f11 e12),(sl z14 f15 e16)]),(J s18)] s fun v _ s'=>(rB) r v∧s'=s:=by
 refine ACall.pure rfl rfl rfl .B ?_
 have hWF:=hs.lo'
 unfold impl_Checker_isState at h
 refine sr ?_
 refine AOps.makeR rfl rfl rfl rfl rfl rfl (rfl:_=(eptr [(J c1.Stack),(J c1.Start),(sl z2 f3 e4),(sl z6 f7 e8),(sl z10 f11 e12),(sl z14 f15 e16)] 0)) ?_
 refine q (bool false) ?_
 refine ns ?_
 refine q (J s18) ?_
 refine q (eptr [(J c1.Stack),(J c1.Start),(sl z2 f3 e4),(sl z6 f7 e8),(sl z10 f11 e12),(sl z14 f15 e16)] 2) ?_
 refine lE (sl z2 f3 e4) ?_
 obtain ⟨y19,h20,h⟩:=obind h
 refine cP (impl_size_bool_ok h5 h20 hWF) ?_
 intro _ o22 h21
 cases h21
 refine q (J (IntKind.wrap .i64 (y19 - 1))) ?_
 obtain ⟨y23,h24,h⟩:=obind h
 refine cP (impl_within_ok  h24 hWF) ?_
 intro _ o26 h25
 cases h25
 refine aq (bool y23) ?_
 refine nl ?_
 cases h
 exact AW.ret ⟨rfl,_,_,rfl,rfl⟩
theorem impl_size_simpl_Push_ok {list1:List (List Push)} {z2:Nat} {f3:Bool} {e4:List AV} {s:St} (h5:LR (rL rPush 2) 1 list1 z2 e4) {r:Int} (h:impl_size_simpl_Push list1=some r) (hs:WF s):ACall Cf 96 [(sl z2 f3 e4)] s fun v _ s'=>rJ r v∧s'=s:=by
 refine ACall.pure rfl rfl rfl .I ?_
 have hWF:=hs.lo'
 unfold impl_size_simpl_Push at h
 refine sr ?_
 refine q (J 0) ?_
 refine ns ?_
 refine q (sl z2 f3 e4) ?_
 refine AOps.p rfl (len_eq h5) ?_
 refine aq (J (list1.length:Int)) ?_
 refine nl ?_
 cases h
 exact AW.ret ⟨rfl,_,_,rfl,rfl⟩
theorem impl_size_s_int64_ok {list1:List (List (List Int))} {z2:Nat} {f3:Bool} {e4:List AV} {s:St} (h5:LR (rL (rL rJ 1) 1) 1 list1 z2 e4) {r:Int} (h:impl_size_s_int64 list1=some r) (hs:WF s):ACall Cf 97 [(sl z2 f3 e4)] s fun v _ s'=>rJ r v∧s'=s:=by
 refine ACall.pure rfl rfl rfl .I ?_
 have hWF:=hs.lo'
 unfold impl_size_s_int64 at h
 refine sr ?_
 refine q (J 0) ?_
 refine ns ?_
 refine q (sl z2 f3 e4) ?_
 refine AOps.p rfl (len_eq h5) ?_
 refine aq (J (list1.length:Int)) ?_
 refine nl ?_
 cases h
 exact AW.ret ⟨rfl,_,_,rfl,rfl⟩
theorem impl_size_sint64_ok {list1:List (List Int)} {z2:Nat} {f3:Bool} {e4:List AV} {s:St} (h5:LR (rL rJ 1) 1 list1 z2 e4) {r:Int} (h:impl_size_sint64 list1=some r) (hs:WF s):ACall Cf 98 [(sl z2 f3 e4)] s fun v _ s'=>rJ r v∧s'=s:=by
 refine ACall.pure rfl rfl rfl .I ?_
 have hWF:=hs.lo'
 unfold impl_size_sint64 at h
 refine sr ?_
 refine q (J 0) ?_
 refine ns ?_
 refine q (sl z2 f3 e4) ?_
 refine AOps.p rfl (len_eq h5) ?_
 refine aq (J (list1.length:Int)) ?_
 refine nl ?_
 cases h
 exact AW.ret ⟨rfl,_,_,rfl,rfl⟩
theorem impl_size_int64_okN {list1:List Int} {z2:Nat} {f3:Bool} {e4:List AV} {s:St} (h5:LR rJ 1 list1 z2 e4) {r:Int} (h:impl_size_int64 list1=some r) (hs:WF s):ACallN Cf 100 [(sl z2 f3 e4)] s fun v _ s'=>rJ r v∧s'=s:=by
 refine ACallN.pure rfl rfl rfl .I ?_
 have hWF:=hs.lo'
 unfold impl_size_int64 at h
 refine sr ?_
 refine q (J 0) ?_
 refine ns ?_
 refine q (sl z2 f3 e4) ?_
 refine AOps.p rfl (len_eq h5) ?_
 refine aq (J (list1.length:Int)) ?_
 refine nl ?_
 cases h
 exact AW.ret ⟨rfl,_,_,rfl,rfl⟩
theorem slices_IndexFunc_sint64_int64_ok {s1:List Int} {f6:Int→Option Bool} {z2 g7:Nat} {f3:Bool} {e4 cap8:List AV} {s:St} (h5:LR rJ 1 s1 z2 e4) (h9:∀ x vs y,Cs [rJ x] vs→f6 x=some y→∀ s,WF s→ACall Cf g7 (vs++cap8) s fun v _ s'=>(rB) y v∧s'=s) {r:Int} (h:slices_IndexFunc_sint64_int64 s1 f6=some r) (hs:WF s):ACall Cf 115 [(sl z2 f3 e4),(AV.fn g7 cap8)] s fun v _ s'=>rJ r v∧s'=s:=by
 refine ACall.pure rfl rfl rfl .I ?_
 have hWF:=hs.lo'
 unfold slices_IndexFunc_sint64_int64 at h
 refine sr ?_
 refine q (J 0) ?_
 refine nl ?_
 refine AW.seq ?_
 refine sr ?_
 refine q (sl z2 f3 e4) ?_
 refine AOps.p rfl (len_eq h5) ?_
 refine q (J 0) ?_
 refine nl ?_
 refine AW.meet (σ:=Unit) (fun _ tm os=>⟨updL tm [],updL os [],{ s with lo:=s.n }⟩) (fun _=>slices_IndexFunc_sint64_int64_J1=some r) ?_ ?_
 ·rintro _ tm os h
  unfold slices_IndexFunc_sint64_int64_J1 at h
  refine sr ?_
  refine q (J (-1)) ?_
  refine nl ?_
  cases h
  exact AW.ret ⟨rfl,_,_,rfl,rfl⟩
 intro KJ10
 refine AW.block ?_
 refine AW.res [(0,(sl z2 f3 e4)),(1,(AV.fn g7 cap8)),(7,(J (s1.length:Int))),(8,(J 0))] [] ⟨rfl,rfl,rfl,rfl,trivial⟩ trivial ?_
 refine AW.loopF (σ:=Int) (τ:=Unit) (fun t11 _=>True) (fun t11 _ tm os=>⟨updL tm [(0,(sl z2 f3 e4)),(1,(AV.fn g7 cap8)),(7,(J (s1.length:Int))),(8,(J t11))],updL os [],{ s with lo:=s.n }⟩) ?_ (x:=(0)) (y:=()) h trivial
 clear h
 rintro t11 _ tm os - ee1 h hL1 hR1
 unfold slices_IndexFunc_sint64_int64_S1 at h
 refine sr ?_
 refine q (bool (decide ((t11:Int)<(s1.length:Int)))) ?_
 refine nl ?_
 refine AW.seq ?_
 rcases oite h with ⟨hc12,h⟩ | ⟨hc12,h⟩
 ·refine cT hc12 ?_
  refine AW.skip ?_
  refine AW.seq ?_
  refine AW.block ?_
  refine sr ?_
  refine q (J t11) ?_
  refine aq (J t11) ?_
  refine ns ?_
  refine q (AV.fn g7 cap8) ?_
  refine q (sl z2 f3 e4) ?_
  refine q (J t11) ?_
  obtain ⟨x13,h14,h⟩:=obind h
  obtain ⟨v17,h15,h16⟩:=idx_sl h5 h14
  cases h15
  refine AOps.pureR rfl rfl rfl h16 rfl (rfl:_=(eptr [(J x13)] 0)) ?_
  refine lE (J x13) ?_
  obtain ⟨y18,h19,h⟩:=obind h
  refine AOps.callP (g:=g7) (args:=([(J x13)]++cap8)) (p:=(rB) y18) rfl rfl rfl (h9 x13 _ _ (.cons rfl .nil) h19 _ hWF) ?_
  intro _ o21 h20
  cases h20
  refine nl ?_
  rcases oite h with ⟨hc22,h⟩ | ⟨hc22,h⟩
  ·refine cT hc22 ?_
   refine sr ?_
   refine q (J t11) ?_
   refine aq (J t11) ?_
   refine nl ?_
   cases h
   have hr:=hR1 _ rfl
   subst hr
   exact AW.ret ⟨rfl,_,_,rfl,rfl⟩
  refine cF hc22 ?_
  refine AW.skip ?_
  refine AW.inBlock ?_
  refine AW.region ?_
  refine q (J (IntKind.wrap .i64 (t11+1))) ?_
  refine q (J (IntKind.wrap .i64 (t11+1))) ?_
  refine nl ?_
  cases h
  exact AW.res [(0,(sl z2 f3 e4)),(1,(AV.fn g7 cap8)),(7,(J (s1.length:Int))),(8,(J (IntKind.wrap .i64 (t11+1))))] [] ⟨rfl,rfl,rfl,rfl,trivial⟩ trivial (hL1 _ rfl () _ _ trivial)
 refine cF hc12 ?_
 refine AW.exit rfl ?_
 obtain ⟨r23,hm,hx⟩:=omap h
 clear h
 subst hx
 have hx:=hR1 _ rfl
 rw[hx] at hm
 have h:=hm
 exact AW.res [] [] trivial trivial (KJ10 () _ _ h)
theorem slices_ContainsFunc_sint64_int64_ok {s1:List Int} {f6:Int→Option Bool} {z2 g7:Nat} {f3:Bool} {e4 cap8:List AV} {s:St} (h5:LR rJ 1 s1 z2 e4) (h9:∀ x vs y,Cs [rJ x] vs→f6 x=some y→∀ s,WF s→ACall Cf g7 (vs++cap8) s fun v _ s'=>(rB) y v∧s'=s) {r:Bool} (h:slices_ContainsFunc_sint64_int64 s1 f6=some r) (hs:WF s):ACall Cf 101 [(sl z2 f3 e4),(AV.fn g7 cap8)] s fun v _ s'=>(rB) r v∧s'=s:=by
 refine ACall.pure rfl rfl rfl .B ?_
 have hWF:=hs.lo'
 unfold slices_ContainsFunc_sint64_int64 at h
 refine sr ?_
 refine q (bool false) ?_
 refine ns ?_
 refine q (sl z2 f3 e4) ?_
 refine q (AV.fn g7 cap8) ?_
 obtain ⟨y10,h11,h⟩:=obind h
 refine cP (slices_IndexFunc_sint64_int64_ok h5 h9 h11 hWF) ?_
 intro _ o13 h12
 cases h12
 refine q (bool (decide ((y10:Int)≥0))) ?_
 refine aq (bool (decide ((y10:Int)≥0))) ?_
 refine nl ?_
 cases h
 exact AW.ret ⟨rfl,_,_,rfl,rfl⟩
theorem impl_ValidChecker_1_1_ok {s1:Int} {c2:Checker} {z3 z7 z11 z15:Nat} {f4 f8 f12 f16:Bool} {e5 e9 e13 e17:List AV} {s:St} (h6:LR rB 1 c2.Accept z3 e5) (h10:LR (rL rPush 2) 1 c2.Call z7 e9) (h14:LR (rL (rL rJ 1) 1) 1 c2.Return z11 e13) (h18:LR (rL rJ 1) 1 c2.Inner z15 e17) {r:Bool} (h:impl_ValidChecker_1_1 s1 c2=some r) (hs:WF s):ACall Cf 102 [(J s1),(eptr [(J c2.Stack),(J c2.Start),(sl z3 f4 e5),(sl z7 f8 e9),(sl z11 f12 e13),(sl z15 f16 e17)] 0)] s fun v _ s'=>(rB) r v∧s'=s:=by
 refine ACall.pure rfl rfl rfl .B ?_
 have hWF:=hs.lo'
 unfold impl_ValidChecker_1_1 at h
 refine sr ?_
 refine q (bool false) ?_
 refine ns ?_
 refine lE (agg [(J c2.Stack),(J c2.Start),(sl z3 f4 e5),(sl z7 f8 e9),(sl z11 f12 e13),(sl z15 f16 e17)]) ?_
 refine q (J s1) ?_
 obtain ⟨y19,h20,h⟩:=obind h
 refine cP (impl_Checker_isState_ok h6 h10 h14 h18 h20 hWF) ?_
 intro _ o22 h21
 cases h21
 refine q (bool (!y19)) ?_
 refine aq (bool (!y19)) ?_
 refine nl ?_
 cases h
 exact AW.ret ⟨rfl,_,_,rfl,rfl⟩
theorem impl_ValidChecker_1_ok {list1:List Int} {many6:Int} {c7:Checker} {z2 z8 z12 z16 z20:Nat} {f3 f9 f13 f17 f21:Bool} {e4 e10 e14 e18 e22:List AV} {s:St} (h5:LR rJ 1 list1 z2 e4) (h11:LR rB 1 c7.Accept z8 e10) (h15:LR (rL rPush 2) 1 c7.Call z12 e14) (h19:LR (rL (rL rJ 1) 1) 1 c7.Return z16 e18) (h23:LR (rL rJ 1) 1 c7.Inner z20 e22) {r:Bool} (h:impl_ValidChecker_1 list1 many6 c7=some r) (hs:WF s):ACall Cf 99 [(sl z2 f3 e4),(J many6),(eptr [(J c7.Stack),(J c7.Start),(sl z8 f9 e10),(sl z12 f13 e14),(sl z16 f17 e18),(sl z20 f21 e22)] 0)] s fun v _ s'=>(rB) r v∧s'=s:=by
 refine ACall.pure rfl rfl rfl .B ?_
 have hWF:=hs.lo'
 unfold impl_ValidChecker_1 at h
 refine sr ?_
 refine q (bool false) ?_
 refine ns ?_
 refine q (sl z2 f3 e4) ?_
 obtain ⟨y24,h25,h⟩:=obind h
 refine AOps.lendP (g:=100) (args:=[(sl z2 f3 e4)]) (ps:=[(rL rJ 1) list1]) (p:=rJ y24) rfl rfl rfl rfl rfl rfl rfl (.cons (Fin.of (p:=(rL rJ 1) list1) (.L fun _=>.I) (⟨_,_,_,rfl,h5⟩)) .nil) (fun args' hc=>by obtain ⟨_,_,rfl,hv0,hd0⟩:=Cs_cons hc; obtain ⟨z26,f27,e28,rfl,h29⟩:=hv0; cases Cs_nil hd0; exact impl_size_int64_okN h29 h25 WF.blind) (fun v n hv=>by cases hv; rfl) ?_
 intro _ h30
 cases h30
 refine q (J many6) ?_
 refine q (bool (y24 == many6)) ?_
 refine q (bool (y24 == many6)) ?_
 obtain ⟨b32,hb,h⟩:=obind h
 refine AOps.split 5 (fun f'=>∃ tm' os',f'=⟨updL tm' [(15,(bool b32))],updL os' [],{ s with lo:=s.n }⟩) ?_ ?_
 ·rcases oite hb with ⟨hc31,hb⟩ | ⟨hc31,hb⟩
  ·have h:=hb
   refine AOps.know (d:=10) rfl hc31 ?_
   refine q (sl z2 f3 e4) ?_
   refine q (AV.fn 102 [(eptr [(J c7.Stack),(J c7.Start),(sl z8 f9 e10),(sl z12 f13 e14),(sl z16 f17 e18),(sl z20 f21 e22)] 0)]) ?_
   obtain ⟨y33,h34,h⟩:=obind h
   refine AOps.callP (g:=101) (args:=[(sl z2 f3 e4),(AV.fn 102 [(eptr [(J c7.Stack),(J c7.Start),(sl z8 f9 e10),(sl z12 f13 e14),(sl z16 f17 e18),(sl z20 f21 e22)] 0)])]) (p:=(rB) y33) rfl rfl rfl (slices_ContainsFunc_sint64_int64_ok h5 (by intro x vs y hc hx s hs; obtain ⟨_,_,rfl,hv0,hd0⟩:=Cs_cons hc; cases hv0; cases Cs_nil hd0; exact impl_ValidChecker_1_1_ok h11 h15 h19 h23 hx hs) h34 hWF) ?_
   intro _ o36 h35
   cases h35
   refine q (bool (!y33)) ?_
   refine q (bool (!y33)) ?_
   refine AOps.resR [(15,(bool b32))] [] ?_ ?_ _ ⟨_,_,rfl⟩
   ·exact ⟨congrArg bool (Option.some.inj h),trivial⟩
   exact trivial
  ·refine AOps.know (d:=10) rfl hc31 ?_
   refine sk ?_
   refine sk ?_
   refine sk ?_
   refine sk ?_
   refine q (bool false) ?_
   refine AOps.resR [(15,(bool b32))] [] ?_ ?_ _ ⟨_,_,rfl⟩
   ·exact ⟨congrArg bool (Option.some.inj hb),trivial⟩
   exact trivial
 rintro _ ⟨tm,os,rfl⟩
 refine aq (bool b32) ?_
 refine nl ?_
 cases h
 exact AW.ret ⟨rfl,_,_,rfl,rfl⟩
theorem impl_Checker_isMark_ok {c1:Checker} {x18:Int} {z2 z6 z10 z14:Nat} {f3 f7 f11 f15:Bool} {e4 e8 e12 e16:List AV} {s:St} (h5:LR rB 1 c1.Accept z2 e4) (h9:LR (rL rPush 2) 1 c1.Call z6 e8) (h13:LR (rL (rL rJ 1) 1) 1 c1.Return z10 e12) (h17:LR (rL rJ 1) 1 c1.Inner z14 e16) {r:Bool} (h:impl_Checker_isMark c1 x18=some r) (hs:WF s):ACall Cf 103 [(agg [(J c1.Stack),(J c1.Start),(sl z2 f3 e4),(sl z6 f7 e8),(sl z10 f11 e12),(sl z14 f15 e16)]),(J x18)] s fun v _ s'=>(rB) r v∧s'=s:=by
 refine ACall.pure rfl rfl rfl .B ?_
 have hWF:=hs.lo'
 unfold impl_Checker_isMark at h
 refine sr ?_
 refine AOps.makeR rfl rfl rfl rfl rfl rfl (rfl:_=(eptr [(J c1.Stack),(J c1.Start),(sl z2 f3 e4),(sl z6 f7 e8),(sl z10 f11 e12),(sl z14 f15 e16)] 0)) ?_
 refine q (bool false) ?_
 refine ns ?_
 refine q (J x18) ?_
 refine q (eptr [(J c1.Stack),(J c1.Start),(sl z2 f3 e4),(sl z6 f7 e8),(sl z10 f11 e12),(sl z14 f15 e16)] 0) ?_
 refine lE (J c1.Stack) ?_
 refine q (J (IntKind.wrap .i64 (c1.Stack - 1))) ?_
 obtain ⟨y19,h20,h⟩:=obind h
 refine cP (impl_within_ok  h20 hWF) ?_
 intro _ o22 h21
 cases h21
 refine aq (bool y19) ?_
 refine nl ?_
 cases h
 exact AW.ret ⟨rfl,_,_,rfl,rfl⟩
theorem impl_ValidChecker_ok {p1:Checker} {z2 z6 z10 z14:Nat} {f3 f7 f11 f15:Bool} {e4 e8 e12 e16:List AV} {s:St} (h5:LR rB 1 p1.Accept z2 e4) (h9:LR (rL rPush 2) 1 p1.Call z6 e8) (h13:LR (rL (rL rJ 1) 1) 1 p1.Return z10 e12) (h17:LR (rL rJ 1) 1 p1.Inner z14 e16) {r:Bool} (h:impl_ValidChecker p1=some r) (hs:WF s):ACall Cf 72 [(agg [(J p1.Stack),(J p1.Start),(sl z2 f3 e4),(sl z6 f7 e8),(sl z10 f11 e12),(sl z14 f15 e16)])] s fun v _ s'=>(rB) r v∧s'=s:=by
 refine ACall.pure rfl rfl rfl .B ?_
 have hWF:=hs.lo'
 unfold impl_ValidChecker at h
 refine sr ?_
 refine AOps.makeR rfl rfl rfl rfl rfl rfl (rfl:_=(eptr [(J p1.Stack),(J p1.Start),(sl z2 f3 e4),(sl z6 f7 e8),(sl z10 f11 e12),(sl z14 f15 e16)] 0)) ?_
 refine q (bool false) ?_
 refine ns ?_
 refine q (eptr [(J p1.Stack),(J p1.Start),(sl z2 f3 e4),(sl z6 f7 e8),(sl z10 f11 e12),(sl z14 f15 e16)] 2) ?_
 refine lE (sl z2 f3 e4) ?_
 obtain ⟨y18,h19,h⟩:=obind h
 refine cP (impl_size_bool_ok h5 h19 hWF) ?_
 intro _ o21 h20
 cases h20
 refine aq (J y18) ?_
 refine nl ?_
 refine AW.seq ?_
 refine sr ?_
 refine q (J y18) ?_
 obtain ⟨y22,h23,h⟩:=obind h
 refine cP (impl_within_ok  h23 hWF) ?_
 intro _ o25 h24
 cases h24
 refine q (bool (!y22)) ?_
 refine q (bool (!y22)) ?_
 obtain ⟨b27,hb,h⟩:=obind h
 refine AOps.split 5 (fun f'=>∃ tm' os',f'=⟨updL tm' [(1,(eptr [(J p1.Stack),(J p1.Start),(sl z2 f3 e4),(sl z6 f7 e8),(sl z10 f11 e12),(sl z14 f15 e16)] 0)),(3,(J y18)),(19,(bool b27))],updL os' [],{ s with lo:=s.n }⟩) ?_ ?_
 ·rcases oite hb with ⟨hc26,hb⟩ | ⟨hc26,hb⟩
  ·refine kn 14 hc26 ?_
   refine sk ?_
   refine sk ?_
   refine sk ?_
   refine sk ?_
   refine q (bool true) ?_
   exact rR ⟨rfl,rfl,congrArg bool (Option.some.inj hb),trivial⟩
  ·have h:=hb
   refine kn 14 hc26 ?_
   refine q (eptr [(J p1.Stack),(J p1.Start),(sl z2 f3 e4),(sl z6 f7 e8),(sl z10 f11 e12),(sl z14 f15 e16)] 0) ?_
   refine lE (J p1.Stack) ?_
   obtain ⟨y28,h29,h⟩:=obind h
   refine cP (impl_within_ok  h29 hWF) ?_
   intro _ o31 h30
   cases h30
   refine q (bool (!y28)) ?_
   refine q (bool (!y28)) ?_
   exact rR ⟨rfl,rfl,congrArg bool (Option.some.inj h),trivial⟩
 rintro _ ⟨tm,os,rfl⟩
 refine q (bool b27) ?_
 obtain ⟨b33,hb,h⟩:=obind h
 refine AOps.split 6 (fun f'=>∃ tm' os',f'=⟨updL tm' [(1,(eptr [(J p1.Stack),(J p1.Start),(sl z2 f3 e4),(sl z6 f7 e8),(sl z10 f11 e12),(sl z14 f15 e16)] 0)),(3,(J y18)),(26,(bool b33))],updL os' [],{ s with lo:=s.n }⟩) ?_ ?_
 ·rcases oite hb with ⟨hc32,hb⟩ | ⟨hc32,hb⟩
  ·refine kn 20 hc32 ?_
   refine sk ?_
   refine sk ?_
   refine sk ?_
   refine sk ?_
   refine sk ?_
   refine q (bool true) ?_
   exact rR ⟨rfl,rfl,congrArg bool (Option.some.inj hb),trivial⟩
  ·have h:=hb
   refine kn 20 hc32 ?_
   refine lE (agg [(J p1.Stack),(J p1.Start),(sl z2 f3 e4),(sl z6 f7 e8),(sl z10 f11 e12),(sl z14 f15 e16)]) ?_
   refine q (eptr [(J p1.Stack),(J p1.Start),(sl z2 f3 e4),(sl z6 f7 e8),(sl z10 f11 e12),(sl z14 f15 e16)] 1) ?_
   refine lE (J p1.Start) ?_
   obtain ⟨y34,h35,h⟩:=obind h
   refine cP (impl_Checker_isState_ok h5 h9 h13 h17 h35 hWF) ?_
   intro _ o37 h36
   cases h36
   refine q (bool (!y34)) ?_
   refine q (bool (!y34)) ?_
   exact rR ⟨rfl,rfl,congrArg bool (Option.some.inj h),trivial⟩
 rintro _ ⟨tm,os,rfl⟩
 refine q (bool b33) ?_
 obtain ⟨b39,hb,h⟩:=obind h
 refine AOps.split 6 (fun f'=>∃ tm' os',f'=⟨updL tm' [(1,(eptr [(J p1.Stack),(J p1.Start),(sl z2 f3 e4),(sl z6 f7 e8),(sl z10 f11 e12),(sl z14 f15 e16)] 0)),(3,(J y18)),(33,(bool b39))],updL os' [],{ s with lo:=s.n }⟩) ?_ ?_
 ·rcases oite hb with ⟨hc38,hb⟩ | ⟨hc38,hb⟩
  ·refine kn 27 hc38 ?_
   refine sk ?_
   refine sk ?_
   refine sk ?_
   refine sk ?_
   refine sk ?_
   refine q (bool true) ?_
   exact rR ⟨rfl,rfl,congrArg bool (Option.some.inj hb),trivial⟩
  ·have h:=hb
   refine kn 27 hc38 ?_
   refine q (eptr [(J p1.Stack),(J p1.Start),(sl z2 f3 e4),(sl z6 f7 e8),(sl z10 f11 e12),(sl z14 f15 e16)] 3) ?_
   refine lE (sl z6 f7 e8) ?_
   obtain ⟨y40,h41,h⟩:=obind h
   refine cP (impl_size_simpl_Push_ok h9 h41 hWF) ?_
   intro _ o43 h42
   cases h42
   refine q (J y18) ?_
   refine q (bool (y40 != y18)) ?_
   refine q (bool (y40 != y18)) ?_
   exact rR ⟨rfl,rfl,congrArg bool (Option.some.inj h),trivial⟩
 rintro _ ⟨tm,os,rfl⟩
 refine q (bool b39) ?_
 obtain ⟨b45,hb,h⟩:=obind h
 refine AOps.split 6 (fun f'=>∃ tm' os',f'=⟨updL tm' [(1,(eptr [(J p1.Stack),(J p1.Start),(sl z2 f3 e4),(sl z6 f7 e8),(sl z10 f11 e12),(sl z14 f15 e16)] 0)),(3,(J y18)),(40,(bool b45))],updL os' [],{ s with lo:=s.n }⟩) ?_ ?_
 ·rcases oite hb with ⟨hc44,hb⟩ | ⟨hc44,hb⟩
  ·refine kn 34 hc44 ?_
   refine sk ?_
   refine sk ?_
   refine sk ?_
   refine sk ?_
   refine sk ?_
   refine q (bool true) ?_
   exact rR ⟨rfl,rfl,congrArg bool (Option.some.inj hb),trivial⟩
  ·have h:=hb
   refine kn 34 hc44 ?_
   refine q (eptr [(J p1.Stack),(J p1.Start),(sl z2 f3 e4),(sl z6 f7 e8),(sl z10 f11 e12),(sl z14 f15 e16)] 4) ?_
   refine lE (sl z10 f11 e12) ?_
   obtain ⟨y46,h47,h⟩:=obind h
   refine cP (impl_size_s_int64_ok h13 h47 hWF) ?_
   intro _ o49 h48
   cases h48
   refine q (J y18) ?_
   refine q (bool (y46 != y18)) ?_
   refine q (bool (y46 != y18)) ?_
   exact rR ⟨rfl,rfl,congrArg bool (Option.some.inj h),trivial⟩
 rintro _ ⟨tm,os,rfl⟩
 refine q (bool b45) ?_
 obtain ⟨b51,hb,h⟩:=obind h
 refine AOps.split 6 (fun f'=>∃ tm' os',f'=⟨updL tm' [(1,(eptr [(J p1.Stack),(J p1.Start),(sl z2 f3 e4),(sl z6 f7 e8),(sl z10 f11 e12),(sl z14 f15 e16)] 0)),(3,(J y18)),(47,(bool b51))],updL os' [],{ s with lo:=s.n }⟩) ?_ ?_
 ·rcases oite hb with ⟨hc50,hb⟩ | ⟨hc50,hb⟩
  ·refine kn 41 hc50 ?_
   refine sk ?_
   refine sk ?_
   refine sk ?_
   refine sk ?_
   refine sk ?_
   refine q (bool true) ?_
   exact rR ⟨rfl,rfl,congrArg bool (Option.some.inj hb),trivial⟩
  ·have h:=hb
   refine kn 41 hc50 ?_
   refine q (eptr [(J p1.Stack),(J p1.Start),(sl z2 f3 e4),(sl z6 f7 e8),(sl z10 f11 e12),(sl z14 f15 e16)] 5) ?_
   refine lE (sl z14 f15 e16) ?_
   obtain ⟨y52,h53,h⟩:=obind h
   refine cP (impl_size_sint64_ok h17 h53 hWF) ?_
   intro _ o55 h54
   cases h54
   refine q (J y18) ?_
   refine q (bool (y52 != y18)) ?_
   refine q (bool (y52 != y18)) ?_
   exact rR ⟨rfl,rfl,congrArg bool (Option.some.inj h),trivial⟩
 rintro _ ⟨tm,os,rfl⟩
 refine nl ?_
 rcases oite h with ⟨hc56,h⟩ | ⟨hc56,h⟩
 ·refine cT hc56 ?_
  refine sr ?_
  refine q (bool false) ?_
  refine nl ?_
  cases h
  exact AW.ret ⟨rfl,_,_,rfl,rfl⟩
 refine cF hc56 ?_
 refine AW.skip ?_
 refine sr ?_
 refine q (AV.fn 99 [(eptr [(J p1.Stack),(J p1.Start),(sl z2 f3 e4),(sl z6 f7 e8),(sl z10 f11 e12),(sl z14 f15 e16)] 0)]) ?_
 refine aq (AV.fn 99 [(eptr [(J p1.Stack),(J p1.Start),(sl z2 f3 e4),(sl z6 f7 e8),(sl z10 f11 e12),(sl z14 f15 e16)] 0)]) ?_
 refine nl ?_
 refine AW.seq ?_
 refine sr ?_
 refine q (J y18) ?_
 refine q (J 0) ?_
 refine nl ?_
 refine AW.meet (σ:=Unit) (fun _ tm os=>⟨updL tm [],updL os [],{ s with lo:=s.n }⟩) (fun _=>impl_ValidChecker_J1=some r) ?_ ?_
 ·rintro _ tm os h
  unfold impl_ValidChecker_J1 at h
  refine sr ?_
  refine q (bool true) ?_
  refine nl ?_
  cases h
  exact AW.ret ⟨rfl,_,_,rfl,rfl⟩
 intro KJ57
 refine AW.block ?_
 refine AW.res [(1,(eptr [(J p1.Stack),(J p1.Start),(sl z2 f3 e4),(sl z6 f7 e8),(sl z10 f11 e12),(sl z14 f15 e16)] 0)),(4,(AV.fn 99 [(eptr [(J p1.Stack),(J p1.Start),(sl z2 f3 e4),(sl z6 f7 e8),(sl z10 f11 e12),(sl z14 f15 e16)] 0)])),(49,(J y18)),(50,(J 0))] [] ⟨rfl,rfl,rfl,rfl,trivial⟩ trivial ?_
 refine AW.loopF (σ:=Int) (τ:=Unit) (fun t58 _=>True) (fun t58 _ tm os=>⟨updL tm [(1,(eptr [(J p1.Stack),(J p1.Start),(sl z2 f3 e4),(sl z6 f7 e8),(sl z10 f11 e12),(sl z14 f15 e16)] 0)),(4,(AV.fn 99 [(eptr [(J p1.Stack),(J p1.Start),(sl z2 f3 e4),(sl z6 f7 e8),(sl z10 f11 e12),(sl z14 f15 e16)] 0)])),(49,(J y18)),(50,(J t58))],updL os [],{ s with lo:=s.n }⟩) ?_ (x:=(0)) (y:=()) h trivial
 clear h
 rintro t58 _ tm os - ee1 h hL1 hR1
 unfold impl_ValidChecker_S1 at h
 refine sr ?_
 refine q (bool (decide ((t58:Int)<y18))) ?_
 refine nl ?_
 refine AW.seq ?_
 rcases oite h with ⟨hc59,h⟩ | ⟨hc59,h⟩
 ·refine cT hc59 ?_
  refine AW.skip ?_
  refine AW.seq ?_
  refine AW.block ?_
  refine sr ?_
  refine q (J t58) ?_
  refine aq (J t58) ?_
  refine nl ?_
  refine AW.seq ?_
  refine sr ?_
  refine q (eptr [(J p1.Stack),(J p1.Start),(sl z2 f3 e4),(sl z6 f7 e8),(sl z10 f11 e12),(sl z14 f15 e16)] 3) ?_
  refine lE (sl z6 f7 e8) ?_
  refine q (J t58) ?_
  obtain ⟨x60,h61,h⟩:=obind h
  obtain ⟨v64,h62,h63⟩:=idx_sl h9 h61
  obtain ⟨z65,f66,e67,rfl,h68⟩:=h62
  refine AOps.pureR rfl rfl rfl h63 rfl (rfl:_=(eptr [(sl z65 f66 e67)] 0)) ?_
  refine lE (sl z65 f66 e67) ?_
  refine AOps.p rfl (len_eq h68) ?_
  refine q (bool ((x60.length:Int) != 2)) ?_
  refine q (bool ((x60.length:Int) != 2)) ?_
  obtain ⟨b70,hb,h⟩:=obind h
  refine AOps.split 8 (fun f'=>∃ tm' os',f'=⟨updL tm' [(1,(eptr [(J p1.Stack),(J p1.Start),(sl z2 f3 e4),(sl z6 f7 e8),(sl z10 f11 e12),(sl z14 f15 e16)] 0)),(4,(AV.fn 99 [(eptr [(J p1.Stack),(J p1.Start),(sl z2 f3 e4),(sl z6 f7 e8),(sl z10 f11 e12),(sl z14 f15 e16)] 0)])),(5,(J t58)),(49,(J y18)),(50,(J t58)),(68,(bool b70))],updL os' [],{ s with lo:=s.n }⟩) ?_ ?_
  ·rcases oite hb with ⟨hc69,hb⟩ | ⟨hc69,hb⟩
   ·refine kn 60 hc69 ?_
    refine sk ?_
    refine sk ?_
    refine sk ?_
    refine sk ?_
    refine sk ?_
    refine sk ?_
    refine sk ?_
    refine q (bool true) ?_
    exact rR ⟨rfl,rfl,rfl,rfl,rfl,congrArg bool (Option.some.inj hb),trivial⟩
   ·have h:=hb
    refine kn 60 hc69 ?_
    refine q (eptr [(J p1.Stack),(J p1.Start),(sl z2 f3 e4),(sl z6 f7 e8),(sl z10 f11 e12),(sl z14 f15 e16)] 4) ?_
    refine lE (sl z10 f11 e12) ?_
    refine q (J t58) ?_
    obtain ⟨x71,h72,h⟩:=obind h
    obtain ⟨v75,h73,h74⟩:=idx_sl h13 h72
    obtain ⟨z76,f77,e78,rfl,h79⟩:=h73
    refine AOps.pureR rfl rfl rfl h74 rfl (rfl:_=(eptr [(sl z76 f77 e78)] 0)) ?_
    refine lE (sl z76 f77 e78) ?_
    refine AOps.p rfl (len_eq h79) ?_
    refine q (bool ((x71.length:Int) != 2)) ?_
    refine q (bool ((x71.length:Int) != 2)) ?_
    exact rR ⟨rfl,rfl,rfl,rfl,rfl,congrArg bool (Option.some.inj h),trivial⟩
  rintro _ ⟨tm,os,rfl⟩
  refine q (bool b70) ?_
  obtain ⟨b81,hb,h⟩:=obind h
  refine AOps.split 9 (fun f'=>∃ tm' os',f'=⟨updL tm' [(1,(eptr [(J p1.Stack),(J p1.Start),(sl z2 f3 e4),(sl z6 f7 e8),(sl z10 f11 e12),(sl z14 f15 e16)] 0)),(4,(AV.fn 99 [(eptr [(J p1.Stack),(J p1.Start),(sl z2 f3 e4),(sl z6 f7 e8),(sl z10 f11 e12),(sl z14 f15 e16)] 0)])),(5,(J t58)),(49,(J y18)),(50,(J t58)),(78,(bool b81))],updL os' [],{ s with lo:=s.n }⟩) ?_ ?_
  ·rcases oite hb with ⟨hc80,hb⟩ | ⟨hc80,hb⟩
   ·refine kn 69 hc80 ?_
    refine sk ?_
    refine sk ?_
    refine sk ?_
    refine sk ?_
    refine sk ?_
    refine sk ?_
    refine sk ?_
    refine sk ?_
    refine q (bool true) ?_
    exact rR ⟨rfl,rfl,rfl,rfl,rfl,congrArg bool (Option.some.inj hb),trivial⟩
   ·have h:=hb
    refine kn 69 hc80 ?_
    refine q (AV.fn 99 [(eptr [(J p1.Stack),(J p1.Start),(sl z2 f3 e4),(sl z6 f7 e8),(sl z10 f11 e12),(sl z14 f15 e16)] 0)]) ?_
    refine q (eptr [(J p1.Stack),(J p1.Start),(sl z2 f3 e4),(sl z6 f7 e8),(sl z10 f11 e12),(sl z14 f15 e16)] 5) ?_
    refine lE (sl z14 f15 e16) ?_
    refine q (J t58) ?_
    obtain ⟨x82,h83,h⟩:=obind h
    obtain ⟨v86,h84,h85⟩:=idx_sl h17 h83
    obtain ⟨z87,f88,e89,rfl,h90⟩:=h84
    refine AOps.pureR rfl rfl rfl h85 rfl (rfl:_=(eptr [(sl z87 f88 e89)] 0)) ?_
    refine lE (sl z87 f88 e89) ?_
    obtain ⟨y91,h92,h⟩:=obind h
    refine cP (impl_ValidChecker_1_ok h90 h5 h9 h13 h17 h92 hWF) ?_
    intro _ o94 h93
    cases h93
    refine q (bool (!y91)) ?_
    refine q (bool (!y91)) ?_
    exact rR ⟨rfl,rfl,rfl,rfl,rfl,congrArg bool (Option.some.inj h),trivial⟩
  rintro _ ⟨tm,os,rfl⟩
  refine nl ?_
  rcases oite h with ⟨hc95,h⟩ | ⟨hc95,h⟩
  ·refine cT hc95 ?_
   refine sr ?_
   refine q (bool false) ?_
   refine nl ?_
   cases h
   have hr:=hR1 _ rfl
   subst hr
   exact AW.ret ⟨rfl,_,_,rfl,rfl⟩
  refine cF hc95 ?_
  refine AW.skip ?_
  refine sr ?_
  refine q (J 0) ?_
  refine nl ?_
  refine AW.meet (σ:=Unit) (fun _ tm os=>⟨updL tm [(1,(eptr [(J p1.Stack),(J p1.Start),(sl z2 f3 e4),(sl z6 f7 e8),(sl z10 f11 e12),(sl z14 f15 e16)] 0)),(4,(AV.fn 99 [(eptr [(J p1.Stack),(J p1.Start),(sl z2 f3 e4),(sl z6 f7 e8),(sl z10 f11 e12),(sl z14 f15 e16)] 0)])),(49,(J y18)),(50,(J t58))],updL os [],{ s with lo:=s.n }⟩) (fun _=>impl_ValidChecker_J2 t58=some ee1) ?_ ?_
  ·rintro _ tm os h
   unfold impl_ValidChecker_J2 at h
   refine AW.inBlock ?_
   refine AW.region ?_
   refine q (J (IntKind.wrap .i64 (t58+1))) ?_
   refine q (J (IntKind.wrap .i64 (t58+1))) ?_
   refine nl ?_
   cases h
   exact AW.res [(1,(eptr [(J p1.Stack),(J p1.Start),(sl z2 f3 e4),(sl z6 f7 e8),(sl z10 f11 e12),(sl z14 f15 e16)] 0)),(4,(AV.fn 99 [(eptr [(J p1.Stack),(J p1.Start),(sl z2 f3 e4),(sl z6 f7 e8),(sl z10 f11 e12),(sl z14 f15 e16)] 0)])),(49,(J y18)),(50,(J (IntKind.wrap .i64 (t58+1))))] [] ⟨rfl,rfl,rfl,rfl,trivial⟩ trivial (hL1 _ rfl () _ _ trivial)
  intro KJ96
  refine AW.block ?_
  refine AW.res [(1,(eptr [(J p1.Stack),(J p1.Start),(sl z2 f3 e4),(sl z6 f7 e8),(sl z10 f11 e12),(sl z14 f15 e16)] 0)),(4,(AV.fn 99 [(eptr [(J p1.Stack),(J p1.Start),(sl z2 f3 e4),(sl z6 f7 e8),(sl z10 f11 e12),(sl z14 f15 e16)] 0)])),(5,(J t58)),(49,(J y18)),(50,(J t58)),(79,(J 0))] [] ⟨rfl,rfl,rfl,rfl,rfl,rfl,trivial⟩ trivial ?_
  refine AW.loopF (σ:=Int) (τ:=Unit) (fun t97 _=>True) (fun t97 _ tm os=>⟨updL tm [(1,(eptr [(J p1.Stack),(J p1.Start),(sl z2 f3 e4),(sl z6 f7 e8),(sl z10 f11 e12),(sl z14 f15 e16)] 0)),(4,(AV.fn 99 [(eptr [(J p1.Stack),(J p1.Start),(sl z2 f3 e4),(sl z6 f7 e8),(sl z10 f11 e12),(sl z14 f15 e16)] 0)])),(5,(J t58)),(49,(J y18)),(50,(J t58)),(79,(J t97))],updL os [],{ s with lo:=s.n }⟩) ?_ (x:=(0)) (y:=()) h trivial
  clear h
  rintro t97 _ tm os - ee2 h hL2 hR2
  unfold impl_ValidChecker_S2 at h
  refine sr ?_
  refine q (bool (decide ((t97:Int)<2))) ?_
  refine nl ?_
  refine AW.seq ?_
  rcases oite h with ⟨hc98,h⟩ | ⟨hc98,h⟩
  ·refine cT hc98 ?_
   refine AW.skip ?_
   refine AW.seq ?_
   refine AW.block ?_
   refine sr ?_
   refine q (J t97) ?_
   refine aq (J t97) ?_
   refine ns ?_
   refine q (eptr [(J p1.Stack),(J p1.Start),(sl z2 f3 e4),(sl z6 f7 e8),(sl z10 f11 e12),(sl z14 f15 e16)] 3) ?_
   refine lE (sl z6 f7 e8) ?_
   refine q (J t58) ?_
   obtain ⟨x99,h100,h⟩:=obind h
   obtain ⟨v103,h101,h102⟩:=idx_sl h9 h100
   obtain ⟨z104,f105,e106,rfl,h107⟩:=h101
   refine AOps.pureR rfl rfl rfl h102 rfl (rfl:_=(eptr [(sl z104 f105 e106)] 0)) ?_
   refine lE (sl z104 f105 e106) ?_
   refine q (J t97) ?_
   obtain ⟨x108,h109,h⟩:=obind h
   obtain ⟨v112,h110,h111⟩:=idx_sl h107 h109
   obtain ⟨_,rfl,h113⟩:=h110
   obtain ⟨_,_,rfl,h114,h115⟩:=Cs_cons h113
   cases h114
   obtain ⟨_,_,rfl,h116,h117⟩:=Cs_cons h115
   cases h116
   cases Cs_nil h117
   refine AOps.pureR rfl rfl rfl h111 rfl (rfl:_=(eptr [(J x108.To),(J x108.Put)] 0)) ?_
   refine lE (agg [(J x108.To),(J x108.Put)]) ?_
   refine AOps.allocP rfl rfl rfl rfl ⟨rfl,rfl⟩ rfl ?_
   refine AOps.stP (v:=(agg [(J x108.To),(J x108.Put)])) rfl rfl rfl rfl rfl rfl rfl rfl rfl (lt_b rfl) rfl ?_
   refine ns ?_
   refine lE (agg [(J p1.Stack),(J p1.Start),(sl z2 f3 e4),(sl z6 f7 e8),(sl z10 f11 e12),(sl z14 f15 e16)]) ?_
   refine q (eptr [(J x108.To),(J x108.Put)] 0) ?_
   refine lE (J x108.To) ?_
   obtain ⟨y118,h119,h⟩:=obind h
   refine AOps.callDP (g:=95) (args:=[(agg [(J p1.Stack),(J p1.Start),(sl z2 f3 e4),(sl z6 f7 e8),(sl z10 f11 e12),(sl z14 f15 e16)]),(J x108.To)]) (p:=(rB) y118) rfl rfl rfl (impl_Checker_isState_ok h5 h9 h13 h17 h119 hWF.still) (fun v hv=>Nice.pure (k:=FINK) (p:=(rB) y118) .B _ v hv) ?_
   intro _ o121 h120
   cases h120
   refine q (bool (!y118)) ?_
   refine q (bool (!y118)) ?_
   obtain ⟨b123,hb,h⟩:=obind h
   refine AOps.split 6 (fun f'=>∃ tm' os',f'=⟨updL tm' [(1,(eptr [(J p1.Stack),(J p1.Start),(sl z2 f3 e4),(sl z6 f7 e8),(sl z10 f11 e12),(sl z14 f15 e16)] 0)),(4,(AV.fn 99 [(eptr [(J p1.Stack),(J p1.Start),(sl z2 f3 e4),(sl z6 f7 e8),(sl z10 f11 e12),(sl z14 f15 e16)] 0)])),(5,(J t58)),(6,(J t97)),(49,(J y18)),(50,(J t58)),(79,(J t97)),(101,(bool b123))],updL os' [],{ s with lo:=s.n }⟩) ?_ ?_
   ·rcases oite hb with ⟨hc122,hb⟩ | ⟨hc122,hb⟩
    ·refine kn 95 hc122 ?_
     refine sk ?_
     refine sk ?_
     refine sk ?_
     refine sk ?_
     refine sk ?_
     refine q (bool true) ?_
     exact rR ⟨rfl,rfl,rfl,rfl,rfl,rfl,rfl,congrArg bool (Option.some.inj hb),trivial⟩
    ·have h:=hb
     refine kn 95 hc122 ?_
     refine lE (agg [(J p1.Stack),(J p1.Start),(sl z2 f3 e4),(sl z6 f7 e8),(sl z10 f11 e12),(sl z14 f15 e16)]) ?_
     refine q (eptr [(J x108.To),(J x108.Put)] 1) ?_
     refine lE (J x108.Put) ?_
     obtain ⟨y124,h125,h⟩:=obind h
     refine AOps.callDP (g:=103) (args:=[(agg [(J p1.Stack),(J p1.Start),(sl z2 f3 e4),(sl z6 f7 e8),(sl z10 f11 e12),(sl z14 f15 e16)]),(J x108.Put)]) (p:=(rB) y124) rfl rfl rfl (impl_Checker_isMark_ok h5 h9 h13 h17 h125 hWF.still) (fun v hv=>Nice.pure (k:=FINK) (p:=(rB) y124) .B _ v hv) ?_
     intro _ o127 h126
     cases h126
     refine q (bool (!y124)) ?_
     refine q (bool (!y124)) ?_
     exact rR ⟨rfl,rfl,rfl,rfl,rfl,rfl,rfl,congrArg bool (Option.some.inj h),trivial⟩
   rintro _ ⟨tm,os,rfl⟩
   refine q (bool b123) ?_
   obtain ⟨b129,hb,h⟩:=obind h
   refine AOps.split 15 (fun f'=>∃ tm' os',f'=⟨updL tm' [(1,(eptr [(J p1.Stack),(J p1.Start),(sl z2 f3 e4),(sl z6 f7 e8),(sl z10 f11 e12),(sl z14 f15 e16)] 0)),(4,(AV.fn 99 [(eptr [(J p1.Stack),(J p1.Start),(sl z2 f3 e4),(sl z6 f7 e8),(sl z10 f11 e12),(sl z14 f15 e16)] 0)])),(5,(J t58)),(49,(J y18)),(50,(J t58)),(79,(J t97)),(117,(bool b129))],updL os' [],{ s with lo:=s.n }⟩) ?_ ?_
   ·rcases oite hb with ⟨hc128,hb⟩ | ⟨hc128,hb⟩
    ·refine kn 102 hc128 ?_
     refine sk ?_
     refine sk ?_
     refine sk ?_
     refine sk ?_
     refine sk ?_
     refine sk ?_
     refine sk ?_
     refine sk ?_
     refine sk ?_
     refine sk ?_
     refine sk ?_
     refine sk ?_
     refine sk ?_
     refine sk ?_
     refine q (bool true) ?_
     exact rR ⟨rfl,rfl,rfl,rfl,rfl,rfl,congrArg bool (Option.some.inj hb),trivial⟩
    ·have h:=hb
     refine kn 102 hc128 ?_
     refine q (AV.fn 99 [(eptr [(J p1.Stack),(J p1.Start),(sl z2 f3 e4),(sl z6 f7 e8),(sl z10 f11 e12),(sl z14 f15 e16)] 0)]) ?_
     refine q (eptr [(J p1.Stack),(J p1.Start),(sl z2 f3 e4),(sl z6 f7 e8),(sl z10 f11 e12),(sl z14 f15 e16)] 4) ?_
     refine lE (sl z10 f11 e12) ?_
     refine q (J t58) ?_
     obtain ⟨x130,h131,h⟩:=obind h
     obtain ⟨v134,h132,h133⟩:=idx_sl h13 h131
     obtain ⟨z135,f136,e137,rfl,h138⟩:=h132
     refine AOps.pureR rfl rfl rfl h133 rfl (rfl:_=(eptr [(sl z135 f136 e137)] 0)) ?_
     refine lE (sl z135 f136 e137) ?_
     refine q (J t97) ?_
     obtain ⟨x139,h140,h⟩:=obind h
     obtain ⟨v143,h141,h142⟩:=idx_sl h138 h140
     obtain ⟨z144,f145,e146,rfl,h147⟩:=h141
     refine AOps.pureR rfl rfl rfl h142 rfl (rfl:_=(eptr [(sl z144 f145 e146)] 0)) ?_
     refine lE (sl z144 f145 e146) ?_
     refine q (eptr [(J p1.Stack),(J p1.Start),(sl z2 f3 e4),(sl z6 f7 e8),(sl z10 f11 e12),(sl z14 f15 e16)] 0) ?_
     refine lE (J p1.Stack) ?_
     refine q (J (IntKind.wrap .i64 (p1.Stack+1))) ?_
     obtain ⟨y148,h149,h⟩:=obind h
     refine AOps.callDP (g:=99) (args:=[(sl z144 f145 e146),(J (IntKind.wrap .i64 (p1.Stack+1))),(eptr [(J p1.Stack),(J p1.Start),(sl z2 f3 e4),(sl z6 f7 e8),(sl z10 f11 e12),(sl z14 f15 e16)] 0)]) (p:=(rB) y148) rfl rfl rfl (impl_ValidChecker_1_ok h147 h5 h9 h13 h17 h149 hWF.still) (fun v hv=>Nice.pure (k:=FINK) (p:=(rB) y148) .B _ v hv) ?_
     intro _ o151 h150
     cases h150
     refine q (bool (!y148)) ?_
     refine q (bool (!y148)) ?_
     exact rR ⟨rfl,rfl,rfl,rfl,rfl,rfl,congrArg bool (Option.some.inj h),trivial⟩
   rintro _ ⟨tm,os,rfl⟩
   refine nl ?_
   rcases oite h with ⟨hc152,h⟩ | ⟨hc152,h⟩
   ·refine cT hc152 ?_
    refine sr ?_
    refine q (bool false) ?_
    refine nl ?_
    cases h
    have hr:=hR2 _ rfl
    cases hr
    have hr:=hR1 _ rfl
    subst hr
    exact AW.ret ⟨rfl,_,_,rfl,rfl⟩
   refine cF hc152 ?_
   refine AW.skip ?_
   refine AW.inBlock ?_
   refine AW.region ?_
   refine q (J (IntKind.wrap .i64 (t97+1))) ?_
   refine q (J (IntKind.wrap .i64 (t97+1))) ?_
   refine nl ?_
   cases h
   exact AW.res [(1,(eptr [(J p1.Stack),(J p1.Start),(sl z2 f3 e4),(sl z6 f7 e8),(sl z10 f11 e12),(sl z14 f15 e16)] 0)),(4,(AV.fn 99 [(eptr [(J p1.Stack),(J p1.Start),(sl z2 f3 e4),(sl z6 f7 e8),(sl z10 f11 e12),(sl z14 f15 e16)] 0)])),(5,(J t58)),(49,(J y18)),(50,(J t58)),(79,(J (IntKind.wrap .i64 (t97+1))))] [] ⟨rfl,rfl,rfl,rfl,rfl,rfl,trivial⟩ trivial (hL2 _ rfl () _ _ trivial)
  refine cF hc98 ?_
  refine AW.exit rfl ?_
  obtain ⟨r153,hm,hx⟩:=omap h
  clear h
  subst hx
  have hx:=hR2 _ rfl
  rw[hx] at hm
  have h:=hm
  exact AW.res [(1,(eptr [(J p1.Stack),(J p1.Start),(sl z2 f3 e4),(sl z6 f7 e8),(sl z10 f11 e12),(sl z14 f15 e16)] 0)),(4,(AV.fn 99 [(eptr [(J p1.Stack),(J p1.Start),(sl z2 f3 e4),(sl z6 f7 e8),(sl z10 f11 e12),(sl z14 f15 e16)] 0)])),(49,(J y18)),(50,(J t58))] [] ⟨rfl,rfl,rfl,rfl,trivial⟩ trivial (KJ96 () _ _ h)
 refine cF hc59 ?_
 refine AW.exit rfl ?_
 obtain ⟨r154,hm,hx⟩:=omap h
 clear h
 subst hx
 have hx:=hR1 _ rfl
 rw[hx] at hm
 have h:=hm
 exact AW.res [] [] trivial trivial (KJ57 () _ _ h)
theorem impl_size_string_ok {list1:List (List UInt8)} {z2:Nat} {f3:Bool} {e4:List AV} {s:St} (h5:LR rS 1 list1 z2 e4) {r:Int} (h:impl_size_string list1=some r) (hs:WF s):ACall Cf 50 [(sl z2 f3 e4)] s fun v _ s'=>rJ r v∧s'=s:=by
 refine ACall.pure rfl rfl rfl .I ?_
 have hWF:=hs.lo'
 unfold impl_size_string at h
 refine sr ?_
 refine q (J 0) ?_
 refine ns ?_
 refine q (sl z2 f3 e4) ?_
 refine AOps.p rfl (len_eq h5) ?_
 refine aq (J (list1.length:Int)) ?_
 refine nl ?_
 cases h
 exact AW.ret ⟨rfl,_,_,rfl,rfl⟩
theorem slices_IndexFunc_sstring_string_ok {s1:List (List UInt8)} {f6:(List UInt8)→Option Bool} {z2 g7:Nat} {f3:Bool} {e4 cap8:List AV} {s:St} (h5:LR rS 1 s1 z2 e4) (h9:∀ x vs y,Cs [rS x] vs→f6 x=some y→∀ s,WF s→ACall Cf g7 (vs++cap8) s fun v _ s'=>(rB) y v∧s'=s) {r:Int} (h:slices_IndexFunc_sstring_string s1 f6=some r) (hs:WF s):ACall Cf 104 [(sl z2 f3 e4),(AV.fn g7 cap8)] s fun v _ s'=>rJ r v∧s'=s:=by
 refine ACall.pure rfl rfl rfl .I ?_
 have hWF:=hs.lo'
 unfold slices_IndexFunc_sstring_string at h
 refine sr ?_
 refine q (J 0) ?_
 refine nl ?_
 refine AW.seq ?_
 refine sr ?_
 refine q (sl z2 f3 e4) ?_
 refine AOps.p rfl (len_eq h5) ?_
 refine q (J 0) ?_
 refine nl ?_
 refine AW.meet (σ:=Unit) (fun _ tm os=>⟨updL tm [],updL os [],{ s with lo:=s.n }⟩) (fun _=>slices_IndexFunc_sstring_string_J1=some r) ?_ ?_
 ·rintro _ tm os h
  unfold slices_IndexFunc_sstring_string_J1 at h
  refine sr ?_
  refine q (J (-1)) ?_
  refine nl ?_
  cases h
  exact AW.ret ⟨rfl,_,_,rfl,rfl⟩
 intro KJ10
 refine AW.block ?_
 refine AW.res [(0,(sl z2 f3 e4)),(1,(AV.fn g7 cap8)),(7,(J (s1.length:Int))),(8,(J 0))] [] ⟨rfl,rfl,rfl,rfl,trivial⟩ trivial ?_
 refine AW.loopF (σ:=Int) (τ:=Unit) (fun t11 _=>True) (fun t11 _ tm os=>⟨updL tm [(0,(sl z2 f3 e4)),(1,(AV.fn g7 cap8)),(7,(J (s1.length:Int))),(8,(J t11))],updL os [],{ s with lo:=s.n }⟩) ?_ (x:=(0)) (y:=()) h trivial
 clear h
 rintro t11 _ tm os - ee1 h hL1 hR1
 unfold slices_IndexFunc_sstring_string_S1 at h
 refine sr ?_
 refine q (bool (decide ((t11:Int)<(s1.length:Int)))) ?_
 refine nl ?_
 refine AW.seq ?_
 rcases oite h with ⟨hc12,h⟩ | ⟨hc12,h⟩
 ·refine cT hc12 ?_
  refine AW.skip ?_
  refine AW.seq ?_
  refine AW.block ?_
  refine sr ?_
  refine q (J t11) ?_
  refine aq (J t11) ?_
  refine ns ?_
  refine q (AV.fn g7 cap8) ?_
  refine q (sl z2 f3 e4) ?_
  refine q (J t11) ?_
  obtain ⟨x13,h14,h⟩:=obind h
  obtain ⟨v17,h15,h16⟩:=idx_sl h5 h14
  cases h15
  refine AOps.pureR rfl rfl rfl h16 rfl (rfl:_=(eptr [(str x13)] 0)) ?_
  refine lE (str x13) ?_
  obtain ⟨y18,h19,h⟩:=obind h
  refine AOps.callP (g:=g7) (args:=([(str x13)]++cap8)) (p:=(rB) y18) rfl rfl rfl (h9 x13 _ _ (.cons rfl .nil) h19 _ hWF) ?_
  intro _ o21 h20
  cases h20
  refine nl ?_
  rcases oite h with ⟨hc22,h⟩ | ⟨hc22,h⟩
  ·refine cT hc22 ?_
   refine sr ?_
   refine q (J t11) ?_
   refine aq (J t11) ?_
   refine nl ?_
   cases h
   have hr:=hR1 _ rfl
   subst hr
   exact AW.ret ⟨rfl,_,_,rfl,rfl⟩
  refine cF hc22 ?_
  refine AW.skip ?_
  refine AW.inBlock ?_
  refine AW.region ?_
  refine q (J (IntKind.wrap .i64 (t11+1))) ?_
  refine q (J (IntKind.wrap .i64 (t11+1))) ?_
  refine nl ?_
  cases h
  exact AW.res [(0,(sl z2 f3 e4)),(1,(AV.fn g7 cap8)),(7,(J (s1.length:Int))),(8,(J (IntKind.wrap .i64 (t11+1))))] [] ⟨rfl,rfl,rfl,rfl,trivial⟩ trivial (hL1 _ rfl () _ _ trivial)
 refine cF hc12 ?_
 refine AW.exit rfl ?_
 obtain ⟨r23,hm,hx⟩:=omap h
 clear h
 subst hx
 have hx:=hR1 _ rfl
 rw[hx] at hm
 have h:=hm
 exact AW.res [] [] trivial trivial (KJ10 () _ _ h)
theorem slices_ContainsFunc_sstring_string_ok {s1:List (List UInt8)} {f6:(List UInt8)→Option Bool} {z2 g7:Nat} {f3:Bool} {e4 cap8:List AV} {s:St} (h5:LR rS 1 s1 z2 e4) (h9:∀ x vs y,Cs [rS x] vs→f6 x=some y→∀ s,WF s→ACall Cf g7 (vs++cap8) s fun v _ s'=>(rB) y v∧s'=s) {r:Bool} (h:slices_ContainsFunc_sstring_string s1 f6=some r) (hs:WF s):ACall Cf 74 [(sl z2 f3 e4),(AV.fn g7 cap8)] s fun v _ s'=>(rB) r v∧s'=s:=by
 refine ACall.pure rfl rfl rfl .B ?_
 have hWF:=hs.lo'
 unfold slices_ContainsFunc_sstring_string at h
 refine sr ?_
 refine q (bool false) ?_
 refine ns ?_
 refine q (sl z2 f3 e4) ?_
 refine q (AV.fn g7 cap8) ?_
 obtain ⟨y10,h11,h⟩:=obind h
 refine cP (slices_IndexFunc_sstring_string_ok h5 h9 h11 hWF) ?_
 intro _ o13 h12
 cases h12
 refine q (bool (decide ((y10:Int)≥0))) ?_
 refine aq (bool (decide ((y10:Int)≥0))) ?_
 refine nl ?_
 cases h
 exact AW.ret ⟨rfl,_,_,rfl,rfl⟩
theorem internal_stringslite_IndexByte_ok {s1:List UInt8} {c2 r:Int} {s:St} (h:internal_stringslite_IndexByte s1 c2=some r) (hs:WF s):ACall Cf 116 [(str s1),(int .u8 c2)] s fun v _ s'=>rJ r v∧s'=s:=by
 refine ACall.pure rfl rfl rfl .I ?_
 have hWF:=hs.lo'
 unfold internal_stringslite_IndexByte at h
 refine sr ?_
 refine q (J 0) ?_
 refine ns ?_
 refine q (str s1) ?_
 refine q (int .u8 c2) ?_
 obtain ⟨y3,h4,h⟩:=obind h
 refine cP (ext_byte_ok h4 hWF) ?_
 intro _ o6 h5
 cases h5
 refine aq (J y3) ?_
 refine nl ?_
 cases h
 exact AW.ret ⟨rfl,_,_,rfl,rfl⟩
theorem strings_IndexByte_ok {s1:List UInt8} {c2 r:Int} {s:St} (h:strings_IndexByte s1 c2=some r) (hs:WF s):ACall Cf 105 [(str s1),(int .u8 c2)] s fun v _ s'=>rJ r v∧s'=s:=by
 refine ACall.pure rfl rfl rfl .I ?_
 have hWF:=hs.lo'
 unfold strings_IndexByte at h
 refine sr ?_
 refine q (J 0) ?_
 refine ns ?_
 refine q (str s1) ?_
 refine q (int .u8 c2) ?_
 obtain ⟨y3,h4,h⟩:=obind h
 refine cP (internal_stringslite_IndexByte_ok  h4 hWF) ?_
 intro _ o6 h5
 cases h5
 refine aq (J y3) ?_
 refine nl ?_
 cases h
 exact AW.ret ⟨rfl,_,_,rfl,rfl⟩
theorem impl_ValidWord_ok {w1:List UInt8} {s:St} {r:Bool} (h:impl_ValidWord w1=some r) (hs:WF s):ACall Cf 76 [(str w1)] s fun v _ s'=>(rB) r v∧s'=s:=by
 refine ACall.pure rfl rfl rfl .B ?_
 have hWF:=hs.lo'
 unfold impl_ValidWord at h
 refine sr ?_
 refine q (bool false) ?_
 refine nl ?_
 refine AW.seq ?_
 refine sr ?_
 refine q (str w1) ?_
 refine q (J (w1.length:Int)) ?_
 refine q (J 0) ?_
 refine nl ?_
 refine AW.meet (σ:=Unit) (fun _ tm os=>⟨updL tm [(0,(str w1))],updL os [],{ s with lo:=s.n }⟩) (fun _=>impl_ValidWord_J1 w1=some r) ?_ ?_
 ·rintro _ tm os h
  unfold impl_ValidWord_J1 at h
  refine sr ?_
  refine q (str w1) ?_
  refine q (J (w1.length:Int)) ?_
  refine q (bool (decide (((w1.length:Int):Int)≤60))) ?_
  refine aq (bool (decide (((w1.length:Int):Int)≤60))) ?_
  refine nl ?_
  cases h
  exact AW.ret ⟨rfl,_,_,rfl,rfl⟩
 intro KJ2
 refine AW.block ?_
 refine AW.res [(0,(str w1)),(5,(J (w1.length:Int))),(6,(J 0))] [] ⟨rfl,rfl,rfl,trivial⟩ trivial ?_
 refine AW.loopF (σ:=Int) (τ:=Unit) (fun t3 _=>True) (fun t3 _ tm os=>⟨updL tm [(0,(str w1)),(5,(J (w1.length:Int))),(6,(J t3))],updL os [],{ s with lo:=s.n }⟩) ?_ (x:=(0)) (y:=()) h trivial
 clear h
 rintro t3 _ tm os - ee1 h hL1 hR1
 unfold impl_ValidWord_S1 at h
 refine sr ?_
 refine q (bool (decide ((t3:Int)<(w1.length:Int)))) ?_
 refine nl ?_
 refine AW.seq ?_
 rcases oite h with ⟨hc4,h⟩ | ⟨hc4,h⟩
 ·refine cT hc4 ?_
  refine AW.skip ?_
  refine AW.seq ?_
  refine AW.block ?_
  refine sr ?_
  refine q (J t3) ?_
  refine aq (J t3) ?_
  refine ns ?_
  refine q (str w1) ?_
  refine q (J t3) ?_
  obtain ⟨c5,h6,h⟩:=obind h
  refine AOps.pureR rfl rfl rfl (chr_str h6) rfl (rfl:_=(int .u8 c5)) ?_
  obtain ⟨y7,h8,h⟩:=obind h
  refine cP (strings_IndexByte_ok  h8 hWF) ?_
  intro _ o10 h9
  cases h9
  refine q (bool (decide ((y7:Int)<0))) ?_
  refine nl ?_
  rcases oite h with ⟨hc11,h⟩ | ⟨hc11,h⟩
  ·refine cT hc11 ?_
   refine sr ?_
   refine q (bool false) ?_
   refine nl ?_
   cases h
   have hr:=hR1 _ rfl
   subst hr
   exact AW.ret ⟨rfl,_,_,rfl,rfl⟩
  refine cF hc11 ?_
  refine AW.skip ?_
  refine AW.inBlock ?_
  refine AW.region ?_
  refine q (J (IntKind.wrap .i64 (t3+1))) ?_
  refine q (J (IntKind.wrap .i64 (t3+1))) ?_
  refine nl ?_
  cases h
  exact AW.res [(0,(str w1)),(5,(J (w1.length:Int))),(6,(J (IntKind.wrap .i64 (t3+1))))] [] ⟨rfl,rfl,rfl,trivial⟩ trivial (hL1 _ rfl () _ _ trivial)
 refine cF hc4 ?_
 refine AW.exit rfl ?_
 obtain ⟨r12,hm,hx⟩:=omap h
 clear h
 subst hx
 have hx:=hR1 _ rfl
 rw[hx] at hm
 have h:=hm
 exact AW.res [(0,(str w1))] [] ⟨rfl,trivial⟩ trivial (KJ2 () _ _ h)
theorem impl_ValidStream_1_ok {w1:List UInt8} {s:St} {r:Bool} (h:impl_ValidStream_1 w1=some r) (hs:WF s):ACall Cf 75 [(str w1)] s fun v _ s'=>(rB) r v∧s'=s:=by
 refine ACall.pure rfl rfl rfl .B ?_
 have hWF:=hs.lo'
 unfold impl_ValidStream_1 at h
 refine sr ?_
 refine q (bool false) ?_
 refine ns ?_
 refine q (str w1) ?_
 obtain ⟨y2,h3,h⟩:=obind h
 refine cP (impl_ValidWord_ok  h3 hWF) ?_
 intro _ o5 h4
 cases h4
 refine q (bool (!y2)) ?_
 refine aq (bool (!y2)) ?_
 refine nl ?_
 cases h
 exact AW.ret ⟨rfl,_,_,rfl,rfl⟩
end Go.Proofs.YtbmjcddendnniaaGreat.law
