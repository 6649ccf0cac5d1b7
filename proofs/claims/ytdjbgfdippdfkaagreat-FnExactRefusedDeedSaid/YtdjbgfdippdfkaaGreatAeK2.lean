import Derived.Test.YtdjbgfdippdfkaaGreatAeD
import Derived.Test.YtdjbgfdippdfkaaGreatAe4
import Derived.Test.YtdjbgfdippdfkaaGreatAeK1
set_option linter.unusedVariables false
set_option linter.unusedSimpArgs false
namespace Go.Proofs.YtdjbgfdippdfkaaGreat.law
open Go Go.Proofs Ae
open Ae.AV (int sl eptr agg ptr bool str)
set_option maxRecDepth 100000
set_option linter.unusedVariables false
theorem spec_l08Run_come_F1_ok {p14 : Stream} {p125 p126 p137 p138 : Int} {p127 p132 p139 p144 : List Int} {p149 : List Parcel} {p1_55 : Parcel} {b2 z5 z9 z13 z17 z21 z28 z33 z40 z45 z50 z56 : Nat} {w3 : Nat → Bool} {f6 f10 f14 f18 f22 f29 f34 f41 f46 f51 f57 : Bool} {e7 e11 e15 e19 e23 e30 e35 e42 e47 e52 e58 : List AV} {s : St} (h8 : LR rB 1 p14.Checker.Accept z5 e7) (h12 : LR (rL rPush 2) 1 p14.Checker.Call z9 e11) (h16 : LR (rL (rL (rI .i64) 1) 1) 1 p14.Checker.Return z13 e15) (h20 : LR (rL (rI .i64) 1) 1 p14.Checker.Inner z17 e19) (h24 : LR rS 1 p14.Pieces z21 e23) (h31 : LR (rI .i64) 1 p127 z28 e30) (h36 : LR (rI .i64) 1 p132 z33 e35) (h43 : LR (rI .i64) 1 p139 z40 e42) (h48 : LR (rI .i64) 1 p144 z45 e47) (h53 : LR rParcel 2 p149 z50 e52) (h54 : f51 = true ∨ w3 9 = true) (h59 : LR rS 1 p1_55.Texts z56 e58) (hE : HS [b2] false s { s with lo := s.n } [⟨some b2, [(eptr [(int .i64 p14.Checker.Stack), (int .i64 p14.Checker.Start), (sl z5 f6 e7), (sl z9 f10 e11), (sl z13 f14 e15), (sl z17 f18 e19), (sl z21 f22 e23)] 0), (int .i64 p125), (int .i64 p126), (sl z28 f29 e30), (sl z33 f34 e35), (int .i64 p137), (int .i64 p138), (sl z40 f41 e42), (sl z45 f46 e47), (sl z50 f51 e52)], w3⟩]) {r : Unit × Int × Int × (List Int) × (List Int)} (h : spec_l08Run_come_F1 p14 p125 p126 p127 p132 p137 p138 p139 p144 p149 p1_55 = some r) (hs : WF s) : ACall Cf 78 [(ptr b2 0), (eptr [(int .i64 p1_55.First), (sl z56 f57 e58)] 0)] s fun v _ s' => (fun (_ : Unit) => rT []) r.1 v ∧ ∃ (w0' : Nat → Bool) (z3' : Nat) (f3' : Bool) (e3' : List AV) (z4' : Nat) (f4' : Bool) (e4' : List AV), Fx [b2] s s' [⟨some b2, [(eptr [(int .i64 p14.Checker.Stack), (int .i64 p14.Checker.Start), (sl z5 f6 e7), (sl z9 f10 e11), (sl z13 f14 e15), (sl z17 f18 e19), (sl z21 f22 e23)] 0), (int .i64 r.2.1), (int .i64 r.2.2.1), (sl z3' f3' e3'), (sl z4' f4' e4'), (int .i64 p137), (int .i64 p138), (sl z40 f41 e42), (sl z45 f46 e47), (sl z50 f51 e52)], w0'⟩] ∧ LR (rI .i64) 1 r.2.2.2.1 z3' e3' ∧ LR (rI .i64) 1 r.2.2.2.2 z4' e4' ∧ (f51 = true ∨ w0' 9 = true) := by
 refine ACall.foreign rfl rfl rfl ?_
 unfold spec_l08Run_come_F1 at h
 refine sr ?_
 refine q (ptr b2 0) ?_
 refine q (ptr b2 0) ?_
 refine q (ptr b2 1) ?_
 refine q (ptr b2 1) ?_
 refine aq (ptr b2 1) ?_
 refine nl ?_
 refine AW.seq ?_
 refine sr ?_
 refine q (int .i64 0) ?_
 refine nl ?_
 refine AW.meet (σ := (List Int) × (Nat → Bool) × Nat × Bool × (List AV) × St) (fun (m61, w60, z62, f63, e64, s67) tm os => ⟨updL tm [(0, (ptr b2 0)), (4, (ptr b2 1))], updL os [], s67⟩) (fun (m61, w60, z62, f63, e64, s67) => (LR (rI .i64) 1 m61 z62 e64) ∧ (f51 = true ∨ w60 9 = true) ∧ (HS [b2] false s s67 [⟨some b2, [(eptr [(int .i64 p14.Checker.Stack), (int .i64 p14.Checker.Start), (sl z5 f6 e7), (sl z9 f10 e11), (sl z13 f14 e15), (sl z17 f18 e19), (sl z21 f22 e23)] 0), (int .i64 p125), (int .i64 p126), (sl z28 f29 e30), (sl z62 f63 e64), (int .i64 p137), (int .i64 p138), (sl z40 f41 e42), (sl z45 f46 e47), (sl z50 f51 e52)], w60⟩]) ∧ spec_l08Run_come_F1_J1 p14 p125 p126 p127 m61 = some r) ?_ ?_
 ·rintro ⟨m61, w60, z62, f63, e64, s67⟩ tm os ⟨h65, h66, hH68, h⟩
  unfold spec_l08Run_come_F1_J1 at h
  refine AW.meet (σ := Int × Int × (List Int) × (List Int) × (Nat → Bool) × Nat × Bool × (List AV) × Nat × Bool × (List AV) × St) (fun (m71, m72, m73, m78, w70, z74, f75, e76, z79, f80, e81, s84) tm os => ⟨updL tm [], updL os [], s84⟩) (fun (m71, m72, m73, m78, w70, z74, f75, e76, z79, f80, e81, s84) => (LR (rI .i64) 1 m73 z74 e76) ∧ (LR (rI .i64) 1 m78 z79 e81) ∧ (f51 = true ∨ w70 9 = true) ∧ (HS [b2] false s s84 [⟨some b2, [(eptr [(int .i64 p14.Checker.Stack), (int .i64 p14.Checker.Start), (sl z5 f6 e7), (sl z9 f10 e11), (sl z13 f14 e15), (sl z17 f18 e19), (sl z21 f22 e23)] 0), (int .i64 m71), (int .i64 m72), (sl z74 f75 e76), (sl z79 f80 e81), (int .i64 p137), (int .i64 p138), (sl z40 f41 e42), (sl z45 f46 e47), (sl z50 f51 e52)], w70⟩]) ∧ spec_l08Run_come_F1_J2 m71 m72 m73 m78 = some r) ?_ ?_
  ·rintro ⟨m71, m72, m73, m78, w70, z74, f75, e76, z79, f80, e81, s84⟩ tm os ⟨h77, h82, h83, hH85, h⟩
   unfold spec_l08Run_come_F1_J2 at h
   cases h
   exact AW.nil ⟨_, _, rfl, finF (p := (fun (_ : Unit) => rT []) ()) (Fin.T .nil) ⟨w70, z74, f75, e76, z79, f80, e81, HS.leaveP hH85 [0] rfl, h77, h82, h83⟩⟩
  intro KJ86
  refine AW.block ?_
  refine AW.res [(0, (ptr b2 0)), (4, (ptr b2 1))] [] ⟨rfl, rfl, trivial⟩ trivial ?_
  refine AW.loopF (σ := Int × Int × (List Int) × (List Int)) (τ := (Nat → Bool) × Nat × Bool × (List AV) × Nat × Bool × (List AV) × St) (fun (m88, m89, m90, m95) (w87, z91, f92, e93, z96, f97, e98, s101) => (LR (rI .i64) 1 m90 z91 e93) ∧ (LR (rI .i64) 1 m95 z96 e98) ∧ (f51 = true ∨ w87 9 = true) ∧ (HS [b2] false s s101 [⟨some b2, [(eptr [(int .i64 p14.Checker.Stack), (int .i64 p14.Checker.Start), (sl z5 f6 e7), (sl z9 f10 e11), (sl z13 f14 e15), (sl z17 f18 e19), (sl z21 f22 e23)] 0), (int .i64 m88), (int .i64 m89), (sl z91 f92 e93), (sl z96 f97 e98), (int .i64 p137), (int .i64 p138), (sl z40 f41 e42), (sl z45 f46 e47), (sl z50 f51 e52)], w87⟩])) (fun (m88, m89, m90, m95) (w87, z91, f92, e93, z96, f97, e98, s101) tm os => ⟨updL tm [(0, (ptr b2 0)), (4, (ptr b2 1))], updL os [], s101⟩) ?_ (x := (p125, p126, p127, m61)) (y := (w60, z28, f29, e30, z62, f63, e64, s67)) h ⟨h31, h65, h66, (HS.sel hH68 [some 0] (by decide))⟩
  clear h
  rintro ⟨m88, m89, m90, m95⟩ ⟨w87, z91, f92, e93, z96, f97, e98, s101⟩ tm os ⟨h94, h99, h100, hH102⟩ ee1 h hL1 hR1
  unfold spec_l08Run_come_F1_S1 at h
  dsimp only at h
  refine AW.seq ?_
  refine sr ?_
  refine q (ptr b2 1) ?_
  refine q (ptr b2 1) ?_
  refine q (ptr b2 4) ?_
  refine AOps.ldB (i := 0) (v := (sl z96 f97 e98)) hH102 rfl rfl rfl rfl rfl rfl rfl rfl rfl ?_
  refine AOps.p rfl (len_eq h99) ?_
  refine q (bool (decide (((m95.length : Int) : Int) > 0))) ?_
  refine q (bool (decide (((m95.length : Int) : Int) > 0))) ?_
  obtain ⟨b104, hb, h⟩ := obind h
  refine AOps.split 12 (fun f' => ∃ tm' os', f' = ⟨updL tm' [(0, (ptr b2 0)), (4, (ptr b2 1)), (69, (bool b104))], updL os' [], s101⟩) ?_ ?_
  ·rcases oite hb with ⟨hc103, hb⟩ | ⟨hc103, hb⟩
   ·have h := hb
    refine AOps.know (d := 57) rfl hc103 ?_
    refine q (ptr b2 1) ?_
    refine q (ptr b2 1) ?_
    refine q (ptr b2 4) ?_
    refine AOps.ldB (i := 0) (v := (sl z96 f97 e98)) hH102 rfl rfl rfl rfl rfl rfl rfl rfl rfl ?_
    obtain ⟨x105, h106, h⟩ := obind h
    obtain ⟨v109, h107, h108⟩ := idx_sl h99 h106
    cases h107
    refine AOps.pureR rfl rfl rfl h108 rfl (rfl : _ = (eptr [(int .i64 x105)] 0)) ?_
    refine lE (int .i64 x105) ?_
    refine q (ptr b2 1) ?_
    refine q (ptr b2 1) ?_
    refine q (ptr b2 1) ?_
    refine AOps.ldB (i := 0) (v := (int .i64 m88)) hH102 rfl rfl rfl rfl rfl rfl rfl rfl rfl ?_
    refine q (bool (x105 == m88)) ?_
    refine q (bool (x105 == m88)) ?_
    refine AOps.resR [(0, (ptr b2 0)), (4, (ptr b2 1)), (69, (bool b104))] [] ?_ ?_ _ ⟨_, _, rfl⟩
    ·exact ⟨rfl, rfl, congrArg bool (Option.some.inj h), trivial⟩
    exact trivial
   ·refine AOps.know (d := 57) rfl hc103 ?_
    refine sk ?_
    refine sk ?_
    refine sk ?_
    refine sk ?_
    refine sk ?_
    refine sk ?_
    refine sk ?_
    refine sk ?_
    refine sk ?_
    refine sk ?_
    refine sk ?_
    refine q (bool false) ?_
    refine AOps.resR [(0, (ptr b2 0)), (4, (ptr b2 1)), (69, (bool b104))] [] ?_ ?_ _ ⟨_, _, rfl⟩
    ·exact ⟨rfl, rfl, congrArg bool (Option.some.inj hb), trivial⟩
    exact trivial
  rintro _ ⟨tm, os, rfl⟩
  refine nl ?_
  rcases oite h with ⟨hc110, h⟩ | ⟨hc110, h⟩
  ·refine AW.condT (congrArg bool hc110) ?_
   refine AW.skip ?_
   refine AW.block ?_
   refine sr ?_
   refine q (ptr b2 1) ?_
   refine q (ptr b2 1) ?_
   refine q (ptr b2 0) ?_
   refine q (ptr b2 0) ?_
   refine q (ptr b2 0) ?_
   refine AOps.ldB (i := 0) (v := (eptr [(int .i64 p14.Checker.Stack), (int .i64 p14.Checker.Start), (sl z5 f6 e7), (sl z9 f10 e11), (sl z13 f14 e15), (sl z17 f18 e19), (sl z21 f22 e23)] 0)) hH102 rfl rfl rfl rfl rfl rfl rfl rfl rfl ?_
   refine q (eptr [(int .i64 p14.Checker.Stack), (int .i64 p14.Checker.Start), (sl z5 f6 e7), (sl z9 f10 e11), (sl z13 f14 e15), (sl z17 f18 e19), (sl z21 f22 e23)] 0) ?_
   refine q (eptr [(int .i64 p14.Checker.Stack), (int .i64 p14.Checker.Start), (sl z5 f6 e7), (sl z9 f10 e11), (sl z13 f14 e15), (sl z17 f18 e19), (sl z21 f22 e23)] 0) ?_
   refine q (ptr b2 1) ?_
   refine q (ptr b2 1) ?_
   refine q (ptr b2 2) ?_
   refine AOps.ldB (i := 0) (v := (int .i64 m89)) hH102 rfl rfl rfl rfl rfl rfl rfl rfl rfl ?_
   refine q (ptr b2 1) ?_
   refine q (ptr b2 1) ?_
   refine q (ptr b2 3) ?_
   refine AOps.ldB (i := 0) (v := (sl z91 f92 e93)) hH102 rfl rfl rfl rfl rfl rfl rfl rfl rfl ?_
   obtain ⟨y111, h112, h⟩ := obind h
   refine AOps.callDPO (g := 77) (args := [(sl z91 f92 e93)]) (p := (rL (rI .i64) 1) y111) rfl rfl rfl (spec_l00Own_okO h94 h112 ((HS.wf' hH102).still)) (fun v hv => Nice.pure (k := FINK) (p := (rL (rI .i64) 1) y111) (.L fun _ => .I) _ v hv) ?_
   intro _ h113
   obtain ⟨z114, f115, e116, rfl, h117⟩ := h113
   refine q (ptr b2 0) ?_
   refine q (ptr b2 0) ?_
   refine q (ptr b2 0) ?_
   refine AOps.ldB (i := 0) (v := (eptr [(int .i64 p14.Checker.Stack), (int .i64 p14.Checker.Start), (sl z5 f6 e7), (sl z9 f10 e11), (sl z13 f14 e15), (sl z17 f18 e19), (sl z21 f22 e23)] 0)) hH102 rfl rfl rfl rfl rfl rfl rfl rfl rfl ?_
   refine q (eptr [(int .i64 p14.Checker.Stack), (int .i64 p14.Checker.Start), (sl z5 f6 e7), (sl z9 f10 e11), (sl z13 f14 e15), (sl z17 f18 e19), (sl z21 f22 e23)] 0) ?_
   refine q (eptr [(int .i64 p14.Checker.Stack), (int .i64 p14.Checker.Start), (sl z5 f6 e7), (sl z9 f10 e11), (sl z13 f14 e15), (sl z17 f18 e19), (sl z21 f22 e23)] 6) ?_
   refine lE (sl z21 f22 e23) ?_
   refine q (ptr b2 1) ?_
   refine q (ptr b2 1) ?_
   refine q (ptr b2 1) ?_
   refine AOps.ldB (i := 0) (v := (int .i64 m88)) hH102 rfl rfl rfl rfl rfl rfl rfl rfl rfl ?_
   obtain ⟨x119, h120, h⟩ := obind h
   obtain ⟨v123, h121, h122⟩ := idx_sl h24 h120
   cases h121
   refine AOps.pureR rfl rfl rfl h122 rfl (rfl : _ = (eptr [(str x119)] 0)) ?_
   refine lE (str x119) ?_
   obtain ⟨y124, h125, h⟩ := obind h
   refine AOps.callDP (g := 103) (args := [(eptr [(int .i64 p14.Checker.Stack), (int .i64 p14.Checker.Start), (sl z5 f6 e7), (sl z9 f10 e11), (sl z13 f14 e15), (sl z17 f18 e19), (sl z21 f22 e23)] 0), (int .i64 m89), (sl z114 f115 e116), (str x119)]) (p := (fun x => rT [(rI .i64) x.1, (rL (rI .i64) 1) x.2]) y124) rfl rfl rfl (spec_l02Go_w0_7ppp_ok (s := St.still s101) h8 h12 h16 h20 h117 h125 ((HS.wf' hH102).still)) (fun v hv => Nice.pure (k := FINK) (p := (fun x => rT [(rI .i64) x.1, (rL (rI .i64) 1) x.2]) y124) (.T (.cons .I (.cons (.L fun _ => .I) .nil))) _ v hv) ?_
   intro _ o136 h126
   obtain ⟨_, rfl, h127⟩ := h126
   obtain ⟨_, _, rfl, h128, h129⟩ := Cs_cons h127
   cases h128
   obtain ⟨_, _, rfl, h130, h131⟩ := Cs_cons h129
   obtain ⟨z132, f133, e134, rfl, h135⟩ := h130
   cases Cs_nil h131
   refine q (AV.tup [(int .i64 y124.1), (sl z132 f133 e134)]) ?_
   refine q (int .i64 y124.1) ?_
   refine q (sl z132 f133 e134) ?_
   refine q (ptr b2 1) ?_
   refine q (ptr b2 2) ?_
   refine AOps.stX (i := 0) (v := (int .i64 y124.1)) hH102 rfl rfl rfl rfl rfl rfl rfl rfl rfl (lt_b rfl) (le_b rfl) rfl rfl ?_
   intro w137 s138 h139 h140 hH141
   change HS [b2] false s s138 [⟨some b2, [(eptr [(int .i64 p14.Checker.Stack), (int .i64 p14.Checker.Start), (sl z5 f6 e7), (sl z9 f10 e11), (sl z13 f14 e15), (sl z17 f18 e19), (sl z21 f22 e23)] 0), (int .i64 m88), (int .i64 y124.1), (sl z91 f92 e93), (sl z96 f97 e98), (int .i64 p137), (int .i64 p138), (sl z40 f41 e42), (sl z45 f46 e47), (sl z50 f51 e52)], w137⟩] at hH141
   refine q (ptr b2 1) ?_
   refine q (ptr b2 3) ?_
   refine AOps.stX (i := 0) (v := (sl z132 f133 e134)) hH141 rfl rfl rfl rfl rfl rfl rfl rfl rfl (lt_b rfl) (le_b rfl) rfl (Nice.pure (k := FINK) (p := (rL (rI .i64) 1) y124.2) (.L fun _ => .I) 0 _ ⟨_, _, _, rfl, h135⟩) ?_
   intro w142 s143 h144 h145 hH146
   change HS [b2] false s s143 [⟨some b2, [(eptr [(int .i64 p14.Checker.Stack), (int .i64 p14.Checker.Start), (sl z5 f6 e7), (sl z9 f10 e11), (sl z13 f14 e15), (sl z17 f18 e19), (sl z21 f22 e23)] 0), (int .i64 m88), (int .i64 y124.1), (sl z132 f133 e134), (sl z96 f97 e98), (int .i64 p137), (int .i64 p138), (sl z40 f41 e42), (sl z45 f46 e47), (sl z50 f51 e52)], w142⟩] at hH146
   refine ns ?_
   refine q (ptr b2 1) ?_
   refine q (ptr b2 1) ?_
   refine q (ptr b2 1) ?_
   refine q (ptr b2 4) ?_
   refine AOps.ldB (i := 0) (v := (sl z96 f97 e98)) hH146 rfl rfl rfl rfl rfl rfl rfl rfl rfl ?_
   obtain ⟨l147, h148, h⟩ := obind h
   obtain ⟨f149, e150, h151, h152⟩ := cut_slL f97 h99 h148
   refine AOps.pureR rfl rfl rfl h152 rfl (rfl : _ = (sl z96 f149 e150)) ?_
   obtain ⟨y153, h154, h⟩ := obind h
   refine AOps.callPO (g := 77) (args := [(sl z96 f149 e150)]) (p := (rL (rI .i64) 1) y153) rfl rfl rfl (spec_l00Own_okO h151 h154 (HS.wf' hH146)) ?_
   intro _ h155
   obtain ⟨z156, f157, e158, rfl, h159⟩ := h155
   refine q (ptr b2 1) ?_
   refine q (ptr b2 4) ?_
   refine AOps.stX (i := 0) (v := (sl z156 f157 e158)) hH146 rfl rfl rfl rfl rfl rfl rfl rfl rfl (lt_b rfl) (le_b rfl) rfl (Nice.pure (k := FINK) (p := (rL (rI .i64) 1) y153) (.L fun _ => .I) 0 _ ⟨_, _, _, rfl, h159⟩) ?_
   intro w161 s162 h163 h164 hH165
   change HS [b2] false s s162 [⟨some b2, [(eptr [(int .i64 p14.Checker.Stack), (int .i64 p14.Checker.Start), (sl z5 f6 e7), (sl z9 f10 e11), (sl z13 f14 e15), (sl z17 f18 e19), (sl z21 f22 e23)] 0), (int .i64 m88), (int .i64 y124.1), (sl z132 f133 e134), (sl z156 f157 e158), (int .i64 p137), (int .i64 p138), (sl z40 f41 e42), (sl z45 f46 e47), (sl z50 f51 e52)], w161⟩] at hH165
   refine nl ?_
   refine AW.region ?_
   refine q (ptr b2 1) ?_
   refine q (ptr b2 1) ?_
   refine q (ptr b2 1) ?_
   refine AOps.ldB (i := 0) (v := (int .i64 m88)) hH165 rfl rfl rfl rfl rfl rfl rfl rfl rfl ?_
   refine q (int .i64 (IntKind.wrap .i64 (m88 + 1))) ?_
   refine q (ptr b2 1) ?_
   refine q (ptr b2 1) ?_
   refine AOps.stX (i := 0) (v := (int .i64 (IntKind.wrap .i64 (m88 + 1)))) hH165 rfl rfl rfl rfl rfl rfl rfl rfl rfl (lt_b rfl) (le_b rfl) rfl rfl ?_
   intro w166 s167 h168 h169 hH170
   change HS [b2] false s s167 [⟨some b2, [(eptr [(int .i64 p14.Checker.Stack), (int .i64 p14.Checker.Start), (sl z5 f6 e7), (sl z9 f10 e11), (sl z13 f14 e15), (sl z17 f18 e19), (sl z21 f22 e23)] 0), (int .i64 (IntKind.wrap .i64 (m88 + 1))), (int .i64 y124.1), (sl z132 f133 e134), (sl z156 f157 e158), (int .i64 p137), (int .i64 p138), (sl z40 f41 e42), (sl z45 f46 e47), (sl z50 f51 e52)], w166⟩] at hH170
   refine nl ?_
   refine AW.inBlock ?_
   cases h
   exact AW.res [(0, (ptr b2 0)), (4, (ptr b2 1))] [] ⟨rfl, rfl, trivial⟩ trivial (hL1 _ rfl (w166, z132, f133, e134, z156, f157, e158, s167) _ _ ⟨h135, h159, (own_keep (own_keep (own_keep (own_keep h100 (h139 _ (by decide))) (h144 _ (by decide))) (h163 _ (by decide))) (h168 _ (by decide))), (HS.sel hH170 [some 0] (by decide))⟩)
  refine AW.condF (congrArg bool hc110) ?_
  refine AW.exit rfl ?_
  obtain ⟨r171, hm, hx⟩ := omap h
  clear h
  subst hx
  have hx := hR1 _ rfl
  rw [hx] at hm
  have h := hm
  exact AW.res [] [] trivial trivial (KJ86 (m88, m89, m90, m95, w87, z91, f92, e93, z96, f97, e98, s101) _ _ ⟨h94, h99, h100, (HS.sel hH102 [some 0] (by decide)), h⟩)
 intro KJ69
 refine AW.block ?_
 refine AW.res [(0, (ptr b2 0)), (1, (eptr [(int .i64 p1_55.First), (sl z56 f57 e58)] 0)), (4, (ptr b2 1)), (5, (int .i64 0))] [] ⟨rfl, rfl, rfl, rfl, trivial⟩ trivial ?_
 refine AW.loopF (σ := (List Int) × Int) (τ := (Nat → Bool) × Nat × Bool × (List AV) × St) (fun (m173, t179) (w172, z174, f175, e176, s180) => (LR (rI .i64) 1 m173 z174 e176) ∧ (f51 = true ∨ w172 9 = true) ∧ (HS [b2] false s s180 [⟨some b2, [(eptr [(int .i64 p14.Checker.Stack), (int .i64 p14.Checker.Start), (sl z5 f6 e7), (sl z9 f10 e11), (sl z13 f14 e15), (sl z17 f18 e19), (sl z21 f22 e23)] 0), (int .i64 p125), (int .i64 p126), (sl z28 f29 e30), (sl z174 f175 e176), (int .i64 p137), (int .i64 p138), (sl z40 f41 e42), (sl z45 f46 e47), (sl z50 f51 e52)], w172⟩])) (fun (m173, t179) (w172, z174, f175, e176, s180) tm os => ⟨updL tm [(0, (ptr b2 0)), (1, (eptr [(int .i64 p1_55.First), (sl z56 f57 e58)] 0)), (4, (ptr b2 1)), (5, (int .i64 t179))], updL os [], s180⟩) ?_ (x := (p132, 0)) (y := (w3, z33, f34, e35, { s with lo := s.n })) h ⟨h36, h54, (HS.sel hE [some 0] (by decide))⟩
 clear h
 rintro ⟨m173, t179⟩ ⟨w172, z174, f175, e176, s180⟩ tm os ⟨h177, h178, hH181⟩ ee1 h hL1 hR1
 unfold spec_l08Run_come_F1_S2 at h
 dsimp only at h
 refine AW.seq ?_
 refine sr ?_
 refine q (int .i64 t179) ?_
 refine q (eptr [(int .i64 p1_55.First), (sl z56 f57 e58)] 0) ?_
 refine q (eptr [(int .i64 p1_55.First), (sl z56 f57 e58)] 0) ?_
 refine q (eptr [(int .i64 p1_55.First), (sl z56 f57 e58)] 1) ?_
 refine lE (sl z56 f57 e58) ?_
 refine AOps.p rfl (len_eq h59) ?_
 refine q (bool (decide ((t179 : Int) < (p1_55.Texts.length : Int)))) ?_
 refine nl ?_
 rcases oite h with ⟨hc182, h⟩ | ⟨hc182, h⟩
 ·refine AW.condT (congrArg bool hc182) ?_
  refine AW.skip ?_
  refine AW.seq ?_
  refine AW.block ?_
  refine sr ?_
  refine q (eptr [(int .i64 p1_55.First), (sl z56 f57 e58)] 0) ?_
  refine q (eptr [(int .i64 p1_55.First), (sl z56 f57 e58)] 0) ?_
  refine q (eptr [(int .i64 p1_55.First), (sl z56 f57 e58)] 0) ?_
  refine lE (int .i64 p1_55.First) ?_
  refine q (int .i64 t179) ?_
  refine q (int .i64 (IntKind.wrap .i64 (p1_55.First + t179))) ?_
  refine aq (int .i64 (IntKind.wrap .i64 (p1_55.First + t179))) ?_
  refine ns ?_
  refine q (int .i64 (IntKind.wrap .i64 (p1_55.First + t179))) ?_
  refine q (ptr b2 1) ?_
  refine q (ptr b2 1) ?_
  refine q (ptr b2 1) ?_
  refine AOps.ldB (i := 0) (v := (int .i64 p125)) hH181 rfl rfl rfl rfl rfl rfl rfl rfl rfl ?_
  refine q (bool (decide ((IntKind.wrap .i64 (p1_55.First + t179) : Int) ≥ p125))) ?_
  refine q (bool (decide ((IntKind.wrap .i64 (p1_55.First + t179) : Int) ≥ p125))) ?_
  obtain ⟨b184, hb, h⟩ := obind h
  refine AOps.split 8 (fun f' => ∃ tm' os', f' = ⟨updL tm' [(0, (ptr b2 0)), (1, (eptr [(int .i64 p1_55.First), (sl z56 f57 e58)] 0)), (4, (ptr b2 1)), (5, (int .i64 t179)), (6, (int .i64 (IntKind.wrap .i64 (p1_55.First + t179)))), (40, (bool b184))], updL os' [], s180⟩) ?_ ?_
  ·rcases oite hb with ⟨hc183, hb⟩ | ⟨hc183, hb⟩
   ·have h := hb
    refine AOps.know (d := 32) rfl hc183 ?_
    refine q (ptr b2 1) ?_
    refine q (ptr b2 1) ?_
    refine q (ptr b2 4) ?_
    refine AOps.ldB (i := 0) (v := (sl z174 f175 e176)) hH181 rfl rfl rfl rfl rfl rfl rfl rfl rfl ?_
    refine q (int .i64 (IntKind.wrap .i64 (p1_55.First + t179))) ?_
    obtain ⟨y185, h186, h⟩ := obind h
    refine AOps.callP (g := 101) (args := [(sl z174 f175 e176), (int .i64 (IntKind.wrap .i64 (p1_55.First + t179)))]) (p := (rB) y185) rfl rfl rfl (spec_l00Has_ok h177 h186 (HS.wf' hH181)) ?_
    intro _ o188 h187
    cases h187
    refine q (bool (!y185)) ?_
    refine q (bool (!y185)) ?_
    refine AOps.resR [(0, (ptr b2 0)), (1, (eptr [(int .i64 p1_55.First), (sl z56 f57 e58)] 0)), (4, (ptr b2 1)), (5, (int .i64 t179)), (6, (int .i64 (IntKind.wrap .i64 (p1_55.First + t179)))), (40, (bool b184))] [] ?_ ?_ _ ⟨_, _, rfl⟩
    ·exact ⟨rfl, rfl, rfl, rfl, rfl, congrArg bool (Option.some.inj h), trivial⟩
    exact trivial
   ·refine AOps.know (d := 32) rfl hc183 ?_
    refine sk ?_
    refine sk ?_
    refine sk ?_
    refine sk ?_
    refine sk ?_
    refine sk ?_
    refine sk ?_
    refine q (bool false) ?_
    refine AOps.resR [(0, (ptr b2 0)), (1, (eptr [(int .i64 p1_55.First), (sl z56 f57 e58)] 0)), (4, (ptr b2 1)), (5, (int .i64 t179)), (6, (int .i64 (IntKind.wrap .i64 (p1_55.First + t179)))), (40, (bool b184))] [] ?_ ?_ _ ⟨_, _, rfl⟩
    ·exact ⟨rfl, rfl, rfl, rfl, rfl, congrArg bool (Option.some.inj hb), trivial⟩
    exact trivial
  rintro _ ⟨tm, os, rfl⟩
  refine nl ?_
  refine AW.meet (σ := (List Int) × (Nat → Bool) × Nat × Bool × (List AV) × St) (fun (m190, w189, z191, f192, e193, s196) tm os => ⟨updL tm [(0, (ptr b2 0)), (1, (eptr [(int .i64 p1_55.First), (sl z56 f57 e58)] 0)), (4, (ptr b2 1)), (5, (int .i64 t179))], updL os [], s196⟩) (fun (m190, w189, z191, f192, e193, s196) => (LR (rI .i64) 1 m190 z191 e193) ∧ (f51 = true ∨ w189 9 = true) ∧ (HS [b2] false s s196 [⟨some b2, [(eptr [(int .i64 p14.Checker.Stack), (int .i64 p14.Checker.Start), (sl z5 f6 e7), (sl z9 f10 e11), (sl z13 f14 e15), (sl z17 f18 e19), (sl z21 f22 e23)] 0), (int .i64 p125), (int .i64 p126), (sl z28 f29 e30), (sl z191 f192 e193), (int .i64 p137), (int .i64 p138), (sl z40 f41 e42), (sl z45 f46 e47), (sl z50 f51 e52)], w189⟩]) ∧ spec_l08Run_come_F1_J3 t179 m190 = some ee1) ?_ ?_
  ·rintro ⟨m190, w189, z191, f192, e193, s196⟩ tm os ⟨h194, h195, hH197, h⟩
   unfold spec_l08Run_come_F1_J3 at h
   refine AW.inBlock ?_
   refine AW.region ?_
   refine q (int .i64 t179) ?_
   refine q (int .i64 (IntKind.wrap .i64 (t179 + 1))) ?_
   refine aq (int .i64 (IntKind.wrap .i64 (t179 + 1))) ?_
   refine nl ?_
   cases h
   exact AW.res [(0, (ptr b2 0)), (1, (eptr [(int .i64 p1_55.First), (sl z56 f57 e58)] 0)), (4, (ptr b2 1)), (5, (int .i64 (IntKind.wrap .i64 (t179 + 1))))] [] ⟨rfl, rfl, rfl, rfl, trivial⟩ trivial (hL1 _ rfl (w189, z191, f192, e193, s196) _ _ ⟨h194, h195, (HS.sel hH197 [some 0] (by decide))⟩)
  intro KJ198
  rcases oite h with ⟨hc199, h⟩ | ⟨hc199, h⟩
  ·refine AW.condT (congrArg bool hc199) ?_
   refine AW.region ?_
   refine q (ptr b2 1) ?_
   refine q (ptr b2 1) ?_
   refine q (ptr b2 1) ?_
   refine q (ptr b2 4) ?_
   refine AOps.ldB (i := 0) (v := (sl z174 f175 e176)) hH181 rfl rfl rfl rfl rfl rfl rfl rfl rfl ?_
   obtain ⟨y200, h201, h⟩ := obind h
   refine AOps.callPO (g := 77) (args := [(sl z174 f175 e176)]) (p := (rL (rI .i64) 1) y200) rfl rfl rfl (spec_l00Own_okO h177 h201 (HS.wf' hH181)) ?_
   intro _ h202
   obtain ⟨z203, f204, e205, rfl, h206⟩ := h202
   refine q (int .i64 (IntKind.wrap .i64 (p1_55.First + t179))) ?_
   obtain ⟨y208, h209, h⟩ := obind h
   refine AOps.callP (g := 102) (args := [(sl z203 f204 e205), (int .i64 (IntKind.wrap .i64 (p1_55.First + t179)))]) (p := (rL (rI .i64) 1) y208) rfl rfl rfl (spec_l00Put_ok h206 h209 (HS.wf' hH181)) ?_
   intro _ o215 h210
   obtain ⟨z211, f212, e213, rfl, h214⟩ := h210
   refine q (ptr b2 1) ?_
   refine q (ptr b2 4) ?_
   refine AOps.stX (i := 0) (v := (sl z211 f212 e213)) hH181 rfl rfl rfl rfl rfl rfl rfl rfl rfl (lt_b rfl) (le_b rfl) rfl (Nice.pure (k := FINK) (p := (rL (rI .i64) 1) y208) (.L fun _ => .I) 0 _ ⟨_, _, _, rfl, h214⟩) ?_
   intro w216 s217 h218 h219 hH220
   change HS [b2] false s s217 [⟨some b2, [(eptr [(int .i64 p14.Checker.Stack), (int .i64 p14.Checker.Start), (sl z5 f6 e7), (sl z9 f10 e11), (sl z13 f14 e15), (sl z17 f18 e19), (sl z21 f22 e23)] 0), (int .i64 p125), (int .i64 p126), (sl z28 f29 e30), (sl z211 f212 e213), (int .i64 p137), (int .i64 p138), (sl z40 f41 e42), (sl z45 f46 e47), (sl z50 f51 e52)], w216⟩] at hH220
   refine nl ?_
   exact AW.res [(0, (ptr b2 0)), (1, (eptr [(int .i64 p1_55.First), (sl z56 f57 e58)] 0)), (4, (ptr b2 1)), (5, (int .i64 t179))] [] ⟨rfl, rfl, rfl, rfl, trivial⟩ trivial (KJ198 (y208, w216, z211, f212, e213, s217) _ _ ⟨h214, (own_keep h178 (h218 _ (by decide))), (HS.sel hH220 [some 0] (by decide)), h⟩)
  refine AW.condF (congrArg bool hc199) ?_
  refine AW.skip ?_
  exact AW.res [(0, (ptr b2 0)), (1, (eptr [(int .i64 p1_55.First), (sl z56 f57 e58)] 0)), (4, (ptr b2 1)), (5, (int .i64 t179))] [] ⟨rfl, rfl, rfl, rfl, trivial⟩ trivial (KJ198 (m173, w172, z174, f175, e176, s180) _ _ ⟨h177, h178, (HS.sel hH181 [some 0] (by decide)), h⟩)
 refine AW.condF (congrArg bool hc182) ?_
 refine AW.exit rfl ?_
 obtain ⟨r221, hm, hx⟩ := omap h
 clear h
 subst hx
 have hx := hR1 _ rfl
 rw [hx] at hm
 have h := hm
 exact AW.res [(0, (ptr b2 0)), (4, (ptr b2 1))] [] ⟨rfl, rfl, trivial⟩ trivial (KJ69 (m173, w172, z174, f175, e176, s180) _ _ ⟨h177, h178, (HS.sel hH181 [some 0] (by decide)), h⟩)
theorem spec_l08Run_wire_F1_ok {r14 : Stream} {r125 r126 r137 r138 : Int} {r127 r132 r139 r144 : List Int} {r149 : List Parcel} {d55 : Deed} {b2 z5 z9 z13 z17 z21 z28 z33 z40 z45 z50 : Nat} {w3 : Nat → Bool} {f6 f10 f14 f18 f22 f29 f34 f41 f46 f51 : Bool} {e7 e11 e15 e19 e23 e30 e35 e42 e47 e52 : List AV} {s : St} (h8 : LR rB 1 r14.Checker.Accept z5 e7) (h12 : LR (rL rPush 2) 1 r14.Checker.Call z9 e11) (h16 : LR (rL (rL (rI .i64) 1) 1) 1 r14.Checker.Return z13 e15) (h20 : LR (rL (rI .i64) 1) 1 r14.Checker.Inner z17 e19) (h24 : LR rS 1 r14.Pieces z21 e23) (h31 : LR (rI .i64) 1 r127 z28 e30) (h36 : LR (rI .i64) 1 r132 z33 e35) (h43 : LR (rI .i64) 1 r139 z40 e42) (h48 : LR (rI .i64) 1 r144 z45 e47) (h53 : LR rParcel 2 r149 z50 e52) (h54 : f51 = true ∨ w3 9 = true) (hE : HS [b2] false s { s with lo := s.n } [⟨some b2, [(eptr [(int .i64 r14.Checker.Stack), (int .i64 r14.Checker.Start), (sl z5 f6 e7), (sl z9 f10 e11), (sl z13 f14 e15), (sl z17 f18 e19), (sl z21 f22 e23)] 0), (int .i64 r125), (int .i64 r126), (sl z28 f29 e30), (sl z33 f34 e35), (int .i64 r137), (int .i64 r138), (sl z40 f41 e42), (sl z45 f46 e47), (sl z50 f51 e52)], w3⟩]) {r : Int × Int × Int × (List Int) × (List Int) × (List Parcel)} (h : spec_l08Run_wire_F1 r14 r125 r126 r127 r132 r137 r138 r139 r144 r149 d55 = some r) (hs : WF s) : ACall Cf 58 [(ptr b2 0), (agg [(int .i64 d55.Kind), (int .i64 d55.A), (int .i64 d55.B)])] s fun v _ s' => (rI .i64) r.1 v ∧ ∃ (w0' : Nat → Bool) (z3' : Nat) (f3' : Bool) (e3' : List AV) (z4' : Nat) (f4' : Bool) (e4' : List AV) (z9' : Nat) (f9' : Bool) (e9' : List AV), Fx [b2] s s' [⟨some b2, [(eptr [(int .i64 r14.Checker.Stack), (int .i64 r14.Checker.Start), (sl z5 f6 e7), (sl z9 f10 e11), (sl z13 f14 e15), (sl z17 f18 e19), (sl z21 f22 e23)] 0), (int .i64 r.2.1), (int .i64 r.2.2.1), (sl z3' f3' e3'), (sl z4' f4' e4'), (int .i64 r137), (int .i64 r138), (sl z40 f41 e42), (sl z45 f46 e47), (sl z9' f9' e9')], w0'⟩] ∧ LR (rI .i64) 1 r.2.2.2.1 z3' e3' ∧ LR (rI .i64) 1 r.2.2.2.2.1 z4' e4' ∧ LR rParcel 2 r.2.2.2.2.2 z9' e9' ∧ (f9' = true ∨ w0' 9 = true) := by
 refine ACall.foreign rfl rfl rfl ?_
 unfold spec_l08Run_wire_F1 at h
 refine sr ?_
 refine AOps.makeR rfl rfl rfl rfl rfl rfl (rfl : _ = (eptr [(int .i64 d55.Kind), (int .i64 d55.A), (int .i64 d55.B)] 0)) ?_
 refine q (int .i64 0) ?_
 refine nl ?_
 refine AW.seq ?_
 refine sr ?_
 refine q (eptr [(int .i64 d55.Kind), (int .i64 d55.A), (int .i64 d55.B)] 1) ?_
 refine lE (int .i64 d55.A) ?_
 refine q (ptr b2 0) ?_
 refine q (ptr b2 0) ?_
 refine q (ptr b2 1) ?_
 refine q (ptr b2 9) ?_
 refine AOps.ldB (i := 0) (v := (sl z50 f51 e52)) hE rfl rfl rfl rfl rfl rfl rfl rfl rfl ?_
 refine AOps.p rfl (len_eq h53) ?_
 refine q (bool (decide ((d55.A : Int) ≥ (r149.length : Int)))) ?_
 refine nl ?_
 rcases oite h with ⟨hc56, h⟩ | ⟨hc56, h⟩
 ·refine AW.condT (congrArg bool hc56) ?_
  refine sr ?_
  refine q (int .i64 2) ?_
  refine nl ?_
  obtain rfl := Option.some.inj h
  exact AW.ret ⟨_, _, rfl, finF (p := (rI .i64) 2) (Fin.of (p := (rI .i64) 2) .I rfl) ⟨w3, z28, f29, e30, z33, f34, e35, z50, f51, e52, HS.leaveP hE [0] rfl, h31, h36, h53, h54⟩⟩
 refine AW.condF (congrArg bool hc56) ?_
 refine AW.skip ?_
 refine sr ?_
 refine q (ptr b2 0) ?_
 refine q (ptr b2 0) ?_
 refine q (ptr b2 1) ?_
 refine q (ptr b2 9) ?_
 refine AOps.ldB (i := 0) (v := (sl z50 f51 e52)) hE rfl rfl rfl rfl rfl rfl rfl rfl rfl ?_
 refine q (eptr [(int .i64 d55.Kind), (int .i64 d55.A), (int .i64 d55.B)] 1) ?_
 refine lE (int .i64 d55.A) ?_
 obtain ⟨x57, h58, h⟩ := obind h
 obtain ⟨v61, h59, h60⟩ := idx_sl h53 h58
 obtain ⟨_, rfl, h62⟩ := h59
 obtain ⟨_, _, rfl, h63, h64⟩ := Cs_cons h62
 cases h63
 obtain ⟨_, _, rfl, h65, h66⟩ := Cs_cons h64
 obtain ⟨z67, f68, e69, rfl, h70⟩ := h65
 cases Cs_nil h66
 refine AOps.pureR rfl rfl rfl h60 rfl (rfl : _ = (eptr [(int .i64 x57.First), (sl z67 f68 e69)] 0)) ?_
 refine lE (agg [(int .i64 x57.First), (sl z67 f68 e69)]) ?_
 refine AOps.allocP rfl rfl rfl rfl ⟨rfl, rfl⟩ rfl ?_
 refine AOps.stP (v := (agg [(int .i64 x57.First), (sl z67 f68 e69)])) rfl rfl rfl rfl rfl rfl rfl rfl rfl (lt_b rfl) rfl ?_
 refine nl ?_
 refine AW.seq ?_
 refine sr ?_
 refine q (eptr [(int .i64 d55.Kind), (int .i64 d55.A), (int .i64 d55.B)] 0) ?_
 refine lE (int .i64 d55.Kind) ?_
 refine q (bool (d55.Kind != 4)) ?_
 refine nl ?_
 refine AW.meet (σ := Int × Int × (List Int) × (List Int) × (Nat → Bool) × Nat × Bool × (List AV) × Nat × Bool × (List AV) × St) (fun (m72, m73, m74, m79, w71, z75, f76, e77, z80, f81, e82, s85) tm os => ⟨updL tm [(0, (ptr b2 0)), (3, (eptr [(int .i64 d55.Kind), (int .i64 d55.A), (int .i64 d55.B)] 0))], updL os [], s85⟩) (fun (m72, m73, m74, m79, w71, z75, f76, e77, z80, f81, e82, s85) => (LR (rI .i64) 1 m74 z75 e77) ∧ (LR (rI .i64) 1 m79 z80 e82) ∧ (f51 = true ∨ w71 9 = true) ∧ (HS [b2] false s s85 [⟨some b2, [(eptr [(int .i64 r14.Checker.Stack), (int .i64 r14.Checker.Start), (sl z5 f6 e7), (sl z9 f10 e11), (sl z13 f14 e15), (sl z17 f18 e19), (sl z21 f22 e23)] 0), (int .i64 m72), (int .i64 m73), (sl z75 f76 e77), (sl z80 f81 e82), (int .i64 r137), (int .i64 r138), (sl z40 f41 e42), (sl z45 f46 e47), (sl z50 f51 e52)], w71⟩]) ∧ spec_l08Run_wire_F1_J1 r149 d55 m72 m73 m74 m79 = some r) ?_ ?_
 ·rintro ⟨m72, m73, m74, m79, w71, z75, f76, e77, z80, f81, e82, s85⟩ tm os ⟨h78, h83, h84, hH86, h⟩
  unfold spec_l08Run_wire_F1_J1 at h
  refine AW.seq ?_
  refine sr ?_
  refine q (eptr [(int .i64 d55.Kind), (int .i64 d55.A), (int .i64 d55.B)] 0) ?_
  refine lE (int .i64 d55.Kind) ?_
  refine q (bool (d55.Kind != 3)) ?_
  refine nl ?_
  refine AW.meet (σ := (List Parcel) × (Nat → Bool) × Nat × Bool × (List AV) × St) (fun (m89, w88, z90, f91, e92, s95) tm os => ⟨updL tm [], updL os [], s95⟩) (fun (m89, w88, z90, f91, e92, s95) => (LR rParcel 2 m89 z90 e92) ∧ (f91 = true ∨ w88 9 = true) ∧ (HS [b2] false s s95 [⟨some b2, [(eptr [(int .i64 r14.Checker.Stack), (int .i64 r14.Checker.Start), (sl z5 f6 e7), (sl z9 f10 e11), (sl z13 f14 e15), (sl z17 f18 e19), (sl z21 f22 e23)] 0), (int .i64 m72), (int .i64 m73), (sl z75 f76 e77), (sl z80 f81 e82), (int .i64 r137), (int .i64 r138), (sl z40 f41 e42), (sl z45 f46 e47), (sl z90 f91 e92)], w88⟩]) ∧ spec_l08Run_wire_F1_J2 m72 m73 m74 m79 m89 = some r) ?_ ?_
  ·rintro ⟨m89, w88, z90, f91, e92, s95⟩ tm os ⟨h93, h94, hH96, h⟩
   unfold spec_l08Run_wire_F1_J2 at h
   refine sr ?_
   refine q (int .i64 0) ?_
   refine nl ?_
   obtain rfl := Option.some.inj h
   exact AW.ret ⟨_, _, rfl, finF (p := (rI .i64) 0) (Fin.of (p := (rI .i64) 0) .I rfl) ⟨w88, z75, f76, e77, z80, f81, e82, z90, f91, e92, HS.leaveP hH96 [0] rfl, h78, h83, h93, h94⟩⟩
  intro KJ97
  rcases oite h with ⟨hc98, h⟩ | ⟨hc98, h⟩
  ·refine AW.condT (congrArg bool hc98) ?_
   refine sr ?_
   refine AOps.makeR rfl rfl rfl rfl rfl rfl (rfl : _ = (sl 2 true [])) ?_
   refine q (ptr b2 0) ?_
   refine q (ptr b2 0) ?_
   refine q (ptr b2 1) ?_
   refine q (ptr b2 9) ?_
   refine AOps.ldB (i := 0) (v := (sl z50 f51 e52)) hH86 rfl rfl rfl rfl rfl rfl rfl rfl rfl ?_
   refine q (eptr [(int .i64 d55.Kind), (int .i64 d55.A), (int .i64 d55.B)] 1) ?_
   refine lE (int .i64 d55.A) ?_
   refine q (int .i64 (IntKind.wrap .i64 (d55.A + 1))) ?_
   obtain ⟨l99, h100, h⟩ := obind h
   obtain ⟨f101, e102, h103, h104⟩ := cut_slL f51 h53 h100
   refine AOps.pureR rfl rfl rfl h104 rfl (rfl : _ = (sl z50 f101 e102)) ?_
   obtain ⟨l105, h106, h⟩ := obind h
   obtain ⟨h107, h108⟩ := app_LR (show LR rParcel 2 (([] : List Parcel) : List Parcel) 2 [] from ⟨.inl rfl, .nil⟩) h103 h106
   refine AOps.appL (z := 2) (f := true) (e := []) (z' := z50) (f' := f101) (e' := e102) rfl rfl rfl rfl rfl rfl rfl (appSrc_sl (LR.z h103) rfl) (LR.z (show LR rParcel 2 (([] : List Parcel) : List Parcel) 2 [] from ⟨.inl rfl, .nil⟩)) ⟨by decide, by decide, rfl, rfl⟩ rfl rfl h108 (Or.inl rfl) ?_
   refine aq (sl 2 false ([] ++ e102)) ?_
   refine nl ?_
   refine AW.region ?_
   refine q (ptr b2 0) ?_
   refine AOps.makeR rfl rfl rfl rfl rfl rfl (rfl : _ = (sl 2 true [])) ?_
   refine q (ptr b2 0) ?_
   refine q (ptr b2 0) ?_
   refine q (ptr b2 1) ?_
   refine q (ptr b2 9) ?_
   refine AOps.ldB (i := 0) (v := (sl z50 f51 e52)) hH86 rfl rfl rfl rfl rfl rfl rfl rfl rfl ?_
   refine q (eptr [(int .i64 d55.Kind), (int .i64 d55.A), (int .i64 d55.B)] 1) ?_
   refine lE (int .i64 d55.A) ?_
   obtain ⟨l109, h110, h⟩ := obind h
   obtain ⟨f111, e112, h113, h114⟩ := cut_slH f51 h53 h110
   refine AOps.pureR rfl rfl rfl h114 rfl (rfl : _ = (sl z50 f111 e112)) ?_
   obtain ⟨l115, h116, h⟩ := obind h
   obtain ⟨h117, h118⟩ := app_LR (show LR rParcel 2 (([] : List Parcel) : List Parcel) 2 [] from ⟨.inl rfl, .nil⟩) h113 h116
   refine AOps.appL (z := 2) (f := true) (e := []) (z' := z50) (f' := f111) (e' := e112) rfl rfl rfl rfl rfl rfl rfl (appSrc_sl (LR.z h113) rfl) (LR.z (show LR rParcel 2 (([] : List Parcel) : List Parcel) 2 [] from ⟨.inl rfl, .nil⟩)) ⟨by decide, by decide, rfl, rfl⟩ rfl rfl h118 (Or.inl rfl) ?_
   refine q (sl 2 false ([] ++ e102)) ?_
   obtain ⟨l119, h120, h⟩ := obind h
   obtain ⟨h121, h122⟩ := app_LR h117 h107 h120
   refine AOps.appL (z := 2) (f := false) (e := ([] ++ e112)) (z' := 2) (f' := false) (e' := ([] ++ e102)) rfl rfl rfl rfl rfl rfl rfl (appSrc_sl (LR.z h107) rfl) (LR.z h117) ⟨by decide, by decide, rfl, rfl⟩ rfl rfl h122 (Or.inr ⟨54, rfl, rfl⟩) ?_
   refine q (ptr b2 0) ?_
   refine q (ptr b2 1) ?_
   refine q (ptr b2 9) ?_
   refine AOps.stX (i := 0) (v := (sl 2 false (([] ++ e112) ++ ([] ++ e102)))) hH86 rfl rfl rfl rfl rfl rfl rfl rfl rfl (lt_b rfl) (le_b rfl) rfl (Nice.pure (k := FINK) (p := (rL rParcel 2) l119) (.L fun _ => (.A (.cons .I (.cons (.L fun _ => .S) .nil)))) 0 _ ⟨_, _, _, rfl, h121⟩) ?_
   intro w123 s124 h125 h126 hH127
   change HS [b2] false s s124 [⟨some b2, [(eptr [(int .i64 r14.Checker.Stack), (int .i64 r14.Checker.Start), (sl z5 f6 e7), (sl z9 f10 e11), (sl z13 f14 e15), (sl z17 f18 e19), (sl z21 f22 e23)] 0), (int .i64 m72), (int .i64 m73), (sl z75 f76 e77), (sl z80 f81 e82), (int .i64 r137), (int .i64 r138), (sl z40 f41 e42), (sl z45 f46 e47), (sl 2 false (([] ++ e112) ++ ([] ++ e102)))], w123⟩] at hH127
   refine nl ?_
   exact AW.res [] [] trivial trivial (KJ97 (l119, w123, 2, false, (([] ++ e112) ++ ([] ++ e102)), s124) _ _ ⟨h121, (own_st (Or.inr rfl) h126 rfl rfl rfl), (HS.sel hH127 [some 0] (by decide)), h⟩)
  refine AW.condF (congrArg bool hc98) ?_
  refine AW.skip ?_
  exact AW.res [] [] trivial trivial (KJ97 (r149, w71, z50, f51, e52, s85) _ _ ⟨h53, h84, (HS.sel hH86 [some 0] (by decide)), h⟩)
 intro KJ87
 rcases oite h with ⟨hc128, h⟩ | ⟨hc128, h⟩
 ·refine AW.condT (congrArg bool hc128) ?_
  refine AW.region ?_
  refine q (ptr b2 0) ?_
  obtain ⟨y129, h130, h⟩ := obind h
  refine AOps.callF (g := 78) (args := [(ptr b2 0), (eptr [(int .i64 x57.First), (sl z67 f68 e69)] 0)]) rfl rfl rfl (spec_l08Run_come_F1_ok h8 h12 h16 h20 h24 h31 h36 h43 h48 h53 h54 h70 (HS.enterP hE [0] [b2] rfl (by decide)) h130 (HS.wf' hE)) ?_
  intro _ o136 s133 h135
  obtain ⟨h131, w137, z138, f139, e140, z142, f143, e144, h132, h141, h145, h146⟩ := h135
  have hH134 := HS.callP hE [0] h132 rfl rfl
  change HS [b2] false s s133 [⟨some b2, [(eptr [(int .i64 r14.Checker.Stack), (int .i64 r14.Checker.Start), (sl z5 f6 e7), (sl z9 f10 e11), (sl z13 f14 e15), (sl z17 f18 e19), (sl z21 f22 e23)] 0), (int .i64 y129.2.1), (int .i64 y129.2.2.1), (sl z138 f139 e140), (sl z142 f143 e144), (int .i64 r137), (int .i64 r138), (sl z40 f41 e42), (sl z45 f46 e47), (sl z50 f51 e52)], w137⟩] at hH134
  cases h131
  refine nl ?_
  exact AW.res [(0, (ptr b2 0)), (3, (eptr [(int .i64 d55.Kind), (int .i64 d55.A), (int .i64 d55.B)] 0))] [] ⟨rfl, rfl, trivial⟩ trivial (KJ87 (y129.2.1, y129.2.2.1, y129.2.2.2.1, y129.2.2.2.2, w137, z138, f139, e140, z142, f143, e144, s133) _ _ ⟨h141, h145, h146, (HS.sel hH134 [some 0] (by decide)), h⟩)
 refine AW.condF (congrArg bool hc128) ?_
 refine AW.skip ?_
 exact AW.res [(0, (ptr b2 0)), (3, (eptr [(int .i64 d55.Kind), (int .i64 d55.A), (int .i64 d55.B)] 0))] [] ⟨rfl, rfl, trivial⟩ trivial (KJ87 (r125, r126, r127, r132, w3, z28, f29, e30, z33, f34, e35, { s with lo := s.n }) _ _ ⟨h31, h36, h54, (HS.sel hE [some 0] (by decide)), h⟩)
theorem spec_l08Run_do_F1_ok {p14 : Stream} {p125 p126 p137 p138 : Int} {p127 p132 p139 p144 : List Int} {p149 : List Parcel} {p1_55 : Deed} {b2 z5 z9 z13 z17 z21 z28 z33 z40 z45 z50 : Nat} {w3 : Nat → Bool} {f6 f10 f14 f18 f22 f29 f34 f41 f46 f51 : Bool} {e7 e11 e15 e19 e23 e30 e35 e42 e47 e52 : List AV} {s : St} (h8 : LR rB 1 p14.Checker.Accept z5 e7) (h12 : LR (rL rPush 2) 1 p14.Checker.Call z9 e11) (h16 : LR (rL (rL (rI .i64) 1) 1) 1 p14.Checker.Return z13 e15) (h20 : LR (rL (rI .i64) 1) 1 p14.Checker.Inner z17 e19) (h24 : LR rS 1 p14.Pieces z21 e23) (h31 : LR (rI .i64) 1 p127 z28 e30) (h36 : LR (rI .i64) 1 p132 z33 e35) (h43 : LR (rI .i64) 1 p139 z40 e42) (h48 : LR (rI .i64) 1 p144 z45 e47) (h53 : LR rParcel 2 p149 z50 e52) (h54 : f51 = true ∨ w3 9 = true) (hE : HS [b2] false s { s with lo := s.n } [⟨some b2, [(eptr [(int .i64 p14.Checker.Stack), (int .i64 p14.Checker.Start), (sl z5 f6 e7), (sl z9 f10 e11), (sl z13 f14 e15), (sl z17 f18 e19), (sl z21 f22 e23)] 0), (int .i64 p125), (int .i64 p126), (sl z28 f29 e30), (sl z33 f34 e35), (int .i64 p137), (int .i64 p138), (sl z40 f41 e42), (sl z45 f46 e47), (sl z50 f51 e52)], w3⟩]) {r : Int × Int × Int × (List Int) × (List Int) × Int × Int × (List Int) × (List Int) × (List Parcel)} (h : spec_l08Run_do_F1 p14 p125 p126 p127 p132 p137 p138 p139 p144 p149 p1_55 = some r) (hs : WF s) : ACall Cf 32 [(ptr b2 0), (agg [(int .i64 p1_55.Kind), (int .i64 p1_55.A), (int .i64 p1_55.B)])] s fun v _ s' => (rI .i64) r.1 v ∧ ∃ (w0' : Nat → Bool) (z3' : Nat) (f3' : Bool) (e3' : List AV) (z4' : Nat) (f4' : Bool) (e4' : List AV) (z7' : Nat) (f7' : Bool) (e7' : List AV) (z8' : Nat) (f8' : Bool) (e8' : List AV) (z9' : Nat) (f9' : Bool) (e9' : List AV), Fx [b2] s s' [⟨some b2, [(eptr [(int .i64 p14.Checker.Stack), (int .i64 p14.Checker.Start), (sl z5 f6 e7), (sl z9 f10 e11), (sl z13 f14 e15), (sl z17 f18 e19), (sl z21 f22 e23)] 0), (int .i64 r.2.1), (int .i64 r.2.2.1), (sl z3' f3' e3'), (sl z4' f4' e4'), (int .i64 r.2.2.2.2.2.1), (int .i64 r.2.2.2.2.2.2.1), (sl z7' f7' e7'), (sl z8' f8' e8'), (sl z9' f9' e9')], w0'⟩] ∧ LR (rI .i64) 1 r.2.2.2.1 z3' e3' ∧ LR (rI .i64) 1 r.2.2.2.2.1 z4' e4' ∧ LR (rI .i64) 1 r.2.2.2.2.2.2.2.1 z7' e7' ∧ LR (rI .i64) 1 r.2.2.2.2.2.2.2.2.1 z8' e8' ∧ LR rParcel 2 r.2.2.2.2.2.2.2.2.2 z9' e9' ∧ (f9' = true ∨ w0' 9 = true) := by
 refine ACall.foreign rfl rfl rfl ?_
 unfold spec_l08Run_do_F1 at h
 refine sr ?_
 refine AOps.makeR rfl rfl rfl rfl rfl rfl (rfl : _ = (eptr [(int .i64 p1_55.Kind), (int .i64 p1_55.A), (int .i64 p1_55.B)] 0)) ?_
 refine q (int .i64 0) ?_
 refine nl ?_
 refine AW.seq ?_
 refine sr ?_
 refine q (eptr [(int .i64 p1_55.Kind), (int .i64 p1_55.A), (int .i64 p1_55.B)] 0) ?_
 refine lE (int .i64 p1_55.Kind) ?_
 refine nl ?_
 refine AW.block ?_
 refine sr ?_
 refine q (bool (p1_55.Kind == 1)) ?_
 refine aq (bool (p1_55.Kind == 1)) ?_
 refine nl ?_
 refine AW.meet (σ := Int × Int × (List Int) × (List Int) × Int × Int × (List Int) × (List Int) × (List Parcel) × (Nat → Bool) × Nat × Bool × (List AV) × Nat × Bool × (List AV) × Nat × Bool × (List AV) × Nat × Bool × (List AV) × Nat × Bool × (List AV) × St) (fun (m57, m58, m59, m64, m69, m70, m71, m76, m81, w56, z60, f61, e62, z65, f66, e67, z72, f73, e74, z77, f78, e79, z82, f83, e84, s87) tm os => ⟨updL tm [], updL os [], s87⟩) (fun (m57, m58, m59, m64, m69, m70, m71, m76, m81, w56, z60, f61, e62, z65, f66, e67, z72, f73, e74, z77, f78, e79, z82, f83, e84, s87) => (LR (rI .i64) 1 m59 z60 e62) ∧ (LR (rI .i64) 1 m64 z65 e67) ∧ (LR (rI .i64) 1 m71 z72 e74) ∧ (LR (rI .i64) 1 m76 z77 e79) ∧ (LR rParcel 2 m81 z82 e84) ∧ (f83 = true ∨ w56 9 = true) ∧ (HS [b2] false s s87 [⟨some b2, [(eptr [(int .i64 p14.Checker.Stack), (int .i64 p14.Checker.Start), (sl z5 f6 e7), (sl z9 f10 e11), (sl z13 f14 e15), (sl z17 f18 e19), (sl z21 f22 e23)] 0), (int .i64 m57), (int .i64 m58), (sl z60 f61 e62), (sl z65 f66 e67), (int .i64 m69), (int .i64 m70), (sl z72 f73 e74), (sl z77 f78 e79), (sl z82 f83 e84)], w56⟩]) ∧ spec_l08Run_do_F1_J1 m57 m58 m59 m64 m69 m70 m71 m76 m81 = some r) ?_ ?_
 ·rintro ⟨m57, m58, m59, m64, m69, m70, m71, m76, m81, w56, z60, f61, e62, z65, f66, e67, z72, f73, e74, z77, f78, e79, z82, f83, e84, s87⟩ tm os ⟨h63, h68, h75, h80, h85, h86, hH88, h⟩
  unfold spec_l08Run_do_F1_J1 at h
  refine AW.inBlock ?_
  refine sr ?_
  refine q (int .i64 0) ?_
  refine nl ?_
  obtain rfl := Option.some.inj h
  exact AW.ret ⟨_, _, rfl, finF (p := (rI .i64) 0) (Fin.of (p := (rI .i64) 0) .I rfl) ⟨w56, z60, f61, e62, z65, f66, e67, z72, f73, e74, z77, f78, e79, z82, f83, e84, HS.leaveP hH88 [0] rfl, h63, h68, h75, h80, h85, h86⟩⟩
 intro KJ89
 rcases oite h with ⟨hc90, h⟩ | ⟨hc90, h⟩
 ·refine AW.condT (congrArg bool hc90) ?_
  refine AW.seq ?_
  refine sr ?_
  refine q (eptr [(int .i64 p1_55.Kind), (int .i64 p1_55.A), (int .i64 p1_55.B)] 1) ?_
  refine lE (int .i64 p1_55.A) ?_
  refine q (eptr [(int .i64 p1_55.Kind), (int .i64 p1_55.A), (int .i64 p1_55.B)] 2) ?_
  refine lE (int .i64 p1_55.B) ?_
  refine q (bool (decide ((p1_55.A : Int) > p1_55.B))) ?_
  refine q (bool (decide ((p1_55.A : Int) > p1_55.B))) ?_
  refine AOps.split 12 (fun f' => ∃ tm' os', f' = ⟨updL tm' [(0, (ptr b2 0)), (3, (eptr [(int .i64 p1_55.Kind), (int .i64 p1_55.A), (int .i64 p1_55.B)] 0)), (29, (bool ((decide ((p1_55.A : Int) > p1_55.B)) || (decide ((p1_55.B : Int) ≥ (p14.Pieces.length : Int))))))], updL os' [], { s with lo := s.n }⟩) ?_ ?_
  ·rcases Bool.eq_false_or_eq_true (decide ((p1_55.A : Int) > p1_55.B)) with hc91 | hc91
   ·refine AOps.know (d := 17) rfl hc91 ?_
    refine sk ?_
    refine sk ?_
    refine sk ?_
    refine sk ?_
    refine sk ?_
    refine sk ?_
    refine sk ?_
    refine sk ?_
    refine sk ?_
    refine sk ?_
    refine sk ?_
    refine q (bool true) ?_
    refine AOps.resR [(0, (ptr b2 0)), (3, (eptr [(int .i64 p1_55.Kind), (int .i64 p1_55.A), (int .i64 p1_55.B)] 0)), (29, (bool ((decide ((p1_55.A : Int) > p1_55.B)) || (decide ((p1_55.B : Int) ≥ (p14.Pieces.length : Int))))))] [] ?_ ?_ _ ⟨_, _, rfl⟩
    ·exact ⟨rfl, rfl, congrArg bool (or_t hc91), trivial⟩
    exact trivial
   ·refine AOps.know (d := 17) rfl hc91 ?_
    refine q (eptr [(int .i64 p1_55.Kind), (int .i64 p1_55.A), (int .i64 p1_55.B)] 2) ?_
    refine lE (int .i64 p1_55.B) ?_
    refine q (ptr b2 0) ?_
    refine q (ptr b2 0) ?_
    refine q (ptr b2 0) ?_
    refine AOps.ldB (i := 0) (v := (eptr [(int .i64 p14.Checker.Stack), (int .i64 p14.Checker.Start), (sl z5 f6 e7), (sl z9 f10 e11), (sl z13 f14 e15), (sl z17 f18 e19), (sl z21 f22 e23)] 0)) hE rfl rfl rfl rfl rfl rfl rfl rfl rfl ?_
    refine q (eptr [(int .i64 p14.Checker.Stack), (int .i64 p14.Checker.Start), (sl z5 f6 e7), (sl z9 f10 e11), (sl z13 f14 e15), (sl z17 f18 e19), (sl z21 f22 e23)] 0) ?_
    refine q (eptr [(int .i64 p14.Checker.Stack), (int .i64 p14.Checker.Start), (sl z5 f6 e7), (sl z9 f10 e11), (sl z13 f14 e15), (sl z17 f18 e19), (sl z21 f22 e23)] 6) ?_
    refine lE (sl z21 f22 e23) ?_
    refine AOps.p rfl (len_eq h24) ?_
    refine q (bool (decide ((p1_55.B : Int) ≥ (p14.Pieces.length : Int)))) ?_
    refine q (bool (decide ((p1_55.B : Int) ≥ (p14.Pieces.length : Int)))) ?_
    refine AOps.resR [(0, (ptr b2 0)), (3, (eptr [(int .i64 p1_55.Kind), (int .i64 p1_55.A), (int .i64 p1_55.B)] 0)), (29, (bool ((decide ((p1_55.A : Int) > p1_55.B)) || (decide ((p1_55.B : Int) ≥ (p14.Pieces.length : Int))))))] [] ?_ ?_ _ ⟨_, _, rfl⟩
    ·exact ⟨rfl, rfl, congrArg bool (or_f hc91), trivial⟩
    exact trivial
  rintro _ ⟨tm, os, rfl⟩
  refine nl ?_
  rcases oite h with ⟨hc92, h⟩ | ⟨hc92, h⟩
  ·refine AW.condT (congrArg bool hc92) ?_
   refine sr ?_
   refine q (int .i64 2) ?_
   refine nl ?_
   obtain rfl := Option.some.inj h
   exact AW.ret ⟨_, _, rfl, finF (p := (rI .i64) 2) (Fin.of (p := (rI .i64) 2) .I rfl) ⟨w3, z28, f29, e30, z33, f34, e35, z40, f41, e42, z45, f46, e47, z50, f51, e52, HS.leaveP hE [0] rfl, h31, h36, h43, h48, h53, h54⟩⟩
  refine AW.condF (congrArg bool hc92) ?_
  refine AW.skip ?_
  refine AW.seq ?_
  refine sr ?_
  refine q (ptr b2 0) ?_
  refine q (ptr b2 0) ?_
  refine q (ptr b2 1) ?_
  refine q (ptr b2 9) ?_
  refine AOps.ldB (i := 0) (v := (sl z50 f51 e52)) hE rfl rfl rfl rfl rfl rfl rfl rfl rfl ?_
  refine AOps.p rfl (len_eq h53) ?_
  refine q (bool ((p149.length : Int) == 12)) ?_
  refine nl ?_
  rcases oite h with ⟨hc93, h⟩ | ⟨hc93, h⟩
  ·refine AW.condT (congrArg bool hc93) ?_
   refine sr ?_
   refine q (int .i64 3) ?_
   refine nl ?_
   obtain rfl := Option.some.inj h
   exact AW.ret ⟨_, _, rfl, finF (p := (rI .i64) 3) (Fin.of (p := (rI .i64) 3) .I rfl) ⟨w3, z28, f29, e30, z33, f34, e35, z40, f41, e42, z45, f46, e47, z50, f51, e52, HS.leaveP hE [0] rfl, h31, h36, h43, h48, h53, h54⟩⟩
  refine AW.condF (congrArg bool hc93) ?_
  refine AW.skip ?_
  refine AW.region ?_
  refine q (ptr b2 0) ?_
  refine q (ptr b2 0) ?_
  refine q (ptr b2 0) ?_
  refine q (ptr b2 1) ?_
  refine q (ptr b2 9) ?_
  refine AOps.ldMv (i := 0) (v := (sl z50 f51 e52)) hE rfl rfl rfl rfl rfl rfl rfl rfl rfl rfl h54 ?_
  intro o94 w95 s99 h96 h97 hH98
  change HS [b2] false s s99 [⟨some b2, [(eptr [(int .i64 p14.Checker.Stack), (int .i64 p14.Checker.Start), (sl z5 f6 e7), (sl z9 f10 e11), (sl z13 f14 e15), (sl z17 f18 e19), (sl z21 f22 e23)] 0), (int .i64 p125), (int .i64 p126), (sl z28 f29 e30), (sl z33 f34 e35), (int .i64 p137), (int .i64 p138), (sl z40 f41 e42), (sl z45 f46 e47), (sl z50 f51 e52)], w95⟩] at hH98
  refine q (eptr [(int .i64 p1_55.Kind), (int .i64 p1_55.A), (int .i64 p1_55.B)] 1) ?_
  refine lE (int .i64 p1_55.A) ?_
  refine AOps.makeR rfl rfl rfl rfl rfl rfl (rfl : _ = (sl 1 true [])) ?_
  refine q (ptr b2 0) ?_
  refine q (ptr b2 0) ?_
  refine q (ptr b2 0) ?_
  refine AOps.ldB (i := 0) (v := (eptr [(int .i64 p14.Checker.Stack), (int .i64 p14.Checker.Start), (sl z5 f6 e7), (sl z9 f10 e11), (sl z13 f14 e15), (sl z17 f18 e19), (sl z21 f22 e23)] 0)) hH98 rfl rfl rfl rfl rfl rfl rfl rfl rfl ?_
  refine q (eptr [(int .i64 p14.Checker.Stack), (int .i64 p14.Checker.Start), (sl z5 f6 e7), (sl z9 f10 e11), (sl z13 f14 e15), (sl z17 f18 e19), (sl z21 f22 e23)] 0) ?_
  refine q (eptr [(int .i64 p14.Checker.Stack), (int .i64 p14.Checker.Start), (sl z5 f6 e7), (sl z9 f10 e11), (sl z13 f14 e15), (sl z17 f18 e19), (sl z21 f22 e23)] 6) ?_
  refine lE (sl z21 f22 e23) ?_
  refine q (eptr [(int .i64 p1_55.Kind), (int .i64 p1_55.A), (int .i64 p1_55.B)] 1) ?_
  refine lE (int .i64 p1_55.A) ?_
  refine q (eptr [(int .i64 p1_55.Kind), (int .i64 p1_55.A), (int .i64 p1_55.B)] 2) ?_
  refine lE (int .i64 p1_55.B) ?_
  refine q (int .i64 (IntKind.wrap .i64 (p1_55.B + 1))) ?_
  obtain ⟨l100, h101, h⟩ := obind h
  obtain ⟨f102, e103, h104, h105⟩ := cut_slLH f22 h24 h101
  refine AOps.pureR rfl rfl rfl h105 rfl (rfl : _ = (sl z21 f102 e103)) ?_
  obtain ⟨l106, h107, h⟩ := obind h
  obtain ⟨h108, h109⟩ := app_LR (show LR rS 1 (([] : List (List UInt8)) : List (List UInt8)) 1 [] from ⟨.inl rfl, .nil⟩) h104 h107
  refine AOps.appL (z := 1) (f := true) (e := []) (z' := z21) (f' := f102) (e' := e103) rfl rfl rfl rfl rfl rfl rfl (appSrc_sl (LR.z h104) rfl) (LR.z (show LR rS 1 (([] : List (List UInt8)) : List (List UInt8)) 1 [] from ⟨.inl rfl, .nil⟩)) ⟨by decide, by decide, rfl, rfl⟩ rfl rfl h109 (Or.inl rfl) ?_
  refine q (agg [(int .i64 p1_55.A), (sl 1 false ([] ++ e103))]) ?_
  refine AOps.makeR rfl rfl rfl rfl rfl rfl (rfl : _ = (sl 2 true [(agg [(int .i64 p1_55.A), (sl 1 false ([] ++ e103))])])) ?_
  obtain ⟨l110, h111, h⟩ := obind h
  obtain ⟨h112, h113⟩ := app_LR h53 (LR.lit (r := rParcel) (sz := 2) (.cons ⟨_, rfl, (.cons rfl (.cons ⟨_, _, _, rfl, h108⟩ .nil))⟩ .nil)) h111
  refine AOps.appL (z := z50) (f := f51) (e := e52) (z' := 2) (f' := true) (e' := [(agg [(int .i64 p1_55.A), (sl 1 false ([] ++ e103))])]) rfl rfl rfl rfl rfl rfl rfl (appSrc_sl (LR.z (show LR rParcel 2 ([(⟨p1_55.A, l106⟩ : Parcel)] : List Parcel) 2 [(agg [(int .i64 p1_55.A), (sl 1 false ([] ++ e103))])] from LR.lit (r := rParcel) (sz := 2) (.cons ⟨_, rfl, (.cons rfl (.cons ⟨_, _, _, rfl, h108⟩ .nil))⟩ .nil))) rfl) (LR.z h53) ⟨by decide, by decide, rfl, rfl⟩ rfl rfl h113 (own_tmp h96 rfl rfl) ?_
  refine q (ptr b2 0) ?_
  refine q (ptr b2 1) ?_
  refine q (ptr b2 9) ?_
  refine AOps.stX (i := 0) (v := (sl 2 false (e52 ++ [(agg [(int .i64 p1_55.A), (sl 1 false ([] ++ e103))])]))) hH98 rfl rfl rfl rfl rfl rfl rfl rfl rfl (lt_b rfl) (le_b rfl) rfl (Nice.pure (k := FINK) (p := (rL rParcel 2) l110) (.L fun _ => (.A (.cons .I (.cons (.L fun _ => .S) .nil)))) 0 _ ⟨_, _, _, rfl, h112⟩) ?_
  intro w114 s115 h116 h117 hH118
  change HS [b2] false s s115 [⟨some b2, [(eptr [(int .i64 p14.Checker.Stack), (int .i64 p14.Checker.Start), (sl z5 f6 e7), (sl z9 f10 e11), (sl z13 f14 e15), (sl z17 f18 e19), (sl z21 f22 e23)] 0), (int .i64 p125), (int .i64 p126), (sl z28 f29 e30), (sl z33 f34 e35), (int .i64 p137), (int .i64 p138), (sl z40 f41 e42), (sl z45 f46 e47), (sl 2 false (e52 ++ [(agg [(int .i64 p1_55.A), (sl 1 false ([] ++ e103))])]))], w114⟩] at hH118
  refine nl ?_
  exact AW.res [] [] trivial trivial (KJ89 (p125, p126, p127, p132, p137, p138, p139, p144, l110, w114, z28, f29, e30, z33, f34, e35, z40, f41, e42, z45, f46, e47, 2, false, (e52 ++ [(agg [(int .i64 p1_55.A), (sl 1 false ([] ++ e103))])]), s115) _ _ ⟨h31, h36, h43, h48, h112, (own_st (Or.inr rfl) h117 rfl rfl rfl), (HS.sel hH118 [some 0] (by decide)), h⟩)
 refine AW.condF (congrArg bool hc90) ?_
 refine sr ?_
 refine q (bool (p1_55.Kind == 5)) ?_
 refine aq (bool (p1_55.Kind == 5)) ?_
 refine nl ?_
 rcases oite h with ⟨hc119, h⟩ | ⟨hc119, h⟩
 ·refine AW.condT (congrArg bool hc119) ?_
  refine AW.region ?_
  refine q (ptr b2 0) ?_
  refine q (ptr b2 0) ?_
  refine q (ptr b2 0) ?_
  refine q (ptr b2 1) ?_
  refine q (ptr b2 1) ?_
  obtain ⟨y120, h121, h⟩ := obind h
  refine AOps.callF (g := 57) (args := [(ptr b2 1)]) rfl rfl rfl (spec_l08Copy_F1_ok h8 h12 h16 h20 h24 h31 h36 h43 h48 h53 h54 (HS.enterP hE [0] [b2] rfl (by decide)) h121 (HS.wf' hE)) ?_
  intro _ o144 s124 h126
  obtain ⟨h122, w145, h123, h146⟩ := h126
  have hH125 := HS.callP hE [0] h123 rfl rfl
  change HS [b2] false s s124 [⟨some b2, [(eptr [(int .i64 p14.Checker.Stack), (int .i64 p14.Checker.Start), (sl z5 f6 e7), (sl z9 f10 e11), (sl z13 f14 e15), (sl z17 f18 e19), (sl z21 f22 e23)] 0), (int .i64 p125), (int .i64 p126), (sl z28 f29 e30), (sl z33 f34 e35), (int .i64 p137), (int .i64 p138), (sl z40 f41 e42), (sl z45 f46 e47), (sl z50 f51 e52)], w145⟩] at hH125
  obtain ⟨_, rfl, h127⟩ := h122
  obtain ⟨_, _, rfl, h128, h129⟩ := Cs_cons h127
  cases h128
  obtain ⟨_, _, rfl, h130, h131⟩ := Cs_cons h129
  cases h130
  obtain ⟨_, _, rfl, h132, h133⟩ := Cs_cons h131
  obtain ⟨z134, f135, e136, rfl, h137⟩ := h132
  obtain ⟨_, _, rfl, h138, h139⟩ := Cs_cons h133
  obtain ⟨z140, f141, e142, rfl, h143⟩ := h138
  cases Cs_nil h139
  refine q (ptr b2 0) ?_
  refine q (ptr b2 1) ?_
  refine q (ptr b2 5) ?_
  refine AOps.stX (i := 0) (v := (agg [(int .i64 y120.Read), (int .i64 y120.State), (sl z134 f135 e136), (sl z140 f141 e142)])) hH125 rfl rfl rfl rfl rfl rfl rfl rfl rfl (lt_b rfl) (le_b rfl) rfl (Nice.pure (k := FINK) (p := (rDesk) y120) (.A (.cons .I (.cons .I (.cons (.L fun _ => .I) (.cons (.L fun _ => .I) .nil))))) 0 _ ⟨_, rfl, (.cons rfl (.cons rfl (.cons ⟨_, _, _, rfl, h137⟩ (.cons ⟨_, _, _, rfl, h143⟩ .nil))))⟩) ?_
  intro w147 s148 h149 h150 hH151
  change HS [b2] false s s148 [⟨some b2, [(eptr [(int .i64 p14.Checker.Stack), (int .i64 p14.Checker.Start), (sl z5 f6 e7), (sl z9 f10 e11), (sl z13 f14 e15), (sl z17 f18 e19), (sl z21 f22 e23)] 0), (int .i64 p125), (int .i64 p126), (sl z28 f29 e30), (sl z33 f34 e35), (int .i64 y120.Read), (int .i64 y120.State), (sl z134 f135 e136), (sl z140 f141 e142), (sl z50 f51 e52)], w147⟩] at hH151
  refine nl ?_
  exact AW.res [] [] trivial trivial (KJ89 (p125, p126, p127, p132, y120.Read, y120.State, y120.Stack, y120.Waiting, p149, w147, z28, f29, e30, z33, f34, e35, z134, f135, e136, z140, f141, e142, z50, f51, e52, s148) _ _ ⟨h31, h36, h137, h143, h53, (own_keep h146 (h149 _ (by decide))), (HS.sel hH151 [some 0] (by decide)), h⟩)
 refine AW.condF (congrArg bool hc119) ?_
 refine sr ?_
 refine q (bool (p1_55.Kind == 6)) ?_
 refine aq (bool (p1_55.Kind == 6)) ?_
 refine nl ?_
 rcases oite h with ⟨hc152, h⟩ | ⟨hc152, h⟩
 ·refine AW.condT (congrArg bool hc152) ?_
  refine AW.region ?_
  refine q (ptr b2 0) ?_
  refine q (ptr b2 0) ?_
  refine q (ptr b2 0) ?_
  refine q (ptr b2 1) ?_
  refine q (ptr b2 5) ?_
  obtain ⟨y153, h154, h⟩ := obind h
  refine AOps.callF (g := 57) (args := [(ptr b2 5)]) rfl rfl rfl (spec_l08Copy_F2_ok h8 h12 h16 h20 h24 h31 h36 h43 h48 h53 h54 (HS.enterP hE [0] [b2] rfl (by decide)) h154 (HS.wf' hE)) ?_
  intro _ o177 s157 h159
  obtain ⟨h155, w178, h156, h179⟩ := h159
  have hH158 := HS.callP hE [0] h156 rfl rfl
  change HS [b2] false s s157 [⟨some b2, [(eptr [(int .i64 p14.Checker.Stack), (int .i64 p14.Checker.Start), (sl z5 f6 e7), (sl z9 f10 e11), (sl z13 f14 e15), (sl z17 f18 e19), (sl z21 f22 e23)] 0), (int .i64 p125), (int .i64 p126), (sl z28 f29 e30), (sl z33 f34 e35), (int .i64 p137), (int .i64 p138), (sl z40 f41 e42), (sl z45 f46 e47), (sl z50 f51 e52)], w178⟩] at hH158
  obtain ⟨_, rfl, h160⟩ := h155
  obtain ⟨_, _, rfl, h161, h162⟩ := Cs_cons h160
  cases h161
  obtain ⟨_, _, rfl, h163, h164⟩ := Cs_cons h162
  cases h163
  obtain ⟨_, _, rfl, h165, h166⟩ := Cs_cons h164
  obtain ⟨z167, f168, e169, rfl, h170⟩ := h165
  obtain ⟨_, _, rfl, h171, h172⟩ := Cs_cons h166
  obtain ⟨z173, f174, e175, rfl, h176⟩ := h171
  cases Cs_nil h172
  refine q (ptr b2 0) ?_
  refine q (ptr b2 1) ?_
  refine q (ptr b2 1) ?_
  refine AOps.stX (i := 0) (v := (agg [(int .i64 y153.Read), (int .i64 y153.State), (sl z167 f168 e169), (sl z173 f174 e175)])) hH158 rfl rfl rfl rfl rfl rfl rfl rfl rfl (lt_b rfl) (le_b rfl) rfl (Nice.pure (k := FINK) (p := (rDesk) y153) (.A (.cons .I (.cons .I (.cons (.L fun _ => .I) (.cons (.L fun _ => .I) .nil))))) 0 _ ⟨_, rfl, (.cons rfl (.cons rfl (.cons ⟨_, _, _, rfl, h170⟩ (.cons ⟨_, _, _, rfl, h176⟩ .nil))))⟩) ?_
  intro w180 s181 h182 h183 hH184
  change HS [b2] false s s181 [⟨some b2, [(eptr [(int .i64 p14.Checker.Stack), (int .i64 p14.Checker.Start), (sl z5 f6 e7), (sl z9 f10 e11), (sl z13 f14 e15), (sl z17 f18 e19), (sl z21 f22 e23)] 0), (int .i64 y153.Read), (int .i64 y153.State), (sl z167 f168 e169), (sl z173 f174 e175), (int .i64 p137), (int .i64 p138), (sl z40 f41 e42), (sl z45 f46 e47), (sl z50 f51 e52)], w180⟩] at hH184
  refine nl ?_
  exact AW.res [] [] trivial trivial (KJ89 (y153.Read, y153.State, y153.Stack, y153.Waiting, p137, p138, p139, p144, p149, w180, z167, f168, e169, z173, f174, e175, z40, f41, e42, z45, f46, e47, z50, f51, e52, s181) _ _ ⟨h170, h176, h43, h48, h53, (own_keep h179 (h182 _ (by decide))), (HS.sel hH184 [some 0] (by decide)), h⟩)
 refine AW.condF (congrArg bool hc152) ?_
 refine sr ?_
 refine q (ptr b2 0) ?_
 refine lE (agg [(int .i64 p1_55.Kind), (int .i64 p1_55.A), (int .i64 p1_55.B)]) ?_
 obtain ⟨y185, h186, h⟩ := obind h
 refine AOps.callF (g := 58) (args := [(ptr b2 0), (agg [(int .i64 p1_55.Kind), (int .i64 p1_55.A), (int .i64 p1_55.B)])]) rfl rfl rfl (spec_l08Run_wire_F1_ok h8 h12 h16 h20 h24 h31 h36 h43 h48 h53 h54 (HS.enterP hE [0] [b2] rfl (by decide)) h186 (HS.wf' hE)) ?_
 intro _ o192 s189 h191
 obtain ⟨h187, w193, z194, f195, e196, z198, f199, e200, z202, f203, e204, h188, h197, h201, h205, h206⟩ := h191
 have hH190 := HS.callP hE [0] h188 rfl rfl
 change HS [b2] false s s189 [⟨some b2, [(eptr [(int .i64 p14.Checker.Stack), (int .i64 p14.Checker.Start), (sl z5 f6 e7), (sl z9 f10 e11), (sl z13 f14 e15), (sl z17 f18 e19), (sl z21 f22 e23)] 0), (int .i64 y185.2.1), (int .i64 y185.2.2.1), (sl z194 f195 e196), (sl z198 f199 e200), (int .i64 p137), (int .i64 p138), (sl z40 f41 e42), (sl z45 f46 e47), (sl z202 f203 e204)], w193⟩] at hH190
 cases h187
 refine aq (int .i64 y185.1) ?_
 refine nl ?_
 obtain rfl := Option.some.inj h
 exact AW.ret ⟨_, _, rfl, finF (p := (rI .i64) y185.1) (Fin.of (p := (rI .i64) y185.1) .I rfl) ⟨w193, z194, f195, e196, z198, f199, e200, z40, f41, e42, z45, f46, e47, z202, f203, e204, HS.leaveP hH190 [0] rfl, h197, h201, h43, h48, h205, h206⟩⟩
theorem spec_l08Play_K00_ok {v1 : Stream} {deeds22 : List Deed} {z2 z6 z10 z14 z18 z23 : Nat} {f3 f7 f11 f15 f19 f24 : Bool} {e4 e8 e12 e16 e20 e25 : List AV} {s : St} (h5 : LR rB 1 v1.Checker.Accept z2 e4) (h9 : LR (rL rPush 2) 1 v1.Checker.Call z6 e8) (h13 : LR (rL (rL (rI .i64) 1) 1) 1 v1.Checker.Return z10 e12) (h17 : LR (rL (rI .i64) 1) 1 v1.Checker.Inner z14 e16) (h21 : LR rS 1 v1.Pieces z18 e20) (h26 : LR rDeed 3 deeds22 z23 e25) {r : L08Run × (List Int)} (h : spec_l08Play_K00 v1 deeds22 = some r) (hs : WF s) : ACall Cf 15 [(eptr [(int .i64 v1.Checker.Stack), (int .i64 v1.Checker.Start), (sl z2 f3 e4), (sl z6 f7 e8), (sl z10 f11 e12), (sl z14 f15 e16), (sl z18 f19 e20)] 0), (sl z23 f24 e25)] s (fun v _ s' => ∃ (b1' : Nat) (w2' : Nat → Bool) (z3' : Nat) (f4' : Bool) (e5' : List AV) (z7' : Nat) (f8' : Bool) (e9' : List AV) (z11' : Nat) (f12' : Bool) (e13' : List AV) (z15' : Nat) (f16' : Bool) (e17' : List AV) (z19' : Nat) (f20' : Bool) (e21' : List AV) (h24' : AV) (k25' : KT) (Ls' : List (List BX)), v = (AV.tup [(ptr b1' 0), h24']) ∧ HS [] true s s' (([⟨some b1', [(eptr [(int .i64 v1.Checker.Stack), (int .i64 v1.Checker.Start), (sl z2 f3 e4), (sl z6 f7 e8), (sl z10 f11 e12), (sl z14 f15 e16), (sl z18 f19 e20)] 0), (int .i64 r.1.n.Desk_.Read), (int .i64 r.1.n.Desk_.State), (sl z3' f4' e5'), (sl z7' f8' e9'), (int .i64 r.1.n.Saved.Read), (int .i64 r.1.n.Saved.State), (sl z11' f12' e13'), (sl z15' f16' e17'), (sl z19' f20' e21')], w2'⟩] : List BX) ++ List.flatten Ls') ∧ AllG [OS oE2 h24' k25' r.2] Ls' ∧ LR (rI .i64) 1 r.1.n.Desk_.Stack z3' e5' ∧ LR (rI .i64) 1 r.1.n.Desk_.Waiting z7' e9' ∧ LR (rI .i64) 1 r.1.n.Saved.Stack z11' e13' ∧ LR (rI .i64) 1 r.1.n.Saved.Waiting z15' e17' ∧ LR rParcel 2 r.1.n.Wire z19' e21' ∧ (f20' = true ∨ w2' 9 = true) ∧ h24'.one = true) true := by
 refine ACall.keepR rfl rfl rfl ?_
 have hH0 := HS.g0 (HS.initK hs)
 have hG0 := AllG.nil
 have hl : LoOK [] true s := LoOK.nil
 unfold spec_l08Play_K00 at h
 refine sr ?_
 refine q AV.nilp ?_
 refine q (sl 0 true []) ?_
 refine ns ?_
 refine q (eptr [(int .i64 v1.Checker.Stack), (int .i64 v1.Checker.Start), (sl z2 f3 e4), (sl z6 f7 e8), (sl z10 f11 e12), (sl z14 f15 e16), (sl z18 f19 e20)] 0) ?_
 obtain ⟨y27, h28, h⟩ := obind h
 have hP52 := HS.pop0 hH0
 refine AOps.callF (al := true) (g := 31) (args := [(eptr [(int .i64 v1.Checker.Stack), (int .i64 v1.Checker.Start), (sl z2 f3 e4), (sl z6 f7 e8), (sl z10 f11 e12), (sl z14 f15 e16), (sl z18 f19 e20)] 0)]) rfl rfl rfl (spec_l08Begin_K0_ok h5 h9 h13 h17 h21  h28 (HS.wf' hH0)) ?_
 rintro _ _ s53 ⟨b29, w30, z31, f32, e33, z35, f36, e37, z39, f40, e41, z43, f44, e45, z47, f48, e49, Ls55, rfl, hH56, hG57, hl34, hl38, hl42, hl46, hl50, hb51⟩
 have hJ58 := HS.joinK1 hP52 hH56
 have hJ59 := HS.pushNE (x := ⟨some b29, [(eptr [(int .i64 v1.Checker.Stack), (int .i64 v1.Checker.Start), (sl z2 f3 e4), (sl z6 f7 e8), (sl z10 f11 e12), (sl z14 f15 e16), (sl z18 f19 e20)] 0), (int .i64 y27.n.Desk_.Read), (int .i64 y27.n.Desk_.State), (sl z31 f32 e33), (sl z35 f36 e37), (int .i64 y27.n.Saved.Read), (int .i64 y27.n.Saved.State), (sl z39 f40 e41), (sl z43 f44 e45), (sl z47 f48 e49)], w30⟩) hJ58
 cases hG57
 have hH60 := HS.push0 hJ59
 change HS [] true s s53 (([⟨some b29, [(eptr [(int .i64 v1.Checker.Stack), (int .i64 v1.Checker.Start), (sl z2 f3 e4), (sl z6 f7 e8), (sl z10 f11 e12), (sl z14 f15 e16), (sl z18 f19 e20)] 0), (int .i64 y27.n.Desk_.Read), (int .i64 y27.n.Desk_.State), (sl z31 f32 e33), (sl z35 f36 e37), (int .i64 y27.n.Saved.Read), (int .i64 y27.n.Saved.State), (sl z39 f40 e41), (sl z43 f44 e45), (sl z47 f48 e49)], w30⟩] : List BX) ++ List.flatten ([] : List (List BX))) at hH60
 change AllG [] ([] : List (List BX)) at hG0
 refine aq (ptr b29 0) ?_
 refine ns ?_
 refine AOps.makeR rfl rfl rfl rfl rfl rfl (rfl : _ = (sl 1 true [])) ?_
 refine aq (sl 1 true []) ?_
 refine nl ?_
 refine AW.seq ?_
 refine sr ?_
 refine q (int .i64 0) ?_
 refine nl ?_
 refine AW.meet (σ := Int × Int × (List Int) × (List Int) × Int × Int × (List Int) × (List Int) × (List Parcel) × (List Int) × (Nat → Bool) × Nat × Bool × (List AV) × Nat × Bool × (List AV) × Nat × Bool × (List AV) × Nat × Bool × (List AV) × Nat × Bool × (List AV) × AV × KT × St × (List (List BX))) (fun (m62, m63, m64, m69, m74, m75, m76, m81, m86, codes92, w61, z65, f66, e67, z70, f71, e72, z77, f78, e79, z82, f83, e84, z87, f88, e89, h93, k94, s96, Ls97) tm os => ⟨updL tm [(6, (ptr b29 0)), (7, h93)], updL os [], s96⟩) (fun (m62, m63, m64, m69, m74, m75, m76, m81, m86, codes92, w61, z65, f66, e67, z70, f71, e72, z77, f78, e79, z82, f83, e84, z87, f88, e89, h93, k94, s96, Ls97) => (LR (rI .i64) 1 m64 z65 e67) ∧ (LR (rI .i64) 1 m69 z70 e72) ∧ (LR (rI .i64) 1 m76 z77 e79) ∧ (LR (rI .i64) 1 m81 z82 e84) ∧ (LR rParcel 2 m86 z87 e89) ∧ (f88 = true ∨ w61 9 = true) ∧ (h93.one = true) ∧ (HS [] true s s96 (([⟨some b29, [(eptr [(int .i64 v1.Checker.Stack), (int .i64 v1.Checker.Start), (sl z2 f3 e4), (sl z6 f7 e8), (sl z10 f11 e12), (sl z14 f15 e16), (sl z18 f19 e20)] 0), (int .i64 m62), (int .i64 m63), (sl z65 f66 e67), (sl z70 f71 e72), (int .i64 m74), (int .i64 m75), (sl z77 f78 e79), (sl z82 f83 e84), (sl z87 f88 e89)], w61⟩] : List BX) ++ List.flatten Ls97)) ∧ (AllG [OS oE2 h93 k94 codes92] Ls97) ∧ spec_l08Play_K00_J1 v1 m62 m63 m64 m69 m74 m75 m76 m81 m86 codes92 = some r) ?_ ?_
 ·rintro ⟨m62, m63, m64, m69, m74, m75, m76, m81, m86, codes92, w61, z65, f66, e67, z70, f71, e72, z77, f78, e79, z82, f83, e84, z87, f88, e89, h93, k94, s96, Ls97⟩ tm os ⟨h68, h73, h80, h85, h90, h91, ho95, hH98, hG99, h⟩
  unfold spec_l08Play_K00_J1 at h
  refine sr ?_
  refine q (ptr b29 0) ?_
  refine q h93 ?_
  refine aq (ptr b29 0) ?_
  refine aq h93 ?_
  refine nl ?_
  cases h
  exact AW.ret ⟨_, _, rfl, ⟨b29, w61, z65, f66, e67, z70, f71, e72, z77, f78, e79, z82, f83, e84, z87, f88, e89, h93, k94, Ls97, rfl, hH98, hG99, h68, h73, h80, h85, h90, h91, ho95⟩⟩
 intro KJ100
 refine AW.block ?_
 obtain ⟨Ls194, hG195, hH196⟩ := HS.selEG hH60 hG0 [some 0] [none]
 change HS [] true s s53 (([⟨some b29, [(eptr [(int .i64 v1.Checker.Stack), (int .i64 v1.Checker.Start), (sl z2 f3 e4), (sl z6 f7 e8), (sl z10 f11 e12), (sl z14 f15 e16), (sl z18 f19 e20)] 0), (int .i64 y27.n.Desk_.Read), (int .i64 y27.n.Desk_.State), (sl z31 f32 e33), (sl z35 f36 e37), (int .i64 y27.n.Saved.Read), (int .i64 y27.n.Saved.State), (sl z39 f40 e41), (sl z43 f44 e45), (sl z47 f48 e49)], w30⟩] : List BX) ++ List.flatten Ls194) at hH196
 change AllG [Non] Ls194 at hG195
 have hG197 := AllG.imp hG195 0 rfl (P' := OS oE2 (sl 1 true []) (fun _ => AV.undef) []) (fun L hL => by cases hL; exact OS.nil (Or.inl rfl))
 change AllG [OS oE2 (sl 1 true []) (fun _ => AV.undef) ([] : List Int)] Ls194 at hG197
 refine AW.res [(1, (sl z23 f24 e25)), (6, (ptr b29 0)), (7, (sl 1 true [])), (8, (int .i64 0))] [] ⟨rfl, rfl, rfl, rfl, trivial⟩ trivial ?_
 refine AW.loopF (σ := Int × Int × (List Int) × (List Int) × Int × Int × (List Int) × (List Int) × (List Parcel) × (List Int) × Int) (τ := (Nat → Bool) × Nat × Bool × (List AV) × Nat × Bool × (List AV) × Nat × Bool × (List AV) × Nat × Bool × (List AV) × Nat × Bool × (List AV) × AV × KT × St × (List (List BX))) (fun (m102, m103, m104, m109, m114, m115, m116, m121, m126, codes132, i136) (w101, z105, f106, e107, z110, f111, e112, z117, f118, e119, z122, f123, e124, z127, f128, e129, h133, k134, s137, Ls138) => (LR (rI .i64) 1 m104 z105 e107) ∧ (LR (rI .i64) 1 m109 z110 e112) ∧ (LR (rI .i64) 1 m116 z117 e119) ∧ (LR (rI .i64) 1 m121 z122 e124) ∧ (LR rParcel 2 m126 z127 e129) ∧ (f128 = true ∨ w101 9 = true) ∧ (h133.one = true) ∧ (HS [] true s s137 (([⟨some b29, [(eptr [(int .i64 v1.Checker.Stack), (int .i64 v1.Checker.Start), (sl z2 f3 e4), (sl z6 f7 e8), (sl z10 f11 e12), (sl z14 f15 e16), (sl z18 f19 e20)] 0), (int .i64 m102), (int .i64 m103), (sl z105 f106 e107), (sl z110 f111 e112), (int .i64 m114), (int .i64 m115), (sl z117 f118 e119), (sl z122 f123 e124), (sl z127 f128 e129)], w101⟩] : List BX) ++ List.flatten Ls138)) ∧ (AllG [OS oE2 h133 k134 codes132] Ls138)) (fun (m102, m103, m104, m109, m114, m115, m116, m121, m126, codes132, i136) (w101, z105, f106, e107, z110, f111, e112, z117, f118, e119, z122, f123, e124, z127, f128, e129, h133, k134, s137, Ls138) tm os => ⟨updL tm [(1, (sl z23 f24 e25)), (6, (ptr b29 0)), (7, h133), (8, (int .i64 i136))], updL os [], s137⟩) ?_ (x := (y27.n.Desk_.Read, y27.n.Desk_.State, y27.n.Desk_.Stack, y27.n.Desk_.Waiting, y27.n.Saved.Read, y27.n.Saved.State, y27.n.Saved.Stack, y27.n.Saved.Waiting, y27.n.Wire, ([] : List Int), 0)) (y := (w30, z31, f32, e33, z35, f36, e37, z39, f40, e41, z43, f44, e45, z47, f48, e49, (sl 1 true []), (fun _ => AV.undef), s53, Ls194)) h ⟨hl34, hl38, hl42, hl46, hl50, hb51, rfl, hH196, hG197⟩
 clear h
 rintro ⟨m102, m103, m104, m109, m114, m115, m116, m121, m126, codes132, i136⟩ ⟨w101, z105, f106, e107, z110, f111, e112, z117, f118, e119, z122, f123, e124, z127, f128, e129, h133, k134, s137, Ls138⟩ tm os ⟨h108, h113, h120, h125, h130, h131, ho135, hH139, hG140⟩ ee1 h hL1 hR1
 unfold spec_l08Play_K00_S1 at h
 dsimp only at h
 refine AW.seq ?_
 refine sr ?_
 refine q (int .i64 i136) ?_
 refine q (sl z23 f24 e25) ?_
 refine AOps.p rfl (len_eq h26) ?_
 refine q (bool (decide ((i136 : Int) < (deeds22.length : Int)))) ?_
 refine nl ?_
 rcases oite h with ⟨hc141, h⟩ | ⟨hc141, h⟩
 ·refine AW.condT (congrArg bool hc141) ?_
  refine AW.skip ?_
  refine AW.seq ?_
  refine AW.block ?_
  refine AW.region ?_
  refine q h133 ?_
  refine q (ptr b29 0) ?_
  refine q (sl z23 f24 e25) ?_
  refine q (int .i64 i136) ?_
  obtain ⟨x142, h143, h⟩ := obind h
  obtain ⟨v146, h144, h145⟩ := idx_sl h26 h143
  obtain ⟨_, rfl, h147⟩ := h144
  obtain ⟨_, _, rfl, h148, h149⟩ := Cs_cons h147
  cases h148
  obtain ⟨_, _, rfl, h150, h151⟩ := Cs_cons h149
  cases h150
  obtain ⟨_, _, rfl, h152, h153⟩ := Cs_cons h151
  cases h152
  cases Cs_nil h153
  refine AOps.pureR rfl rfl rfl h145 rfl (rfl : _ = (eptr [(int .i64 x142.Kind), (int .i64 x142.A), (int .i64 x142.B)] 0)) ?_
  refine lE (agg [(int .i64 x142.Kind), (int .i64 x142.A), (int .i64 x142.B)]) ?_
  obtain ⟨y154, h155, h⟩ := obind h
  refine AOps.callF (g := 32) (args := [(ptr b29 0), (agg [(int .i64 x142.Kind), (int .i64 x142.A), (int .i64 x142.B)])]) rfl rfl rfl (spec_l08Run_do_F1_ok h5 h9 h13 h17 h21 h108 h113 h120 h125 h130 h131 (HS.enterP hH139 [0] [b29] rfl (by decide)) h155 (HS.wf' hH139)) ?_
  intro _ o161 s158 h160
  obtain ⟨h156, w162, z163, f164, e165, z167, f168, e169, z171, f172, e173, z175, f176, e177, z179, f180, e181, h157, h166, h170, h174, h178, h182, h183⟩ := h160
  have hH159 := HS.callP hH139 [0] h157 rfl rfl
  change HS [] true s s158 (([⟨some b29, [(eptr [(int .i64 v1.Checker.Stack), (int .i64 v1.Checker.Start), (sl z2 f3 e4), (sl z6 f7 e8), (sl z10 f11 e12), (sl z14 f15 e16), (sl z18 f19 e20)] 0), (int .i64 y154.2.1), (int .i64 y154.2.2.1), (sl z163 f164 e165), (sl z167 f168 e169), (int .i64 y154.2.2.2.2.2.1), (int .i64 y154.2.2.2.2.2.2.1), (sl z171 f172 e173), (sl z175 f176 e177), (sl z179 f180 e181)], w162⟩] : List BX) ++ List.flatten Ls138) at hH159
  cases h156
  refine AOps.makeR rfl rfl rfl rfl rfl rfl (rfl : _ = (sl 1 true [(int .i64 y154.1)])) ?_
  obtain ⟨l184, h185, h⟩ := obind h
  refine AOps.appLf (j := 0) (z' := 1) (f' := true) (e' := [(int .i64 y154.1)]) hH159 hG140 rfl rfl rfl rfl rfl rfl rfl rfl (appSrc_sl (LR.z (LR.lit (r := rI .i64) (sz := 1) (.cons rfl .nil))) rfl) ⟨by decide, by decide, rfl, rfl⟩ ⟨rfl, rfl⟩ rfl rfl h185 (LR.el (LR.lit (r := rI .i64) (sz := 1) (.cons rfl .nil))).len (fun i => OL.leaf (LR.el (LR.lit (r := rI .i64) (sz := 1) (.cons rfl .nil))) i) ?_
  intro h186 k188 Ls189 s190 ho187 hG191 hH192
  change HS [] true s s190 (([⟨some b29, [(eptr [(int .i64 v1.Checker.Stack), (int .i64 v1.Checker.Start), (sl z2 f3 e4), (sl z6 f7 e8), (sl z10 f11 e12), (sl z14 f15 e16), (sl z18 f19 e20)] 0), (int .i64 y154.2.1), (int .i64 y154.2.2.1), (sl z163 f164 e165), (sl z167 f168 e169), (int .i64 y154.2.2.2.2.2.1), (int .i64 y154.2.2.2.2.2.2.1), (sl z171 f172 e173), (sl z175 f176 e177), (sl z179 f180 e181)], w162⟩] : List BX) ++ List.flatten Ls189) at hH192
  change AllG [OS oE2 h186 k188 l184] Ls189 at hG191
  refine aq h186 ?_
  refine nl ?_
  refine AW.inBlock ?_
  refine AW.region ?_
  refine q (int .i64 i136) ?_
  refine q (int .i64 (IntKind.wrap .i64 (i136 + 1))) ?_
  refine aq (int .i64 (IntKind.wrap .i64 (i136 + 1))) ?_
  refine nl ?_
  cases h
  exact AW.res [(1, (sl z23 f24 e25)), (6, (ptr b29 0)), (7, h186), (8, (int .i64 (IntKind.wrap .i64 (i136 + 1))))] [] ⟨rfl, rfl, rfl, rfl, trivial⟩ trivial (hL1 _ rfl (w162, z163, f164, e165, z167, f168, e169, z171, f172, e173, z175, f176, e177, z179, f180, e181, h186, k188, s190, Ls189) _ _ ⟨h166, h170, h174, h178, h182, h183, ho187, hH192, hG191⟩)
 refine AW.condF (congrArg bool hc141) ?_
 refine AW.exit rfl ?_
 obtain ⟨r193, hm, hx⟩ := omap h
 clear h
 subst hx
 have hx := hR1 _ rfl
 rw [hx] at hm
 have h := hm
 exact AW.res [(6, (ptr b29 0)), (7, h133)] [] ⟨rfl, rfl, trivial⟩ trivial (KJ100 (m102, m103, m104, m109, m114, m115, m116, m121, m126, codes132, w101, z105, f106, e107, z110, f111, e112, z117, f118, e119, z122, f123, e124, z127, f128, e129, h133, k134, s137, Ls138) _ _ ⟨h108, h113, h120, h125, h130, h131, ho135, hH139, hG140, h⟩)
theorem spec_RefusedDeed_ok {v1 : Stream} {deeds22 : List Deed} {z2 z6 z10 z14 z18 z23 : Nat} {f3 f7 f11 f15 f19 f24 : Bool} {e4 e8 e12 e16 e20 e25 : List AV} {s : St} (h5 : LR rB 1 v1.Checker.Accept z2 e4) (h9 : LR (rL rPush 2) 1 v1.Checker.Call z6 e8) (h13 : LR (rL (rL (rI .i64) 1) 1) 1 v1.Checker.Return z10 e12) (h17 : LR (rL (rI .i64) 1) 1 v1.Checker.Inner z14 e16) (h21 : LR rS 1 v1.Pieces z18 e20) (h26 : LR rDeed 3 deeds22 z23 e25) {r : Int × Int × Int} (h : spec_RefusedDeed v1 deeds22 = some r) (hs : WF s) : ACall Cf 6 [(agg [(int .i64 v1.Checker.Stack), (int .i64 v1.Checker.Start), (sl z2 f3 e4), (sl z6 f7 e8), (sl z10 f11 e12), (sl z14 f15 e16), (sl z18 f19 e20)]), (sl z23 f24 e25)] s fun v _ s' => (fun x => rT [(rI .i64) x.1, (rI .i64) x.2.1, (rI .i64) x.2.2]) r v ∧ s' = s := by
 refine ACall.boxes rfl rfl rfl ?_
 have hH0 := HS.g0 (HS.init hs)
 have hG0 := AllG.nil
 have hl : LoOK [] false s := LoOK.nil
 unfold spec_RefusedDeed at h
 refine sr ?_
 refine AOps.makeR rfl rfl rfl rfl rfl rfl (rfl : _ = (eptr [(int .i64 v1.Checker.Stack), (int .i64 v1.Checker.Start), (sl z2 f3 e4), (sl z6 f7 e8), (sl z10 f11 e12), (sl z14 f15 e16), (sl z18 f19 e20)] 0)) ?_
 refine q (int .i64 0) ?_
 refine q (int .i64 0) ?_
 refine q (int .i64 0) ?_
 refine nl ?_
 refine AW.seq ?_
 refine sr ?_
 refine q (sl z23 f24 e25) ?_
 obtain ⟨y27, h28, h⟩ := obind h
 refine AOps.callP (g := 14) (args := [(eptr [(int .i64 v1.Checker.Stack), (int .i64 v1.Checker.Start), (sl z2 f3 e4), (sl z6 f7 e8), (sl z10 f11 e12), (sl z14 f15 e16), (sl z18 f19 e20)] 0), (sl z23 f24 e25)]) (p := (rI .i64) y27) rfl rfl rfl (spec_l08Asked_ok h5 h9 h13 h17 h21 h26 h28 (HS.wf' hH0)) ?_
 intro _ o30 h29
 cases h29
 refine aq (int .i64 y27) ?_
 refine ns ?_
 refine q (int .i64 y27) ?_
 refine q (bool (y27 != 0)) ?_
 refine nl ?_
 rcases oite h with ⟨hc31, h⟩ | ⟨hc31, h⟩
 ·refine AW.condT (congrArg bool hc31) ?_
  refine sr ?_
  refine q (int .i64 y27) ?_
  refine q (int .i64 0) ?_
  refine q (int .i64 0) ?_
  refine aq (int .i64 y27) ?_
  refine nl ?_
  cases h
  exact AW.ret ⟨⟨_, hH0⟩, _, _, rfl, (Fin.T (.cons (Fin.of (p := (rI .i64) 0) .I rfl) (.cons (Fin.of (p := (rI .i64) 0) .I rfl) (.cons (Fin.of (p := (rI .i64) y27) .I rfl) .nil)))).2⟩
 refine AW.condF (congrArg bool hc31) ?_
 refine AW.skip ?_
 refine sr ?_
 refine q (sl z23 f24 e25) ?_
 obtain ⟨y32, h33, h⟩ := obind h
 have hP60 := HS.pop0 hH0
 refine AOps.callF (al := true) (g := 15) (args := [(eptr [(int .i64 v1.Checker.Stack), (int .i64 v1.Checker.Start), (sl z2 f3 e4), (sl z6 f7 e8), (sl z10 f11 e12), (sl z14 f15 e16), (sl z18 f19 e20)] 0), (sl z23 f24 e25)]) rfl rfl rfl (spec_l08Play_K00_ok h5 h9 h13 h17 h21 h26  h33 (HS.wf' hH0)) ?_
 rintro _ _ s61 ⟨b34, w35, z36, f37, e38, z40, f41, e42, z44, f45, e46, z48, f49, e50, z52, f53, e54, h57, k58, Ls63, rfl, hH64, hG65, hl39, hl43, hl47, hl51, hl55, hb56, ho59⟩
 have hJ66 := HS.joinK1 hP60 hH64
 have hJ67 := HS.pushNE (x := ⟨some b34, [(eptr [(int .i64 v1.Checker.Stack), (int .i64 v1.Checker.Start), (sl z2 f3 e4), (sl z6 f7 e8), (sl z10 f11 e12), (sl z14 f15 e16), (sl z18 f19 e20)] 0), (int .i64 y32.1.n.Desk_.Read), (int .i64 y32.1.n.Desk_.State), (sl z36 f37 e38), (sl z40 f41 e42), (int .i64 y32.1.n.Saved.Read), (int .i64 y32.1.n.Saved.State), (sl z44 f45 e46), (sl z48 f49 e50), (sl z52 f53 e54)], w35⟩) hJ66
 obtain ⟨Ls68, Lf69, hG70, hF71, hP72⟩ := HS.pushN hJ67 hG0 hG65
 cases hF71
 have hH73 := HS.push0 hP72
 change HS [] false s s61 (([⟨some b34, [(eptr [(int .i64 v1.Checker.Stack), (int .i64 v1.Checker.Start), (sl z2 f3 e4), (sl z6 f7 e8), (sl z10 f11 e12), (sl z14 f15 e16), (sl z18 f19 e20)] 0), (int .i64 y32.1.n.Desk_.Read), (int .i64 y32.1.n.Desk_.State), (sl z36 f37 e38), (sl z40 f41 e42), (int .i64 y32.1.n.Saved.Read), (int .i64 y32.1.n.Saved.State), (sl z44 f45 e46), (sl z48 f49 e50), (sl z52 f53 e54)], w35⟩] : List BX) ++ List.flatten Ls68) at hH73
 change AllG [OS oE2 h57 k58 y32.2] Ls68 at hG70
 refine q (AV.tup [(ptr b34 0), h57]) ?_
 refine q (ptr b34 0) ?_
 refine q h57 ?_
 refine aq (ptr b34 0) ?_
 refine aq h57 ?_
 refine nl ?_
 refine AW.seq ?_
 refine sr ?_
 refine q (int .i64 0) ?_
 refine nl ?_
 refine AW.meet (σ := St × (List (List BX))) (fun (s74, Ls75) tm os => ⟨updL tm [], updL os [], s74⟩) (fun (s74, Ls75) => (HS [] false s s74 (([] : List BX) ++ List.flatten Ls75)) ∧ (AllG [] Ls75) ∧ spec_RefusedDeed_J1 = some r) ?_ ?_
 ·rintro ⟨s74, Ls75⟩ tm os ⟨hH76, hG77, h⟩
  unfold spec_RefusedDeed_J1 at h
  refine sr ?_
  refine q (int .i64 0) ?_
  refine q (int .i64 0) ?_
  refine q (int .i64 6) ?_
  refine nl ?_
  cases h
  exact AW.ret ⟨⟨_, hH76⟩, _, _, rfl, (Fin.T (.cons (Fin.of (p := (rI .i64) 0) .I rfl) (.cons (Fin.of (p := (rI .i64) 0) .I rfl) (.cons (Fin.of (p := (rI .i64) 6) .I rfl) .nil)))).2⟩
 intro KJ78
 refine AW.block ?_
 obtain ⟨Ls108, hG109, hH110⟩ := HS.selEG hH73 hG70 [] [some 0]
 change HS [] false s s61 (([] : List BX) ++ List.flatten Ls108) at hH110
 change AllG [OS oE2 h57 k58 y32.2] Ls108 at hG109
 refine AW.res [(9, h57), (10, (int .i64 0))] [] ⟨rfl, rfl, trivial⟩ trivial ?_
 refine AW.loopF (σ := Int) (τ := St × (List (List BX))) (fun i79 (s80, Ls81) => (HS [] false s s80 (([] : List BX) ++ List.flatten Ls81)) ∧ (AllG [OS oE2 h57 k58 y32.2] Ls81)) (fun i79 (s80, Ls81) tm os => ⟨updL tm [(9, h57), (10, (int .i64 i79))], updL os [], s80⟩) ?_ (x := (0)) (y := (s61, Ls108)) h ⟨hH110, hG109⟩
 clear h
 rintro i79 ⟨s80, Ls81⟩ tm os ⟨hH82, hG83⟩ ee1 h hL1 hR1
 unfold spec_RefusedDeed_S1 at h
 refine AW.seq ?_
 refine sr ?_
 refine q (int .i64 i79) ?_
 refine q h57 ?_
 refine AOps.lenO (j := 0) hG83 rfl Sub.here rfl rfl rfl rfl rfl ?_
 refine q (bool (decide ((i79 : Int) < (y32.2.length : Int)))) ?_
 refine nl ?_
 rcases oite h with ⟨hc84, h⟩ | ⟨hc84, h⟩
 ·refine AW.condT (congrArg bool hc84) ?_
  refine AW.skip ?_
  refine AW.seq ?_
  refine AW.block ?_
  refine sr ?_
  refine q h57 ?_
  refine q (int .i64 i79) ?_
  obtain ⟨x87, h88, h⟩ := obind h
  refine AOps.idxO (j := 0) hG83 rfl Sub.here h88 rfl rfl rfl rfl rfl rfl rfl rfl rfl ?_
  intro b85 hb86
  refine AOps.ldO (j := 0) (q := 0) hH82 hG83 rfl Sub.here h88 hb86 rfl rfl rfl rfl rfl (lt_b rfl) (le_b rfl) rfl rfl ?_ (fun c B hc => by obtain ⟨⟨_, hr, rfl⟩, rfl⟩ := hc; cases hr; exact ⟨_, rfl⟩)
  intro c89 B90 v91 h92 h93
  obtain ⟨⟨_, h94, rfl⟩, rfl⟩ := h92
  cases h94
  cases h93
  refine q (bool (x87 != 0)) ?_
  refine nl ?_
  rcases oite h with ⟨hc95, h⟩ | ⟨hc95, h⟩
  ·refine AW.condT (congrArg bool hc95) ?_
   refine sr ?_
   refine q (int .i64 i79) ?_
   refine q h57 ?_
   refine q (int .i64 i79) ?_
   refine AOps.idxO (j := 0) hG83 rfl Sub.here h88 rfl rfl rfl rfl rfl rfl rfl rfl rfl ?_
   intro b96 hb97
   refine AOps.ldO (j := 0) (q := 0) hH82 hG83 rfl Sub.here h88 hb97 rfl rfl rfl rfl rfl (lt_b rfl) (le_b rfl) rfl rfl ?_ (fun c B hc => by obtain ⟨⟨_, hr, rfl⟩, rfl⟩ := hc; cases hr; exact ⟨_, rfl⟩)
   intro c98 B99 v100 h101 h102
   obtain ⟨⟨_, h103, rfl⟩, rfl⟩ := h101
   cases h103
   cases h102
   refine aq (int .i64 i79) ?_
   refine aq (int .i64 x87) ?_
   refine q (int .i64 0) ?_
   refine nl ?_
   cases h
   have hr := hR1 _ rfl
   subst hr
   exact AW.ret ⟨⟨_, hH82⟩, _, _, rfl, (Fin.T (.cons (Fin.of (p := (rI .i64) i79) .I rfl) (.cons (Fin.of (p := (rI .i64) x87) .I rfl) (.cons (Fin.of (p := (rI .i64) 0) .I rfl) .nil)))).2⟩
  refine AW.condF (congrArg bool hc95) ?_
  refine AW.skip ?_
  refine AW.inBlock ?_
  refine AW.region ?_
  refine q (int .i64 i79) ?_
  refine q (int .i64 (IntKind.wrap .i64 (i79 + 1))) ?_
  refine aq (int .i64 (IntKind.wrap .i64 (i79 + 1))) ?_
  refine nl ?_
  cases h
  exact AW.res [(9, h57), (10, (int .i64 (IntKind.wrap .i64 (i79 + 1))))] [] ⟨rfl, rfl, trivial⟩ trivial (hL1 _ rfl (s80, Ls81) _ _ ⟨hH82, hG83⟩)
 refine AW.condF (congrArg bool hc84) ?_
 refine AW.exit rfl ?_
 obtain ⟨Ls104, hG105, hH106⟩ := HS.selEG hH82 hG83 [] []
 change HS [] false s s80 (([] : List BX) ++ List.flatten Ls104) at hH106
 change AllG [] Ls104 at hG105
 obtain ⟨r107, hm, hx⟩ := omap h
 clear h
 subst hx
 have hx := hR1 _ rfl
 rw [hx] at hm
 have h := hm
 exact AW.res [] [] trivial trivial (KJ78 (s80, Ls104) _ _ ⟨hH106, hG105, h⟩)
theorem impl_size_bool_ok {list1 : List Bool} {z2 : Nat} {f3 : Bool} {e4 : List AV} {s : St} (h5 : LR rB 1 list1 z2 e4) {r : Int} (h : impl_size_bool list1 = some r) (hs : WF s) : ACall Cf 80 [(sl z2 f3 e4)] s fun v _ s' => (rI .i64) r v ∧ s' = s := by
 refine ACall.pure rfl rfl rfl .I ?_
 have hWF := hs.lo'
 unfold impl_size_bool at h
 refine sr ?_
 refine q (int .i64 0) ?_
 refine ns ?_
 refine q (sl z2 f3 e4) ?_
 refine AOps.p rfl (len_eq h5) ?_
 refine aq (int .i64 (list1.length : Int)) ?_
 refine nl ?_
 cases h
 exact AW.ret ⟨rfl, _, _, rfl, rfl⟩
theorem impl_within_ok {n1 low2 high3 : Int} {s : St} {r : Bool} (h : impl_within n1 low2 high3 = some r) (hs : WF s) : ACall Cf 62 [(int .i64 n1), (int .i64 low2), (int .i64 high3)] s fun v _ s' => (rB) r v ∧ s' = s := by
 refine ACall.pure rfl rfl rfl .B ?_
 have hWF := hs.lo'
 unfold impl_within at h
 refine sr ?_
 refine q (bool false) ?_
 refine ns ?_
 refine q (int .i64 n1) ?_
 refine q (int .i64 low2) ?_
 refine q (bool (decide ((n1 : Int) ≥ low2))) ?_
 refine q (bool (decide ((n1 : Int) ≥ low2))) ?_
 refine AOps.split 4 (fun f' => ∃ tm' os', f' = ⟨updL tm' [(14, (bool ((decide ((n1 : Int) ≥ low2)) && (decide ((n1 : Int) ≤ high3)))))], updL os' [], { s with lo := s.n }⟩) ?_ ?_
 ·rcases Bool.eq_false_or_eq_true (decide ((n1 : Int) ≥ low2)) with hc4 | hc4
  ·refine AOps.know (d := 10) rfl hc4 ?_
   refine q (int .i64 n1) ?_
   refine q (int .i64 high3) ?_
   refine q (bool (decide ((n1 : Int) ≤ high3))) ?_
   refine q (bool (decide ((n1 : Int) ≤ high3))) ?_
   refine AOps.resR [(14, (bool ((decide ((n1 : Int) ≥ low2)) && (decide ((n1 : Int) ≤ high3)))))] [] ?_ ?_ _ ⟨_, _, rfl⟩
   ·exact ⟨congrArg bool (and_t hc4), trivial⟩
   exact trivial
  ·refine AOps.know (d := 10) rfl hc4 ?_
   refine sk ?_
   refine sk ?_
   refine sk ?_
   refine q (bool false) ?_
   refine AOps.resR [(14, (bool ((decide ((n1 : Int) ≥ low2)) && (decide ((n1 : Int) ≤ high3)))))] [] ?_ ?_ _ ⟨_, _, rfl⟩
   ·exact ⟨congrArg bool (and_f hc4), trivial⟩
   exact trivial
 rintro _ ⟨tm, os, rfl⟩
 refine aq (bool ((decide ((n1 : Int) ≥ low2)) && (decide ((n1 : Int) ≤ high3)))) ?_
 refine nl ?_
 cases h
 exact AW.ret ⟨rfl, _, _, rfl, rfl⟩
theorem impl_Checker_isState_ok {c1 : Checker} {s18 : Int} {z2 z6 z10 z14 : Nat} {f3 f7 f11 f15 : Bool} {e4 e8 e12 e16 : List AV} {s : St} (h5 : LR rB 1 c1.Accept z2 e4) (h9 : LR (rL rPush 2) 1 c1.Call z6 e8) (h13 : LR (rL (rL (rI .i64) 1) 1) 1 c1.Return z10 e12) (h17 : LR (rL (rI .i64) 1) 1 c1.Inner z14 e16) {r : Bool} (h : impl_Checker_isState c1 s18 = some r) (hs : WF s) : ACall Cf 81 [(agg [(int .i64 c1.Stack), (int .i64 c1.Start), (sl z2 f3 e4), (sl z6 f7 e8), (sl z10 f11 e12), (sl z14 f15 e16)]), (int .i64 s18)] s fun v _ s' => (rB) r v ∧ s' = s := by
 refine ACall.pure rfl rfl rfl .B ?_
 have hWF := hs.lo'
 unfold impl_Checker_isState at h
 refine sr ?_
 refine AOps.makeR rfl rfl rfl rfl rfl rfl (rfl : _ = (eptr [(int .i64 c1.Stack), (int .i64 c1.Start), (sl z2 f3 e4), (sl z6 f7 e8), (sl z10 f11 e12), (sl z14 f15 e16)] 0)) ?_
 refine q (bool false) ?_
 refine ns ?_
 refine q (int .i64 s18) ?_
 refine q (eptr [(int .i64 c1.Stack), (int .i64 c1.Start), (sl z2 f3 e4), (sl z6 f7 e8), (sl z10 f11 e12), (sl z14 f15 e16)] 2) ?_
 refine lE (sl z2 f3 e4) ?_
 obtain ⟨y19, h20, h⟩ := obind h
 refine AOps.callP (g := 80) (args := [(sl z2 f3 e4)]) (p := (rI .i64) y19) rfl rfl rfl (impl_size_bool_ok h5 h20 hWF) ?_
 intro _ o22 h21
 cases h21
 refine q (int .i64 (IntKind.wrap .i64 (y19 - 1))) ?_
 obtain ⟨y23, h24, h⟩ := obind h
 refine AOps.callP (g := 62) (args := [(int .i64 s18), (int .i64 0), (int .i64 (IntKind.wrap .i64 (y19 - 1)))]) (p := (rB) y23) rfl rfl rfl (impl_within_ok  h24 hWF) ?_
 intro _ o26 h25
 cases h25
 refine aq (bool y23) ?_
 refine nl ?_
 cases h
 exact AW.ret ⟨rfl, _, _, rfl, rfl⟩
theorem impl_size_simpl_Push_ok {list1 : List (List Push)} {z2 : Nat} {f3 : Bool} {e4 : List AV} {s : St} (h5 : LR (rL rPush 2) 1 list1 z2 e4) {r : Int} (h : impl_size_simpl_Push list1 = some r) (hs : WF s) : ACall Cf 82 [(sl z2 f3 e4)] s fun v _ s' => (rI .i64) r v ∧ s' = s := by
 refine ACall.pure rfl rfl rfl .I ?_
 have hWF := hs.lo'
 unfold impl_size_simpl_Push at h
 refine sr ?_
 refine q (int .i64 0) ?_
 refine ns ?_
 refine q (sl z2 f3 e4) ?_
 refine AOps.p rfl (len_eq h5) ?_
 refine aq (int .i64 (list1.length : Int)) ?_
 refine nl ?_
 cases h
 exact AW.ret ⟨rfl, _, _, rfl, rfl⟩
theorem impl_size_s_int64_ok {list1 : List (List (List Int))} {z2 : Nat} {f3 : Bool} {e4 : List AV} {s : St} (h5 : LR (rL (rL (rI .i64) 1) 1) 1 list1 z2 e4) {r : Int} (h : impl_size_s_int64 list1 = some r) (hs : WF s) : ACall Cf 83 [(sl z2 f3 e4)] s fun v _ s' => (rI .i64) r v ∧ s' = s := by
 refine ACall.pure rfl rfl rfl .I ?_
 have hWF := hs.lo'
 unfold impl_size_s_int64 at h
 refine sr ?_
 refine q (int .i64 0) ?_
 refine ns ?_
 refine q (sl z2 f3 e4) ?_
 refine AOps.p rfl (len_eq h5) ?_
 refine aq (int .i64 (list1.length : Int)) ?_
 refine nl ?_
 cases h
 exact AW.ret ⟨rfl, _, _, rfl, rfl⟩
theorem impl_size_sint64_ok {list1 : List (List Int)} {z2 : Nat} {f3 : Bool} {e4 : List AV} {s : St} (h5 : LR (rL (rI .i64) 1) 1 list1 z2 e4) {r : Int} (h : impl_size_sint64 list1 = some r) (hs : WF s) : ACall Cf 84 [(sl z2 f3 e4)] s fun v _ s' => (rI .i64) r v ∧ s' = s := by
 refine ACall.pure rfl rfl rfl .I ?_
 have hWF := hs.lo'
 unfold impl_size_sint64 at h
 refine sr ?_
 refine q (int .i64 0) ?_
 refine ns ?_
 refine q (sl z2 f3 e4) ?_
 refine AOps.p rfl (len_eq h5) ?_
 refine aq (int .i64 (list1.length : Int)) ?_
 refine nl ?_
 cases h
 exact AW.ret ⟨rfl, _, _, rfl, rfl⟩
theorem impl_size_int64_okN {list1 : List Int} {z2 : Nat} {f3 : Bool} {e4 : List AV} {s : St} (h5 : LR (rI .i64) 1 list1 z2 e4) {r : Int} (h : impl_size_int64 list1 = some r) (hs : WF s) : ACallN Cf 86 [(sl z2 f3 e4)] s fun v _ s' => (rI .i64) r v ∧ s' = s := by
 refine ACallN.pure rfl rfl rfl .I ?_
 have hWF := hs.lo'
 unfold impl_size_int64 at h
 refine sr ?_
 refine q (int .i64 0) ?_
 refine ns ?_
 refine q (sl z2 f3 e4) ?_
 refine AOps.p rfl (len_eq h5) ?_
 refine aq (int .i64 (list1.length : Int)) ?_
 refine nl ?_
 cases h
 exact AW.ret ⟨rfl, _, _, rfl, rfl⟩
theorem slices_IndexFunc_sint64_int64_ok {s1 : List Int} {f6 : Int → Option Bool} {z2 g7 : Nat} {f3 : Bool} {e4 cap8 : List AV} {s : St} (h5 : LR (rI .i64) 1 s1 z2 e4) (h9 : ∀ x vs y, Cs [(rI .i64) x] vs → f6 x = some y → ∀ s, WF s → ACall Cf g7 (vs ++ cap8) s fun v _ s' => (rB) y v ∧ s' = s) {r : Int} (h : slices_IndexFunc_sint64_int64 s1 f6 = some r) (hs : WF s) : ACall Cf 104 [(sl z2 f3 e4), (AV.fn g7 cap8)] s fun v _ s' => (rI .i64) r v ∧ s' = s := by
 refine ACall.pure rfl rfl rfl .I ?_
 have hWF := hs.lo'
 unfold slices_IndexFunc_sint64_int64 at h
 refine sr ?_
 refine q (int .i64 0) ?_
 refine nl ?_
 refine AW.seq ?_
 refine sr ?_
 refine q (sl z2 f3 e4) ?_
 refine AOps.p rfl (len_eq h5) ?_
 refine q (int .i64 0) ?_
 refine nl ?_
 refine AW.meet (σ := Unit) (fun _ tm os => ⟨updL tm [], updL os [], { s with lo := s.n }⟩) (fun _ => slices_IndexFunc_sint64_int64_J1 = some r) ?_ ?_
 ·rintro _ tm os h
  unfold slices_IndexFunc_sint64_int64_J1 at h
  refine sr ?_
  refine q (int .i64 (-1)) ?_
  refine nl ?_
  cases h
  exact AW.ret ⟨rfl, _, _, rfl, rfl⟩
 intro KJ10
 refine AW.block ?_
 refine AW.res [(0, (sl z2 f3 e4)), (1, (AV.fn g7 cap8)), (7, (int .i64 (s1.length : Int))), (8, (int .i64 0))] [] ⟨rfl, rfl, rfl, rfl, trivial⟩ trivial ?_
 refine AW.loopF (σ := Int) (τ := Unit) (fun t11 _ => True) (fun t11 _ tm os => ⟨updL tm [(0, (sl z2 f3 e4)), (1, (AV.fn g7 cap8)), (7, (int .i64 (s1.length : Int))), (8, (int .i64 t11))], updL os [], { s with lo := s.n }⟩) ?_ (x := (0)) (y := ()) h trivial
 clear h
 rintro t11 _ tm os - ee1 h hL1 hR1
 unfold slices_IndexFunc_sint64_int64_S1 at h
 refine sr ?_
 refine q (bool (decide ((t11 : Int) < (s1.length : Int)))) ?_
 refine nl ?_
 refine AW.seq ?_
 rcases oite h with ⟨hc12, h⟩ | ⟨hc12, h⟩
 ·refine AW.condT (congrArg bool hc12) ?_
  refine AW.skip ?_
  refine AW.seq ?_
  refine AW.block ?_
  refine sr ?_
  refine q (int .i64 t11) ?_
  refine aq (int .i64 t11) ?_
  refine ns ?_
  refine q (AV.fn g7 cap8) ?_
  refine q (sl z2 f3 e4) ?_
  refine q (int .i64 t11) ?_
  obtain ⟨x13, h14, h⟩ := obind h
  obtain ⟨v17, h15, h16⟩ := idx_sl h5 h14
  cases h15
  refine AOps.pureR rfl rfl rfl h16 rfl (rfl : _ = (eptr [(int .i64 x13)] 0)) ?_
  refine lE (int .i64 x13) ?_
  obtain ⟨y18, h19, h⟩ := obind h
  refine AOps.callP (g := g7) (args := ([(int .i64 x13)] ++ cap8)) (p := (rB) y18) rfl rfl rfl (h9 x13 _ _ (.cons rfl .nil) h19 _ hWF) ?_
  intro _ o21 h20
  cases h20
  refine nl ?_
  rcases oite h with ⟨hc22, h⟩ | ⟨hc22, h⟩
  ·refine AW.condT (congrArg bool hc22) ?_
   refine sr ?_
   refine q (int .i64 t11) ?_
   refine aq (int .i64 t11) ?_
   refine nl ?_
   cases h
   have hr := hR1 _ rfl
   subst hr
   exact AW.ret ⟨rfl, _, _, rfl, rfl⟩
  refine AW.condF (congrArg bool hc22) ?_
  refine AW.skip ?_
  refine AW.inBlock ?_
  refine AW.region ?_
  refine q (int .i64 (IntKind.wrap .i64 (t11 + 1))) ?_
  refine q (int .i64 (IntKind.wrap .i64 (t11 + 1))) ?_
  refine nl ?_
  cases h
  exact AW.res [(0, (sl z2 f3 e4)), (1, (AV.fn g7 cap8)), (7, (int .i64 (s1.length : Int))), (8, (int .i64 (IntKind.wrap .i64 (t11 + 1))))] [] ⟨rfl, rfl, rfl, rfl, trivial⟩ trivial (hL1 _ rfl () _ _ trivial)
 refine AW.condF (congrArg bool hc12) ?_
 refine AW.exit rfl ?_
 obtain ⟨r23, hm, hx⟩ := omap h
 clear h
 subst hx
 have hx := hR1 _ rfl
 rw [hx] at hm
 have h := hm
 exact AW.res [] [] trivial trivial (KJ10 () _ _ h)
theorem slices_ContainsFunc_sint64_int64_ok {s1 : List Int} {f6 : Int → Option Bool} {z2 g7 : Nat} {f3 : Bool} {e4 cap8 : List AV} {s : St} (h5 : LR (rI .i64) 1 s1 z2 e4) (h9 : ∀ x vs y, Cs [(rI .i64) x] vs → f6 x = some y → ∀ s, WF s → ACall Cf g7 (vs ++ cap8) s fun v _ s' => (rB) y v ∧ s' = s) {r : Bool} (h : slices_ContainsFunc_sint64_int64 s1 f6 = some r) (hs : WF s) : ACall Cf 87 [(sl z2 f3 e4), (AV.fn g7 cap8)] s fun v _ s' => (rB) r v ∧ s' = s := by
 refine ACall.pure rfl rfl rfl .B ?_
 have hWF := hs.lo'
 unfold slices_ContainsFunc_sint64_int64 at h
 refine sr ?_
 refine q (bool false) ?_
 refine ns ?_
 refine q (sl z2 f3 e4) ?_
 refine q (AV.fn g7 cap8) ?_
 obtain ⟨y10, h11, h⟩ := obind h
 refine AOps.callP (g := 104) (args := [(sl z2 f3 e4), (AV.fn g7 cap8)]) (p := (rI .i64) y10) rfl rfl rfl (slices_IndexFunc_sint64_int64_ok h5 h9 h11 hWF) ?_
 intro _ o13 h12
 cases h12
 refine q (bool (decide ((y10 : Int) ≥ 0))) ?_
 refine aq (bool (decide ((y10 : Int) ≥ 0))) ?_
 refine nl ?_
 cases h
 exact AW.ret ⟨rfl, _, _, rfl, rfl⟩
theorem impl_ValidChecker_1_1_ok {s1 : Int} {c2 : Checker} {z3 z7 z11 z15 : Nat} {f4 f8 f12 f16 : Bool} {e5 e9 e13 e17 : List AV} {s : St} (h6 : LR rB 1 c2.Accept z3 e5) (h10 : LR (rL rPush 2) 1 c2.Call z7 e9) (h14 : LR (rL (rL (rI .i64) 1) 1) 1 c2.Return z11 e13) (h18 : LR (rL (rI .i64) 1) 1 c2.Inner z15 e17) {r : Bool} (h : impl_ValidChecker_1_1 s1 c2 = some r) (hs : WF s) : ACall Cf 88 [(int .i64 s1), (eptr [(int .i64 c2.Stack), (int .i64 c2.Start), (sl z3 f4 e5), (sl z7 f8 e9), (sl z11 f12 e13), (sl z15 f16 e17)] 0)] s fun v _ s' => (rB) r v ∧ s' = s := by
 refine ACall.pure rfl rfl rfl .B ?_
 have hWF := hs.lo'
 unfold impl_ValidChecker_1_1 at h
 refine sr ?_
 refine q (bool false) ?_
 refine ns ?_
 refine lE (agg [(int .i64 c2.Stack), (int .i64 c2.Start), (sl z3 f4 e5), (sl z7 f8 e9), (sl z11 f12 e13), (sl z15 f16 e17)]) ?_
 refine q (int .i64 s1) ?_
 obtain ⟨y19, h20, h⟩ := obind h
 refine AOps.callP (g := 81) (args := [(agg [(int .i64 c2.Stack), (int .i64 c2.Start), (sl z3 f4 e5), (sl z7 f8 e9), (sl z11 f12 e13), (sl z15 f16 e17)]), (int .i64 s1)]) (p := (rB) y19) rfl rfl rfl (impl_Checker_isState_ok h6 h10 h14 h18 h20 hWF) ?_
 intro _ o22 h21
 cases h21
 refine q (bool (!y19)) ?_
 refine aq (bool (!y19)) ?_
 refine nl ?_
 cases h
 exact AW.ret ⟨rfl, _, _, rfl, rfl⟩
theorem impl_ValidChecker_1_ok {list1 : List Int} {many6 : Int} {c7 : Checker} {z2 z8 z12 z16 z20 : Nat} {f3 f9 f13 f17 f21 : Bool} {e4 e10 e14 e18 e22 : List AV} {s : St} (h5 : LR (rI .i64) 1 list1 z2 e4) (h11 : LR rB 1 c7.Accept z8 e10) (h15 : LR (rL rPush 2) 1 c7.Call z12 e14) (h19 : LR (rL (rL (rI .i64) 1) 1) 1 c7.Return z16 e18) (h23 : LR (rL (rI .i64) 1) 1 c7.Inner z20 e22) {r : Bool} (h : impl_ValidChecker_1 list1 many6 c7 = some r) (hs : WF s) : ACall Cf 85 [(sl z2 f3 e4), (int .i64 many6), (eptr [(int .i64 c7.Stack), (int .i64 c7.Start), (sl z8 f9 e10), (sl z12 f13 e14), (sl z16 f17 e18), (sl z20 f21 e22)] 0)] s fun v _ s' => (rB) r v ∧ s' = s := by
 refine ACall.pure rfl rfl rfl .B ?_
 have hWF := hs.lo'
 unfold impl_ValidChecker_1 at h
 refine sr ?_
 refine q (bool false) ?_
 refine ns ?_
 refine q (sl z2 f3 e4) ?_
 obtain ⟨y24, h25, h⟩ := obind h
 refine AOps.lendP (g := 86) (args := [(sl z2 f3 e4)]) (ps := [(rL (rI .i64) 1) list1]) (p := (rI .i64) y24) rfl rfl rfl rfl rfl rfl rfl (.cons (Fin.of (p := (rL (rI .i64) 1) list1) (.L fun _ => .I) (⟨_, _, _, rfl, h5⟩)) .nil) (fun args' hc => by obtain ⟨_, _, rfl, hv0, hd0⟩ := Cs_cons hc; obtain ⟨z26, f27, e28, rfl, h29⟩ := hv0; cases Cs_nil hd0; exact impl_size_int64_okN h29 h25 WF.blind) (fun v n hv => by cases hv; rfl) ?_
 intro _ h30
 cases h30
 refine q (int .i64 many6) ?_
 refine q (bool (y24 == many6)) ?_
 refine q (bool (y24 == many6)) ?_
 obtain ⟨b32, hb, h⟩ := obind h
 refine AOps.split 5 (fun f' => ∃ tm' os', f' = ⟨updL tm' [(15, (bool b32))], updL os' [], { s with lo := s.n }⟩) ?_ ?_
 ·rcases oite hb with ⟨hc31, hb⟩ | ⟨hc31, hb⟩
  ·have h := hb
   refine AOps.know (d := 10) rfl hc31 ?_
   refine q (sl z2 f3 e4) ?_
   refine q (AV.fn 88 [(eptr [(int .i64 c7.Stack), (int .i64 c7.Start), (sl z8 f9 e10), (sl z12 f13 e14), (sl z16 f17 e18), (sl z20 f21 e22)] 0)]) ?_
   obtain ⟨y33, h34, h⟩ := obind h
   refine AOps.callP (g := 87) (args := [(sl z2 f3 e4), (AV.fn 88 [(eptr [(int .i64 c7.Stack), (int .i64 c7.Start), (sl z8 f9 e10), (sl z12 f13 e14), (sl z16 f17 e18), (sl z20 f21 e22)] 0)])]) (p := (rB) y33) rfl rfl rfl (slices_ContainsFunc_sint64_int64_ok h5 (by intro x vs y hc hx s hs; obtain ⟨_, _, rfl, hv0, hd0⟩ := Cs_cons hc; cases hv0; cases Cs_nil hd0; exact impl_ValidChecker_1_1_ok h11 h15 h19 h23 hx hs) h34 hWF) ?_
   intro _ o36 h35
   cases h35
   refine q (bool (!y33)) ?_
   refine q (bool (!y33)) ?_
   refine AOps.resR [(15, (bool b32))] [] ?_ ?_ _ ⟨_, _, rfl⟩
   ·exact ⟨congrArg bool (Option.some.inj h), trivial⟩
   exact trivial
  ·refine AOps.know (d := 10) rfl hc31 ?_
   refine sk ?_
   refine sk ?_
   refine sk ?_
   refine sk ?_
   refine q (bool false) ?_
   refine AOps.resR [(15, (bool b32))] [] ?_ ?_ _ ⟨_, _, rfl⟩
   ·exact ⟨congrArg bool (Option.some.inj hb), trivial⟩
   exact trivial
 rintro _ ⟨tm, os, rfl⟩
 refine aq (bool b32) ?_
 refine nl ?_
 cases h
 exact AW.ret ⟨rfl, _, _, rfl, rfl⟩
theorem impl_Checker_isMark_ok {c1 : Checker} {x18 : Int} {z2 z6 z10 z14 : Nat} {f3 f7 f11 f15 : Bool} {e4 e8 e12 e16 : List AV} {s : St} (h5 : LR rB 1 c1.Accept z2 e4) (h9 : LR (rL rPush 2) 1 c1.Call z6 e8) (h13 : LR (rL (rL (rI .i64) 1) 1) 1 c1.Return z10 e12) (h17 : LR (rL (rI .i64) 1) 1 c1.Inner z14 e16) {r : Bool} (h : impl_Checker_isMark c1 x18 = some r) (hs : WF s) : ACall Cf 89 [(agg [(int .i64 c1.Stack), (int .i64 c1.Start), (sl z2 f3 e4), (sl z6 f7 e8), (sl z10 f11 e12), (sl z14 f15 e16)]), (int .i64 x18)] s fun v _ s' => (rB) r v ∧ s' = s := by
 refine ACall.pure rfl rfl rfl .B ?_
 have hWF := hs.lo'
 unfold impl_Checker_isMark at h
 refine sr ?_
 refine AOps.makeR rfl rfl rfl rfl rfl rfl (rfl : _ = (eptr [(int .i64 c1.Stack), (int .i64 c1.Start), (sl z2 f3 e4), (sl z6 f7 e8), (sl z10 f11 e12), (sl z14 f15 e16)] 0)) ?_
 refine q (bool false) ?_
 refine ns ?_
 refine q (int .i64 x18) ?_
 refine q (eptr [(int .i64 c1.Stack), (int .i64 c1.Start), (sl z2 f3 e4), (sl z6 f7 e8), (sl z10 f11 e12), (sl z14 f15 e16)] 0) ?_
 refine lE (int .i64 c1.Stack) ?_
 refine q (int .i64 (IntKind.wrap .i64 (c1.Stack - 1))) ?_
 obtain ⟨y19, h20, h⟩ := obind h
 refine AOps.callP (g := 62) (args := [(int .i64 x18), (int .i64 0), (int .i64 (IntKind.wrap .i64 (c1.Stack - 1)))]) (p := (rB) y19) rfl rfl rfl (impl_within_ok  h20 hWF) ?_
 intro _ o22 h21
 cases h21
 refine aq (bool y19) ?_
 refine nl ?_
 cases h
 exact AW.ret ⟨rfl, _, _, rfl, rfl⟩
theorem impl_ValidChecker_ok {p1 : Checker} {z2 z6 z10 z14 : Nat} {f3 f7 f11 f15 : Bool} {e4 e8 e12 e16 : List AV} {s : St} (h5 : LR rB 1 p1.Accept z2 e4) (h9 : LR (rL rPush 2) 1 p1.Call z6 e8) (h13 : LR (rL (rL (rI .i64) 1) 1) 1 p1.Return z10 e12) (h17 : LR (rL (rI .i64) 1) 1 p1.Inner z14 e16) {r : Bool} (h : impl_ValidChecker p1 = some r) (hs : WF s) : ACall Cf 61 [(agg [(int .i64 p1.Stack), (int .i64 p1.Start), (sl z2 f3 e4), (sl z6 f7 e8), (sl z10 f11 e12), (sl z14 f15 e16)])] s fun v _ s' => (rB) r v ∧ s' = s := by
 refine ACall.pure rfl rfl rfl .B ?_
 have hWF := hs.lo'
 unfold impl_ValidChecker at h
 refine sr ?_
 refine AOps.makeR rfl rfl rfl rfl rfl rfl (rfl : _ = (eptr [(int .i64 p1.Stack), (int .i64 p1.Start), (sl z2 f3 e4), (sl z6 f7 e8), (sl z10 f11 e12), (sl z14 f15 e16)] 0)) ?_
 refine q (bool false) ?_
 refine ns ?_
 refine q (eptr [(int .i64 p1.Stack), (int .i64 p1.Start), (sl z2 f3 e4), (sl z6 f7 e8), (sl z10 f11 e12), (sl z14 f15 e16)] 2) ?_
 refine lE (sl z2 f3 e4) ?_
 obtain ⟨y18, h19, h⟩ := obind h
 refine AOps.callP (g := 80) (args := [(sl z2 f3 e4)]) (p := (rI .i64) y18) rfl rfl rfl (impl_size_bool_ok h5 h19 hWF) ?_
 intro _ o21 h20
 cases h20
 refine aq (int .i64 y18) ?_
 refine nl ?_
 refine AW.seq ?_
 refine sr ?_
 refine q (int .i64 y18) ?_
 obtain ⟨y22, h23, h⟩ := obind h
 refine AOps.callP (g := 62) (args := [(int .i64 y18), (int .i64 1), (int .i64 40)]) (p := (rB) y22) rfl rfl rfl (impl_within_ok  h23 hWF) ?_
 intro _ o25 h24
 cases h24
 refine q (bool (!y22)) ?_
 refine q (bool (!y22)) ?_
 obtain ⟨b27, hb, h⟩ := obind h
 refine AOps.split 5 (fun f' => ∃ tm' os', f' = ⟨updL tm' [(1, (eptr [(int .i64 p1.Stack), (int .i64 p1.Start), (sl z2 f3 e4), (sl z6 f7 e8), (sl z10 f11 e12), (sl z14 f15 e16)] 0)), (3, (int .i64 y18)), (19, (bool b27))], updL os' [], { s with lo := s.n }⟩) ?_ ?_
 ·rcases oite hb with ⟨hc26, hb⟩ | ⟨hc26, hb⟩
  ·refine AOps.know (d := 14) rfl hc26 ?_
   refine sk ?_
   refine sk ?_
   refine sk ?_
   refine sk ?_
   refine q (bool true) ?_
   refine AOps.resR [(1, (eptr [(int .i64 p1.Stack), (int .i64 p1.Start), (sl z2 f3 e4), (sl z6 f7 e8), (sl z10 f11 e12), (sl z14 f15 e16)] 0)), (3, (int .i64 y18)), (19, (bool b27))] [] ?_ ?_ _ ⟨_, _, rfl⟩
   ·exact ⟨rfl, rfl, congrArg bool (Option.some.inj hb), trivial⟩
   exact trivial
  ·have h := hb
   refine AOps.know (d := 14) rfl hc26 ?_
   refine q (eptr [(int .i64 p1.Stack), (int .i64 p1.Start), (sl z2 f3 e4), (sl z6 f7 e8), (sl z10 f11 e12), (sl z14 f15 e16)] 0) ?_
   refine lE (int .i64 p1.Stack) ?_
   obtain ⟨y28, h29, h⟩ := obind h
   refine AOps.callP (g := 62) (args := [(int .i64 p1.Stack), (int .i64 1), (int .i64 80)]) (p := (rB) y28) rfl rfl rfl (impl_within_ok  h29 hWF) ?_
   intro _ o31 h30
   cases h30
   refine q (bool (!y28)) ?_
   refine q (bool (!y28)) ?_
   refine AOps.resR [(1, (eptr [(int .i64 p1.Stack), (int .i64 p1.Start), (sl z2 f3 e4), (sl z6 f7 e8), (sl z10 f11 e12), (sl z14 f15 e16)] 0)), (3, (int .i64 y18)), (19, (bool b27))] [] ?_ ?_ _ ⟨_, _, rfl⟩
   ·exact ⟨rfl, rfl, congrArg bool (Option.some.inj h), trivial⟩
   exact trivial
 rintro _ ⟨tm, os, rfl⟩
 refine q (bool b27) ?_
 obtain ⟨b33, hb, h⟩ := obind h
 refine AOps.split 6 (fun f' => ∃ tm' os', f' = ⟨updL tm' [(1, (eptr [(int .i64 p1.Stack), (int .i64 p1.Start), (sl z2 f3 e4), (sl z6 f7 e8), (sl z10 f11 e12), (sl z14 f15 e16)] 0)), (3, (int .i64 y18)), (26, (bool b33))], updL os' [], { s with lo := s.n }⟩) ?_ ?_
 ·rcases oite hb with ⟨hc32, hb⟩ | ⟨hc32, hb⟩
  ·refine AOps.know (d := 20) rfl hc32 ?_
   refine sk ?_
   refine sk ?_
   refine sk ?_
   refine sk ?_
   refine sk ?_
   refine q (bool true) ?_
   refine AOps.resR [(1, (eptr [(int .i64 p1.Stack), (int .i64 p1.Start), (sl z2 f3 e4), (sl z6 f7 e8), (sl z10 f11 e12), (sl z14 f15 e16)] 0)), (3, (int .i64 y18)), (26, (bool b33))] [] ?_ ?_ _ ⟨_, _, rfl⟩
   ·exact ⟨rfl, rfl, congrArg bool (Option.some.inj hb), trivial⟩
   exact trivial
  ·have h := hb
   refine AOps.know (d := 20) rfl hc32 ?_
   refine lE (agg [(int .i64 p1.Stack), (int .i64 p1.Start), (sl z2 f3 e4), (sl z6 f7 e8), (sl z10 f11 e12), (sl z14 f15 e16)]) ?_
   refine q (eptr [(int .i64 p1.Stack), (int .i64 p1.Start), (sl z2 f3 e4), (sl z6 f7 e8), (sl z10 f11 e12), (sl z14 f15 e16)] 1) ?_
   refine lE (int .i64 p1.Start) ?_
   obtain ⟨y34, h35, h⟩ := obind h
   refine AOps.callP (g := 81) (args := [(agg [(int .i64 p1.Stack), (int .i64 p1.Start), (sl z2 f3 e4), (sl z6 f7 e8), (sl z10 f11 e12), (sl z14 f15 e16)]), (int .i64 p1.Start)]) (p := (rB) y34) rfl rfl rfl (impl_Checker_isState_ok h5 h9 h13 h17 h35 hWF) ?_
   intro _ o37 h36
   cases h36
   refine q (bool (!y34)) ?_
   refine q (bool (!y34)) ?_
   refine AOps.resR [(1, (eptr [(int .i64 p1.Stack), (int .i64 p1.Start), (sl z2 f3 e4), (sl z6 f7 e8), (sl z10 f11 e12), (sl z14 f15 e16)] 0)), (3, (int .i64 y18)), (26, (bool b33))] [] ?_ ?_ _ ⟨_, _, rfl⟩
   ·exact ⟨rfl, rfl, congrArg bool (Option.some.inj h), trivial⟩
   exact trivial
 rintro _ ⟨tm, os, rfl⟩
 refine q (bool b33) ?_
 obtain ⟨b39, hb, h⟩ := obind h
 refine AOps.split 6 (fun f' => ∃ tm' os', f' = ⟨updL tm' [(1, (eptr [(int .i64 p1.Stack), (int .i64 p1.Start), (sl z2 f3 e4), (sl z6 f7 e8), (sl z10 f11 e12), (sl z14 f15 e16)] 0)), (3, (int .i64 y18)), (33, (bool b39))], updL os' [], { s with lo := s.n }⟩) ?_ ?_
 ·rcases oite hb with ⟨hc38, hb⟩ | ⟨hc38, hb⟩
  ·refine AOps.know (d := 27) rfl hc38 ?_
   refine sk ?_
   refine sk ?_
   refine sk ?_
   refine sk ?_
   refine sk ?_
   refine q (bool true) ?_
   refine AOps.resR [(1, (eptr [(int .i64 p1.Stack), (int .i64 p1.Start), (sl z2 f3 e4), (sl z6 f7 e8), (sl z10 f11 e12), (sl z14 f15 e16)] 0)), (3, (int .i64 y18)), (33, (bool b39))] [] ?_ ?_ _ ⟨_, _, rfl⟩
   ·exact ⟨rfl, rfl, congrArg bool (Option.some.inj hb), trivial⟩
   exact trivial
  ·have h := hb
   refine AOps.know (d := 27) rfl hc38 ?_
   refine q (eptr [(int .i64 p1.Stack), (int .i64 p1.Start), (sl z2 f3 e4), (sl z6 f7 e8), (sl z10 f11 e12), (sl z14 f15 e16)] 3) ?_
   refine lE (sl z6 f7 e8) ?_
   obtain ⟨y40, h41, h⟩ := obind h
   refine AOps.callP (g := 82) (args := [(sl z6 f7 e8)]) (p := (rI .i64) y40) rfl rfl rfl (impl_size_simpl_Push_ok h9 h41 hWF) ?_
   intro _ o43 h42
   cases h42
   refine q (int .i64 y18) ?_
   refine q (bool (y40 != y18)) ?_
   refine q (bool (y40 != y18)) ?_
   refine AOps.resR [(1, (eptr [(int .i64 p1.Stack), (int .i64 p1.Start), (sl z2 f3 e4), (sl z6 f7 e8), (sl z10 f11 e12), (sl z14 f15 e16)] 0)), (3, (int .i64 y18)), (33, (bool b39))] [] ?_ ?_ _ ⟨_, _, rfl⟩
   ·exact ⟨rfl, rfl, congrArg bool (Option.some.inj h), trivial⟩
   exact trivial
 rintro _ ⟨tm, os, rfl⟩
 refine q (bool b39) ?_
 obtain ⟨b45, hb, h⟩ := obind h
 refine AOps.split 6 (fun f' => ∃ tm' os', f' = ⟨updL tm' [(1, (eptr [(int .i64 p1.Stack), (int .i64 p1.Start), (sl z2 f3 e4), (sl z6 f7 e8), (sl z10 f11 e12), (sl z14 f15 e16)] 0)), (3, (int .i64 y18)), (40, (bool b45))], updL os' [], { s with lo := s.n }⟩) ?_ ?_
 ·rcases oite hb with ⟨hc44, hb⟩ | ⟨hc44, hb⟩
  ·refine AOps.know (d := 34) rfl hc44 ?_
   refine sk ?_
   refine sk ?_
   refine sk ?_
   refine sk ?_
   refine sk ?_
   refine q (bool true) ?_
   refine AOps.resR [(1, (eptr [(int .i64 p1.Stack), (int .i64 p1.Start), (sl z2 f3 e4), (sl z6 f7 e8), (sl z10 f11 e12), (sl z14 f15 e16)] 0)), (3, (int .i64 y18)), (40, (bool b45))] [] ?_ ?_ _ ⟨_, _, rfl⟩
   ·exact ⟨rfl, rfl, congrArg bool (Option.some.inj hb), trivial⟩
   exact trivial
  ·have h := hb
   refine AOps.know (d := 34) rfl hc44 ?_
   refine q (eptr [(int .i64 p1.Stack), (int .i64 p1.Start), (sl z2 f3 e4), (sl z6 f7 e8), (sl z10 f11 e12), (sl z14 f15 e16)] 4) ?_
   refine lE (sl z10 f11 e12) ?_
   obtain ⟨y46, h47, h⟩ := obind h
   refine AOps.callP (g := 83) (args := [(sl z10 f11 e12)]) (p := (rI .i64) y46) rfl rfl rfl (impl_size_s_int64_ok h13 h47 hWF) ?_
   intro _ o49 h48
   cases h48
   refine q (int .i64 y18) ?_
   refine q (bool (y46 != y18)) ?_
   refine q (bool (y46 != y18)) ?_
   refine AOps.resR [(1, (eptr [(int .i64 p1.Stack), (int .i64 p1.Start), (sl z2 f3 e4), (sl z6 f7 e8), (sl z10 f11 e12), (sl z14 f15 e16)] 0)), (3, (int .i64 y18)), (40, (bool b45))] [] ?_ ?_ _ ⟨_, _, rfl⟩
   ·exact ⟨rfl, rfl, congrArg bool (Option.some.inj h), trivial⟩
   exact trivial
 rintro _ ⟨tm, os, rfl⟩
 refine q (bool b45) ?_
 obtain ⟨b51, hb, h⟩ := obind h
 refine AOps.split 6 (fun f' => ∃ tm' os', f' = ⟨updL tm' [(1, (eptr [(int .i64 p1.Stack), (int .i64 p1.Start), (sl z2 f3 e4), (sl z6 f7 e8), (sl z10 f11 e12), (sl z14 f15 e16)] 0)), (3, (int .i64 y18)), (47, (bool b51))], updL os' [], { s with lo := s.n }⟩) ?_ ?_
 ·rcases oite hb with ⟨hc50, hb⟩ | ⟨hc50, hb⟩
  ·refine AOps.know (d := 41) rfl hc50 ?_
   refine sk ?_
   refine sk ?_
   refine sk ?_
   refine sk ?_
   refine sk ?_
   refine q (bool true) ?_
   refine AOps.resR [(1, (eptr [(int .i64 p1.Stack), (int .i64 p1.Start), (sl z2 f3 e4), (sl z6 f7 e8), (sl z10 f11 e12), (sl z14 f15 e16)] 0)), (3, (int .i64 y18)), (47, (bool b51))] [] ?_ ?_ _ ⟨_, _, rfl⟩
   ·exact ⟨rfl, rfl, congrArg bool (Option.some.inj hb), trivial⟩
   exact trivial
  ·have h := hb
   refine AOps.know (d := 41) rfl hc50 ?_
   refine q (eptr [(int .i64 p1.Stack), (int .i64 p1.Start), (sl z2 f3 e4), (sl z6 f7 e8), (sl z10 f11 e12), (sl z14 f15 e16)] 5) ?_
   refine lE (sl z14 f15 e16) ?_
   obtain ⟨y52, h53, h⟩ := obind h
   refine AOps.callP (g := 84) (args := [(sl z14 f15 e16)]) (p := (rI .i64) y52) rfl rfl rfl (impl_size_sint64_ok h17 h53 hWF) ?_
   intro _ o55 h54
   cases h54
   refine q (int .i64 y18) ?_
   refine q (bool (y52 != y18)) ?_
   refine q (bool (y52 != y18)) ?_
   refine AOps.resR [(1, (eptr [(int .i64 p1.Stack), (int .i64 p1.Start), (sl z2 f3 e4), (sl z6 f7 e8), (sl z10 f11 e12), (sl z14 f15 e16)] 0)), (3, (int .i64 y18)), (47, (bool b51))] [] ?_ ?_ _ ⟨_, _, rfl⟩
   ·exact ⟨rfl, rfl, congrArg bool (Option.some.inj h), trivial⟩
   exact trivial
 rintro _ ⟨tm, os, rfl⟩
 refine nl ?_
 rcases oite h with ⟨hc56, h⟩ | ⟨hc56, h⟩
 ·refine AW.condT (congrArg bool hc56) ?_
  refine sr ?_
  refine q (bool false) ?_
  refine nl ?_
  cases h
  exact AW.ret ⟨rfl, _, _, rfl, rfl⟩
 refine AW.condF (congrArg bool hc56) ?_
 refine AW.skip ?_
 refine sr ?_
 refine q (AV.fn 85 [(eptr [(int .i64 p1.Stack), (int .i64 p1.Start), (sl z2 f3 e4), (sl z6 f7 e8), (sl z10 f11 e12), (sl z14 f15 e16)] 0)]) ?_
 refine aq (AV.fn 85 [(eptr [(int .i64 p1.Stack), (int .i64 p1.Start), (sl z2 f3 e4), (sl z6 f7 e8), (sl z10 f11 e12), (sl z14 f15 e16)] 0)]) ?_
 refine nl ?_
 refine AW.seq ?_
 refine sr ?_
 refine q (int .i64 y18) ?_
 refine q (int .i64 0) ?_
 refine nl ?_
 refine AW.meet (σ := Unit) (fun _ tm os => ⟨updL tm [], updL os [], { s with lo := s.n }⟩) (fun _ => impl_ValidChecker_J1 = some r) ?_ ?_
 ·rintro _ tm os h
  unfold impl_ValidChecker_J1 at h
  refine sr ?_
  refine q (bool true) ?_
  refine nl ?_
  cases h
  exact AW.ret ⟨rfl, _, _, rfl, rfl⟩
 intro KJ57
 refine AW.block ?_
 refine AW.res [(1, (eptr [(int .i64 p1.Stack), (int .i64 p1.Start), (sl z2 f3 e4), (sl z6 f7 e8), (sl z10 f11 e12), (sl z14 f15 e16)] 0)), (4, (AV.fn 85 [(eptr [(int .i64 p1.Stack), (int .i64 p1.Start), (sl z2 f3 e4), (sl z6 f7 e8), (sl z10 f11 e12), (sl z14 f15 e16)] 0)])), (49, (int .i64 y18)), (50, (int .i64 0))] [] ⟨rfl, rfl, rfl, rfl, trivial⟩ trivial ?_
 refine AW.loopF (σ := Int) (τ := Unit) (fun t58 _ => True) (fun t58 _ tm os => ⟨updL tm [(1, (eptr [(int .i64 p1.Stack), (int .i64 p1.Start), (sl z2 f3 e4), (sl z6 f7 e8), (sl z10 f11 e12), (sl z14 f15 e16)] 0)), (4, (AV.fn 85 [(eptr [(int .i64 p1.Stack), (int .i64 p1.Start), (sl z2 f3 e4), (sl z6 f7 e8), (sl z10 f11 e12), (sl z14 f15 e16)] 0)])), (49, (int .i64 y18)), (50, (int .i64 t58))], updL os [], { s with lo := s.n }⟩) ?_ (x := (0)) (y := ()) h trivial
 clear h
 rintro t58 _ tm os - ee1 h hL1 hR1
 unfold impl_ValidChecker_S1 at h
 refine sr ?_
 refine q (bool (decide ((t58 : Int) < y18))) ?_
 refine nl ?_
 refine AW.seq ?_
 rcases oite h with ⟨hc59, h⟩ | ⟨hc59, h⟩
 ·refine AW.condT (congrArg bool hc59) ?_
  refine AW.skip ?_
  refine AW.seq ?_
  refine AW.block ?_
  refine sr ?_
  refine q (int .i64 t58) ?_
  refine aq (int .i64 t58) ?_
  refine nl ?_
  refine AW.seq ?_
  refine sr ?_
  refine q (eptr [(int .i64 p1.Stack), (int .i64 p1.Start), (sl z2 f3 e4), (sl z6 f7 e8), (sl z10 f11 e12), (sl z14 f15 e16)] 3) ?_
  refine lE (sl z6 f7 e8) ?_
  refine q (int .i64 t58) ?_
  obtain ⟨x60, h61, h⟩ := obind h
  obtain ⟨v64, h62, h63⟩ := idx_sl h9 h61
  obtain ⟨z65, f66, e67, rfl, h68⟩ := h62
  refine AOps.pureR rfl rfl rfl h63 rfl (rfl : _ = (eptr [(sl z65 f66 e67)] 0)) ?_
  refine lE (sl z65 f66 e67) ?_
  refine AOps.p rfl (len_eq h68) ?_
  refine q (bool ((x60.length : Int) != 2)) ?_
  refine q (bool ((x60.length : Int) != 2)) ?_
  obtain ⟨b70, hb, h⟩ := obind h
  refine AOps.split 8 (fun f' => ∃ tm' os', f' = ⟨updL tm' [(1, (eptr [(int .i64 p1.Stack), (int .i64 p1.Start), (sl z2 f3 e4), (sl z6 f7 e8), (sl z10 f11 e12), (sl z14 f15 e16)] 0)), (4, (AV.fn 85 [(eptr [(int .i64 p1.Stack), (int .i64 p1.Start), (sl z2 f3 e4), (sl z6 f7 e8), (sl z10 f11 e12), (sl z14 f15 e16)] 0)])), (5, (int .i64 t58)), (49, (int .i64 y18)), (50, (int .i64 t58)), (68, (bool b70))], updL os' [], { s with lo := s.n }⟩) ?_ ?_
  ·rcases oite hb with ⟨hc69, hb⟩ | ⟨hc69, hb⟩
   ·refine AOps.know (d := 60) rfl hc69 ?_
    refine sk ?_
    refine sk ?_
    refine sk ?_
    refine sk ?_
    refine sk ?_
    refine sk ?_
    refine sk ?_
    refine q (bool true) ?_
    refine AOps.resR [(1, (eptr [(int .i64 p1.Stack), (int .i64 p1.Start), (sl z2 f3 e4), (sl z6 f7 e8), (sl z10 f11 e12), (sl z14 f15 e16)] 0)), (4, (AV.fn 85 [(eptr [(int .i64 p1.Stack), (int .i64 p1.Start), (sl z2 f3 e4), (sl z6 f7 e8), (sl z10 f11 e12), (sl z14 f15 e16)] 0)])), (5, (int .i64 t58)), (49, (int .i64 y18)), (50, (int .i64 t58)), (68, (bool b70))] [] ?_ ?_ _ ⟨_, _, rfl⟩
    ·exact ⟨rfl, rfl, rfl, rfl, rfl, congrArg bool (Option.some.inj hb), trivial⟩
    exact trivial
   ·have h := hb
    refine AOps.know (d := 60) rfl hc69 ?_
    refine q (eptr [(int .i64 p1.Stack), (int .i64 p1.Start), (sl z2 f3 e4), (sl z6 f7 e8), (sl z10 f11 e12), (sl z14 f15 e16)] 4) ?_
    refine lE (sl z10 f11 e12) ?_
    refine q (int .i64 t58) ?_
    obtain ⟨x71, h72, h⟩ := obind h
    obtain ⟨v75, h73, h74⟩ := idx_sl h13 h72
    obtain ⟨z76, f77, e78, rfl, h79⟩ := h73
    refine AOps.pureR rfl rfl rfl h74 rfl (rfl : _ = (eptr [(sl z76 f77 e78)] 0)) ?_
    refine lE (sl z76 f77 e78) ?_
    refine AOps.p rfl (len_eq h79) ?_
    refine q (bool ((x71.length : Int) != 2)) ?_
    refine q (bool ((x71.length : Int) != 2)) ?_
    refine AOps.resR [(1, (eptr [(int .i64 p1.Stack), (int .i64 p1.Start), (sl z2 f3 e4), (sl z6 f7 e8), (sl z10 f11 e12), (sl z14 f15 e16)] 0)), (4, (AV.fn 85 [(eptr [(int .i64 p1.Stack), (int .i64 p1.Start), (sl z2 f3 e4), (sl z6 f7 e8), (sl z10 f11 e12), (sl z14 f15 e16)] 0)])), (5, (int .i64 t58)), (49, (int .i64 y18)), (50, (int .i64 t58)), (68, (bool b70))] [] ?_ ?_ _ ⟨_, _, rfl⟩
    ·exact ⟨rfl, rfl, rfl, rfl, rfl, congrArg bool (Option.some.inj h), trivial⟩
    exact trivial
  rintro _ ⟨tm, os, rfl⟩
  refine q (bool b70) ?_
  obtain ⟨b81, hb, h⟩ := obind h
  refine AOps.split 9 (fun f' => ∃ tm' os', f' = ⟨updL tm' [(1, (eptr [(int .i64 p1.Stack), (int .i64 p1.Start), (sl z2 f3 e4), (sl z6 f7 e8), (sl z10 f11 e12), (sl z14 f15 e16)] 0)), (4, (AV.fn 85 [(eptr [(int .i64 p1.Stack), (int .i64 p1.Start), (sl z2 f3 e4), (sl z6 f7 e8), (sl z10 f11 e12), (sl z14 f15 e16)] 0)])), (5, (int .i64 t58)), (49, (int .i64 y18)), (50, (int .i64 t58)), (78, (bool b81))], updL os' [], { s with lo := s.n }⟩) ?_ ?_
  ·rcases oite hb with ⟨hc80, hb⟩ | ⟨hc80, hb⟩
   ·refine AOps.know (d := 69) rfl hc80 ?_
    refine sk ?_
    refine sk ?_
    refine sk ?_
    refine sk ?_
    refine sk ?_
    refine sk ?_
    refine sk ?_
    refine sk ?_
    refine q (bool true) ?_
    refine AOps.resR [(1, (eptr [(int .i64 p1.Stack), (int .i64 p1.Start), (sl z2 f3 e4), (sl z6 f7 e8), (sl z10 f11 e12), (sl z14 f15 e16)] 0)), (4, (AV.fn 85 [(eptr [(int .i64 p1.Stack), (int .i64 p1.Start), (sl z2 f3 e4), (sl z6 f7 e8), (sl z10 f11 e12), (sl z14 f15 e16)] 0)])), (5, (int .i64 t58)), (49, (int .i64 y18)), (50, (int .i64 t58)), (78, (bool b81))] [] ?_ ?_ _ ⟨_, _, rfl⟩
    ·exact ⟨rfl, rfl, rfl, rfl, rfl, congrArg bool (Option.some.inj hb), trivial⟩
    exact trivial
   ·have h := hb
    refine AOps.know (d := 69) rfl hc80 ?_
    refine q (AV.fn 85 [(eptr [(int .i64 p1.Stack), (int .i64 p1.Start), (sl z2 f3 e4), (sl z6 f7 e8), (sl z10 f11 e12), (sl z14 f15 e16)] 0)]) ?_
    refine q (eptr [(int .i64 p1.Stack), (int .i64 p1.Start), (sl z2 f3 e4), (sl z6 f7 e8), (sl z10 f11 e12), (sl z14 f15 e16)] 5) ?_
    refine lE (sl z14 f15 e16) ?_
    refine q (int .i64 t58) ?_
    obtain ⟨x82, h83, h⟩ := obind h
    obtain ⟨v86, h84, h85⟩ := idx_sl h17 h83
    obtain ⟨z87, f88, e89, rfl, h90⟩ := h84
    refine AOps.pureR rfl rfl rfl h85 rfl (rfl : _ = (eptr [(sl z87 f88 e89)] 0)) ?_
    refine lE (sl z87 f88 e89) ?_
    obtain ⟨y91, h92, h⟩ := obind h
    refine AOps.callP (g := 85) (args := [(sl z87 f88 e89), (int .i64 2), (eptr [(int .i64 p1.Stack), (int .i64 p1.Start), (sl z2 f3 e4), (sl z6 f7 e8), (sl z10 f11 e12), (sl z14 f15 e16)] 0)]) (p := (rB) y91) rfl rfl rfl (impl_ValidChecker_1_ok h90 h5 h9 h13 h17 h92 hWF) ?_
    intro _ o94 h93
    cases h93
    refine q (bool (!y91)) ?_
    refine q (bool (!y91)) ?_
    refine AOps.resR [(1, (eptr [(int .i64 p1.Stack), (int .i64 p1.Start), (sl z2 f3 e4), (sl z6 f7 e8), (sl z10 f11 e12), (sl z14 f15 e16)] 0)), (4, (AV.fn 85 [(eptr [(int .i64 p1.Stack), (int .i64 p1.Start), (sl z2 f3 e4), (sl z6 f7 e8), (sl z10 f11 e12), (sl z14 f15 e16)] 0)])), (5, (int .i64 t58)), (49, (int .i64 y18)), (50, (int .i64 t58)), (78, (bool b81))] [] ?_ ?_ _ ⟨_, _, rfl⟩
    ·exact ⟨rfl, rfl, rfl, rfl, rfl, congrArg bool (Option.some.inj h), trivial⟩
    exact trivial
  rintro _ ⟨tm, os, rfl⟩
  refine nl ?_
  rcases oite h with ⟨hc95, h⟩ | ⟨hc95, h⟩
  ·refine AW.condT (congrArg bool hc95) ?_
   refine sr ?_
   refine q (bool false) ?_
   refine nl ?_
   cases h
   have hr := hR1 _ rfl
   subst hr
   exact AW.ret ⟨rfl, _, _, rfl, rfl⟩
  refine AW.condF (congrArg bool hc95) ?_
  refine AW.skip ?_
  refine sr ?_
  refine q (int .i64 0) ?_
  refine nl ?_
  refine AW.meet (σ := Unit) (fun _ tm os => ⟨updL tm [(1, (eptr [(int .i64 p1.Stack), (int .i64 p1.Start), (sl z2 f3 e4), (sl z6 f7 e8), (sl z10 f11 e12), (sl z14 f15 e16)] 0)), (4, (AV.fn 85 [(eptr [(int .i64 p1.Stack), (int .i64 p1.Start), (sl z2 f3 e4), (sl z6 f7 e8), (sl z10 f11 e12), (sl z14 f15 e16)] 0)])), (49, (int .i64 y18)), (50, (int .i64 t58))], updL os [], { s with lo := s.n }⟩) (fun _ => impl_ValidChecker_J2 t58 = some ee1) ?_ ?_
  ·rintro _ tm os h
   unfold impl_ValidChecker_J2 at h
   refine AW.inBlock ?_
   refine AW.region ?_
   refine q (int .i64 (IntKind.wrap .i64 (t58 + 1))) ?_
   refine q (int .i64 (IntKind.wrap .i64 (t58 + 1))) ?_
   refine nl ?_
   cases h
   exact AW.res [(1, (eptr [(int .i64 p1.Stack), (int .i64 p1.Start), (sl z2 f3 e4), (sl z6 f7 e8), (sl z10 f11 e12), (sl z14 f15 e16)] 0)), (4, (AV.fn 85 [(eptr [(int .i64 p1.Stack), (int .i64 p1.Start), (sl z2 f3 e4), (sl z6 f7 e8), (sl z10 f11 e12), (sl z14 f15 e16)] 0)])), (49, (int .i64 y18)), (50, (int .i64 (IntKind.wrap .i64 (t58 + 1))))] [] ⟨rfl, rfl, rfl, rfl, trivial⟩ trivial (hL1 _ rfl () _ _ trivial)
  intro KJ96
  refine AW.block ?_
  refine AW.res [(1, (eptr [(int .i64 p1.Stack), (int .i64 p1.Start), (sl z2 f3 e4), (sl z6 f7 e8), (sl z10 f11 e12), (sl z14 f15 e16)] 0)), (4, (AV.fn 85 [(eptr [(int .i64 p1.Stack), (int .i64 p1.Start), (sl z2 f3 e4), (sl z6 f7 e8), (sl z10 f11 e12), (sl z14 f15 e16)] 0)])), (5, (int .i64 t58)), (49, (int .i64 y18)), (50, (int .i64 t58)), (79, (int .i64 0))] [] ⟨rfl, rfl, rfl, rfl, rfl, rfl, trivial⟩ trivial ?_
  refine AW.loopF (σ := Int) (τ := Unit) (fun t97 _ => True) (fun t97 _ tm os => ⟨updL tm [(1, (eptr [(int .i64 p1.Stack), (int .i64 p1.Start), (sl z2 f3 e4), (sl z6 f7 e8), (sl z10 f11 e12), (sl z14 f15 e16)] 0)), (4, (AV.fn 85 [(eptr [(int .i64 p1.Stack), (int .i64 p1.Start), (sl z2 f3 e4), (sl z6 f7 e8), (sl z10 f11 e12), (sl z14 f15 e16)] 0)])), (5, (int .i64 t58)), (49, (int .i64 y18)), (50, (int .i64 t58)), (79, (int .i64 t97))], updL os [], { s with lo := s.n }⟩) ?_ (x := (0)) (y := ()) h trivial
  clear h
  rintro t97 _ tm os - ee2 h hL2 hR2
  unfold impl_ValidChecker_S2 at h
  refine sr ?_
  refine q (bool (decide ((t97 : Int) < 2))) ?_
  refine nl ?_
  refine AW.seq ?_
  rcases oite h with ⟨hc98, h⟩ | ⟨hc98, h⟩
  ·refine AW.condT (congrArg bool hc98) ?_
   refine AW.skip ?_
   refine AW.seq ?_
   refine AW.block ?_
   refine sr ?_
   refine q (int .i64 t97) ?_
   refine aq (int .i64 t97) ?_
   refine ns ?_
   refine q (eptr [(int .i64 p1.Stack), (int .i64 p1.Start), (sl z2 f3 e4), (sl z6 f7 e8), (sl z10 f11 e12), (sl z14 f15 e16)] 3) ?_
   refine lE (sl z6 f7 e8) ?_
   refine q (int .i64 t58) ?_
   obtain ⟨x99, h100, h⟩ := obind h
   obtain ⟨v103, h101, h102⟩ := idx_sl h9 h100
   obtain ⟨z104, f105, e106, rfl, h107⟩ := h101
   refine AOps.pureR rfl rfl rfl h102 rfl (rfl : _ = (eptr [(sl z104 f105 e106)] 0)) ?_
   refine lE (sl z104 f105 e106) ?_
   refine q (int .i64 t97) ?_
   obtain ⟨x108, h109, h⟩ := obind h
   obtain ⟨v112, h110, h111⟩ := idx_sl h107 h109
   obtain ⟨_, rfl, h113⟩ := h110
   obtain ⟨_, _, rfl, h114, h115⟩ := Cs_cons h113
   cases h114
   obtain ⟨_, _, rfl, h116, h117⟩ := Cs_cons h115
   cases h116
   cases Cs_nil h117
   refine AOps.pureR rfl rfl rfl h111 rfl (rfl : _ = (eptr [(int .i64 x108.To), (int .i64 x108.Put)] 0)) ?_
   refine lE (agg [(int .i64 x108.To), (int .i64 x108.Put)]) ?_
   refine AOps.allocP rfl rfl rfl rfl ⟨rfl, rfl⟩ rfl ?_
   refine AOps.stP (v := (agg [(int .i64 x108.To), (int .i64 x108.Put)])) rfl rfl rfl rfl rfl rfl rfl rfl rfl (lt_b rfl) rfl ?_
   refine ns ?_
   refine lE (agg [(int .i64 p1.Stack), (int .i64 p1.Start), (sl z2 f3 e4), (sl z6 f7 e8), (sl z10 f11 e12), (sl z14 f15 e16)]) ?_
   refine q (eptr [(int .i64 x108.To), (int .i64 x108.Put)] 0) ?_
   refine lE (int .i64 x108.To) ?_
   obtain ⟨y118, h119, h⟩ := obind h
   refine AOps.callDP (g := 81) (args := [(agg [(int .i64 p1.Stack), (int .i64 p1.Start), (sl z2 f3 e4), (sl z6 f7 e8), (sl z10 f11 e12), (sl z14 f15 e16)]), (int .i64 x108.To)]) (p := (rB) y118) rfl rfl rfl (impl_Checker_isState_ok h5 h9 h13 h17 h119 hWF.still) (fun v hv => Nice.pure (k := FINK) (p := (rB) y118) .B _ v hv) ?_
   intro _ o121 h120
   cases h120
   refine q (bool (!y118)) ?_
   refine q (bool (!y118)) ?_
   obtain ⟨b123, hb, h⟩ := obind h
   refine AOps.split 6 (fun f' => ∃ tm' os', f' = ⟨updL tm' [(1, (eptr [(int .i64 p1.Stack), (int .i64 p1.Start), (sl z2 f3 e4), (sl z6 f7 e8), (sl z10 f11 e12), (sl z14 f15 e16)] 0)), (4, (AV.fn 85 [(eptr [(int .i64 p1.Stack), (int .i64 p1.Start), (sl z2 f3 e4), (sl z6 f7 e8), (sl z10 f11 e12), (sl z14 f15 e16)] 0)])), (5, (int .i64 t58)), (6, (int .i64 t97)), (49, (int .i64 y18)), (50, (int .i64 t58)), (79, (int .i64 t97)), (101, (bool b123))], updL os' [], { s with lo := s.n }⟩) ?_ ?_
   ·rcases oite hb with ⟨hc122, hb⟩ | ⟨hc122, hb⟩
    ·refine AOps.know (d := 95) rfl hc122 ?_
     refine sk ?_
     refine sk ?_
     refine sk ?_
     refine sk ?_
     refine sk ?_
     refine q (bool true) ?_
     refine AOps.resR [(1, (eptr [(int .i64 p1.Stack), (int .i64 p1.Start), (sl z2 f3 e4), (sl z6 f7 e8), (sl z10 f11 e12), (sl z14 f15 e16)] 0)), (4, (AV.fn 85 [(eptr [(int .i64 p1.Stack), (int .i64 p1.Start), (sl z2 f3 e4), (sl z6 f7 e8), (sl z10 f11 e12), (sl z14 f15 e16)] 0)])), (5, (int .i64 t58)), (6, (int .i64 t97)), (49, (int .i64 y18)), (50, (int .i64 t58)), (79, (int .i64 t97)), (101, (bool b123))] [] ?_ ?_ _ ⟨_, _, rfl⟩
     ·exact ⟨rfl, rfl, rfl, rfl, rfl, rfl, rfl, congrArg bool (Option.some.inj hb), trivial⟩
     exact trivial
    ·have h := hb
     refine AOps.know (d := 95) rfl hc122 ?_
     refine lE (agg [(int .i64 p1.Stack), (int .i64 p1.Start), (sl z2 f3 e4), (sl z6 f7 e8), (sl z10 f11 e12), (sl z14 f15 e16)]) ?_
     refine q (eptr [(int .i64 x108.To), (int .i64 x108.Put)] 1) ?_
     refine lE (int .i64 x108.Put) ?_
     obtain ⟨y124, h125, h⟩ := obind h
     refine AOps.callDP (g := 89) (args := [(agg [(int .i64 p1.Stack), (int .i64 p1.Start), (sl z2 f3 e4), (sl z6 f7 e8), (sl z10 f11 e12), (sl z14 f15 e16)]), (int .i64 x108.Put)]) (p := (rB) y124) rfl rfl rfl (impl_Checker_isMark_ok h5 h9 h13 h17 h125 hWF.still) (fun v hv => Nice.pure (k := FINK) (p := (rB) y124) .B _ v hv) ?_
     intro _ o127 h126
     cases h126
     refine q (bool (!y124)) ?_
     refine q (bool (!y124)) ?_
     refine AOps.resR [(1, (eptr [(int .i64 p1.Stack), (int .i64 p1.Start), (sl z2 f3 e4), (sl z6 f7 e8), (sl z10 f11 e12), (sl z14 f15 e16)] 0)), (4, (AV.fn 85 [(eptr [(int .i64 p1.Stack), (int .i64 p1.Start), (sl z2 f3 e4), (sl z6 f7 e8), (sl z10 f11 e12), (sl z14 f15 e16)] 0)])), (5, (int .i64 t58)), (6, (int .i64 t97)), (49, (int .i64 y18)), (50, (int .i64 t58)), (79, (int .i64 t97)), (101, (bool b123))] [] ?_ ?_ _ ⟨_, _, rfl⟩
     ·exact ⟨rfl, rfl, rfl, rfl, rfl, rfl, rfl, congrArg bool (Option.some.inj h), trivial⟩
     exact trivial
   rintro _ ⟨tm, os, rfl⟩
   refine q (bool b123) ?_
   obtain ⟨b129, hb, h⟩ := obind h
   refine AOps.split 15 (fun f' => ∃ tm' os', f' = ⟨updL tm' [(1, (eptr [(int .i64 p1.Stack), (int .i64 p1.Start), (sl z2 f3 e4), (sl z6 f7 e8), (sl z10 f11 e12), (sl z14 f15 e16)] 0)), (4, (AV.fn 85 [(eptr [(int .i64 p1.Stack), (int .i64 p1.Start), (sl z2 f3 e4), (sl z6 f7 e8), (sl z10 f11 e12), (sl z14 f15 e16)] 0)])), (5, (int .i64 t58)), (49, (int .i64 y18)), (50, (int .i64 t58)), (79, (int .i64 t97)), (117, (bool b129))], updL os' [], { s with lo := s.n }⟩) ?_ ?_
   ·rcases oite hb with ⟨hc128, hb⟩ | ⟨hc128, hb⟩
    ·refine AOps.know (d := 102) rfl hc128 ?_
     refine sk ?_
     refine sk ?_
     refine sk ?_
     refine sk ?_
     refine sk ?_
     refine sk ?_
     refine sk ?_
     refine sk ?_
     refine sk ?_
     refine sk ?_
     refine sk ?_
     refine sk ?_
     refine sk ?_
     refine sk ?_
     refine q (bool true) ?_
     refine AOps.resR [(1, (eptr [(int .i64 p1.Stack), (int .i64 p1.Start), (sl z2 f3 e4), (sl z6 f7 e8), (sl z10 f11 e12), (sl z14 f15 e16)] 0)), (4, (AV.fn 85 [(eptr [(int .i64 p1.Stack), (int .i64 p1.Start), (sl z2 f3 e4), (sl z6 f7 e8), (sl z10 f11 e12), (sl z14 f15 e16)] 0)])), (5, (int .i64 t58)), (49, (int .i64 y18)), (50, (int .i64 t58)), (79, (int .i64 t97)), (117, (bool b129))] [] ?_ ?_ _ ⟨_, _, rfl⟩
     ·exact ⟨rfl, rfl, rfl, rfl, rfl, rfl, congrArg bool (Option.some.inj hb), trivial⟩
     exact trivial
    ·have h := hb
     refine AOps.know (d := 102) rfl hc128 ?_
     refine q (AV.fn 85 [(eptr [(int .i64 p1.Stack), (int .i64 p1.Start), (sl z2 f3 e4), (sl z6 f7 e8), (sl z10 f11 e12), (sl z14 f15 e16)] 0)]) ?_
     refine q (eptr [(int .i64 p1.Stack), (int .i64 p1.Start), (sl z2 f3 e4), (sl z6 f7 e8), (sl z10 f11 e12), (sl z14 f15 e16)] 4) ?_
     refine lE (sl z10 f11 e12) ?_
     refine q (int .i64 t58) ?_
     obtain ⟨x130, h131, h⟩ := obind h
     obtain ⟨v134, h132, h133⟩ := idx_sl h13 h131
     obtain ⟨z135, f136, e137, rfl, h138⟩ := h132
     refine AOps.pureR rfl rfl rfl h133 rfl (rfl : _ = (eptr [(sl z135 f136 e137)] 0)) ?_
     refine lE (sl z135 f136 e137) ?_
     refine q (int .i64 t97) ?_
     obtain ⟨x139, h140, h⟩ := obind h
     obtain ⟨v143, h141, h142⟩ := idx_sl h138 h140
     obtain ⟨z144, f145, e146, rfl, h147⟩ := h141
     refine AOps.pureR rfl rfl rfl h142 rfl (rfl : _ = (eptr [(sl z144 f145 e146)] 0)) ?_
     refine lE (sl z144 f145 e146) ?_
     refine q (eptr [(int .i64 p1.Stack), (int .i64 p1.Start), (sl z2 f3 e4), (sl z6 f7 e8), (sl z10 f11 e12), (sl z14 f15 e16)] 0) ?_
     refine lE (int .i64 p1.Stack) ?_
     refine q (int .i64 (IntKind.wrap .i64 (p1.Stack + 1))) ?_
     obtain ⟨y148, h149, h⟩ := obind h
     refine AOps.callDP (g := 85) (args := [(sl z144 f145 e146), (int .i64 (IntKind.wrap .i64 (p1.Stack + 1))), (eptr [(int .i64 p1.Stack), (int .i64 p1.Start), (sl z2 f3 e4), (sl z6 f7 e8), (sl z10 f11 e12), (sl z14 f15 e16)] 0)]) (p := (rB) y148) rfl rfl rfl (impl_ValidChecker_1_ok h147 h5 h9 h13 h17 h149 hWF.still) (fun v hv => Nice.pure (k := FINK) (p := (rB) y148) .B _ v hv) ?_
     intro _ o151 h150
     cases h150
     refine q (bool (!y148)) ?_
     refine q (bool (!y148)) ?_
     refine AOps.resR [(1, (eptr [(int .i64 p1.Stack), (int .i64 p1.Start), (sl z2 f3 e4), (sl z6 f7 e8), (sl z10 f11 e12), (sl z14 f15 e16)] 0)), (4, (AV.fn 85 [(eptr [(int .i64 p1.Stack), (int .i64 p1.Start), (sl z2 f3 e4), (sl z6 f7 e8), (sl z10 f11 e12), (sl z14 f15 e16)] 0)])), (5, (int .i64 t58)), (49, (int .i64 y18)), (50, (int .i64 t58)), (79, (int .i64 t97)), (117, (bool b129))] [] ?_ ?_ _ ⟨_, _, rfl⟩
     ·exact ⟨rfl, rfl, rfl, rfl, rfl, rfl, congrArg bool (Option.some.inj h), trivial⟩
     exact trivial
   rintro _ ⟨tm, os, rfl⟩
   refine nl ?_
   rcases oite h with ⟨hc152, h⟩ | ⟨hc152, h⟩
   ·refine AW.condT (congrArg bool hc152) ?_
    refine sr ?_
    refine q (bool false) ?_
    refine nl ?_
    cases h
    have hr := hR2 _ rfl
    cases hr
    have hr := hR1 _ rfl
    subst hr
    exact AW.ret ⟨rfl, _, _, rfl, rfl⟩
   refine AW.condF (congrArg bool hc152) ?_
   refine AW.skip ?_
   refine AW.inBlock ?_
   refine AW.region ?_
   refine q (int .i64 (IntKind.wrap .i64 (t97 + 1))) ?_
   refine q (int .i64 (IntKind.wrap .i64 (t97 + 1))) ?_
   refine nl ?_
   cases h
   exact AW.res [(1, (eptr [(int .i64 p1.Stack), (int .i64 p1.Start), (sl z2 f3 e4), (sl z6 f7 e8), (sl z10 f11 e12), (sl z14 f15 e16)] 0)), (4, (AV.fn 85 [(eptr [(int .i64 p1.Stack), (int .i64 p1.Start), (sl z2 f3 e4), (sl z6 f7 e8), (sl z10 f11 e12), (sl z14 f15 e16)] 0)])), (5, (int .i64 t58)), (49, (int .i64 y18)), (50, (int .i64 t58)), (79, (int .i64 (IntKind.wrap .i64 (t97 + 1))))] [] ⟨rfl, rfl, rfl, rfl, rfl, rfl, trivial⟩ trivial (hL2 _ rfl () _ _ trivial)
  refine AW.condF (congrArg bool hc98) ?_
  refine AW.exit rfl ?_
  obtain ⟨r153, hm, hx⟩ := omap h
  clear h
  subst hx
  have hx := hR2 _ rfl
  rw [hx] at hm
  have h := hm
  exact AW.res [(1, (eptr [(int .i64 p1.Stack), (int .i64 p1.Start), (sl z2 f3 e4), (sl z6 f7 e8), (sl z10 f11 e12), (sl z14 f15 e16)] 0)), (4, (AV.fn 85 [(eptr [(int .i64 p1.Stack), (int .i64 p1.Start), (sl z2 f3 e4), (sl z6 f7 e8), (sl z10 f11 e12), (sl z14 f15 e16)] 0)])), (49, (int .i64 y18)), (50, (int .i64 t58))] [] ⟨rfl, rfl, rfl, rfl, trivial⟩ trivial (KJ96 () _ _ h)
 refine AW.condF (congrArg bool hc59) ?_
 refine AW.exit rfl ?_
 obtain ⟨r154, hm, hx⟩ := omap h
 clear h
 subst hx
 have hx := hR1 _ rfl
 rw [hx] at hm
 have h := hm
 exact AW.res [] [] trivial trivial (KJ57 () _ _ h)
theorem impl_size_string_ok {list1 : List (List UInt8)} {z2 : Nat} {f3 : Bool} {e4 : List AV} {s : St} (h5 : LR rS 1 list1 z2 e4) {r : Int} (h : impl_size_string list1 = some r) (hs : WF s) : ACall Cf 41 [(sl z2 f3 e4)] s fun v _ s' => (rI .i64) r v ∧ s' = s := by
 refine ACall.pure rfl rfl rfl .I ?_
 have hWF := hs.lo'
 unfold impl_size_string at h
 refine sr ?_
 refine q (int .i64 0) ?_
 refine ns ?_
 refine q (sl z2 f3 e4) ?_
 refine AOps.p rfl (len_eq h5) ?_
 refine aq (int .i64 (list1.length : Int)) ?_
 refine nl ?_
 cases h
 exact AW.ret ⟨rfl, _, _, rfl, rfl⟩
theorem slices_IndexFunc_sstring_string_ok {s1 : List (List UInt8)} {f6 : (List UInt8) → Option Bool} {z2 g7 : Nat} {f3 : Bool} {e4 cap8 : List AV} {s : St} (h5 : LR rS 1 s1 z2 e4) (h9 : ∀ x vs y, Cs [rS x] vs → f6 x = some y → ∀ s, WF s → ACall Cf g7 (vs ++ cap8) s fun v _ s' => (rB) y v ∧ s' = s) {r : Int} (h : slices_IndexFunc_sstring_string s1 f6 = some r) (hs : WF s) : ACall Cf 90 [(sl z2 f3 e4), (AV.fn g7 cap8)] s fun v _ s' => (rI .i64) r v ∧ s' = s := by
 refine ACall.pure rfl rfl rfl .I ?_
 have hWF := hs.lo'
 unfold slices_IndexFunc_sstring_string at h
 refine sr ?_
 refine q (int .i64 0) ?_
 refine nl ?_
 refine AW.seq ?_
 refine sr ?_
 refine q (sl z2 f3 e4) ?_
 refine AOps.p rfl (len_eq h5) ?_
 refine q (int .i64 0) ?_
 refine nl ?_
 refine AW.meet (σ := Unit) (fun _ tm os => ⟨updL tm [], updL os [], { s with lo := s.n }⟩) (fun _ => slices_IndexFunc_sstring_string_J1 = some r) ?_ ?_
 ·rintro _ tm os h
  unfold slices_IndexFunc_sstring_string_J1 at h
  refine sr ?_
  refine q (int .i64 (-1)) ?_
  refine nl ?_
  cases h
  exact AW.ret ⟨rfl, _, _, rfl, rfl⟩
 intro KJ10
 refine AW.block ?_
 refine AW.res [(0, (sl z2 f3 e4)), (1, (AV.fn g7 cap8)), (7, (int .i64 (s1.length : Int))), (8, (int .i64 0))] [] ⟨rfl, rfl, rfl, rfl, trivial⟩ trivial ?_
 refine AW.loopF (σ := Int) (τ := Unit) (fun t11 _ => True) (fun t11 _ tm os => ⟨updL tm [(0, (sl z2 f3 e4)), (1, (AV.fn g7 cap8)), (7, (int .i64 (s1.length : Int))), (8, (int .i64 t11))], updL os [], { s with lo := s.n }⟩) ?_ (x := (0)) (y := ()) h trivial
 clear h
 rintro t11 _ tm os - ee1 h hL1 hR1
 unfold slices_IndexFunc_sstring_string_S1 at h
 refine sr ?_
 refine q (bool (decide ((t11 : Int) < (s1.length : Int)))) ?_
 refine nl ?_
 refine AW.seq ?_
 rcases oite h with ⟨hc12, h⟩ | ⟨hc12, h⟩
 ·refine AW.condT (congrArg bool hc12) ?_
  refine AW.skip ?_
  refine AW.seq ?_
  refine AW.block ?_
  refine sr ?_
  refine q (int .i64 t11) ?_
  refine aq (int .i64 t11) ?_
  refine ns ?_
  refine q (AV.fn g7 cap8) ?_
  refine q (sl z2 f3 e4) ?_
  refine q (int .i64 t11) ?_
  obtain ⟨x13, h14, h⟩ := obind h
  obtain ⟨v17, h15, h16⟩ := idx_sl h5 h14
  cases h15
  refine AOps.pureR rfl rfl rfl h16 rfl (rfl : _ = (eptr [(str x13)] 0)) ?_
  refine lE (str x13) ?_
  obtain ⟨y18, h19, h⟩ := obind h
  refine AOps.callP (g := g7) (args := ([(str x13)] ++ cap8)) (p := (rB) y18) rfl rfl rfl (h9 x13 _ _ (.cons rfl .nil) h19 _ hWF) ?_
  intro _ o21 h20
  cases h20
  refine nl ?_
  rcases oite h with ⟨hc22, h⟩ | ⟨hc22, h⟩
  ·refine AW.condT (congrArg bool hc22) ?_
   refine sr ?_
   refine q (int .i64 t11) ?_
   refine aq (int .i64 t11) ?_
   refine nl ?_
   cases h
   have hr := hR1 _ rfl
   subst hr
   exact AW.ret ⟨rfl, _, _, rfl, rfl⟩
  refine AW.condF (congrArg bool hc22) ?_
  refine AW.skip ?_
  refine AW.inBlock ?_
  refine AW.region ?_
  refine q (int .i64 (IntKind.wrap .i64 (t11 + 1))) ?_
  refine q (int .i64 (IntKind.wrap .i64 (t11 + 1))) ?_
  refine nl ?_
  cases h
  exact AW.res [(0, (sl z2 f3 e4)), (1, (AV.fn g7 cap8)), (7, (int .i64 (s1.length : Int))), (8, (int .i64 (IntKind.wrap .i64 (t11 + 1))))] [] ⟨rfl, rfl, rfl, rfl, trivial⟩ trivial (hL1 _ rfl () _ _ trivial)
 refine AW.condF (congrArg bool hc12) ?_
 refine AW.exit rfl ?_
 obtain ⟨r23, hm, hx⟩ := omap h
 clear h
 subst hx
 have hx := hR1 _ rfl
 rw [hx] at hm
 have h := hm
 exact AW.res [] [] trivial trivial (KJ10 () _ _ h)
theorem slices_ContainsFunc_sstring_string_ok {s1 : List (List UInt8)} {f6 : (List UInt8) → Option Bool} {z2 g7 : Nat} {f3 : Bool} {e4 cap8 : List AV} {s : St} (h5 : LR rS 1 s1 z2 e4) (h9 : ∀ x vs y, Cs [rS x] vs → f6 x = some y → ∀ s, WF s → ACall Cf g7 (vs ++ cap8) s fun v _ s' => (rB) y v ∧ s' = s) {r : Bool} (h : slices_ContainsFunc_sstring_string s1 f6 = some r) (hs : WF s) : ACall Cf 63 [(sl z2 f3 e4), (AV.fn g7 cap8)] s fun v _ s' => (rB) r v ∧ s' = s := by
 refine ACall.pure rfl rfl rfl .B ?_
 have hWF := hs.lo'
 unfold slices_ContainsFunc_sstring_string at h
 refine sr ?_
 refine q (bool false) ?_
 refine ns ?_
 refine q (sl z2 f3 e4) ?_
 refine q (AV.fn g7 cap8) ?_
 obtain ⟨y10, h11, h⟩ := obind h
 refine AOps.callP (g := 90) (args := [(sl z2 f3 e4), (AV.fn g7 cap8)]) (p := (rI .i64) y10) rfl rfl rfl (slices_IndexFunc_sstring_string_ok h5 h9 h11 hWF) ?_
 intro _ o13 h12
 cases h12
 refine q (bool (decide ((y10 : Int) ≥ 0))) ?_
 refine aq (bool (decide ((y10 : Int) ≥ 0))) ?_
 refine nl ?_
 cases h
 exact AW.ret ⟨rfl, _, _, rfl, rfl⟩
theorem internal_stringslite_IndexByte_ok {s1 : List UInt8} {c2 r : Int} {s : St} (h : internal_stringslite_IndexByte s1 c2 = some r) (hs : WF s) : ACall Cf 105 [(str s1), (int .u8 c2)] s fun v _ s' => (rI .i64) r v ∧ s' = s := by
 refine ACall.pure rfl rfl rfl .I ?_
 have hWF := hs.lo'
 unfold internal_stringslite_IndexByte at h
 refine sr ?_
 refine q (int .i64 0) ?_
 refine ns ?_
 refine q (str s1) ?_
 refine q (int .u8 c2) ?_
 obtain ⟨y3, h4, h⟩ := obind h
 refine AOps.callP (g := 121) (args := [(str s1), (int .u8 c2)]) (p := (rI .i64) y3) rfl rfl rfl (ext_byte_ok h4 hWF) ?_
 intro _ o6 h5
 cases h5
 refine aq (int .i64 y3) ?_
 refine nl ?_
 cases h
 exact AW.ret ⟨rfl, _, _, rfl, rfl⟩
theorem strings_IndexByte_ok {s1 : List UInt8} {c2 r : Int} {s : St} (h : strings_IndexByte s1 c2 = some r) (hs : WF s) : ACall Cf 91 [(str s1), (int .u8 c2)] s fun v _ s' => (rI .i64) r v ∧ s' = s := by
 refine ACall.pure rfl rfl rfl .I ?_
 have hWF := hs.lo'
 unfold strings_IndexByte at h
 refine sr ?_
 refine q (int .i64 0) ?_
 refine ns ?_
 refine q (str s1) ?_
 refine q (int .u8 c2) ?_
 obtain ⟨y3, h4, h⟩ := obind h
 refine AOps.callP (g := 105) (args := [(str s1), (int .u8 c2)]) (p := (rI .i64) y3) rfl rfl rfl (internal_stringslite_IndexByte_ok  h4 hWF) ?_
 intro _ o6 h5
 cases h5
 refine aq (int .i64 y3) ?_
 refine nl ?_
 cases h
 exact AW.ret ⟨rfl, _, _, rfl, rfl⟩
theorem impl_ValidWord_ok {w1 : List UInt8} {s : St} {r : Bool} (h : impl_ValidWord w1 = some r) (hs : WF s) : ACall Cf 65 [(str w1)] s fun v _ s' => (rB) r v ∧ s' = s := by
 refine ACall.pure rfl rfl rfl .B ?_
 have hWF := hs.lo'
 unfold impl_ValidWord at h
 refine sr ?_
 refine q (bool false) ?_
 refine nl ?_
 refine AW.seq ?_
 refine sr ?_
 refine q (str w1) ?_
 refine q (int .i64 (w1.length : Int)) ?_
 refine q (int .i64 0) ?_
 refine nl ?_
 refine AW.meet (σ := Unit) (fun _ tm os => ⟨updL tm [(0, (str w1))], updL os [], { s with lo := s.n }⟩) (fun _ => impl_ValidWord_J1 w1 = some r) ?_ ?_
 ·rintro _ tm os h
  unfold impl_ValidWord_J1 at h
  refine sr ?_
  refine q (str w1) ?_
  refine q (int .i64 (w1.length : Int)) ?_
  refine q (bool (decide (((w1.length : Int) : Int) ≤ 60))) ?_
  refine aq (bool (decide (((w1.length : Int) : Int) ≤ 60))) ?_
  refine nl ?_
  cases h
  exact AW.ret ⟨rfl, _, _, rfl, rfl⟩
 intro KJ2
 refine AW.block ?_
 refine AW.res [(0, (str w1)), (5, (int .i64 (w1.length : Int))), (6, (int .i64 0))] [] ⟨rfl, rfl, rfl, trivial⟩ trivial ?_
 refine AW.loopF (σ := Int) (τ := Unit) (fun t3 _ => True) (fun t3 _ tm os => ⟨updL tm [(0, (str w1)), (5, (int .i64 (w1.length : Int))), (6, (int .i64 t3))], updL os [], { s with lo := s.n }⟩) ?_ (x := (0)) (y := ()) h trivial
 clear h
 rintro t3 _ tm os - ee1 h hL1 hR1
 unfold impl_ValidWord_S1 at h
 refine sr ?_
 refine q (bool (decide ((t3 : Int) < (w1.length : Int)))) ?_
 refine nl ?_
 refine AW.seq ?_
 rcases oite h with ⟨hc4, h⟩ | ⟨hc4, h⟩
 ·refine AW.condT (congrArg bool hc4) ?_
  refine AW.skip ?_
  refine AW.seq ?_
  refine AW.block ?_
  refine sr ?_
  refine q (int .i64 t3) ?_
  refine aq (int .i64 t3) ?_
  refine ns ?_
  refine q (str w1) ?_
  refine q (int .i64 t3) ?_
  obtain ⟨c5, h6, h⟩ := obind h
  refine AOps.pureR rfl rfl rfl (chr_str h6) rfl (rfl : _ = (int .u8 c5)) ?_
  obtain ⟨y7, h8, h⟩ := obind h
  refine AOps.callP (g := 91) (args := [(str ([40, 91, 41, 93, 97, 98] : List UInt8)), (int .u8 c5)]) (p := (rI .i64) y7) rfl rfl rfl (strings_IndexByte_ok  h8 hWF) ?_
  intro _ o10 h9
  cases h9
  refine q (bool (decide ((y7 : Int) < 0))) ?_
  refine nl ?_
  rcases oite h with ⟨hc11, h⟩ | ⟨hc11, h⟩
  ·refine AW.condT (congrArg bool hc11) ?_
   refine sr ?_
   refine q (bool false) ?_
   refine nl ?_
   cases h
   have hr := hR1 _ rfl
   subst hr
   exact AW.ret ⟨rfl, _, _, rfl, rfl⟩
  refine AW.condF (congrArg bool hc11) ?_
  refine AW.skip ?_
  refine AW.inBlock ?_
  refine AW.region ?_
  refine q (int .i64 (IntKind.wrap .i64 (t3 + 1))) ?_
  refine q (int .i64 (IntKind.wrap .i64 (t3 + 1))) ?_
  refine nl ?_
  cases h
  exact AW.res [(0, (str w1)), (5, (int .i64 (w1.length : Int))), (6, (int .i64 (IntKind.wrap .i64 (t3 + 1))))] [] ⟨rfl, rfl, rfl, trivial⟩ trivial (hL1 _ rfl () _ _ trivial)
 refine AW.condF (congrArg bool hc4) ?_
 refine AW.exit rfl ?_
 obtain ⟨r12, hm, hx⟩ := omap h
 clear h
 subst hx
 have hx := hR1 _ rfl
 rw [hx] at hm
 have h := hm
 exact AW.res [(0, (str w1))] [] ⟨rfl, trivial⟩ trivial (KJ2 () _ _ h)
theorem impl_ValidStream_1_ok {w1 : List UInt8} {s : St} {r : Bool} (h : impl_ValidStream_1 w1 = some r) (hs : WF s) : ACall Cf 64 [(str w1)] s fun v _ s' => (rB) r v ∧ s' = s := by
 refine ACall.pure rfl rfl rfl .B ?_
 have hWF := hs.lo'
 unfold impl_ValidStream_1 at h
 refine sr ?_
 refine q (bool false) ?_
 refine ns ?_
 refine q (str w1) ?_
 obtain ⟨y2, h3, h⟩ := obind h
 refine AOps.callP (g := 65) (args := [(str w1)]) (p := (rB) y2) rfl rfl rfl (impl_ValidWord_ok  h3 hWF) ?_
 intro _ o5 h4
 cases h4
 refine q (bool (!y2)) ?_
 refine aq (bool (!y2)) ?_
 refine nl ?_
 cases h
 exact AW.ret ⟨rfl, _, _, rfl, rfl⟩
theorem impl_ValidStream_ok {v1 : Stream} {z2 z6 z10 z14 z18 : Nat} {f3 f7 f11 f15 f19 : Bool} {e4 e8 e12 e16 e20 : List AV} {s : St} (h5 : LR rB 1 v1.Checker.Accept z2 e4) (h9 : LR (rL rPush 2) 1 v1.Checker.Call z6 e8) (h13 : LR (rL (rL (rI .i64) 1) 1) 1 v1.Checker.Return z10 e12) (h17 : LR (rL (rI .i64) 1) 1 v1.Checker.Inner z14 e16) (h21 : LR rS 1 v1.Pieces z18 e20) {r : Bool} (h : impl_ValidStream v1 = some r) (hs : WF s) : ACall Cf 37 [(agg [(int .i64 v1.Checker.Stack), (int .i64 v1.Checker.Start), (sl z2 f3 e4), (sl z6 f7 e8), (sl z10 f11 e12), (sl z14 f15 e16), (sl z18 f19 e20)])] s fun v _ s' => (rB) r v ∧ s' = s := by
 refine ACall.pure rfl rfl rfl .B ?_
 have hWF := hs.lo'
 unfold impl_ValidStream at h
 refine sr ?_
 refine AOps.makeR rfl rfl rfl rfl rfl rfl (rfl : _ = (eptr [(int .i64 v1.Checker.Stack), (int .i64 v1.Checker.Start), (sl z2 f3 e4), (sl z6 f7 e8), (sl z10 f11 e12), (sl z14 f15 e16), (sl z18 f19 e20)] 0)) ?_
 refine q (bool false) ?_
 refine ns ?_
 refine q (eptr [(int .i64 v1.Checker.Stack), (int .i64 v1.Checker.Start), (sl z2 f3 e4), (sl z6 f7 e8), (sl z10 f11 e12), (sl z14 f15 e16), (sl z18 f19 e20)] 0) ?_
 refine lE (agg [(int .i64 v1.Checker.Stack), (int .i64 v1.Checker.Start), (sl z2 f3 e4), (sl z6 f7 e8), (sl z10 f11 e12), (sl z14 f15 e16)]) ?_
 obtain ⟨y22, h23, h⟩ := obind h
 refine AOps.callP (g := 61) (args := [(agg [(int .i64 v1.Checker.Stack), (int .i64 v1.Checker.Start), (sl z2 f3 e4), (sl z6 f7 e8), (sl z10 f11 e12), (sl z14 f15 e16)])]) (p := (rB) y22) rfl rfl rfl (impl_ValidChecker_ok h5 h9 h13 h17 h23 hWF) ?_
 intro _ o25 h24
 cases h24
 refine q (bool y22) ?_
 obtain ⟨b27, hb, h⟩ := obind h
 refine AOps.split 5 (fun f' => ∃ tm' os', f' = ⟨updL tm' [(1, (eptr [(int .i64 v1.Checker.Stack), (int .i64 v1.Checker.Start), (sl z2 f3 e4), (sl z6 f7 e8), (sl z10 f11 e12), (sl z14 f15 e16), (sl z18 f19 e20)] 0)), (11, (bool b27))], updL os' [], { s with lo := s.n }⟩) ?_ ?_
 ·rcases oite hb with ⟨hc26, hb⟩ | ⟨hc26, hb⟩
  ·have h := hb
   refine AOps.know (d := 6) rfl hc26 ?_
   refine q (eptr [(int .i64 v1.Checker.Stack), (int .i64 v1.Checker.Start), (sl z2 f3 e4), (sl z6 f7 e8), (sl z10 f11 e12), (sl z14 f15 e16), (sl z18 f19 e20)] 6) ?_
   refine lE (sl z18 f19 e20) ?_
   obtain ⟨y28, h29, h⟩ := obind h
   refine AOps.callP (g := 41) (args := [(sl z18 f19 e20)]) (p := (rI .i64) y28) rfl rfl rfl (impl_size_string_ok h21 h29 hWF) ?_
   intro _ o31 h30
   cases h30
   obtain ⟨y32, h33, h⟩ := obind h
   refine AOps.callP (g := 62) (args := [(int .i64 y28), (int .i64 1), (int .i64 20)]) (p := (rB) y32) rfl rfl rfl (impl_within_ok  h33 hWF) ?_
   intro _ o35 h34
   cases h34
   refine q (bool y32) ?_
   refine AOps.resR [(1, (eptr [(int .i64 v1.Checker.Stack), (int .i64 v1.Checker.Start), (sl z2 f3 e4), (sl z6 f7 e8), (sl z10 f11 e12), (sl z14 f15 e16), (sl z18 f19 e20)] 0)), (11, (bool b27))] [] ?_ ?_ _ ⟨_, _, rfl⟩
   ·exact ⟨rfl, congrArg bool (Option.some.inj h), trivial⟩
   exact trivial
  ·refine AOps.know (d := 6) rfl hc26 ?_
   refine sk ?_
   refine sk ?_
   refine sk ?_
   refine sk ?_
   refine q (bool false) ?_
   refine AOps.resR [(1, (eptr [(int .i64 v1.Checker.Stack), (int .i64 v1.Checker.Start), (sl z2 f3 e4), (sl z6 f7 e8), (sl z10 f11 e12), (sl z14 f15 e16), (sl z18 f19 e20)] 0)), (11, (bool b27))] [] ?_ ?_ _ ⟨_, _, rfl⟩
   ·exact ⟨rfl, congrArg bool (Option.some.inj hb), trivial⟩
   exact trivial
 rintro _ ⟨tm, os, rfl⟩
 refine q (bool b27) ?_
 obtain ⟨b37, hb, h⟩ := obind h
 refine AOps.split 5 (fun f' => ∃ tm' os', f' = ⟨updL tm' [(1, (eptr [(int .i64 v1.Checker.Stack), (int .i64 v1.Checker.Start), (sl z2 f3 e4), (sl z6 f7 e8), (sl z10 f11 e12), (sl z14 f15 e16), (sl z18 f19 e20)] 0)), (17, (bool b37))], updL os' [], { s with lo := s.n }⟩) ?_ ?_
 ·rcases oite hb with ⟨hc36, hb⟩ | ⟨hc36, hb⟩
  ·have h := hb
   refine AOps.know (d := 12) rfl hc36 ?_
   refine q (eptr [(int .i64 v1.Checker.Stack), (int .i64 v1.Checker.Start), (sl z2 f3 e4), (sl z6 f7 e8), (sl z10 f11 e12), (sl z14 f15 e16), (sl z18 f19 e20)] 6) ?_
   refine lE (sl z18 f19 e20) ?_
   obtain ⟨y38, h39, h⟩ := obind h
   refine AOps.callP (g := 63) (args := [(sl z18 f19 e20), (AV.fn 64 [])]) (p := (rB) y38) rfl rfl rfl (slices_ContainsFunc_sstring_string_ok h21 (by intro x vs y hc hx s hs; obtain ⟨_, _, rfl, hv0, hd0⟩ := Cs_cons hc; cases hv0; cases Cs_nil hd0; exact impl_ValidStream_1_ok  hx hs) h39 hWF) ?_
   intro _ o41 h40
   cases h40
   refine q (bool (!y38)) ?_
   refine q (bool (!y38)) ?_
   refine AOps.resR [(1, (eptr [(int .i64 v1.Checker.Stack), (int .i64 v1.Checker.Start), (sl z2 f3 e4), (sl z6 f7 e8), (sl z10 f11 e12), (sl z14 f15 e16), (sl z18 f19 e20)] 0)), (17, (bool b37))] [] ?_ ?_ _ ⟨_, _, rfl⟩
   ·exact ⟨rfl, congrArg bool (Option.some.inj h), trivial⟩
   exact trivial
  ·refine AOps.know (d := 12) rfl hc36 ?_
   refine sk ?_
   refine sk ?_
   refine sk ?_
   refine sk ?_
   refine q (bool false) ?_
   refine AOps.resR [(1, (eptr [(int .i64 v1.Checker.Stack), (int .i64 v1.Checker.Start), (sl z2 f3 e4), (sl z6 f7 e8), (sl z10 f11 e12), (sl z14 f15 e16), (sl z18 f19 e20)] 0)), (17, (bool b37))] [] ?_ ?_ _ ⟨_, _, rfl⟩
   ·exact ⟨rfl, congrArg bool (Option.some.inj hb), trivial⟩
   exact trivial
 rintro _ ⟨tm, os, rfl⟩
 refine q (bool b37) ?_
 obtain ⟨b43, hb, h⟩ := obind h
 refine AOps.split 5 (fun f' => ∃ tm' os', f' = ⟨updL tm' [(23, (bool b43))], updL os' [], { s with lo := s.n }⟩) ?_ ?_
 ·rcases oite hb with ⟨hc42, hb⟩ | ⟨hc42, hb⟩
  ·have h := hb
   refine AOps.know (d := 18) rfl hc42 ?_
   refine q (eptr [(int .i64 v1.Checker.Stack), (int .i64 v1.Checker.Start), (sl z2 f3 e4), (sl z6 f7 e8), (sl z10 f11 e12), (sl z14 f15 e16), (sl z18 f19 e20)] 6) ?_
   refine lE (sl z18 f19 e20) ?_
   obtain ⟨y44, h45, h⟩ := obind h
   refine AOps.callP (g := 66) (args := [(sl z18 f19 e20), (str ([] : List UInt8))]) (p := (rS) y44) rfl rfl rfl (ext_join_ok h21 h45 hWF) ?_
   intro _ o47 h46
   cases h46
   obtain ⟨y48, h49, h⟩ := obind h
   refine AOps.callP (g := 65) (args := [(str y44)]) (p := (rB) y48) rfl rfl rfl (impl_ValidWord_ok  h49 hWF) ?_
   intro _ o51 h50
   cases h50
   refine q (bool y48) ?_
   refine AOps.resR [(23, (bool b43))] [] ?_ ?_ _ ⟨_, _, rfl⟩
   ·exact ⟨congrArg bool (Option.some.inj h), trivial⟩
   exact trivial
  ·refine AOps.know (d := 18) rfl hc42 ?_
   refine sk ?_
   refine sk ?_
   refine sk ?_
   refine sk ?_
   refine q (bool false) ?_
   refine AOps.resR [(23, (bool b43))] [] ?_ ?_ _ ⟨_, _, rfl⟩
   ·exact ⟨congrArg bool (Option.some.inj hb), trivial⟩
   exact trivial
 rintro _ ⟨tm, os, rfl⟩
 refine aq (bool b43) ?_
 refine nl ?_
 cases h
 exact AW.ret ⟨rfl, _, _, rfl, rfl⟩
theorem slices_IndexFunc_simpl_Deed_impl_Deed_ok {s1 : List Deed} {f6 : Deed → Option Bool} {z2 g7 : Nat} {f3 : Bool} {e4 cap8 : List AV} {s : St} (h5 : LR rDeed 3 s1 z2 e4) (h9 : ∀ x vs y, Cs [rDeed x] vs → f6 x = some y → ∀ s, WF s → ACall Cf g7 (vs ++ cap8) s fun v _ s' => (rB) y v ∧ s' = s) {r : Int} (h : slices_IndexFunc_simpl_Deed_impl_Deed s1 f6 = some r) (hs : WF s) : ACall Cf 67 [(sl z2 f3 e4), (AV.fn g7 cap8)] s fun v _ s' => (rI .i64) r v ∧ s' = s := by
 refine ACall.pure rfl rfl rfl .I ?_
 have hWF := hs.lo'
 unfold slices_IndexFunc_simpl_Deed_impl_Deed at h
 refine sr ?_
 refine q (int .i64 0) ?_
 refine nl ?_
 refine AW.seq ?_
 refine sr ?_
 refine q (sl z2 f3 e4) ?_
 refine AOps.p rfl (len_eq h5) ?_
 refine q (int .i64 0) ?_
 refine nl ?_
 refine AW.meet (σ := Unit) (fun _ tm os => ⟨updL tm [], updL os [], { s with lo := s.n }⟩) (fun _ => slices_IndexFunc_simpl_Deed_impl_Deed_J1 = some r) ?_ ?_
 ·rintro _ tm os h
  unfold slices_IndexFunc_simpl_Deed_impl_Deed_J1 at h
  refine sr ?_
  refine q (int .i64 (-1)) ?_
  refine nl ?_
  cases h
  exact AW.ret ⟨rfl, _, _, rfl, rfl⟩
 intro KJ10
 refine AW.block ?_
 refine AW.res [(0, (sl z2 f3 e4)), (1, (AV.fn g7 cap8)), (7, (int .i64 (s1.length : Int))), (8, (int .i64 0))] [] ⟨rfl, rfl, rfl, rfl, trivial⟩ trivial ?_
 refine AW.loopF (σ := Int) (τ := Unit) (fun t11 _ => True) (fun t11 _ tm os => ⟨updL tm [(0, (sl z2 f3 e4)), (1, (AV.fn g7 cap8)), (7, (int .i64 (s1.length : Int))), (8, (int .i64 t11))], updL os [], { s with lo := s.n }⟩) ?_ (x := (0)) (y := ()) h trivial
 clear h
 rintro t11 _ tm os - ee1 h hL1 hR1
 unfold slices_IndexFunc_simpl_Deed_impl_Deed_S1 at h
 refine sr ?_
 refine q (bool (decide ((t11 : Int) < (s1.length : Int)))) ?_
 refine nl ?_
 refine AW.seq ?_
 rcases oite h with ⟨hc12, h⟩ | ⟨hc12, h⟩
 ·refine AW.condT (congrArg bool hc12) ?_
  refine AW.skip ?_
  refine AW.seq ?_
  refine AW.block ?_
  refine sr ?_
  refine q (int .i64 t11) ?_
  refine aq (int .i64 t11) ?_
  refine ns ?_
  refine q (AV.fn g7 cap8) ?_
  refine q (sl z2 f3 e4) ?_
  refine q (int .i64 t11) ?_
  obtain ⟨x13, h14, h⟩ := obind h
  obtain ⟨v17, h15, h16⟩ := idx_sl h5 h14
  obtain ⟨_, rfl, h18⟩ := h15
  obtain ⟨_, _, rfl, h19, h20⟩ := Cs_cons h18
  cases h19
  obtain ⟨_, _, rfl, h21, h22⟩ := Cs_cons h20
  cases h21
  obtain ⟨_, _, rfl, h23, h24⟩ := Cs_cons h22
  cases h23
  cases Cs_nil h24
  refine AOps.pureR rfl rfl rfl h16 rfl (rfl : _ = (eptr [(int .i64 x13.Kind), (int .i64 x13.A), (int .i64 x13.B)] 0)) ?_
  refine lE (agg [(int .i64 x13.Kind), (int .i64 x13.A), (int .i64 x13.B)]) ?_
  obtain ⟨y25, h26, h⟩ := obind h
  refine AOps.callP (g := g7) (args := ([(agg [(int .i64 x13.Kind), (int .i64 x13.A), (int .i64 x13.B)])] ++ cap8)) (p := (rB) y25) rfl rfl rfl (h9 x13 _ _ (.cons ⟨_, rfl, (.cons rfl (.cons rfl (.cons rfl .nil)))⟩ .nil) h26 _ hWF) ?_
  intro _ o28 h27
  cases h27
  refine nl ?_
  rcases oite h with ⟨hc29, h⟩ | ⟨hc29, h⟩
  ·refine AW.condT (congrArg bool hc29) ?_
   refine sr ?_
   refine q (int .i64 t11) ?_
   refine aq (int .i64 t11) ?_
   refine nl ?_
   cases h
   have hr := hR1 _ rfl
   subst hr
   exact AW.ret ⟨rfl, _, _, rfl, rfl⟩
  refine AW.condF (congrArg bool hc29) ?_
  refine AW.skip ?_
  refine AW.inBlock ?_
  refine AW.region ?_
  refine q (int .i64 (IntKind.wrap .i64 (t11 + 1))) ?_
  refine q (int .i64 (IntKind.wrap .i64 (t11 + 1))) ?_
  refine nl ?_
  cases h
  exact AW.res [(0, (sl z2 f3 e4)), (1, (AV.fn g7 cap8)), (7, (int .i64 (s1.length : Int))), (8, (int .i64 (IntKind.wrap .i64 (t11 + 1))))] [] ⟨rfl, rfl, rfl, rfl, trivial⟩ trivial (hL1 _ rfl () _ _ trivial)
 refine AW.condF (congrArg bool hc12) ?_
 refine AW.exit rfl ?_
 obtain ⟨r30, hm, hx⟩ := omap h
 clear h
 subst hx
 have hx := hR1 _ rfl
 rw [hx] at hm
 have h := hm
 exact AW.res [] [] trivial trivial (KJ10 () _ _ h)
theorem slices_ContainsFunc_simpl_Deed_impl_Deed_ok {s1 : List Deed} {f6 : Deed → Option Bool} {z2 g7 : Nat} {f3 : Bool} {e4 cap8 : List AV} {s : St} (h5 : LR rDeed 3 s1 z2 e4) (h9 : ∀ x vs y, Cs [rDeed x] vs → f6 x = some y → ∀ s, WF s → ACall Cf g7 (vs ++ cap8) s fun v _ s' => (rB) y v ∧ s' = s) {r : Bool} (h : slices_ContainsFunc_simpl_Deed_impl_Deed s1 f6 = some r) (hs : WF s) : ACall Cf 38 [(sl z2 f3 e4), (AV.fn g7 cap8)] s fun v _ s' => (rB) r v ∧ s' = s := by
 refine ACall.pure rfl rfl rfl .B ?_
 have hWF := hs.lo'
 unfold slices_ContainsFunc_simpl_Deed_impl_Deed at h
 refine sr ?_
 refine q (bool false) ?_
 refine ns ?_
 refine q (sl z2 f3 e4) ?_
 refine q (AV.fn g7 cap8) ?_
 obtain ⟨y10, h11, h⟩ := obind h
 refine AOps.callP (g := 67) (args := [(sl z2 f3 e4), (AV.fn g7 cap8)]) (p := (rI .i64) y10) rfl rfl rfl (slices_IndexFunc_simpl_Deed_impl_Deed_ok h5 h9 h11 hWF) ?_
 intro _ o13 h12
 cases h12
 refine q (bool (decide ((y10 : Int) ≥ 0))) ?_
 refine aq (bool (decide ((y10 : Int) ≥ 0))) ?_
 refine nl ?_
 cases h
 exact AW.ret ⟨rfl, _, _, rfl, rfl⟩
theorem impl_deedWord_ok {kind1 : Int} {s : St} {r : (List UInt8) × Int} (h : impl_deedWord kind1 = some r) (hs : WF s) : ACall Cf 68 [(int .i64 kind1)] s fun v _ s' => (fun x => rT [rS x.1, (rI .i64) x.2]) r v ∧ s' = s := by
 refine ACall.pure rfl rfl rfl (.T (.cons .S (.cons .I .nil))) ?_
 have hWF := hs.lo'
 unfold impl_deedWord at h
 refine sr ?_
 refine q (str ([] : List UInt8)) ?_
 refine q (int .i64 0) ?_
 refine nl ?_
 refine AW.seq ?_
 refine sr ?_
 refine q (int .i64 kind1) ?_
 refine nl ?_
 refine AW.block ?_
 refine sr ?_
 refine q (bool (kind1 == 1)) ?_
 refine aq (bool (kind1 == 1)) ?_
 refine nl ?_
 rcases oite h with ⟨hc2, h⟩ | ⟨hc2, h⟩
 ·refine AW.condT (congrArg bool hc2) ?_
  refine sr ?_
  refine q (str ([115, 101, 110, 100] : List UInt8)) ?_
  refine q (int .i64 2) ?_
  refine nl ?_
  cases h
  exact AW.ret ⟨rfl, _, _, rfl, ⟨_, rfl, (.cons rfl (.cons rfl .nil))⟩⟩
 refine AW.condF (congrArg bool hc2) ?_
 refine sr ?_
 refine q (bool (kind1 == 2)) ?_
 refine aq (bool (kind1 == 2)) ?_
 refine nl ?_
 rcases oite h with ⟨hc3, h⟩ | ⟨hc3, h⟩
 ·refine AW.condT (congrArg bool hc3) ?_
  refine sr ?_
  refine q (str ([100, 101, 108, 105, 118, 101, 114] : List UInt8)) ?_
  refine q (int .i64 1) ?_
  refine nl ?_
  cases h
  exact AW.ret ⟨rfl, _, _, rfl, ⟨_, rfl, (.cons rfl (.cons rfl .nil))⟩⟩
 refine AW.condF (congrArg bool hc3) ?_
 refine sr ?_
 refine q (bool (kind1 == 3)) ?_
 refine aq (bool (kind1 == 3)) ?_
 refine nl ?_
 rcases oite h with ⟨hc4, h⟩ | ⟨hc4, h⟩
 ·refine AW.condT (congrArg bool hc4) ?_
  refine sr ?_
  refine q (str ([99, 111, 112, 121] : List UInt8)) ?_
  refine q (int .i64 1) ?_
  refine nl ?_
  cases h
  exact AW.ret ⟨rfl, _, _, rfl, ⟨_, rfl, (.cons rfl (.cons rfl .nil))⟩⟩
 refine AW.condF (congrArg bool hc4) ?_
 refine sr ?_
 refine q (bool (kind1 == 4)) ?_
 refine aq (bool (kind1 == 4)) ?_
 refine nl ?_
 rcases oite h with ⟨hc5, h⟩ | ⟨hc5, h⟩
 ·refine AW.condT (congrArg bool hc5) ?_
  refine sr ?_
  refine q (str ([100, 114, 111, 112] : List UInt8)) ?_
  refine q (int .i64 1) ?_
  refine nl ?_
  cases h
  exact AW.ret ⟨rfl, _, _, rfl, ⟨_, rfl, (.cons rfl (.cons rfl .nil))⟩⟩
 refine AW.condF (congrArg bool hc5) ?_
 refine sr ?_
 refine q (bool (kind1 == 5)) ?_
 refine aq (bool (kind1 == 5)) ?_
 refine nl ?_
 rcases oite h with ⟨hc6, h⟩ | ⟨hc6, h⟩
 ·refine AW.condT (congrArg bool hc6) ?_
  refine sr ?_
  refine q (str ([115, 97, 118, 101] : List UInt8)) ?_
  refine q (int .i64 0) ?_
  refine nl ?_
  cases h
  exact AW.ret ⟨rfl, _, _, rfl, ⟨_, rfl, (.cons rfl (.cons rfl .nil))⟩⟩
 refine AW.condF (congrArg bool hc6) ?_
 refine sr ?_
 refine q (bool (kind1 == 6)) ?_
 refine aq (bool (kind1 == 6)) ?_
 refine nl ?_
 rcases oite h with ⟨hc7, h⟩ | ⟨hc7, h⟩
 ·refine AW.condT (congrArg bool hc7) ?_
  refine sr ?_
  refine q (str ([99, 114, 97, 115, 104] : List UInt8)) ?_
  refine q (int .i64 0) ?_
  refine nl ?_
  cases h
  exact AW.ret ⟨rfl, _, _, rfl, ⟨_, rfl, (.cons rfl (.cons rfl .nil))⟩⟩
 refine AW.condF (congrArg bool hc7) ?_
 refine AW.skip ?_
 refine AW.inBlock ?_
 refine sr ?_
 refine q (str ([] : List UInt8)) ?_
 refine q (int .i64 0) ?_
 refine nl ?_
 cases h
 exact AW.ret ⟨rfl, _, _, rfl, ⟨_, rfl, (.cons rfl (.cons rfl .nil))⟩⟩
theorem impl_ValidDeed_ok {d1 : Deed} {s : St} {r : Bool} (h : impl_ValidDeed d1 = some r) (hs : WF s) : ACall Cf 40 [(agg [(int .i64 d1.Kind), (int .i64 d1.A), (int .i64 d1.B)])] s fun v _ s' => (rB) r v ∧ s' = s := by
 refine ACall.pure rfl rfl rfl .B ?_
 have hWF := hs.lo'
 unfold impl_ValidDeed at h
 refine sr ?_
 refine AOps.makeR rfl rfl rfl rfl rfl rfl (rfl : _ = (eptr [(int .i64 d1.Kind), (int .i64 d1.A), (int .i64 d1.B)] 0)) ?_
 refine q (bool false) ?_
 refine ns ?_
 refine q (eptr [(int .i64 d1.Kind), (int .i64 d1.A), (int .i64 d1.B)] 0) ?_
 refine lE (int .i64 d1.Kind) ?_
 obtain ⟨y2, h3, h⟩ := obind h
 refine AOps.callP (g := 68) (args := [(int .i64 d1.Kind)]) (p := (fun x => rT [rS x.1, (rI .i64) x.2]) y2) rfl rfl rfl (impl_deedWord_ok  h3 hWF) ?_
 intro _ o10 h4
 obtain ⟨_, rfl, h5⟩ := h4
 obtain ⟨_, _, rfl, h6, h7⟩ := Cs_cons h5
 cases h6
 obtain ⟨_, _, rfl, h8, h9⟩ := Cs_cons h7
 cases h8
 cases Cs_nil h9
 refine q (AV.tup [(str y2.1), (int .i64 y2.2)]) ?_
 refine q (str y2.1) ?_
 refine q (int .i64 y2.2) ?_
 refine aq (str y2.1) ?_
 refine aq (int .i64 y2.2) ?_
 refine ns ?_
 refine q (str y2.1) ?_
 refine q (bool (!(y2.1 == ([] : List UInt8)))) ?_
 refine q (bool (!(y2.1 == ([] : List UInt8)))) ?_
 obtain ⟨b12, hb, h⟩ := obind h
 refine AOps.split 4 (fun f' => ∃ tm' os', f' = ⟨updL tm' [(1, (eptr [(int .i64 d1.Kind), (int .i64 d1.A), (int .i64 d1.B)] 0)), (4, (int .i64 y2.2)), (17, (bool b12))], updL os' [], { s with lo := s.n }⟩) ?_ ?_
 ·rcases oite hb with ⟨hc11, hb⟩ | ⟨hc11, hb⟩
  ·have h := hb
   refine AOps.know (d := 13) rfl hc11 ?_
   refine q (eptr [(int .i64 d1.Kind), (int .i64 d1.A), (int .i64 d1.B)] 1) ?_
   refine lE (int .i64 d1.A) ?_
   obtain ⟨y13, h14, h⟩ := obind h
   refine AOps.callP (g := 62) (args := [(int .i64 d1.A), (int .i64 0), (int .i64 999)]) (p := (rB) y13) rfl rfl rfl (impl_within_ok  h14 hWF) ?_
   intro _ o16 h15
   cases h15
   refine q (bool y13) ?_
   refine AOps.resR [(1, (eptr [(int .i64 d1.Kind), (int .i64 d1.A), (int .i64 d1.B)] 0)), (4, (int .i64 y2.2)), (17, (bool b12))] [] ?_ ?_ _ ⟨_, _, rfl⟩
   ·exact ⟨rfl, rfl, congrArg bool (Option.some.inj h), trivial⟩
   exact trivial
  ·refine AOps.know (d := 13) rfl hc11 ?_
   refine sk ?_
   refine sk ?_
   refine sk ?_
   refine q (bool false) ?_
   refine AOps.resR [(1, (eptr [(int .i64 d1.Kind), (int .i64 d1.A), (int .i64 d1.B)] 0)), (4, (int .i64 y2.2)), (17, (bool b12))] [] ?_ ?_ _ ⟨_, _, rfl⟩
   ·exact ⟨rfl, rfl, congrArg bool (Option.some.inj hb), trivial⟩
   exact trivial
 rintro _ ⟨tm, os, rfl⟩
 refine q (bool b12) ?_
 obtain ⟨b18, hb, h⟩ := obind h
 refine AOps.split 4 (fun f' => ∃ tm' os', f' = ⟨updL tm' [(1, (eptr [(int .i64 d1.Kind), (int .i64 d1.A), (int .i64 d1.B)] 0)), (4, (int .i64 y2.2)), (22, (bool b18))], updL os' [], { s with lo := s.n }⟩) ?_ ?_
 ·rcases oite hb with ⟨hc17, hb⟩ | ⟨hc17, hb⟩
  ·have h := hb
   refine AOps.know (d := 18) rfl hc17 ?_
   refine q (eptr [(int .i64 d1.Kind), (int .i64 d1.A), (int .i64 d1.B)] 2) ?_
   refine lE (int .i64 d1.B) ?_
   obtain ⟨y19, h20, h⟩ := obind h
   refine AOps.callP (g := 62) (args := [(int .i64 d1.B), (int .i64 0), (int .i64 999)]) (p := (rB) y19) rfl rfl rfl (impl_within_ok  h20 hWF) ?_
   intro _ o22 h21
   cases h21
   refine q (bool y19) ?_
   refine AOps.resR [(1, (eptr [(int .i64 d1.Kind), (int .i64 d1.A), (int .i64 d1.B)] 0)), (4, (int .i64 y2.2)), (22, (bool b18))] [] ?_ ?_ _ ⟨_, _, rfl⟩
   ·exact ⟨rfl, rfl, congrArg bool (Option.some.inj h), trivial⟩
   exact trivial
  ·refine AOps.know (d := 18) rfl hc17 ?_
   refine sk ?_
   refine sk ?_
   refine sk ?_
   refine q (bool false) ?_
   refine AOps.resR [(1, (eptr [(int .i64 d1.Kind), (int .i64 d1.A), (int .i64 d1.B)] 0)), (4, (int .i64 y2.2)), (22, (bool b18))] [] ?_ ?_ _ ⟨_, _, rfl⟩
   ·exact ⟨rfl, rfl, congrArg bool (Option.some.inj hb), trivial⟩
   exact trivial
 rintro _ ⟨tm, os, rfl⟩
 refine q (bool b18) ?_
 refine AOps.split 8 (fun f' => ∃ tm' os', f' = ⟨updL tm' [(1, (eptr [(int .i64 d1.Kind), (int .i64 d1.A), (int .i64 d1.B)] 0)), (4, (int .i64 y2.2)), (31, (bool (b18 && ((decide ((y2.2 : Int) > 0)) || (d1.A == 0)))))], updL os' [], { s with lo := s.n }⟩) ?_ ?_
 ·rcases Bool.eq_false_or_eq_true b18 with hc23 | hc23
  ·refine AOps.know (d := 23) rfl hc23 ?_
   refine q (int .i64 y2.2) ?_
   refine q (bool (decide ((y2.2 : Int) > 0))) ?_
   refine q (bool (decide ((y2.2 : Int) > 0))) ?_
   refine AOps.split 4 (fun f' => ∃ tm' os', f' = ⟨updL tm' [(1, (eptr [(int .i64 d1.Kind), (int .i64 d1.A), (int .i64 d1.B)] 0)), (4, (int .i64 y2.2)), (23, (bool true)), (30, (bool ((decide ((y2.2 : Int) > 0)) || (d1.A == 0))))], updL os' [], { s with lo := s.n }⟩) ?_ ?_
   ·rcases Bool.eq_false_or_eq_true (decide ((y2.2 : Int) > 0)) with hc24 | hc24
    ·refine AOps.know (d := 26) rfl hc24 ?_
     refine sk ?_
     refine sk ?_
     refine sk ?_
     refine q (bool true) ?_
     refine AOps.resR [(1, (eptr [(int .i64 d1.Kind), (int .i64 d1.A), (int .i64 d1.B)] 0)), (4, (int .i64 y2.2)), (23, (bool true)), (30, (bool ((decide ((y2.2 : Int) > 0)) || (d1.A == 0))))] [] ?_ ?_ _ ⟨_, _, rfl⟩
     ·exact ⟨rfl, rfl, rfl, congrArg bool (or_t hc24), trivial⟩
     exact trivial
    ·refine AOps.know (d := 26) rfl hc24 ?_
     refine q (eptr [(int .i64 d1.Kind), (int .i64 d1.A), (int .i64 d1.B)] 1) ?_
     refine lE (int .i64 d1.A) ?_
     refine q (bool (d1.A == 0)) ?_
     refine q (bool (d1.A == 0)) ?_
     refine AOps.resR [(1, (eptr [(int .i64 d1.Kind), (int .i64 d1.A), (int .i64 d1.B)] 0)), (4, (int .i64 y2.2)), (23, (bool true)), (30, (bool ((decide ((y2.2 : Int) > 0)) || (d1.A == 0))))] [] ?_ ?_ _ ⟨_, _, rfl⟩
     ·exact ⟨rfl, rfl, rfl, congrArg bool (or_f hc24), trivial⟩
     exact trivial
   rintro _ ⟨tm, os, rfl⟩
   refine q (bool ((decide ((y2.2 : Int) > 0)) || (d1.A == 0))) ?_
   refine AOps.resR [(1, (eptr [(int .i64 d1.Kind), (int .i64 d1.A), (int .i64 d1.B)] 0)), (4, (int .i64 y2.2)), (31, (bool (b18 && ((decide ((y2.2 : Int) > 0)) || (d1.A == 0)))))] [] ?_ ?_ _ ⟨_, _, rfl⟩
   ·exact ⟨rfl, rfl, congrArg bool (and_t hc23), trivial⟩
   exact trivial
  ·refine AOps.know (d := 23) rfl hc23 ?_
   refine sk ?_
   refine sk ?_
   refine sk ?_
   refine sk ?_
   refine sk ?_
   refine sk ?_
   refine sk ?_
   refine q (bool false) ?_
   refine AOps.resR [(1, (eptr [(int .i64 d1.Kind), (int .i64 d1.A), (int .i64 d1.B)] 0)), (4, (int .i64 y2.2)), (31, (bool (b18 && ((decide ((y2.2 : Int) > 0)) || (d1.A == 0)))))] [] ?_ ?_ _ ⟨_, _, rfl⟩
   ·exact ⟨rfl, rfl, congrArg bool (and_f hc23), trivial⟩
   exact trivial
 rintro _ ⟨tm, os, rfl⟩
 refine q (bool (b18 && ((decide ((y2.2 : Int) > 0)) || (d1.A == 0)))) ?_
 refine AOps.split 8 (fun f' => ∃ tm' os', f' = ⟨updL tm' [(40, (bool ((b18 && ((decide ((y2.2 : Int) > 0)) || (d1.A == 0))) && ((decide ((y2.2 : Int) > 1)) || (d1.B == 0)))))], updL os' [], { s with lo := s.n }⟩) ?_ ?_
 ·rcases Bool.eq_false_or_eq_true (b18 && ((decide ((y2.2 : Int) > 0)) || (d1.A == 0))) with hc25 | hc25
  ·refine AOps.know (d := 32) rfl hc25 ?_
   refine q (int .i64 y2.2) ?_
   refine q (bool (decide ((y2.2 : Int) > 1))) ?_
   refine q (bool (decide ((y2.2 : Int) > 1))) ?_
   refine AOps.split 4 (fun f' => ∃ tm' os', f' = ⟨updL tm' [(32, (bool true)), (39, (bool ((decide ((y2.2 : Int) > 1)) || (d1.B == 0))))], updL os' [], { s with lo := s.n }⟩) ?_ ?_
   ·rcases Bool.eq_false_or_eq_true (decide ((y2.2 : Int) > 1)) with hc26 | hc26
    ·refine AOps.know (d := 35) rfl hc26 ?_
     refine sk ?_
     refine sk ?_
     refine sk ?_
     refine q (bool true) ?_
     refine AOps.resR [(32, (bool true)), (39, (bool ((decide ((y2.2 : Int) > 1)) || (d1.B == 0))))] [] ?_ ?_ _ ⟨_, _, rfl⟩
     ·exact ⟨rfl, congrArg bool (or_t hc26), trivial⟩
     exact trivial
    ·refine AOps.know (d := 35) rfl hc26 ?_
     refine q (eptr [(int .i64 d1.Kind), (int .i64 d1.A), (int .i64 d1.B)] 2) ?_
     refine lE (int .i64 d1.B) ?_
     refine q (bool (d1.B == 0)) ?_
     refine q (bool (d1.B == 0)) ?_
     refine AOps.resR [(32, (bool true)), (39, (bool ((decide ((y2.2 : Int) > 1)) || (d1.B == 0))))] [] ?_ ?_ _ ⟨_, _, rfl⟩
     ·exact ⟨rfl, congrArg bool (or_f hc26), trivial⟩
     exact trivial
   rintro _ ⟨tm, os, rfl⟩
   refine q (bool ((decide ((y2.2 : Int) > 1)) || (d1.B == 0))) ?_
   refine AOps.resR [(40, (bool ((b18 && ((decide ((y2.2 : Int) > 0)) || (d1.A == 0))) && ((decide ((y2.2 : Int) > 1)) || (d1.B == 0)))))] [] ?_ ?_ _ ⟨_, _, rfl⟩
   ·exact ⟨congrArg bool (and_t hc25), trivial⟩
   exact trivial
  ·refine AOps.know (d := 32) rfl hc25 ?_
   refine sk ?_
   refine sk ?_
   refine sk ?_
   refine sk ?_
   refine sk ?_
   refine sk ?_
   refine sk ?_
   refine q (bool false) ?_
   refine AOps.resR [(40, (bool ((b18 && ((decide ((y2.2 : Int) > 0)) || (d1.A == 0))) && ((decide ((y2.2 : Int) > 1)) || (d1.B == 0)))))] [] ?_ ?_ _ ⟨_, _, rfl⟩
   ·exact ⟨congrArg bool (and_f hc25), trivial⟩
   exact trivial
 rintro _ ⟨tm, os, rfl⟩
 refine aq (bool ((b18 && ((decide ((y2.2 : Int) > 0)) || (d1.A == 0))) && ((decide ((y2.2 : Int) > 1)) || (d1.B == 0)))) ?_
 refine nl ?_
 cases h
 exact AW.ret ⟨rfl, _, _, rfl, rfl⟩
theorem impl_deedsCode_1_ok {x1 : Deed} {s : St} {r : Bool} (h : impl_deedsCode_1 x1 = some r) (hs : WF s) : ACall Cf 39 [(agg [(int .i64 x1.Kind), (int .i64 x1.A), (int .i64 x1.B)])] s fun v _ s' => (rB) r v ∧ s' = s := by
 refine ACall.pure rfl rfl rfl .B ?_
 have hWF := hs.lo'
 unfold impl_deedsCode_1 at h
 refine sr ?_
 refine AOps.makeR rfl rfl rfl rfl rfl rfl (rfl : _ = (eptr [(int .i64 x1.Kind), (int .i64 x1.A), (int .i64 x1.B)] 0)) ?_
 refine q (bool false) ?_
 refine ns ?_
 refine lE (agg [(int .i64 x1.Kind), (int .i64 x1.A), (int .i64 x1.B)]) ?_
 obtain ⟨y2, h3, h⟩ := obind h
 refine AOps.callP (g := 40) (args := [(agg [(int .i64 x1.Kind), (int .i64 x1.A), (int .i64 x1.B)])]) (p := (rB) y2) rfl rfl rfl (impl_ValidDeed_ok  h3 hWF) ?_
 intro _ o5 h4
 cases h4
 refine q (bool (!y2)) ?_
 refine aq (bool (!y2)) ?_
 refine nl ?_
 cases h
 exact AW.ret ⟨rfl, _, _, rfl, rfl⟩
theorem impl_deedsCode_ok {v1 : Stream} {deeds22 : List Deed} {z2 z6 z10 z14 z18 z23 : Nat} {f3 f7 f11 f15 f19 f24 : Bool} {e4 e8 e12 e16 e20 e25 : List AV} {s : St} (h5 : LR rB 1 v1.Checker.Accept z2 e4) (h9 : LR (rL rPush 2) 1 v1.Checker.Call z6 e8) (h13 : LR (rL (rL (rI .i64) 1) 1) 1 v1.Checker.Return z10 e12) (h17 : LR (rL (rI .i64) 1) 1 v1.Checker.Inner z14 e16) (h21 : LR rS 1 v1.Pieces z18 e20) (h26 : LR rDeed 3 deeds22 z23 e25) {r : Int} (h : impl_deedsCode v1 deeds22 = some r) (hs : WF s) : ACall Cf 19 [(agg [(int .i64 v1.Checker.Stack), (int .i64 v1.Checker.Start), (sl z2 f3 e4), (sl z6 f7 e8), (sl z10 f11 e12), (sl z14 f15 e16), (sl z18 f19 e20)]), (sl z23 f24 e25)] s fun v _ s' => (rI .i64) r v ∧ s' = s := by
 refine ACall.pure rfl rfl rfl .I ?_
 have hWF := hs.lo'
 unfold impl_deedsCode at h
 refine sr ?_
 refine AOps.makeR rfl rfl rfl rfl rfl rfl (rfl : _ = (eptr [(int .i64 v1.Checker.Stack), (int .i64 v1.Checker.Start), (sl z2 f3 e4), (sl z6 f7 e8), (sl z10 f11 e12), (sl z14 f15 e16), (sl z18 f19 e20)] 0)) ?_
 refine q (int .i64 0) ?_
 refine nl ?_
 refine AW.seq ?_
 refine AW.block ?_
 refine sr ?_
 refine lE (agg [(int .i64 v1.Checker.Stack), (int .i64 v1.Checker.Start), (sl z2 f3 e4), (sl z6 f7 e8), (sl z10 f11 e12), (sl z14 f15 e16), (sl z18 f19 e20)]) ?_
 obtain ⟨y27, h28, h⟩ := obind h
 refine AOps.callP (g := 37) (args := [(agg [(int .i64 v1.Checker.Stack), (int .i64 v1.Checker.Start), (sl z2 f3 e4), (sl z6 f7 e8), (sl z10 f11 e12), (sl z14 f15 e16), (sl z18 f19 e20)])]) (p := (rB) y27) rfl rfl rfl (impl_ValidStream_ok h5 h9 h13 h17 h21 h28 hWF) ?_
 intro _ o30 h29
 cases h29
 refine q (bool (!y27)) ?_
 refine q (bool (!y27)) ?_
 obtain ⟨b32, hb, h⟩ := obind h
 refine AOps.split 3 (fun f' => ∃ tm' os', f' = ⟨updL tm' [(1, (sl z23 f24 e25)), (12, (bool b32))], updL os' [], { s with lo := s.n }⟩) ?_ ?_
 ·rcases oite hb with ⟨hc31, hb⟩ | ⟨hc31, hb⟩
  ·refine AOps.know (d := 9) rfl hc31 ?_
   refine sk ?_
   refine sk ?_
   refine q (bool true) ?_
   refine AOps.resR [(1, (sl z23 f24 e25)), (12, (bool b32))] [] ?_ ?_ _ ⟨_, _, rfl⟩
   ·exact ⟨rfl, congrArg bool (Option.some.inj hb), trivial⟩
   exact trivial
  ·have h := hb
   refine AOps.know (d := 9) rfl hc31 ?_
   refine q (sl z23 f24 e25) ?_
   obtain ⟨y40, h41, h⟩ := obind h
   refine AOps.callP (g := 38) (args := [(sl z23 f24 e25), (AV.fn 39 [])]) (p := (rB) y40) rfl rfl rfl (slices_ContainsFunc_simpl_Deed_impl_Deed_ok h26 (by intro x vs y hc hx s hs; obtain ⟨_, _, rfl, hv0, hd0⟩ := Cs_cons hc; obtain ⟨_, rfl, h33⟩ := hv0; obtain ⟨_, _, rfl, h34, h35⟩ := Cs_cons h33; cases h34; obtain ⟨_, _, rfl, h36, h37⟩ := Cs_cons h35; cases h36; obtain ⟨_, _, rfl, h38, h39⟩ := Cs_cons h37; cases h38; cases Cs_nil h39; cases Cs_nil hd0; exact impl_deedsCode_1_ok  hx hs) h41 hWF) ?_
   intro _ o43 h42
   cases h42
   refine q (bool y40) ?_
   refine AOps.resR [(1, (sl z23 f24 e25)), (12, (bool b32))] [] ?_ ?_ _ ⟨_, _, rfl⟩
   ·exact ⟨rfl, congrArg bool (Option.some.inj h), trivial⟩
   exact trivial
 rintro _ ⟨tm, os, rfl⟩
 refine aq (bool b32) ?_
 refine nl ?_
 rcases oite h with ⟨hc44, h⟩ | ⟨hc44, h⟩
 ·refine AW.condT (congrArg bool hc44) ?_
  refine sr ?_
  refine q (int .i64 1) ?_
  refine nl ?_
  cases h
  exact AW.ret ⟨rfl, _, _, rfl, rfl⟩
 refine AW.condF (congrArg bool hc44) ?_
 refine sr ?_
 refine q (sl z23 f24 e25) ?_
 refine AOps.p rfl (len_eq h26) ?_
 refine q (bool (decide (((deeds22.length : Int) : Int) > 300))) ?_
 refine aq (bool (decide (((deeds22.length : Int) : Int) > 300))) ?_
 refine nl ?_
 rcases oite h with ⟨hc45, h⟩ | ⟨hc45, h⟩
 ·refine AW.condT (congrArg bool hc45) ?_
  refine sr ?_
  refine q (int .i64 2) ?_
  refine nl ?_
  cases h
  exact AW.ret ⟨rfl, _, _, rfl, rfl⟩
 refine AW.condF (congrArg bool hc45) ?_
 refine AW.skip ?_
 refine AW.inBlock ?_
 refine sr ?_
 refine q (int .i64 0) ?_
 refine nl ?_
 cases h
 exact AW.ret ⟨rfl, _, _, rfl, rfl⟩
theorem impl_newWorks_K0_ok {v1 : Stream} {z2 z6 z10 z14 z18 : Nat} {f3 f7 f11 f15 f19 : Bool} {e4 e8 e12 e16 e20 : List AV} {s : St} (h5 : LR rB 1 v1.Checker.Accept z2 e4) (h9 : LR (rL rPush 2) 1 v1.Checker.Call z6 e8) (h13 : LR (rL (rL (rI .i64) 1) 1) 1 v1.Checker.Return z10 e12) (h17 : LR (rL (rI .i64) 1) 1 v1.Checker.Inner z14 e16) (h21 : LR rS 1 v1.Pieces z18 e20) {r : Works} (h : impl_newWorks_K0 v1 = some r) (hs : WF s) : ACall Cf 20 [(agg [(int .i64 v1.Checker.Stack), (int .i64 v1.Checker.Start), (sl z2 f3 e4), (sl z6 f7 e8), (sl z10 f11 e12), (sl z14 f15 e16), (sl z18 f19 e20)])] s (fun v _ s' => ∃ (b1' : Nat) (w2' : Nat → Bool) (z3' : Nat) (f4' : Bool) (e5' : List AV) (h7' : AV) (k8' : KT) (z10' : Nat) (f11' : Bool) (e12' : List AV) (h14' : AV) (k15' : KT) (h17' : AV) (k18' : KT) (z20' : Nat) (f21' : Bool) (e22' : List AV) (z24' : Nat) (f25' : Bool) (e26' : List AV) (z28' : Nat) (f29' : Bool) (e30' : List AV) (z32' : Nat) (f33' : Bool) (e34' : List AV) (z36' : Nat) (f37' : Bool) (e38' : List AV) (Ls' : List (List BX)), v = (ptr b1' 0) ∧ HS [] true s s' (([⟨some b1', [(int .i64 r.Plant_.Desk_.Read), (int .i64 r.Plant_.Desk_.State), (sl z3' f4' e5'), h7', (int .i64 r.Plant_.Saved.Read), (int .i64 r.Plant_.Saved.State), (sl z10' f11' e12'), h14', h17', (int .i64 r.stream.Checker.Stack), (int .i64 r.stream.Checker.Start), (sl z20' f21' e22'), (sl z24' f25' e26'), (sl z28' f29' e30'), (sl z32' f33' e34'), (sl z36' f37' e38')], w2'⟩] : List BX) ++ List.flatten Ls') ∧ AllG [OS oE2 h7' k8' r.Plant_.Desk_.Waiting, OS oE2 h14' k15' r.Plant_.Saved.Waiting, OS oE90 h17' k18' r.Plant_.Wire] Ls' ∧ LR (rI .i64) 1 r.Plant_.Desk_.Stack z3' e5' ∧ h7'.one = true ∧ LR (rI .i64) 1 r.Plant_.Saved.Stack z10' e12' ∧ h14'.one = true ∧ h17'.one = true ∧ LR rB 1 r.stream.Checker.Accept z20' e22' ∧ LR (rL rPush 2) 1 r.stream.Checker.Call z24' e26' ∧ LR (rL (rL (rI .i64) 1) 1) 1 r.stream.Checker.Return z28' e30' ∧ LR (rL (rI .i64) 1) 1 r.stream.Checker.Inner z32' e34' ∧ LR rS 1 r.stream.Pieces z36' e38') true := by
 refine ACall.keepR rfl rfl rfl ?_
 have hH0 := HS.g0 (HS.initK hs)
 have hG0 := AllG.nil
 have hl : LoOK [] true s := LoOK.nil
 unfold impl_newWorks_K0 at h
 refine sr ?_
 refine AOps.makeR rfl rfl rfl rfl rfl rfl (rfl : _ = (eptr [(int .i64 v1.Checker.Stack), (int .i64 v1.Checker.Start), (sl z2 f3 e4), (sl z6 f7 e8), (sl z10 f11 e12), (sl z14 f15 e16), (sl z18 f19 e20)] 0)) ?_
 refine q AV.nilp ?_
 refine ns ?_
 refine q (eptr [(int .i64 v1.Checker.Stack), (int .i64 v1.Checker.Start), (sl z2 f3 e4), (sl z6 f7 e8), (sl z10 f11 e12), (sl z14 f15 e16), (sl z18 f19 e20)] 0) ?_
 refine q (eptr [(int .i64 v1.Checker.Stack), (int .i64 v1.Checker.Start), (sl z2 f3 e4), (sl z6 f7 e8), (sl z10 f11 e12), (sl z14 f15 e16), (sl z18 f19 e20)] 1) ?_
 refine lE (int .i64 v1.Checker.Start) ?_
 refine q (agg [(int .i64 0), (int .i64 v1.Checker.Start), (sl 0 true []), (sl 0 true [])]) ?_
 refine AOps.allocP rfl rfl rfl rfl ⟨rfl, rfl⟩ rfl ?_
 refine AOps.stP (v := (agg [(int .i64 0), (int .i64 v1.Checker.Start), (sl 0 true []), (sl 0 true [])])) rfl rfl rfl rfl rfl rfl rfl rfl rfl (lt_b rfl) rfl ?_
 refine ns ?_
 refine lE (agg [(int .i64 0), (int .i64 v1.Checker.Start), (sl 0 true []), (sl 0 true [])]) ?_
 refine lE (agg [(int .i64 0), (int .i64 v1.Checker.Start), (sl 0 true []), (sl 0 true [])]) ?_
 refine q (agg [(int .i64 0), (int .i64 v1.Checker.Start), (sl 0 true []), (sl 0 true []), (int .i64 0), (int .i64 v1.Checker.Start), (sl 0 true []), (sl 0 true []), (sl 0 true [])]) ?_
 refine lE (agg [(int .i64 v1.Checker.Stack), (int .i64 v1.Checker.Start), (sl z2 f3 e4), (sl z6 f7 e8), (sl z10 f11 e12), (sl z14 f15 e16), (sl z18 f19 e20)]) ?_
 refine q (agg [(int .i64 0), (int .i64 v1.Checker.Start), (sl 0 true []), (sl 0 true []), (int .i64 0), (int .i64 v1.Checker.Start), (sl 0 true []), (sl 0 true []), (sl 0 true []), (int .i64 v1.Checker.Stack), (int .i64 v1.Checker.Start), (sl z2 f3 e4), (sl z6 f7 e8), (sl z10 f11 e12), (sl z14 f15 e16), (sl z18 f19 e20)]) ?_
 refine AOps.box1 (v := (agg [(int .i64 0), (int .i64 v1.Checker.Start), (sl 0 true []), (sl 0 true []), (int .i64 0), (int .i64 v1.Checker.Start), (sl 0 true []), (sl 0 true []), (sl 0 true []), (int .i64 v1.Checker.Stack), (int .i64 v1.Checker.Start), (sl z2 f3 e4), (sl z6 f7 e8), (sl z10 f11 e12), (sl z14 f15 e16), (sl z18 f19 e20)])) hH0 rfl rfl rfl rfl rfl rfl rfl rfl ?_
 intro b22 s23 hH24
 change HS [] true s s23 (([⟨some b22, [(int .i64 0), (int .i64 v1.Checker.Start), (sl 0 true []), (sl 0 true []), (int .i64 0), (int .i64 v1.Checker.Start), (sl 0 true []), (sl 0 true []), (sl 0 true []), (int .i64 v1.Checker.Stack), (int .i64 v1.Checker.Start), (sl z2 f3 e4), (sl z6 f7 e8), (sl z10 f11 e12), (sl z14 f15 e16), (sl z18 f19 e20)], (fun _ => false)⟩] : List BX) ++ List.flatten ([] : List (List BX))) at hH24
 refine aq (ptr b22 0) ?_
 refine nl ?_
 cases h
 have hG25 := AllG.cons (OS.nil (e := oE2) (k := fun _ => AV.undef) (z := 0) (Or.inr rfl)) hG0
 have hH26 := HS.addNil hH24
 change HS [] true s s23 (([⟨some b22, [(int .i64 0), (int .i64 v1.Checker.Start), (sl 0 true []), (sl 0 true []), (int .i64 0), (int .i64 v1.Checker.Start), (sl 0 true []), (sl 0 true []), (sl 0 true []), (int .i64 v1.Checker.Stack), (int .i64 v1.Checker.Start), (sl z2 f3 e4), (sl z6 f7 e8), (sl z10 f11 e12), (sl z14 f15 e16), (sl z18 f19 e20)], (fun _ => false)⟩] : List BX) ++ List.flatten ([] :: ([] : List (List BX)))) at hH26
 change AllG [OS oE2 (sl 0 true []) (fun _ => AV.undef) ([] : List Int)] ([] :: ([] : List (List BX))) at hG25
 have hG27 := AllG.cons (OS.nil (e := oE2) (k := fun _ => AV.undef) (z := 0) (Or.inr rfl)) hG25
 have hH28 := HS.addNil hH26
 change HS [] true s s23 (([⟨some b22, [(int .i64 0), (int .i64 v1.Checker.Start), (sl 0 true []), (sl 0 true []), (int .i64 0), (int .i64 v1.Checker.Start), (sl 0 true []), (sl 0 true []), (sl 0 true []), (int .i64 v1.Checker.Stack), (int .i64 v1.Checker.Start), (sl z2 f3 e4), (sl z6 f7 e8), (sl z10 f11 e12), (sl z14 f15 e16), (sl z18 f19 e20)], (fun _ => false)⟩] : List BX) ++ List.flatten ([] :: ([] :: ([] : List (List BX))))) at hH28
 change AllG [OS oE2 (sl 0 true []) (fun _ => AV.undef) ([] : List Int), OS oE2 (sl 0 true []) (fun _ => AV.undef) ([] : List Int)] ([] :: ([] :: ([] : List (List BX)))) at hG27
 have hG29 := AllG.cons (OS.nil (e := oE90) (k := fun _ => AV.undef) (z := 0) (Or.inr rfl)) hG27
 have hH30 := HS.addNil hH28
 change HS [] true s s23 (([⟨some b22, [(int .i64 0), (int .i64 v1.Checker.Start), (sl 0 true []), (sl 0 true []), (int .i64 0), (int .i64 v1.Checker.Start), (sl 0 true []), (sl 0 true []), (sl 0 true []), (int .i64 v1.Checker.Stack), (int .i64 v1.Checker.Start), (sl z2 f3 e4), (sl z6 f7 e8), (sl z10 f11 e12), (sl z14 f15 e16), (sl z18 f19 e20)], (fun _ => false)⟩] : List BX) ++ List.flatten ([] :: ([] :: ([] :: ([] : List (List BX)))))) at hH30
 change AllG [OS oE90 (sl 0 true []) (fun _ => AV.undef) ([] : List Parcel), OS oE2 (sl 0 true []) (fun _ => AV.undef) ([] : List Int), OS oE2 (sl 0 true []) (fun _ => AV.undef) ([] : List Int)] ([] :: ([] :: ([] :: ([] : List (List BX))))) at hG29
 obtain ⟨Ls31, hG32, hH33⟩ := HS.selEG hH30 hG29 [some 0] [some 2, some 1, some 0]
 exact AW.ret ⟨_, _, rfl, ⟨b22, (fun _ => false), 0, true, [], (sl 0 true []), (fun _ => AV.undef), 0, true, [], (sl 0 true []), (fun _ => AV.undef), (sl 0 true []), (fun _ => AV.undef), z2, f3, e4, z6, f7, e8, z10, f11, e12, z14, f15, e16, z18, f19, e20, Ls31, rfl, hH33, hG32, (⟨.inr ⟨rfl, rfl⟩, .nil⟩), rfl, (⟨.inr ⟨rfl, rfl⟩, .nil⟩), rfl, rfl, h5, h9, h13, h17, h21⟩⟩
theorem impl_Desk_copied_K1_ok {d1 : Desk} {z2 : Nat} {f3 : Bool} {e4 : List AV} {h6 : AV} {k7 : KT} {s : St} (h5 : LR (rI .i64) 1 d1.Stack z2 e4) (ho8 : h6.one = true) {ex : List Nat} {Ls0 : List (List BX)} (hH0 : HS ex true s s (([] : List BX) ++ List.flatten Ls0)) (hG0 : AllG [OS oE2 h6 k7 d1.Waiting] Ls0) (hl : LoOK ex true s) {r : Desk} (h : impl_Desk_copied_K1 d1 = some r) (hs : WF s) : ACall Cf 42 [(agg [(int .i64 d1.Read), (int .i64 d1.State), (sl z2 f3 e4), h6])] s (fun v _ s' => ∃ (z1' : Nat) (f2' : Bool) (e3' : List AV) (h5' : AV) (k6' : KT) (Ls' : List (List BX)), v = (agg [(int .i64 r.Read), (int .i64 r.State), (sl z1' f2' e3'), h5']) ∧ HS ex true s s' (([] : List BX) ++ List.flatten Ls') ∧ AllG [OS oE2 h6 k7 d1.Waiting, OS oE2 h5' k6' r.Waiting] Ls' ∧ LR (rI .i64) 1 r.Stack z1' e3' ∧ h5'.one = true) true := by
 refine ACall.keepR rfl rfl rfl ?_
 unfold impl_Desk_copied_K1 at h
 refine sr ?_
 refine AOps.boxR (v := (agg [(int .i64 d1.Read), (int .i64 d1.State), (sl z2 f3 e4), h6])) rfl rfl rfl rfl rfl (lay_cons rfl (lay_cons rfl (lay_cons rfl (lay_cons ho8 lay_nil)))) rfl rfl ?_
 refine AOps.allocP rfl rfl rfl rfl ⟨rfl, rfl⟩ rfl ?_
 refine ns ?_
 refine q (eptr [(int .i64 d1.Read), (int .i64 d1.State), (sl z2 f3 e4), h6] 0) ?_
 refine lE (int .i64 d1.Read) ?_
 refine q (eptr [(int .i64 d1.Read), (int .i64 d1.State), (sl z2 f3 e4), h6] 1) ?_
 refine lE (int .i64 d1.State) ?_
 refine q (eptr [(int .i64 d1.Read), (int .i64 d1.State), (sl z2 f3 e4), h6] 2) ?_
 refine lE (sl z2 f3 e4) ?_
 obtain ⟨y9, h10, h⟩ := obind h
 refine AOps.callDPO (g := 69) (args := [(sl z2 f3 e4)]) (p := (rL (rI .i64) 1) y9) rfl rfl rfl (ext_clone69_ok h5 h10 ((HS.wf' hH0).still)) (fun v hv => Nice.pure (k := FINK) (p := (rL (rI .i64) 1) y9) (.L fun _ => .I) _ v hv) ?_
 intro _ h11
 obtain ⟨z12, f13, e14, rfl, h15⟩ := h11
 refine q (eptr [(int .i64 d1.Read), (int .i64 d1.State), (sl z2 f3 e4), h6] 3) ?_
 refine lE h6 ?_
 obtain ⟨y17, h18, h⟩ := obind h
 refine AOps.cloneOE (j := 0) (g := 69) own_int rfl rfl rfl hH0 hG0 rfl Sub.here rfl rfl rfl h18 ?_
 intro h19 k21 Ls22 s23 ho20 hG24 hH25
 change HS ex true s s23 (([] : List BX) ++ List.flatten Ls22) at hH25
 change AllG [OS oE2 h19 k21 y17, OS oE2 h6 k7 d1.Waiting] Ls22 at hG24
 refine AOps.pureR rfl rfl rfl (build_of rfl rfl rfl rfl (fillA_step rfl rfl rfl rfl (le_b rfl) (fillA_step rfl rfl rfl rfl (le_b rfl) (fillA_step rfl rfl rfl rfl (le_b rfl) (fillA_step rfl (one_lay ho20) (AV.cells_one ho20) rfl (le_b rfl) (rfl : fillA _ _ [] = _)))))) rfl (rfl : _ = (agg [(int .i64 d1.Read), (int .i64 d1.State), (sl z12 f13 e14), h19])) ?_
 refine AOps.stP (v := (agg [(int .i64 d1.Read), (int .i64 d1.State), (sl z12 f13 e14), h19])) rfl rfl rfl rfl rfl rfl rfl (lay_cons rfl (lay_cons rfl (lay_cons rfl (lay_cons ho20 lay_nil)))) rfl (lt_b rfl) rfl ?_
 refine nl ?_
 cases h
 obtain ⟨Ls26, hG27, hH28⟩ := HS.selEG hH25 hG24 [] [some 1, some 0]
 exact AW.ret ⟨_, _, rfl, ⟨z12, f13, e14, h19, k21, Ls26, rfl, hH28, hG27, h15, ho20⟩⟩
theorem impl_size_impl_Parcel_okN {list1 : List Parcel} {z2 : Nat} {f3 : Bool} {e4 : List AV} {s : St} (h5 : LR rParcel 2 list1 z2 e4) {r : Int} (h : impl_size_impl_Parcel list1 = some r) (hs : WF s) : ACallN Cf 43 [(sl z2 f3 e4)] s fun v _ s' => (rI .i64) r v ∧ s' = s := by
 refine ACallN.pure rfl rfl rfl .I ?_
 have hWF := hs.lo'
 unfold impl_size_impl_Parcel at h
 refine sr ?_
 refine q (int .i64 0) ?_
 refine ns ?_
 refine q (sl z2 f3 e4) ?_
 refine AOps.p rfl (len_eq h5) ?_
 refine aq (int .i64 (list1.length : Int)) ?_
 refine nl ?_
 cases h
 exact AW.ret ⟨rfl, _, _, rfl, rfl⟩
theorem slices_Index_sint64_int64_ok {s1 : List Int} {v6 : Int} {z2 : Nat} {f3 : Bool} {e4 : List AV} {s : St} (h5 : LR (rI .i64) 1 s1 z2 e4) {r : Int} (h : slices_Index_sint64_int64 s1 v6 = some r) (hs : WF s) : ACall Cf 95 [(sl z2 f3 e4), (int .i64 v6)] s fun v _ s' => (rI .i64) r v ∧ s' = s := by
 refine ACall.pure rfl rfl rfl .I ?_
 have hWF := hs.lo'
 unfold slices_Index_sint64_int64 at h
 refine sr ?_
 refine q (int .i64 0) ?_
 refine nl ?_
 refine AW.seq ?_
 refine sr ?_
 refine q (sl z2 f3 e4) ?_
 refine AOps.p rfl (len_eq h5) ?_
 refine q (int .i64 0) ?_
 refine nl ?_
 refine AW.meet (σ := Unit) (fun _ tm os => ⟨updL tm [], updL os [], { s with lo := s.n }⟩) (fun _ => slices_Index_sint64_int64_J1 = some r) ?_ ?_
 ·rintro _ tm os h
  unfold slices_Index_sint64_int64_J1 at h
  refine sr ?_
  refine q (int .i64 (-1)) ?_
  refine nl ?_
  cases h
  exact AW.ret ⟨rfl, _, _, rfl, rfl⟩
 intro KJ7
 refine AW.block ?_
 refine AW.res [(0, (sl z2 f3 e4)), (1, (int .i64 v6)), (7, (int .i64 (s1.length : Int))), (8, (int .i64 0))] [] ⟨rfl, rfl, rfl, rfl, trivial⟩ trivial ?_
 refine AW.loopF (σ := Int) (τ := Unit) (fun t8 _ => True) (fun t8 _ tm os => ⟨updL tm [(0, (sl z2 f3 e4)), (1, (int .i64 v6)), (7, (int .i64 (s1.length : Int))), (8, (int .i64 t8))], updL os [], { s with lo := s.n }⟩) ?_ (x := (0)) (y := ()) h trivial
 clear h
 rintro t8 _ tm os - ee1 h hL1 hR1
 unfold slices_Index_sint64_int64_S1 at h
 refine sr ?_
 refine q (bool (decide ((t8 : Int) < (s1.length : Int)))) ?_
 refine nl ?_
 refine AW.seq ?_
 rcases oite h with ⟨hc9, h⟩ | ⟨hc9, h⟩
 ·refine AW.condT (congrArg bool hc9) ?_
  refine AW.skip ?_
  refine AW.seq ?_
  refine AW.block ?_
  refine sr ?_
  refine q (int .i64 t8) ?_
  refine aq (int .i64 t8) ?_
  refine ns ?_
  refine q (int .i64 v6) ?_
  refine q (sl z2 f3 e4) ?_
  refine q (int .i64 t8) ?_
  obtain ⟨x10, h11, h⟩ := obind h
  obtain ⟨v14, h12, h13⟩ := idx_sl h5 h11
  cases h12
  refine AOps.pureR rfl rfl rfl h13 rfl (rfl : _ = (eptr [(int .i64 x10)] 0)) ?_
  refine lE (int .i64 x10) ?_
  refine q (bool (v6 == x10)) ?_
  refine nl ?_
  rcases oite h with ⟨hc15, h⟩ | ⟨hc15, h⟩
  ·refine AW.condT (congrArg bool hc15) ?_
   refine sr ?_
   refine q (int .i64 t8) ?_
   refine aq (int .i64 t8) ?_
   refine nl ?_
   cases h
   have hr := hR1 _ rfl
   subst hr
   exact AW.ret ⟨rfl, _, _, rfl, rfl⟩
  refine AW.condF (congrArg bool hc15) ?_
  refine AW.skip ?_
  refine AW.inBlock ?_
  refine AW.region ?_
  refine q (int .i64 (IntKind.wrap .i64 (t8 + 1))) ?_
  refine q (int .i64 (IntKind.wrap .i64 (t8 + 1))) ?_
  refine nl ?_
  cases h
  exact AW.res [(0, (sl z2 f3 e4)), (1, (int .i64 v6)), (7, (int .i64 (s1.length : Int))), (8, (int .i64 (IntKind.wrap .i64 (t8 + 1))))] [] ⟨rfl, rfl, rfl, rfl, trivial⟩ trivial (hL1 _ rfl () _ _ trivial)
 refine AW.condF (congrArg bool hc9) ?_
 refine AW.exit rfl ?_
 obtain ⟨r16, hm, hx⟩ := omap h
 clear h
 subst hx
 have hx := hR1 _ rfl
 rw [hx] at hm
 have h := hm
 exact AW.res [] [] trivial trivial (KJ7 () _ _ h)
theorem slices_Contains_sint64_int64_okN {s1 : List Int} {v6 : Int} {z2 : Nat} {f3 : Bool} {e4 : List AV} {s : St} (h5 : LR (rI .i64) 1 s1 z2 e4) {r : Bool} (h : slices_Contains_sint64_int64 s1 v6 = some r) (hs : WF s) : ACallN Cf 70 [(sl z2 f3 e4), (int .i64 v6)] s fun v _ s' => (rB) r v ∧ s' = s := by
 refine ACallN.pure rfl rfl rfl .B ?_
 have hWF := hs.lo'
 unfold slices_Contains_sint64_int64 at h
 refine sr ?_
 refine q (bool false) ?_
 refine ns ?_
 refine q (sl z2 f3 e4) ?_
 refine q (int .i64 v6) ?_
 obtain ⟨y7, h8, h⟩ := obind h
 refine AOps.callP (g := 95) (args := [(sl z2 f3 e4), (int .i64 v6)]) (p := (rI .i64) y7) rfl rfl rfl (slices_Index_sint64_int64_ok h5 h8 hWF) ?_
 intro _ o10 h9
 cases h9
 refine q (bool (decide ((y7 : Int) ≥ 0))) ?_
 refine aq (bool (decide ((y7 : Int) ≥ 0))) ?_
 refine nl ?_
 cases h
 exact AW.ret ⟨rfl, _, _, rfl, rfl⟩
theorem impl_Checker_end_1_F1_ok {s1 c710 : Int} {rest2 c1114 : List Int} {z3 b8 b12 z15 : Nat} {f4 f16 : Bool} {e5 e17 : List AV} {w9 w13 : Nat → Bool} {s : St} (h6 : LR (rI .i64) 1 rest2 z3 e5) (h18 : LR (rI .i64) 1 c1114 z15 e17) (hE : HS [b8, b12] false s { s with lo := s.n } [⟨some b8, [(int .i64 c710)], w9⟩, ⟨some b12, [(sl z15 f16 e17)], w13⟩]) {r : Unit × Int × (List Int)} (h : impl_Checker_end_1_F1 s1 rest2 c710 c1114 = some r) (hs : WF s) : ACall Cf 99 [(int .i64 s1), (sl z3 f4 e5), (ptr b8 0), (ptr b12 0)] s fun v _ s' => (fun (_ : Unit) => rT []) r.1 v ∧ ∃ (w0' : Nat → Bool) (w1' : Nat → Bool) (z1' : Nat) (f1' : Bool) (e1' : List AV), Fx [b8, b12] s s' [⟨some b8, [(int .i64 r.2.1)], w0'⟩, ⟨some b12, [(sl z1' f1' e1')], w1'⟩] ∧ LR (rI .i64) 1 r.2.2 z1' e1' := by
 refine ACall.foreign rfl rfl rfl ?_
 unfold impl_Checker_end_1_F1 at h
 refine AW.region ?_
 refine q (int .i64 s1) ?_
 refine q (sl z3 f4 e5) ?_
 refine AOps.stX (i := 0) (v := (int .i64 s1)) hE rfl rfl rfl rfl rfl rfl rfl rfl rfl (lt_b rfl) (le_b rfl) rfl rfl ?_
 intro w19 s20 h21 h22 hH23
 change HS [b8, b12] false s s20 [⟨some b8, [(int .i64 s1)], w19⟩, ⟨some b12, [(sl z15 f16 e17)], w13⟩] at hH23
 refine AOps.stX (i := 1) (v := (sl z3 f4 e5)) hH23 rfl rfl rfl rfl rfl rfl rfl rfl rfl (lt_b rfl) (le_b rfl) rfl (Nice.pure (k := FINK) (p := (rL (rI .i64) 1) rest2) (.L fun _ => .I) 0 _ ⟨_, _, _, rfl, h6⟩) ?_
 intro w24 s25 h26 h27 hH28
 change HS [b8, b12] false s s25 [⟨some b8, [(int .i64 s1)], w19⟩, ⟨some b12, [(sl z3 f4 e5)], w24⟩] at hH28
 refine nl ?_
 cases h
 exact AW.nil ⟨_, _, rfl, finF (p := (fun (_ : Unit) => rT []) ()) (Fin.T .nil) ⟨w19, w24, z3, f4, e5, HS.leaveP hH28 [0, 1] rfl, h6⟩⟩
theorem impl_kindOf_ok {c1 r : Int} {s : St} (h : impl_kindOf c1 = some r) (hs : WF s) : ACall Cf 130 [(int .u8 c1)] s fun v _ s' => (rI .i64) r v ∧ s' = s := by
 refine ACall.pure rfl rfl rfl .I ?_
 have hWF := hs.lo'
 unfold impl_kindOf at h
 refine sr ?_
 refine q (int .i64 0) ?_
 refine ns ?_
 refine q (int .u8 c1) ?_
 obtain ⟨y2, h3, h⟩ := obind h
 refine AOps.callP (g := 91) (args := [(str ([40, 91, 41, 93, 97, 98] : List UInt8)), (int .u8 c1)]) (p := (rI .i64) y2) rfl rfl rfl (strings_IndexByte_ok  h3 hWF) ?_
 intro _ o5 h4
 cases h4
 obtain ⟨q6, h7, h⟩ := obind h
 refine AOps.pureR rfl rfl rfl (rem_ok h7) rfl (rfl : _ = (int .i64 q6)) ?_
 refine aq (int .i64 q6) ?_
 refine nl ?_
 cases h
 exact AW.ret ⟨rfl, _, _, rfl, rfl⟩
theorem impl_isCall_ok {c1 : Int} {s : St} {r : Bool} (h : impl_isCall c1 = some r) (hs : WF s) : ACall Cf 131 [(int .u8 c1)] s fun v _ s' => (rB) r v ∧ s' = s := by
 refine ACall.pure rfl rfl rfl .B ?_
 have hWF := hs.lo'
 unfold impl_isCall at h
 refine sr ?_
 refine q (bool false) ?_
 refine ns ?_
 refine q (int .u8 c1) ?_
 refine q (bool (c1 == 40)) ?_
 refine q (bool (c1 == 40)) ?_
 refine AOps.split 3 (fun f' => ∃ tm' os', f' = ⟨updL tm' [(8, (bool ((c1 == 40) || (c1 == 91))))], updL os' [], { s with lo := s.n }⟩) ?_ ?_
 ·rcases Bool.eq_false_or_eq_true (c1 == 40) with hc2 | hc2
  ·refine AOps.know (d := 5) rfl hc2 ?_
   refine sk ?_
   refine sk ?_
   refine q (bool true) ?_
   refine AOps.resR [(8, (bool ((c1 == 40) || (c1 == 91))))] [] ?_ ?_ _ ⟨_, _, rfl⟩
   ·exact ⟨congrArg bool (or_t hc2), trivial⟩
   exact trivial
  ·refine AOps.know (d := 5) rfl hc2 ?_
   refine q (int .u8 c1) ?_
   refine q (bool (c1 == 91)) ?_
   refine q (bool (c1 == 91)) ?_
   refine AOps.resR [(8, (bool ((c1 == 40) || (c1 == 91))))] [] ?_ ?_ _ ⟨_, _, rfl⟩
   ·exact ⟨congrArg bool (or_f hc2), trivial⟩
   exact trivial
 rintro _ ⟨tm, os, rfl⟩
 refine aq (bool ((c1 == 40) || (c1 == 91))) ?_
 refine nl ?_
 cases h
 exact AW.ret ⟨rfl, _, _, rfl, rfl⟩
theorem impl_isInner_ok {c1 : Int} {s : St} {r : Bool} (h : impl_isInner c1 = some r) (hs : WF s) : ACall Cf 132 [(int .u8 c1)] s fun v _ s' => (rB) r v ∧ s' = s := by
 refine ACall.pure rfl rfl rfl .B ?_
 have hWF := hs.lo'
 unfold impl_isInner at h
 refine sr ?_
 refine q (bool false) ?_
 refine ns ?_
 refine q (int .u8 c1) ?_
 refine q (bool (c1 == 97)) ?_
 refine q (bool (c1 == 97)) ?_
 refine AOps.split 3 (fun f' => ∃ tm' os', f' = ⟨updL tm' [(8, (bool ((c1 == 97) || (c1 == 98))))], updL os' [], { s with lo := s.n }⟩) ?_ ?_
 ·rcases Bool.eq_false_or_eq_true (c1 == 97) with hc2 | hc2
  ·refine AOps.know (d := 5) rfl hc2 ?_
   refine sk ?_
   refine sk ?_
   refine q (bool true) ?_
   refine AOps.resR [(8, (bool ((c1 == 97) || (c1 == 98))))] [] ?_ ?_ _ ⟨_, _, rfl⟩
   ·exact ⟨congrArg bool (or_t hc2), trivial⟩
   exact trivial
  ·refine AOps.know (d := 5) rfl hc2 ?_
   refine q (int .u8 c1) ?_
   refine q (bool (c1 == 98)) ?_
   refine q (bool (c1 == 98)) ?_
   refine AOps.resR [(8, (bool ((c1 == 97) || (c1 == 98))))] [] ?_ ?_ _ ⟨_, _, rfl⟩
   ·exact ⟨congrArg bool (or_f hc2), trivial⟩
   exact trivial
 rintro _ ⟨tm, os, rfl⟩
 refine aq (bool ((c1 == 97) || (c1 == 98))) ?_
 refine nl ?_
 cases h
 exact AW.ret ⟨rfl, _, _, rfl, rfl⟩
theorem impl_Checker_step_ok {p1 : Checker} {p1_18 p3_24 : Int} {p2_19 : List Int} {z2 z6 z10 z14 z20 : Nat} {f3 f7 f11 f15 f21 : Bool} {e4 e8 e12 e16 e22 : List AV} {s : St} (h5 : LR rB 1 p1.Accept z2 e4) (h9 : LR (rL rPush 2) 1 p1.Call z6 e8) (h13 : LR (rL (rL (rI .i64) 1) 1) 1 p1.Return z10 e12) (h17 : LR (rL (rI .i64) 1) 1 p1.Inner z14 e16) (h23 : LR (rI .i64) 1 p2_19 z20 e22) {r : Int × (List Int)} (h : impl_Checker_step p1 p1_18 p2_19 p3_24 = some r) (hs : WF s) : ACall Cf 119 [(agg [(int .i64 p1.Stack), (int .i64 p1.Start), (sl z2 f3 e4), (sl z6 f7 e8), (sl z10 f11 e12), (sl z14 f15 e16)]), (int .i64 p1_18), (sl z20 f21 e22), (int .u8 p3_24)] s fun v _ s' => (fun x => rT [(rI .i64) x.1, (rL (rI .i64) 1) x.2]) r v ∧ s' = s := by
 refine ACall.pure rfl rfl rfl (.T (.cons .I (.cons (.L fun _ => .I) .nil))) ?_
 have hWF := hs.lo'
 unfold impl_Checker_step at h
 refine sr ?_
 refine AOps.makeR rfl rfl rfl rfl rfl rfl (rfl : _ = (eptr [(int .i64 p1.Stack), (int .i64 p1.Start), (sl z2 f3 e4), (sl z6 f7 e8), (sl z10 f11 e12), (sl z14 f15 e16)] 0)) ?_
 refine q (int .i64 0) ?_
 refine q (sl 0 true []) ?_
 refine ns ?_
 refine q (int .u8 p3_24) ?_
 obtain ⟨y25, h26, h⟩ := obind h
 refine AOps.callP (g := 130) (args := [(int .u8 p3_24)]) (p := (rI .i64) y25) rfl rfl rfl (impl_kindOf_ok  h26 hWF) ?_
 intro _ o28 h27
 cases h27
 refine aq (int .i64 y25) ?_
 refine nl ?_
 refine AW.seq ?_
 refine AW.block ?_
 refine sr ?_
 refine q (int .u8 p3_24) ?_
 obtain ⟨y29, h30, h⟩ := obind h
 refine AOps.callP (g := 131) (args := [(int .u8 p3_24)]) (p := (rB) y29) rfl rfl rfl (impl_isCall_ok  h30 hWF) ?_
 intro _ o32 h31
 cases h31
 refine aq (bool y29) ?_
 refine nl ?_
 rcases oite h with ⟨hc33, h⟩ | ⟨hc33, h⟩
 ·refine AW.condT (congrArg bool hc33) ?_
  refine sr ?_
  refine q (eptr [(int .i64 p1.Stack), (int .i64 p1.Start), (sl z2 f3 e4), (sl z6 f7 e8), (sl z10 f11 e12), (sl z14 f15 e16)] 3) ?_
  refine lE (sl z6 f7 e8) ?_
  refine q (int .i64 p1_18) ?_
  obtain ⟨x34, h35, h⟩ := obind h
  obtain ⟨v38, h36, h37⟩ := idx_sl h9 h35
  obtain ⟨z39, f40, e41, rfl, h42⟩ := h36
  refine AOps.pureR rfl rfl rfl h37 rfl (rfl : _ = (eptr [(sl z39 f40 e41)] 0)) ?_
  refine lE (sl z39 f40 e41) ?_
  refine q (int .i64 y25) ?_
  obtain ⟨x43, h44, h⟩ := obind h
  obtain ⟨v47, h45, h46⟩ := idx_sl h42 h44
  obtain ⟨_, rfl, h48⟩ := h45
  obtain ⟨_, _, rfl, h49, h50⟩ := Cs_cons h48
  cases h49
  obtain ⟨_, _, rfl, h51, h52⟩ := Cs_cons h50
  cases h51
  cases Cs_nil h52
  refine AOps.pureR rfl rfl rfl h46 rfl (rfl : _ = (eptr [(int .i64 x43.To), (int .i64 x43.Put)] 0)) ?_
  refine lE (agg [(int .i64 x43.To), (int .i64 x43.Put)]) ?_
  refine AOps.allocP rfl rfl rfl rfl ⟨rfl, rfl⟩ rfl ?_
  refine AOps.stP (v := (agg [(int .i64 x43.To), (int .i64 x43.Put)])) rfl rfl rfl rfl rfl rfl rfl rfl rfl (lt_b rfl) rfl ?_
  refine ns ?_
  refine q (eptr [(int .i64 x43.To), (int .i64 x43.Put)] 0) ?_
  refine lE (int .i64 x43.To) ?_
  refine q (sl z20 f21 e22) ?_
  obtain ⟨y53, h54, h⟩ := obind h
  refine AOps.callDPO (g := 69) (args := [(sl z20 f21 e22)]) (p := (rL (rI .i64) 1) y53) rfl rfl rfl (ext_clone69_ok h23 h54 hWF.still) (fun v hv => Nice.pure (k := FINK) (p := (rL (rI .i64) 1) y53) (.L fun _ => .I) _ v hv) ?_
  intro _ h55
  obtain ⟨z56, f57, e58, rfl, h59⟩ := h55
  refine q (eptr [(int .i64 x43.To), (int .i64 x43.Put)] 1) ?_
  refine lE (int .i64 x43.Put) ?_
  refine AOps.makeR rfl rfl rfl rfl rfl rfl (rfl : _ = (sl 1 true [(int .i64 x43.Put)])) ?_
  obtain ⟨l61, h62, h⟩ := obind h
  obtain ⟨h63, h64⟩ := app_LR h59 (LR.lit (r := rI .i64) (sz := 1) (.cons rfl .nil)) h62
  refine AOps.appL (z := z56) (f := f57) (e := e58) (z' := 1) (f' := true) (e' := [(int .i64 x43.Put)]) rfl rfl rfl rfl rfl rfl rfl (appSrc_sl (LR.z (LR.lit (r := rI .i64) (sz := 1) (.cons rfl .nil))) rfl) (LR.z h59) ⟨by decide, by decide, rfl, rfl⟩ rfl rfl h64 (Or.inr ⟨30, rfl, rfl⟩) ?_
  refine aq (int .i64 x43.To) ?_
  refine aq (sl 1 false (e58 ++ [(int .i64 x43.Put)])) ?_
  refine nl ?_
  cases h
  exact AW.ret ⟨rfl, _, _, rfl, ⟨_, rfl, (.cons rfl (.cons ⟨_, _, _, rfl, h63⟩ .nil))⟩⟩
 refine AW.condF (congrArg bool hc33) ?_
 refine sr ?_
 refine q (int .u8 p3_24) ?_
 obtain ⟨y65, h66, h⟩ := obind h
 refine AOps.callP (g := 132) (args := [(int .u8 p3_24)]) (p := (rB) y65) rfl rfl rfl (impl_isInner_ok  h66 hWF) ?_
 intro _ o68 h67
 cases h67
 refine aq (bool y65) ?_
 refine nl ?_
 rcases oite h with ⟨hc69, h⟩ | ⟨hc69, h⟩
 ·refine AW.condT (congrArg bool hc69) ?_
  refine sr ?_
  refine q (eptr [(int .i64 p1.Stack), (int .i64 p1.Start), (sl z2 f3 e4), (sl z6 f7 e8), (sl z10 f11 e12), (sl z14 f15 e16)] 5) ?_
  refine lE (sl z14 f15 e16) ?_
  refine q (int .i64 p1_18) ?_
  obtain ⟨x70, h71, h⟩ := obind h
  obtain ⟨v74, h72, h73⟩ := idx_sl h17 h71
  obtain ⟨z75, f76, e77, rfl, h78⟩ := h72
  refine AOps.pureR rfl rfl rfl h73 rfl (rfl : _ = (eptr [(sl z75 f76 e77)] 0)) ?_
  refine lE (sl z75 f76 e77) ?_
  refine q (int .i64 y25) ?_
  obtain ⟨x79, h80, h⟩ := obind h
  obtain ⟨v83, h81, h82⟩ := idx_sl h78 h80
  cases h81
  refine AOps.pureR rfl rfl rfl h82 rfl (rfl : _ = (eptr [(int .i64 x79)] 0)) ?_
  refine lE (int .i64 x79) ?_
  refine q (sl z20 f21 e22) ?_
  refine aq (int .i64 x79) ?_
  refine aq (sl z20 f21 e22) ?_
  refine nl ?_
  cases h
  exact AW.ret ⟨rfl, _, _, rfl, ⟨_, rfl, (.cons rfl (.cons ⟨_, _, _, rfl, h23⟩ .nil))⟩⟩
 refine AW.condF (congrArg bool hc69) ?_
 refine AW.skip ?_
 refine AW.inBlock ?_
 refine sr ?_
 refine q (eptr [(int .i64 p1.Stack), (int .i64 p1.Start), (sl z2 f3 e4), (sl z6 f7 e8), (sl z10 f11 e12), (sl z14 f15 e16)] 0) ?_
 refine lE (int .i64 p1.Stack) ?_
 refine aq (int .i64 p1.Stack) ?_
 refine nl ?_
 refine AW.seq ?_
 refine sr ?_
 refine q (sl z20 f21 e22) ?_
 refine AOps.p rfl (len_eq h23) ?_
 refine aq (int .i64 (p2_19.length : Int)) ?_
 refine ns ?_
 refine q (int .i64 (p2_19.length : Int)) ?_
 refine q (bool (decide (((p2_19.length : Int) : Int) > 0))) ?_
 refine nl ?_
 refine AW.meet (σ := (List Int) × Int × Nat × Bool × (List AV)) (fun (t84, t89, z85, f86, e87) tm os => ⟨updL tm [(1, (int .i64 p1_18)), (2, (sl z85 f86 e87)), (4, (eptr [(int .i64 p1.Stack), (int .i64 p1.Start), (sl z2 f3 e4), (sl z6 f7 e8), (sl z10 f11 e12), (sl z14 f15 e16)] 0)), (10, (int .i64 y25)), (12, (int .i64 t89))], updL os [], { s with lo := s.n }⟩) (fun (t84, t89, z85, f86, e87) => (LR (rI .i64) 1 t84 z85 e87) ∧ impl_Checker_step_J1 p1 p1_18 y25 t84 t89 = some r) ?_ ?_
 ·rintro ⟨t84, t89, z85, f86, e87⟩ tm os ⟨h88, h⟩
  unfold impl_Checker_step_J1 at h
  refine sr ?_
  refine q (eptr [(int .i64 p1.Stack), (int .i64 p1.Start), (sl z2 f3 e4), (sl z6 f7 e8), (sl z10 f11 e12), (sl z14 f15 e16)] 4) ?_
  refine lE (sl z10 f11 e12) ?_
  refine q (int .i64 p1_18) ?_
  obtain ⟨x91, h92, h⟩ := obind h
  obtain ⟨v95, h93, h94⟩ := idx_sl h13 h92
  obtain ⟨z96, f97, e98, rfl, h99⟩ := h93
  refine AOps.pureR rfl rfl rfl h94 rfl (rfl : _ = (eptr [(sl z96 f97 e98)] 0)) ?_
  refine lE (sl z96 f97 e98) ?_
  refine q (int .i64 y25) ?_
  obtain ⟨x100, h101, h⟩ := obind h
  obtain ⟨v104, h102, h103⟩ := idx_sl h99 h101
  obtain ⟨z105, f106, e107, rfl, h108⟩ := h102
  refine AOps.pureR rfl rfl rfl h103 rfl (rfl : _ = (eptr [(sl z105 f106 e107)] 0)) ?_
  refine lE (sl z105 f106 e107) ?_
  refine q (int .i64 t89) ?_
  obtain ⟨x109, h110, h⟩ := obind h
  obtain ⟨v113, h111, h112⟩ := idx_sl h108 h110
  cases h111
  refine AOps.pureR rfl rfl rfl h112 rfl (rfl : _ = (eptr [(int .i64 x109)] 0)) ?_
  refine lE (int .i64 x109) ?_
  refine q (sl z85 f86 e87) ?_
  refine aq (int .i64 x109) ?_
  refine aq (sl z85 f86 e87) ?_
  refine nl ?_
  cases h
  exact AW.ret ⟨rfl, _, _, rfl, ⟨_, rfl, (.cons rfl (.cons ⟨_, _, _, rfl, h88⟩ .nil))⟩⟩
 intro KJ90
 rcases oite h with ⟨hc114, h⟩ | ⟨hc114, h⟩
 ·refine AW.condT (congrArg bool hc114) ?_
  refine AW.region ?_
  refine q (sl z20 f21 e22) ?_
  refine q (int .i64 (p2_19.length : Int)) ?_
  refine q (int .i64 (IntKind.wrap .i64 ((p2_19.length : Int) - 1))) ?_
  obtain ⟨x115, h116, h⟩ := obind h
  obtain ⟨v119, h117, h118⟩ := idx_sl h23 h116
  cases h117
  refine AOps.pureR rfl rfl rfl h118 rfl (rfl : _ = (eptr [(int .i64 x115)] 0)) ?_
  refine lE (int .i64 x115) ?_
  refine q (sl z20 f21 e22) ?_
  refine q (int .i64 (p2_19.length : Int)) ?_
  refine q (int .i64 (IntKind.wrap .i64 ((p2_19.length : Int) - 1))) ?_
  obtain ⟨l120, h121, h⟩ := obind h
  obtain ⟨f122, e123, h124, h125⟩ := cut_slH f21 h23 h121
  refine AOps.pureR rfl rfl rfl h125 rfl (rfl : _ = (sl z20 f122 e123)) ?_
  refine aq (int .i64 x115) ?_
  refine aq (sl z20 f122 e123) ?_
  refine nl ?_
  exact AW.res [(1, (int .i64 p1_18)), (2, (sl z20 f122 e123)), (4, (eptr [(int .i64 p1.Stack), (int .i64 p1.Start), (sl z2 f3 e4), (sl z6 f7 e8), (sl z10 f11 e12), (sl z14 f15 e16)] 0)), (10, (int .i64 y25)), (12, (int .i64 x115))] [] ⟨rfl, rfl, rfl, rfl, rfl, trivial⟩ trivial (KJ90 (l120, x115, z20, f122, e123) _ _ ⟨h124, h⟩)
 refine AW.condF (congrArg bool hc114) ?_
 refine AW.skip ?_
 exact AW.res [(1, (int .i64 p1_18)), (2, (sl z20 f21 e22)), (4, (eptr [(int .i64 p1.Stack), (int .i64 p1.Start), (sl z2 f3 e4), (sl z6 f7 e8), (sl z10 f11 e12), (sl z14 f15 e16)] 0)), (10, (int .i64 y25)), (12, (int .i64 p1.Stack))] [] ⟨rfl, rfl, rfl, rfl, rfl, trivial⟩ trivial (KJ90 (p2_19, p1.Stack, z20, f21, e22) _ _ ⟨h23, h⟩)
theorem impl_Checker_run_F1_ok {c1 : Checker} {state18 c2629 : Int} {stack19 c3033 : List Int} {w24 : List UInt8} {z2 z6 z10 z14 z20 b27 b31 z34 : Nat} {f3 f7 f11 f15 f21 f35 : Bool} {e4 e8 e12 e16 e22 e36 : List AV} {w28 w32 : Nat → Bool} {s : St} (h5 : LR rB 1 c1.Accept z2 e4) (h9 : LR (rL rPush 2) 1 c1.Call z6 e8) (h13 : LR (rL (rL (rI .i64) 1) 1) 1 c1.Return z10 e12) (h17 : LR (rL (rI .i64) 1) 1 c1.Inner z14 e16) (h23 : LR (rI .i64) 1 stack19 z20 e22) (h37 : LR (rI .i64) 1 c3033 z34 e36) (hE : HS [b27, b31] false s { s with lo := s.n } [⟨some b27, [(int .i64 c2629)], w28⟩, ⟨some b31, [(sl z34 f35 e36)], w32⟩]) {r : Unit × Int × (List Int)} (h : impl_Checker_run_F1 c1 state18 stack19 w24 c2629 c3033 = some r) (hs : WF s) : ACall Cf 98 [(agg [(int .i64 c1.Stack), (int .i64 c1.Start), (sl z2 f3 e4), (sl z6 f7 e8), (sl z10 f11 e12), (sl z14 f15 e16)]), (int .i64 state18), (sl z20 f21 e22), (str w24), (AV.fn 99 [(ptr b27 0), (ptr b31 0)])] s fun v _ s' => (fun (_ : Unit) => rT []) r.1 v ∧ ∃ (w0' : Nat → Bool) (w1' : Nat → Bool) (z1' : Nat) (f1' : Bool) (e1' : List AV), Fx [b27, b31] s s' [⟨some b27, [(int .i64 r.2.1)], w0'⟩, ⟨some b31, [(sl z1' f1' e1')], w1'⟩] ∧ LR (rI .i64) 1 r.2.2 z1' e1' := by
 refine ACall.foreign rfl rfl rfl ?_
 unfold impl_Checker_run_F1 at h
 refine sr ?_
 refine AOps.makeR rfl rfl rfl rfl rfl rfl (rfl : _ = (eptr [(int .i64 c1.Stack), (int .i64 c1.Start), (sl z2 f3 e4), (sl z6 f7 e8), (sl z10 f11 e12), (sl z14 f15 e16)] 0)) ?_
 refine ns ?_
 refine q (AV.fn 99 [(ptr b27 0), (ptr b31 0)]) ?_
 refine q (int .i64 state18) ?_
 refine q (sl z20 f21 e22) ?_
 obtain ⟨y38, h39, h⟩ := obind h
 refine AOps.callF (g := 99) (args := [(int .i64 state18), (sl z20 f21 e22), (ptr b27 0), (ptr b31 0)]) rfl rfl rfl (impl_Checker_end_1_F1_ok h23 h37 (HS.enterP hE [0, 1] [b27, b31] rfl (by decide)) h39 (HS.wf' hE)) ?_
 intro _ o45 s42 h44
 obtain ⟨h40, w46, w47, z48, f49, e50, h41, h51⟩ := h44
 have hH43 := HS.callP hE [0, 1] h41 rfl rfl
 change HS [b27, b31] false s s42 [⟨some b27, [(int .i64 y38.2.1)], w46⟩, ⟨some b31, [(sl z48 f49 e50)], w47⟩] at hH43
 cases h40
 refine ns ?_
 refine q (str w24) ?_
 refine q (int .i64 (w24.length : Int)) ?_
 refine q (int .i64 0) ?_
 refine nl ?_
 refine AW.meet (σ := Int × (List Int) × (Nat → Bool) × (Nat → Bool) × Nat × Bool × (List AV) × St) (fun (m53, m55, w52, w54, z56, f57, e58, s60) tm os => ⟨updL tm [], updL os [], s60⟩) (fun (m53, m55, w52, w54, z56, f57, e58, s60) => (LR (rI .i64) 1 m55 z56 e58) ∧ (HS [b27, b31] false s s60 [⟨some b27, [(int .i64 m53)], w52⟩, ⟨some b31, [(sl z56 f57 e58)], w54⟩]) ∧ impl_Checker_run_F1_J1 m53 m55 = some r) ?_ ?_
 ·rintro ⟨m53, m55, w52, w54, z56, f57, e58, s60⟩ tm os ⟨h59, hH61, h⟩
  unfold impl_Checker_run_F1_J1 at h
  cases h
  exact AW.nil ⟨_, _, rfl, finF (p := (fun (_ : Unit) => rT []) ()) (Fin.T .nil) ⟨w52, w54, z56, f57, e58, HS.leaveP hH61 [0, 1] rfl, h59⟩⟩
 intro KJ62
 refine AW.block ?_
 refine AW.res [(1, (int .i64 state18)), (2, (sl z20 f21 e22)), (3, (str w24)), (4, (AV.fn 99 [(ptr b27 0), (ptr b31 0)])), (5, (eptr [(int .i64 c1.Stack), (int .i64 c1.Start), (sl z2 f3 e4), (sl z6 f7 e8), (sl z10 f11 e12), (sl z14 f15 e16)] 0)), (16, (int .i64 (w24.length : Int))), (17, (int .i64 0))] [] ⟨rfl, rfl, rfl, rfl, rfl, rfl, rfl, trivial⟩ trivial ?_
 refine AW.loopF (σ := Int × (List Int) × Int × (List Int) × Int) (τ := Nat × Bool × (List AV) × (Nat → Bool) × (Nat → Bool) × Nat × Bool × (List AV) × St) (fun (state63, stack64, m70, m72, t77) (z65, f66, e67, w69, w71, z73, f74, e75, s78) => (LR (rI .i64) 1 stack64 z65 e67) ∧ (LR (rI .i64) 1 m72 z73 e75) ∧ (HS [b27, b31] false s s78 [⟨some b27, [(int .i64 m70)], w69⟩, ⟨some b31, [(sl z73 f74 e75)], w71⟩])) (fun (state63, stack64, m70, m72, t77) (z65, f66, e67, w69, w71, z73, f74, e75, s78) tm os => ⟨updL tm [(1, (int .i64 state63)), (2, (sl z65 f66 e67)), (3, (str w24)), (4, (AV.fn 99 [(ptr b27 0), (ptr b31 0)])), (5, (eptr [(int .i64 c1.Stack), (int .i64 c1.Start), (sl z2 f3 e4), (sl z6 f7 e8), (sl z10 f11 e12), (sl z14 f15 e16)] 0)), (16, (int .i64 (w24.length : Int))), (17, (int .i64 t77))], updL os [], s78⟩) ?_ (x := (state18, stack19, y38.2.1, y38.2.2, 0)) (y := (z20, f21, e22, w46, w47, z48, f49, e50, s42)) h ⟨h23, h51, (HS.sel hH43 [some 0, some 1] (by decide))⟩
 clear h
 rintro ⟨state63, stack64, m70, m72, t77⟩ ⟨z65, f66, e67, w69, w71, z73, f74, e75, s78⟩ tm os ⟨h68, h76, hH79⟩ ee1 h hL1 hR1
 unfold impl_Checker_run_F1_S1 at h
 dsimp only at h
 refine sr ?_
 refine q (bool (decide ((t77 : Int) < (w24.length : Int)))) ?_
 refine nl ?_
 refine AW.seq ?_
 rcases oite h with ⟨hc80, h⟩ | ⟨hc80, h⟩
 ·refine AW.condT (congrArg bool hc80) ?_
  refine AW.skip ?_
  refine AW.seq ?_
  refine AW.block ?_
  refine sr ?_
  refine q (int .i64 t77) ?_
  refine aq (int .i64 t77) ?_
  refine ns ?_
  refine lE (agg [(int .i64 c1.Stack), (int .i64 c1.Start), (sl z2 f3 e4), (sl z6 f7 e8), (sl z10 f11 e12), (sl z14 f15 e16)]) ?_
  refine q (int .i64 state63) ?_
  refine q (sl z65 f66 e67) ?_
  refine q (str w24) ?_
  refine q (int .i64 t77) ?_
  obtain ⟨c81, h82, h⟩ := obind h
  refine AOps.pureR rfl rfl rfl (chr_str h82) rfl (rfl : _ = (int .u8 c81)) ?_
  obtain ⟨y83, h84, h⟩ := obind h
  refine AOps.callDP (g := 119) (args := [(agg [(int .i64 c1.Stack), (int .i64 c1.Start), (sl z2 f3 e4), (sl z6 f7 e8), (sl z10 f11 e12), (sl z14 f15 e16)]), (int .i64 state63), (sl z65 f66 e67), (int .u8 c81)]) (p := (fun x => rT [(rI .i64) x.1, (rL (rI .i64) 1) x.2]) y83) rfl rfl rfl (impl_Checker_step_ok h5 h9 h13 h17 h68 h84 ((HS.wf' hH79).still)) (fun v hv => Nice.pure (k := FINK) (p := (fun x => rT [(rI .i64) x.1, (rL (rI .i64) 1) x.2]) y83) (.T (.cons .I (.cons (.L fun _ => .I) .nil))) _ v hv) ?_
  intro _ o95 h85
  obtain ⟨_, rfl, h86⟩ := h85
  obtain ⟨_, _, rfl, h87, h88⟩ := Cs_cons h86
  cases h87
  obtain ⟨_, _, rfl, h89, h90⟩ := Cs_cons h88
  obtain ⟨z91, f92, e93, rfl, h94⟩ := h89
  cases Cs_nil h90
  refine q (AV.tup [(int .i64 y83.1), (sl z91 f92 e93)]) ?_
  refine q (int .i64 y83.1) ?_
  refine q (sl z91 f92 e93) ?_
  refine aq (int .i64 y83.1) ?_
  refine aq (sl z91 f92 e93) ?_
  refine nl ?_
  refine AW.region ?_
  refine q (AV.fn 99 [(ptr b27 0), (ptr b31 0)]) ?_
  refine q (int .i64 y83.1) ?_
  refine q (sl z91 f92 e93) ?_
  obtain ⟨y96, h97, h⟩ := obind h
  refine AOps.callF (g := 99) (args := [(int .i64 y83.1), (sl z91 f92 e93), (ptr b27 0), (ptr b31 0)]) rfl rfl rfl (impl_Checker_end_1_F1_ok h94 h76 (HS.enterP hH79 [0, 1] [b27, b31] rfl (by decide)) h97 (HS.wf' hH79)) ?_
  intro _ o103 s100 h102
  obtain ⟨h98, w104, w105, z106, f107, e108, h99, h109⟩ := h102
  have hH101 := HS.callP hH79 [0, 1] h99 rfl rfl
  change HS [b27, b31] false s s100 [⟨some b27, [(int .i64 y96.2.1)], w104⟩, ⟨some b31, [(sl z106 f107 e108)], w105⟩] at hH101
  cases h98
  refine nl ?_
  refine AW.inBlock ?_
  refine AW.region ?_
  refine q (int .i64 (IntKind.wrap .i64 (t77 + 1))) ?_
  refine q (int .i64 (IntKind.wrap .i64 (t77 + 1))) ?_
  refine nl ?_
  cases h
  exact AW.res [(1, (int .i64 y83.1)), (2, (sl z91 f92 e93)), (3, (str w24)), (4, (AV.fn 99 [(ptr b27 0), (ptr b31 0)])), (5, (eptr [(int .i64 c1.Stack), (int .i64 c1.Start), (sl z2 f3 e4), (sl z6 f7 e8), (sl z10 f11 e12), (sl z14 f15 e16)] 0)), (16, (int .i64 (w24.length : Int))), (17, (int .i64 (IntKind.wrap .i64 (t77 + 1))))] [] ⟨rfl, rfl, rfl, rfl, rfl, rfl, rfl, trivial⟩ trivial (hL1 _ rfl (z91, f92, e93, w104, w105, z106, f107, e108, s100) _ _ ⟨h94, h109, (HS.sel hH101 [some 0, some 1] (by decide))⟩)
 refine AW.condF (congrArg bool hc80) ?_
 refine AW.exit rfl ?_
 obtain ⟨r110, hm, hx⟩ := omap h
 clear h
 subst hx
 have hx := hR1 _ rfl
 rw [hx] at hm
 have h := hm
 exact AW.res [] [] trivial trivial (KJ62 (m70, m72, w69, w71, z73, f74, e75, s78) _ _ ⟨h76, (HS.sel hH79 [some 0, some 1] (by decide)), h⟩)
end Go.Proofs.YtdjbgfdippdfkaaGreat.law
