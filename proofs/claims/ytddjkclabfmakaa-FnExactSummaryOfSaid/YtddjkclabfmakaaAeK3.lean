import Derived.Test.YtddjkclabfmakaaAeD
import Derived.Test.YtddjkclabfmakaaAe4
import Derived.Test.YtddjkclabfmakaaAeK2
set_option linter.unusedVariables false
namespace Go.Proofs.Ytddjkclabfmakaa.law
open Go Go.Proofs Ae
set_option maxRecDepth 100000
set_option linter.unusedVariables false
theorem laws_FnExactSummaryOf_ok {p1 : Checker} {p1_18 : List UInt8} {z2 : Nat} {f3 : Bool} {e4 : List AV} {z6 : Nat} {f7 : Bool} {e8 : List AV} {z10 : Nat} {f11 : Bool} {e12 : List AV} {z14 : Nat} {f15 : Bool} {e16 : List AV} {s : St} (h5 : LR rB 1 p1.Accept z2 e4) (h9 : LR (rL rPush 2) 1 p1.Call z6 e8) (h13 : LR (rL (rL (rI .i64) 1) 1) 1 p1.Return z10 e12) (h17 : LR (rL (rI .i64) 1) 1 p1.Inner z14 e16) {r : Bool} (h : laws_FnExactSummaryOf p1 p1_18 = some r) (hs : WF s) (hz : s.n = 0 ∧ s.ro = 0) : ACall Cf 5 [(AV.agg [(AV.int .i64 p1.Stack), (AV.int .i64 p1.Start), (AV.sl z2 f3 e4), (AV.sl z6 f7 e8), (AV.sl z10 f11 e12), (AV.sl z14 f15 e16)]), (AV.str p1_18)] s fun v _ s' => (rB) r v ∧ s' = s := by
  refine ACall.boxes rfl rfl rfl ?_
  have hH0 := HS.g0 (HS.init hs)
  have hG0 := AllG.nil
  have hl : LoOK [] false s := LoOK.nil
  unfold laws_FnExactSummaryOf at h
  refine AW.seq ?_
  refine AW.region ?_
  refine AOps.makeR rfl rfl rfl rfl rfl rfl (rfl : _ = (AV.eptr [(AV.int .i64 p1.Stack), (AV.int .i64 p1.Start), (AV.sl z2 f3 e4), (AV.sl z6 f7 e8), (AV.sl z10 f11 e12), (AV.sl z14 f15 e16)] 0)) ?_
  refine AOps.pureR rfl rfl rfl rfl rfl (rfl : _ = (AV.bool false)) ?_
  refine AOps.nilR ?_
  refine AW.seq ?_
  refine AW.seq ?_
  refine AW.region ?_
  refine AOps.pureR rfl rfl rfl rfl rfl (rfl : _ = (AV.str p1_18)) ?_
  refine AOps.pureR rfl rfl rfl rfl rfl (rfl : _ = (AV.int .i64 (p1_18.length : Int))) ?_
  refine AOps.pureR rfl rfl rfl rfl rfl (rfl : _ = (AV.bool (decide (((p1_18.length : Int) : Int) > 1048576)))) ?_
  refine AOps.nilR ?_
  rcases oite h with ⟨hc19, h⟩ | ⟨hc19, h⟩
  · refine AW.condT (congrArg AV.bool hc19) ?_
    refine AW.seq ?_
    refine AW.region ?_
    refine AOps.pureR rfl rfl rfl rfl rfl (rfl : _ = (AV.bool true)) ?_
    refine AOps.nilR ?_
    cases h
    exact AW.ret ⟨⟨_, hH0⟩, _, _, rfl, (Fin.of (p := (rB) true) .B rfl).2⟩
  refine AW.condF (congrArg AV.bool hc19) ?_
  refine AW.skip ?_
  refine AW.seq ?_
  refine AW.region ?_
  refine AOps.pureR rfl rfl rfl rfl rfl (rfl : _ = (AV.int .i64 1048576)) ?_
  refine AOps.nilR ?_
  refine AW.seq ?_
  refine AW.region ?_
  refine AOps.ldE (v := (AV.agg [(AV.int .i64 p1.Stack), (AV.int .i64 p1.Start), (AV.sl z2 f3 e4), (AV.sl z6 f7 e8), (AV.sl z10 f11 e12), (AV.sl z14 f15 e16)])) rfl rfl rfl rfl rfl rfl ?_
  refine AOps.pureR rfl rfl rfl rfl rfl (rfl : _ = (AV.int .i64 1048576)) ?_
  obtain ⟨y20, h21, h⟩ := obind h
  refine AOps.callP (g := 24) (args := [(AV.agg [(AV.int .i64 p1.Stack), (AV.int .i64 p1.Start), (AV.sl z2 f3 e4), (AV.sl z6 f7 e8), (AV.sl z10 f11 e12), (AV.sl z14 f15 e16)]), (AV.int .i64 1048576)]) (p := (rI .i64) y20) rfl rfl rfl (laws_szChecker_ok h5 h9 h13 h17 h21 (HS.wf' hH0)) ?_
  intro _ o23 h22
  cases h22
  refine AOps.assignR rfl rfl rfl (rfl : _ = (AV.int .i64 y20)) rfl ?_
  refine AOps.nilR ?_
  refine AW.seq ?_
  refine AW.seq ?_
  refine AW.region ?_
  refine AOps.pureR rfl rfl rfl rfl rfl (rfl : _ = (AV.int .i64 y20)) ?_
  refine AOps.pureR rfl rfl rfl rfl rfl (rfl : _ = (AV.bool (decide ((y20 : Int) < 0)))) ?_
  refine AOps.nilR ?_
  rcases oite h with ⟨hc24, h⟩ | ⟨hc24, h⟩
  · refine AW.condT (congrArg AV.bool hc24) ?_
    refine AW.seq ?_
    refine AW.region ?_
    refine AOps.pureR rfl rfl rfl rfl rfl (rfl : _ = (AV.bool true)) ?_
    refine AOps.nilR ?_
    cases h
    exact AW.ret ⟨⟨_, hH0⟩, _, _, rfl, (Fin.of (p := (rB) true) .B rfl).2⟩
  refine AW.condF (congrArg AV.bool hc24) ?_
  refine AW.skip ?_
  refine AW.seq ?_
  refine AW.region ?_
  refine AOps.ldE (v := (AV.agg [(AV.int .i64 p1.Stack), (AV.int .i64 p1.Start), (AV.sl z2 f3 e4), (AV.sl z6 f7 e8), (AV.sl z10 f11 e12), (AV.sl z14 f15 e16)])) rfl rfl rfl rfl rfl rfl ?_
  obtain ⟨y25, h26, h⟩ := obind h
  refine AOps.callP (g := 26) (args := [(AV.agg [(AV.int .i64 p1.Stack), (AV.int .i64 p1.Start), (AV.sl z2 f3 e4), (AV.sl z6 f7 e8), (AV.sl z10 f11 e12), (AV.sl z14 f15 e16)])]) (p := (rChecker) y25) rfl rfl rfl (laws_toChecker_ok h5 h9 h13 h17 h26 (HS.wf' hH0)) ?_
  intro _ o57 h27
  obtain ⟨_, rfl, h28⟩ := h27
  obtain ⟨_, _, rfl, h29, h30⟩ := Cs_cons h28
  cases h29
  obtain ⟨_, _, rfl, h31, h32⟩ := Cs_cons h30
  cases h31
  obtain ⟨_, _, rfl, h33, h34⟩ := Cs_cons h32
  obtain ⟨z35, f36, e37, rfl, h38⟩ := h33
  obtain ⟨_, _, rfl, h39, h40⟩ := Cs_cons h34
  obtain ⟨z41, f42, e43, rfl, h44⟩ := h39
  obtain ⟨_, _, rfl, h45, h46⟩ := Cs_cons h40
  obtain ⟨z47, f48, e49, rfl, h50⟩ := h45
  obtain ⟨_, _, rfl, h51, h52⟩ := Cs_cons h46
  obtain ⟨z53, f54, e55, rfl, h56⟩ := h51
  cases Cs_nil h52
  refine AOps.pureR rfl rfl rfl rfl rfl (rfl : _ = (AV.str p1_18)) ?_
  obtain ⟨y58, h59, h⟩ := obind h
  refine AOps.callP (g := 25) (args := [(AV.agg [(AV.int .i64 y25.Stack), (AV.int .i64 y25.Start), (AV.sl z35 f36 e37), (AV.sl z41 f42 e43), (AV.sl z47 f48 e49), (AV.sl z53 f54 e55)]), (AV.str p1_18)]) (p := (fun x => rT [(rL (rI .i64) 1) x.1, (rI .i64) x.2]) y58) rfl rfl rfl (spec_SummaryOf_ok h38 h44 h50 h56 h59 (HS.wf' hH0)) ?_
  intro _ o70 h60
  obtain ⟨_, rfl, h61⟩ := h60
  obtain ⟨_, _, rfl, h62, h63⟩ := Cs_cons h61
  obtain ⟨z64, f65, e66, rfl, h67⟩ := h62
  obtain ⟨_, _, rfl, h68, h69⟩ := Cs_cons h63
  cases h68
  cases Cs_nil h69
  refine AOps.pureR rfl rfl rfl rfl rfl (rfl : _ = (AV.tup [(AV.sl z64 f65 e66), (AV.int .i64 y58.2)])) ?_
  refine AOps.pureR rfl rfl rfl rfl rfl (rfl : _ = (AV.sl z64 f65 e66)) ?_
  refine AOps.pureR rfl rfl rfl rfl rfl (rfl : _ = (AV.int .i64 y58.2)) ?_
  refine AOps.assignR rfl rfl rfl (rfl : _ = (AV.sl z64 f65 e66)) rfl ?_
  refine AOps.assignR rfl rfl rfl (rfl : _ = (AV.int .i64 y58.2)) rfl ?_
  refine AOps.nilR ?_
  refine AW.seq ?_
  refine AW.region ?_
  refine AOps.ldE (v := (AV.agg [(AV.int .i64 p1.Stack), (AV.int .i64 p1.Start), (AV.sl z2 f3 e4), (AV.sl z6 f7 e8), (AV.sl z10 f11 e12), (AV.sl z14 f15 e16)])) rfl rfl rfl rfl rfl rfl ?_
  obtain ⟨y71, h72, h⟩ := obind h
  have hP85 := HS.pop0 hH0
  refine AOps.callF (al := true) (g := 26) (args := [(AV.agg [(AV.int .i64 p1.Stack), (AV.int .i64 p1.Start), (AV.sl z2 f3 e4), (AV.sl z6 f7 e8), (AV.sl z10 f11 e12), (AV.sl z14 f15 e16)])]) rfl rfl rfl (laws_toChecker_K0_ok h5 h9 h13 h17  h72 (HS.wf' hH0)) ?_
  rintro _ _ s86 ⟨h73, k74, h76, k77, h79, k80, h82, k83, Ls88, rfl, hH89, hG90, ho75, ho78, ho81, ho84⟩
  have hJ91 := HS.joinK0 hP85 hH89
  obtain ⟨Ls92, Lf93, hG94, hF95, hP96⟩ := HS.pushN hJ91 hG0 hG90
  obtain ⟨Ls97, Lf98, hG99, hF100, hP101⟩ := HS.pushN hP96 hG94 hF95
  obtain ⟨Ls102, Lf103, hG104, hF105, hP106⟩ := HS.pushN hP101 hG99 hF100
  obtain ⟨Ls107, Lf108, hG109, hF110, hP111⟩ := HS.pushN hP106 hG104 hF105
  cases hF110
  have hH112 := HS.push0 hP111
  change HS [] false s s86 (([] : List BX) ++ List.flatten Ls107) at hH112
  change AllG [OS oE26 h82 k83 y71.Inner, OS oE44 h79 k80 y71.Return, OS oE249 h76 k77 y71.Call, OS oE4 h73 k74 y71.Accept] Ls107 at hG109
  refine AOps.allocP rfl rfl rfl rfl ⟨rfl, rfl⟩ rfl ?_
  refine AOps.stP (v := (AV.agg [(AV.int .i64 y71.Stack), (AV.int .i64 y71.Start), h73, h76, h79, h82])) rfl rfl rfl rfl rfl rfl rfl (lay_cons rfl (lay_cons rfl (lay_cons ho75 (lay_cons ho78 (lay_cons ho81 (lay_cons ho84 lay_nil)))))) rfl (lt_b rfl) rfl ?_
  refine AOps.nilR ?_
  refine AW.seq ?_
  refine AW.region ?_
  refine AOps.ldE (v := (AV.agg [(AV.int .i64 y71.Stack), (AV.int .i64 y71.Start), h73, h76, h79, h82])) rfl rfl rfl rfl rfl rfl ?_
  refine AOps.pureR rfl rfl rfl rfl rfl (rfl : _ = (AV.str p1_18)) ?_
  obtain ⟨y113, h114, h⟩ := obind h
  refine AOps.lendK (al := true) (g := 27) (args := [(AV.agg [(AV.int .i64 y71.Stack), (AV.int .i64 y71.Start), h73, h76, h79, h82]), (AV.str p1_18)]) (ps := [(rChecker) y71, (rS) p1_18]) (p := fun v s' => ∃ (h144 : AV) (k145 : KT) (Ls' : List (List BX)), v = (AV.tup [h144, (AV.int .i64 y113.2)]) ∧ HS [] true s86.blind s' (([] : List BX) ++ List.flatten Ls') ∧ AllG [OS oE2 h144 k145 y113.1] Ls' ∧ h144.one = true) rfl rfl rfl rfl rfl rfl rfl (.cons (Fin.A (.cons (Fin.of (p := (rI .i64) y71.Stack) .I rfl) (.cons (Fin.of (p := (rI .i64) y71.Start) .I rfl) (.cons (Fin.up (by decide) (HS.finS hH112 hG109 (j := 3) rfl Sub.here (Or.inl rfl))) (.cons (Fin.up (by decide) (HS.finS hH112 hG109 (j := 2) rfl Sub.here (Or.inl rfl))) (.cons (Fin.up (by decide) (HS.finS hH112 hG109 (j := 1) rfl Sub.here (Or.inl rfl))) (.cons (Fin.up (by decide) (HS.finS hH112 hG109 (j := 0) rfl Sub.here (Or.inl rfl))) .nil))))))) (.cons (Fin.of (p := (rS) p1_18) .S rfl) .nil)) (fun args' hc => by obtain ⟨_, _, rfl, hv0, hd0⟩ := Cs_cons hc; obtain ⟨_, rfl, h115⟩ := hv0; obtain ⟨_, _, rfl, h116, h117⟩ := Cs_cons h115; cases h116; obtain ⟨_, _, rfl, h118, h119⟩ := Cs_cons h117; cases h118; obtain ⟨_, _, rfl, h120, h121⟩ := Cs_cons h119; obtain ⟨z122, f123, e124, rfl, h125⟩ := h120; obtain ⟨_, _, rfl, h126, h127⟩ := Cs_cons h121; obtain ⟨z128, f129, e130, rfl, h131⟩ := h126; obtain ⟨_, _, rfl, h132, h133⟩ := Cs_cons h127; obtain ⟨z134, f135, e136, rfl, h137⟩ := h132; obtain ⟨_, _, rfl, h138, h139⟩ := Cs_cons h133; obtain ⟨z140, f141, e142, rfl, h143⟩ := h138; cases Cs_nil h139; obtain ⟨_, _, rfl, hv1, hd1⟩ := Cs_cons hd0; cases hv1; cases Cs_nil hd1; exact impl_SummaryOf_K00_okN h125 h131 h137 h143 h114 WF.blind) (by rintro v s1 ⟨_, _, Lq, rfl, hHq, hGq, _⟩; simp [AV.flatB, AV.flatL, HS.flatB0 hHq hGq (j := 0) rfl (Flt.leaf (fun x v n hr => by cases hr; rfl))]) ?_
  rintro _ s147 ⟨h144, k145, Ls149, rfl, hH150, hG151, ho146⟩
  have hH152 := HS.joinL (Lf := Ls149) hH112 (by simpa using hH150) hG151 (FG.cons (Flt.leaf (fun x v n hr => by cases hr; rfl)) FG.nil)
  have hG153 := AllG.app hG151 hG109
  have hH154 := HS.reL hH152
  change HS [] false s (St.join s86 s147) (([] : List BX) ++ List.flatten (Ls149 ++ Ls107)) at hH154
  change AllG [OS oE2 h144 k145 y113.1, OS oE26 h82 k83 y71.Inner, OS oE44 h79 k80 y71.Return, OS oE249 h76 k77 y71.Call, OS oE4 h73 k74 y71.Accept] (Ls149 ++ Ls107) at hG153
  refine AOps.pureR rfl rfl rfl rfl rfl (rfl : _ = (AV.tup [h144, (AV.int .i64 y113.2)])) ?_
  refine AOps.pureR rfl rfl rfl rfl rfl (rfl : _ = h144) ?_
  refine AOps.pureR rfl rfl rfl rfl rfl (rfl : _ = (AV.int .i64 y113.2)) ?_
  refine AOps.assignR rfl rfl rfl (rfl : _ = h144) rfl ?_
  refine AOps.assignR rfl rfl rfl (rfl : _ = (AV.int .i64 y113.2)) rfl ?_
  refine AOps.nilR ?_
  refine AW.seq ?_
  refine AW.seq ?_
  refine AW.region ?_
  refine AOps.pureR rfl rfl rfl rfl rfl (rfl : _ = h144) ?_
  refine AOps.pureR rfl rfl rfl rfl rfl (rfl : _ = (AV.sl z64 f65 e66)) ?_
  obtain ⟨y155, h156, h⟩ := obind h
  refine AOps.lendP (g := 17) (args := [h144, (AV.sl z64 f65 e66)]) (ps := [(rL (rI .i64) 1) y113.1, (rL (rI .i64) 1) y58.1]) (p := (rB) y155) rfl rfl rfl rfl rfl rfl rfl (.cons (Fin.up (by decide) (HS.finS hH154 hG153 (j := 0) rfl Sub.here (Or.inl rfl))) (.cons (Fin.of (p := (rL (rI .i64) 1) y58.1) (.L fun _ => .I) (⟨_, _, _, rfl, h67⟩)) .nil)) (fun args' hc => by obtain ⟨_, _, rfl, hv0, hd0⟩ := Cs_cons hc; obtain ⟨z157, f158, e159, rfl, h160⟩ := hv0; obtain ⟨_, _, rfl, hv1, hd1⟩ := Cs_cons hd0; obtain ⟨z161, f162, e163, rfl, h164⟩ := hv1; cases Cs_nil hd1; exact laws_eqInt64S_okN h160 h164 h156 WF.blind) (fun v n hv => by cases hv; rfl) ?_
  intro _ h165
  cases h165
  refine AOps.pureR rfl rfl rfl rfl rfl (rfl : _ = (AV.bool (!y155))) ?_
  refine AOps.pureR rfl rfl rfl rfl rfl (rfl : _ = (AV.bool (!y155))) ?_
  refine AOps.split 4 (fun f' => ∃ tm' os', f' = ⟨updL tm' [(1, (AV.str p1_18)), (2, (AV.eptr [(AV.int .i64 p1.Stack), (AV.int .i64 p1.Start), (AV.sl z2 f3 e4), (AV.sl z6 f7 e8), (AV.sl z10 f11 e12), (AV.sl z14 f15 e16)] 0)), (6, (AV.sl z64 f65 e66)), (7, (AV.int .i64 y58.2)), (8, (AV.eptr [(AV.int .i64 y71.Stack), (AV.int .i64 y71.Start), h73, h76, h79, h82] 0)), (9, h144), (10, (AV.int .i64 y113.2)), (47, (AV.bool ((!y155) || (y113.2 != y58.2))))], updL os' [], (St.join s86 s147)⟩) ?_ ?_
  · rcases Bool.eq_false_or_eq_true (!y155) with hc166 | hc166
    · refine AOps.know (d := 43) rfl hc166 ?_
      refine AOps.skipR rfl rfl ?_
      refine AOps.skipR rfl rfl ?_
      refine AOps.skipR rfl rfl ?_
      refine AOps.pureR rfl rfl rfl rfl rfl (rfl : _ = (AV.bool true)) ?_
      refine AOps.resR [(1, (AV.str p1_18)), (2, (AV.eptr [(AV.int .i64 p1.Stack), (AV.int .i64 p1.Start), (AV.sl z2 f3 e4), (AV.sl z6 f7 e8), (AV.sl z10 f11 e12), (AV.sl z14 f15 e16)] 0)), (6, (AV.sl z64 f65 e66)), (7, (AV.int .i64 y58.2)), (8, (AV.eptr [(AV.int .i64 y71.Stack), (AV.int .i64 y71.Start), h73, h76, h79, h82] 0)), (9, h144), (10, (AV.int .i64 y113.2)), (47, (AV.bool ((!y155) || (y113.2 != y58.2))))] [] ?_ ?_ _ ⟨_, _, rfl⟩
      · exact ⟨rfl, rfl, rfl, rfl, rfl, rfl, rfl, congrArg AV.bool (or_t hc166), trivial⟩
      exact trivial
    · refine AOps.know (d := 43) rfl hc166 ?_
      refine AOps.pureR rfl rfl rfl rfl rfl (rfl : _ = (AV.int .i64 y113.2)) ?_
      refine AOps.pureR rfl rfl rfl rfl rfl (rfl : _ = (AV.int .i64 y58.2)) ?_
      refine AOps.pureR rfl rfl rfl rfl rfl (rfl : _ = (AV.bool (y113.2 != y58.2))) ?_
      refine AOps.pureR rfl rfl rfl rfl rfl (rfl : _ = (AV.bool (y113.2 != y58.2))) ?_
      refine AOps.resR [(1, (AV.str p1_18)), (2, (AV.eptr [(AV.int .i64 p1.Stack), (AV.int .i64 p1.Start), (AV.sl z2 f3 e4), (AV.sl z6 f7 e8), (AV.sl z10 f11 e12), (AV.sl z14 f15 e16)] 0)), (6, (AV.sl z64 f65 e66)), (7, (AV.int .i64 y58.2)), (8, (AV.eptr [(AV.int .i64 y71.Stack), (AV.int .i64 y71.Start), h73, h76, h79, h82] 0)), (9, h144), (10, (AV.int .i64 y113.2)), (47, (AV.bool ((!y155) || (y113.2 != y58.2))))] [] ?_ ?_ _ ⟨_, _, rfl⟩
      · exact ⟨rfl, rfl, rfl, rfl, rfl, rfl, rfl, congrArg AV.bool (or_f hc166), trivial⟩
      exact trivial
  rintro _ ⟨tm, os, rfl⟩
  refine AOps.nilR ?_
  rcases oite h with ⟨hc167, h⟩ | ⟨hc167, h⟩
  · refine AW.condT (congrArg AV.bool hc167) ?_
    refine AW.seq ?_
    refine AW.region ?_
    refine AOps.pureR rfl rfl rfl rfl rfl (rfl : _ = (AV.bool false)) ?_
    refine AOps.nilR ?_
    cases h
    exact AW.ret ⟨⟨_, hH154⟩, _, _, rfl, (Fin.of (p := (rB) false) .B rfl).2⟩
  refine AW.condF (congrArg AV.bool hc167) ?_
  refine AW.skip ?_
  refine AW.seq ?_
  refine AW.seq ?_
  refine AW.region ?_
  refine AOps.ldE (v := (AV.agg [(AV.int .i64 y71.Stack), (AV.int .i64 y71.Start), h73, h76, h79, h82])) rfl rfl rfl rfl rfl rfl ?_
  refine AOps.ldE (v := (AV.agg [(AV.int .i64 p1.Stack), (AV.int .i64 p1.Start), (AV.sl z2 f3 e4), (AV.sl z6 f7 e8), (AV.sl z10 f11 e12), (AV.sl z14 f15 e16)])) rfl rfl rfl rfl rfl rfl ?_
  obtain ⟨y168, h169, h⟩ := obind h
  refine AOps.callDP (g := 26) (args := [(AV.agg [(AV.int .i64 p1.Stack), (AV.int .i64 p1.Start), (AV.sl z2 f3 e4), (AV.sl z6 f7 e8), (AV.sl z10 f11 e12), (AV.sl z14 f15 e16)])]) (p := (rChecker) y168) rfl rfl rfl (laws_toChecker_ok h5 h9 h13 h17 h169 ((HS.wf' hH154).still)) (fun v hv => Nice.pure (k := FINK) (p := (rChecker) y168) (.A (.cons .I (.cons .I (.cons (.L fun _ => .B) (.cons (.L fun _ => (.L fun _ => (.A (.cons .I (.cons .I .nil))))) (.cons (.L fun _ => (.L fun _ => (.L fun _ => .I))) (.cons (.L fun _ => (.L fun _ => .I)) .nil))))))) _ v hv) ?_
  intro _ o200 h170
  obtain ⟨_, rfl, h171⟩ := h170
  obtain ⟨_, _, rfl, h172, h173⟩ := Cs_cons h171
  cases h172
  obtain ⟨_, _, rfl, h174, h175⟩ := Cs_cons h173
  cases h174
  obtain ⟨_, _, rfl, h176, h177⟩ := Cs_cons h175
  obtain ⟨z178, f179, e180, rfl, h181⟩ := h176
  obtain ⟨_, _, rfl, h182, h183⟩ := Cs_cons h177
  obtain ⟨z184, f185, e186, rfl, h187⟩ := h182
  obtain ⟨_, _, rfl, h188, h189⟩ := Cs_cons h183
  obtain ⟨z190, f191, e192, rfl, h193⟩ := h188
  obtain ⟨_, _, rfl, h194, h195⟩ := Cs_cons h189
  obtain ⟨z196, f197, e198, rfl, h199⟩ := h194
  cases Cs_nil h195
  obtain ⟨y201, h202, h⟩ := obind h
  refine AOps.lendD (g := 28) (args := [(AV.agg [(AV.int .i64 y71.Stack), (AV.int .i64 y71.Start), h73, h76, h79, h82]), (AV.agg [(AV.int .i64 y168.Stack), (AV.int .i64 y168.Start), (AV.sl z178 f179 e180), (AV.sl z184 f185 e186), (AV.sl z190 f191 e192), (AV.sl z196 f197 e198)])]) (ps := [(rChecker) y71, (rChecker) y168]) (p := (rB) y201) rfl rfl rfl rfl rfl rfl rfl (.cons (Fin.A (.cons (Fin.of (p := (rI .i64) y71.Stack) .I rfl) (.cons (Fin.of (p := (rI .i64) y71.Start) .I rfl) (.cons (Fin.up (by decide) (HS.finSt hH154 hG153 (j := 4) rfl Sub.here)) (.cons (Fin.up (by decide) (HS.finSt hH154 hG153 (j := 3) rfl Sub.here)) (.cons (Fin.up (by decide) (HS.finSt hH154 hG153 (j := 2) rfl Sub.here)) (.cons (Fin.up (by decide) (HS.finSt hH154 hG153 (j := 1) rfl Sub.here)) .nil))))))) (.cons (Fin.of (p := (rChecker) y168) (.A (.cons .I (.cons .I (.cons (.L fun _ => .B) (.cons (.L fun _ => (.L fun _ => (.A (.cons .I (.cons .I .nil))))) (.cons (.L fun _ => (.L fun _ => (.L fun _ => .I))) (.cons (.L fun _ => (.L fun _ => .I)) .nil))))))) (⟨_, rfl, (.cons rfl (.cons rfl (.cons ⟨_, _, _, rfl, h181⟩ (.cons ⟨_, _, _, rfl, h187⟩ (.cons ⟨_, _, _, rfl, h193⟩ (.cons ⟨_, _, _, rfl, h199⟩ .nil))))))⟩)) .nil)) (fun args' hc => by obtain ⟨_, _, rfl, hv0, hd0⟩ := Cs_cons hc; obtain ⟨_, rfl, h203⟩ := hv0; obtain ⟨_, _, rfl, h204, h205⟩ := Cs_cons h203; cases h204; obtain ⟨_, _, rfl, h206, h207⟩ := Cs_cons h205; cases h206; obtain ⟨_, _, rfl, h208, h209⟩ := Cs_cons h207; obtain ⟨z210, f211, e212, rfl, h213⟩ := h208; obtain ⟨_, _, rfl, h214, h215⟩ := Cs_cons h209; obtain ⟨z216, f217, e218, rfl, h219⟩ := h214; obtain ⟨_, _, rfl, h220, h221⟩ := Cs_cons h215; obtain ⟨z222, f223, e224, rfl, h225⟩ := h220; obtain ⟨_, _, rfl, h226, h227⟩ := Cs_cons h221; obtain ⟨z228, f229, e230, rfl, h231⟩ := h226; cases Cs_nil h227; obtain ⟨_, _, rfl, hv1, hd1⟩ := Cs_cons hd0; obtain ⟨_, rfl, h232⟩ := hv1; obtain ⟨_, _, rfl, h233, h234⟩ := Cs_cons h232; cases h233; obtain ⟨_, _, rfl, h235, h236⟩ := Cs_cons h234; cases h235; obtain ⟨_, _, rfl, h237, h238⟩ := Cs_cons h236; obtain ⟨z239, f240, e241, rfl, h242⟩ := h237; obtain ⟨_, _, rfl, h243, h244⟩ := Cs_cons h238; obtain ⟨z245, f246, e247, rfl, h248⟩ := h243; obtain ⟨_, _, rfl, h249, h250⟩ := Cs_cons h244; obtain ⟨z251, f252, e253, rfl, h254⟩ := h249; obtain ⟨_, _, rfl, h255, h256⟩ := Cs_cons h250; obtain ⟨z257, f258, e259, rfl, h260⟩ := h255; cases Cs_nil h256; cases Cs_nil hd1; exact laws_eqChecker_okN h213 h219 h225 h231 h242 h248 h254 h260 h202 WF.blind) (fun v n hv => by cases hv; rfl) (fun v hv => Nice.pure (k := FINK) (p := (rB) y201) .B _ v hv) ?_
  intro _ h261
  cases h261
  refine AOps.pureR rfl rfl rfl rfl rfl (rfl : _ = (AV.bool (!y201))) ?_
  refine AOps.nilR ?_
  rcases oite h with ⟨hc262, h⟩ | ⟨hc262, h⟩
  · refine AW.condT (congrArg AV.bool hc262) ?_
    refine AW.seq ?_
    refine AW.region ?_
    refine AOps.pureR rfl rfl rfl rfl rfl (rfl : _ = (AV.bool false)) ?_
    refine AOps.nilR ?_
    cases h
    exact AW.ret ⟨⟨_, hH154⟩, _, _, rfl, (Fin.of (p := (rB) false) .B rfl).2⟩
  refine AW.condF (congrArg AV.bool hc262) ?_
  refine AW.skip ?_
  refine AW.seq ?_
  refine AW.region ?_
  refine AOps.pureR rfl rfl rfl rfl rfl (rfl : _ = (AV.int .i64 1)) ?_
  refine AOps.nilR ?_
  refine AW.seq ?_
  refine AW.region ?_
  refine AOps.ldE (v := (AV.agg [(AV.int .i64 y71.Stack), (AV.int .i64 y71.Start), h73, h76, h79, h82])) rfl rfl rfl rfl rfl rfl ?_
  refine AOps.pureR rfl rfl rfl rfl rfl (rfl : _ = (AV.int .i64 1)) ?_
  obtain ⟨y263, h264, h⟩ := obind h
  have hP265 := HS.pop0 hH154
  have hF0 : AllG ([] : List (List BX → Prop)) [] := AllG.nil
  obtain ⟨Ls266, Lf267, hG268, hF269, hP270⟩ := HS.popG hP265 hG153 hF0 (j := 4) rfl
  obtain ⟨Ls271, Lf272, hG273, hF274, hP275⟩ := HS.popG hP270 hG268 hF269 (j := 3) rfl
  obtain ⟨Ls276, Lf277, hG278, hF279, hP280⟩ := HS.popG hP275 hG273 hF274 (j := 2) rfl
  obtain ⟨Ls281, Lf282, hG283, hF284, hP285⟩ := HS.popG hP280 hG278 hF279 (j := 1) rfl
  refine AOps.callF (al := true) (g := 29) (args := [(AV.agg [(AV.int .i64 y71.Stack), (AV.int .i64 y71.Start), h73, h76, h79, h82]), (AV.int .i64 1)]) rfl rfl rfl (laws_markChecker_K10_ok ho75 ho78 ho81 ho84 (HS.enterK hP285) hF284 (HS.enterLo hP285 hl) h264 (HS.wf' hH154)) ?_
  rintro _ _ s286 ⟨Ls288, rfl, hH289, hG290⟩
  have hJ291 := HS.joinK hP285 hH289
  obtain ⟨Ls292, Lf293, hG294, hF295, hP296⟩ := HS.putG hJ291 hG283 hG290 (j := 4) rfl
  obtain ⟨Ls297, Lf298, hG299, hF300, hP301⟩ := HS.putG hP296 hG294 hF295 (j := 3) rfl
  obtain ⟨Ls302, Lf303, hG304, hF305, hP306⟩ := HS.putG hP301 hG299 hF300 (j := 2) rfl
  obtain ⟨Ls307, Lf308, hG309, hF310, hP311⟩ := HS.putG hP306 hG304 hF305 (j := 1) rfl
  cases hF310
  have hH312 := HS.push0 hP311
  change HS [] false s s286 (([] : List BX) ++ List.flatten Ls307) at hH312
  change AllG [OS oE2 h144 k145 y113.1, OS oE26 h82 k83 y263.2.2.2.2, OS oE44 h79 k80 y263.2.2.2.1, OS oE249 h76 k77 y263.2.2.1, OS oE4 h73 k74 y263.2.1] Ls307 at hG309
  refine AOps.assignR rfl rfl rfl (rfl : _ = (AV.int .i64 y263.1)) rfl ?_
  refine AOps.nilR ?_
  refine AW.seq ?_
  refine AW.seq ?_
  refine AW.region ?_
  refine AOps.pureR rfl rfl rfl rfl rfl (rfl : _ = (AV.int .i64 y263.1)) ?_
  refine AOps.pureR rfl rfl rfl rfl rfl (rfl : _ = (AV.bool (decide ((y263.1 : Int) < 0)))) ?_
  refine AOps.pureR rfl rfl rfl rfl rfl (rfl : _ = (AV.bool (decide ((y263.1 : Int) < 0)))) ?_
  obtain ⟨b314, hb, h⟩ := obind h
  refine AOps.split 5 (fun f' => ∃ tm' os', f' = ⟨updL tm' [(1, (AV.str p1_18)), (2, (AV.eptr [(AV.int .i64 p1.Stack), (AV.int .i64 p1.Start), (AV.sl z2 f3 e4), (AV.sl z6 f7 e8), (AV.sl z10 f11 e12), (AV.sl z14 f15 e16)] 0)), (6, (AV.sl z64 f65 e66)), (7, (AV.int .i64 y58.2)), (9, h144), (10, (AV.int .i64 y113.2)), (63, (AV.bool b314))], updL os' [], s286⟩) ?_ ?_
  · rcases oite hb with ⟨hc313, hb⟩ | ⟨hc313, hb⟩
    · refine AOps.know (d := 58) rfl hc313 ?_
      refine AOps.skipR rfl rfl ?_
      refine AOps.skipR rfl rfl ?_
      refine AOps.skipR rfl rfl ?_
      refine AOps.skipR rfl rfl ?_
      refine AOps.pureR rfl rfl rfl rfl rfl (rfl : _ = (AV.bool true)) ?_
      refine AOps.resR [(1, (AV.str p1_18)), (2, (AV.eptr [(AV.int .i64 p1.Stack), (AV.int .i64 p1.Start), (AV.sl z2 f3 e4), (AV.sl z6 f7 e8), (AV.sl z10 f11 e12), (AV.sl z14 f15 e16)] 0)), (6, (AV.sl z64 f65 e66)), (7, (AV.int .i64 y58.2)), (9, h144), (10, (AV.int .i64 y113.2)), (63, (AV.bool b314))] [] ?_ ?_ _ ⟨_, _, rfl⟩
      · exact ⟨rfl, rfl, rfl, rfl, rfl, rfl, congrArg AV.bool (Option.some.inj hb), trivial⟩
      exact trivial
    · have h := hb
      refine AOps.know (d := 58) rfl hc313 ?_
      refine AOps.pureR rfl rfl rfl rfl rfl (rfl : _ = h144) ?_
      refine AOps.pureR rfl rfl rfl rfl rfl (rfl : _ = (AV.sl z64 f65 e66)) ?_
      obtain ⟨y315, h316, h⟩ := obind h
      refine AOps.lendP (g := 17) (args := [h144, (AV.sl z64 f65 e66)]) (ps := [(rL (rI .i64) 1) y113.1, (rL (rI .i64) 1) y58.1]) (p := (rB) y315) rfl rfl rfl rfl rfl rfl rfl (.cons (Fin.up (by decide) (HS.finS hH312 hG309 (j := 0) rfl Sub.here (Or.inl rfl))) (.cons (Fin.of (p := (rL (rI .i64) 1) y58.1) (.L fun _ => .I) (⟨_, _, _, rfl, h67⟩)) .nil)) (fun args' hc => by obtain ⟨_, _, rfl, hv0, hd0⟩ := Cs_cons hc; obtain ⟨z317, f318, e319, rfl, h320⟩ := hv0; obtain ⟨_, _, rfl, hv1, hd1⟩ := Cs_cons hd0; obtain ⟨z321, f322, e323, rfl, h324⟩ := hv1; cases Cs_nil hd1; exact laws_eqInt64S_okN h320 h324 h316 WF.blind) (fun v n hv => by cases hv; rfl) ?_
      intro _ h325
      cases h325
      refine AOps.pureR rfl rfl rfl rfl rfl (rfl : _ = (AV.bool (!y315))) ?_
      refine AOps.pureR rfl rfl rfl rfl rfl (rfl : _ = (AV.bool (!y315))) ?_
      refine AOps.resR [(1, (AV.str p1_18)), (2, (AV.eptr [(AV.int .i64 p1.Stack), (AV.int .i64 p1.Start), (AV.sl z2 f3 e4), (AV.sl z6 f7 e8), (AV.sl z10 f11 e12), (AV.sl z14 f15 e16)] 0)), (6, (AV.sl z64 f65 e66)), (7, (AV.int .i64 y58.2)), (9, h144), (10, (AV.int .i64 y113.2)), (63, (AV.bool b314))] [] ?_ ?_ _ ⟨_, _, rfl⟩
      · exact ⟨rfl, rfl, rfl, rfl, rfl, rfl, congrArg AV.bool (Option.some.inj h), trivial⟩
      exact trivial
  rintro _ ⟨tm, os, rfl⟩
  refine AOps.pureR rfl rfl rfl rfl rfl (rfl : _ = (AV.bool b314)) ?_
  refine AOps.split 4 (fun f' => ∃ tm' os', f' = ⟨updL tm' [(1, (AV.str p1_18)), (2, (AV.eptr [(AV.int .i64 p1.Stack), (AV.int .i64 p1.Start), (AV.sl z2 f3 e4), (AV.sl z6 f7 e8), (AV.sl z10 f11 e12), (AV.sl z14 f15 e16)] 0)), (6, (AV.sl z64 f65 e66)), (7, (AV.int .i64 y58.2)), (9, h144), (68, (AV.bool (b314 || (y113.2 != y58.2))))], updL os' [], s286⟩) ?_ ?_
  · rcases Bool.eq_false_or_eq_true b314 with hc326 | hc326
    · refine AOps.know (d := 64) rfl hc326 ?_
      refine AOps.skipR rfl rfl ?_
      refine AOps.skipR rfl rfl ?_
      refine AOps.skipR rfl rfl ?_
      refine AOps.pureR rfl rfl rfl rfl rfl (rfl : _ = (AV.bool true)) ?_
      refine AOps.resR [(1, (AV.str p1_18)), (2, (AV.eptr [(AV.int .i64 p1.Stack), (AV.int .i64 p1.Start), (AV.sl z2 f3 e4), (AV.sl z6 f7 e8), (AV.sl z10 f11 e12), (AV.sl z14 f15 e16)] 0)), (6, (AV.sl z64 f65 e66)), (7, (AV.int .i64 y58.2)), (9, h144), (68, (AV.bool (b314 || (y113.2 != y58.2))))] [] ?_ ?_ _ ⟨_, _, rfl⟩
      · exact ⟨rfl, rfl, rfl, rfl, rfl, congrArg AV.bool (or_t hc326), trivial⟩
      exact trivial
    · refine AOps.know (d := 64) rfl hc326 ?_
      refine AOps.pureR rfl rfl rfl rfl rfl (rfl : _ = (AV.int .i64 y113.2)) ?_
      refine AOps.pureR rfl rfl rfl rfl rfl (rfl : _ = (AV.int .i64 y58.2)) ?_
      refine AOps.pureR rfl rfl rfl rfl rfl (rfl : _ = (AV.bool (y113.2 != y58.2))) ?_
      refine AOps.pureR rfl rfl rfl rfl rfl (rfl : _ = (AV.bool (y113.2 != y58.2))) ?_
      refine AOps.resR [(1, (AV.str p1_18)), (2, (AV.eptr [(AV.int .i64 p1.Stack), (AV.int .i64 p1.Start), (AV.sl z2 f3 e4), (AV.sl z6 f7 e8), (AV.sl z10 f11 e12), (AV.sl z14 f15 e16)] 0)), (6, (AV.sl z64 f65 e66)), (7, (AV.int .i64 y58.2)), (9, h144), (68, (AV.bool (b314 || (y113.2 != y58.2))))] [] ?_ ?_ _ ⟨_, _, rfl⟩
      · exact ⟨rfl, rfl, rfl, rfl, rfl, congrArg AV.bool (or_f hc326), trivial⟩
      exact trivial
  rintro _ ⟨tm, os, rfl⟩
  refine AOps.nilR ?_
  rcases oite h with ⟨hc327, h⟩ | ⟨hc327, h⟩
  · refine AW.condT (congrArg AV.bool hc327) ?_
    refine AW.seq ?_
    refine AW.region ?_
    refine AOps.pureR rfl rfl rfl rfl rfl (rfl : _ = (AV.bool false)) ?_
    refine AOps.nilR ?_
    cases h
    exact AW.ret ⟨⟨_, hH312⟩, _, _, rfl, (Fin.of (p := (rB) false) .B rfl).2⟩
  refine AW.condF (congrArg AV.bool hc327) ?_
  refine AW.skip ?_
  refine AW.seq ?_
  refine AW.region ?_
  refine AOps.pureR rfl rfl rfl rfl rfl (rfl : _ = (AV.int .i64 1)) ?_
  refine AOps.nilR ?_
  refine AW.seq ?_
  refine AW.region ?_
  refine AOps.pureR rfl rfl rfl rfl rfl (rfl : _ = h144) ?_
  refine AOps.pureR rfl rfl rfl rfl rfl (rfl : _ = (AV.int .i64 1)) ?_
  obtain ⟨y328, h329, h⟩ := obind h
  have hP330 := HS.pop0 hH312
  have hF0 : AllG ([] : List (List BX → Prop)) [] := AllG.nil
  obtain ⟨Ls331, Lf332, hG333, hF334, hP335⟩ := HS.popG hP330 hG309 hF0 (j := 0) rfl
  refine AOps.callF (al := true) (g := 20) (args := [h144, (AV.int .i64 1)]) rfl rfl rfl (laws_markInt64S_K10_ok ho146 (HS.enterK hP335) hF334 (HS.enterLo hP335 hl) h329 (HS.wf' hH312)) ?_
  rintro _ _ s336 ⟨Ls338, rfl, hH339, hG340⟩
  have hJ341 := HS.joinK hP335 hH339
  obtain ⟨Ls342, Lf343, hG344, hF345, hP346⟩ := HS.putG hJ341 hG333 hG340 (j := 0) rfl
  cases hF345
  have hH347 := HS.push0 hP346
  change HS [] false s s336 (([] : List BX) ++ List.flatten Ls342) at hH347
  change AllG [OS oE2 h144 k145 y328.2, OS oE26 h82 k83 y263.2.2.2.2, OS oE44 h79 k80 y263.2.2.2.1, OS oE249 h76 k77 y263.2.2.1, OS oE4 h73 k74 y263.2.1] Ls342 at hG344
  refine AOps.assignR rfl rfl rfl (rfl : _ = (AV.int .i64 y328.1)) rfl ?_
  refine AOps.nilR ?_
  refine AW.seq ?_
  refine AW.region ?_
  refine AOps.pureR rfl rfl rfl rfl rfl (rfl : _ = (AV.int .i64 1)) ?_
  refine AOps.nilR ?_
  refine AW.seq ?_
  refine AW.region ?_
  refine AOps.pureR rfl rfl rfl rfl rfl (rfl : _ = h144) ?_
  refine AOps.pureR rfl rfl rfl rfl rfl (rfl : _ = (AV.int .i64 1)) ?_
  obtain ⟨y348, h349, h⟩ := obind h
  refine AOps.lendP (g := 21) (args := [h144, (AV.int .i64 1)]) (ps := [(rL (rI .i64) 1) y328.2, (rI .i64) 1]) (p := (rI .i64) y348) rfl rfl rfl rfl rfl rfl rfl (.cons (Fin.up (by decide) (HS.finS hH347 hG344 (j := 0) rfl Sub.here (Or.inl rfl))) (.cons (Fin.of (p := (rI .i64) 1) .I rfl) .nil)) (fun args' hc => by obtain ⟨_, _, rfl, hv0, hd0⟩ := Cs_cons hc; obtain ⟨z350, f351, e352, rfl, h353⟩ := hv0; obtain ⟨_, _, rfl, hv1, hd1⟩ := Cs_cons hd0; cases hv1; cases Cs_nil hd1; exact laws_heldInt64S_okN h353 h349 WF.blind) (fun v n hv => by cases hv; rfl) ?_
  intro _ h354
  cases h354
  refine AOps.assignR rfl rfl rfl (rfl : _ = (AV.int .i64 y348)) rfl ?_
  refine AOps.nilR ?_
  refine AW.seq ?_
  refine AW.seq ?_
  refine AW.region ?_
  refine AOps.pureR rfl rfl rfl rfl rfl (rfl : _ = (AV.int .i64 y348)) ?_
  refine AOps.pureR rfl rfl rfl rfl rfl (rfl : _ = (AV.bool (decide ((y348 : Int) < 0)))) ?_
  refine AOps.nilR ?_
  rcases oite h with ⟨hc355, h⟩ | ⟨hc355, h⟩
  · refine AW.condT (congrArg AV.bool hc355) ?_
    refine AW.seq ?_
    refine AW.region ?_
    refine AOps.pureR rfl rfl rfl rfl rfl (rfl : _ = (AV.bool false)) ?_
    refine AOps.nilR ?_
    cases h
    exact AW.ret ⟨⟨_, hH347⟩, _, _, rfl, (Fin.of (p := (rB) false) .B rfl).2⟩
  refine AW.condF (congrArg AV.bool hc355) ?_
  refine AW.skip ?_
  refine AW.seq ?_
  refine AW.seq ?_
  refine AW.region ?_
  refine AOps.pureR rfl rfl rfl rfl rfl (rfl : _ = (AV.int .i64 y348)) ?_
  refine AOps.pureR rfl rfl rfl rfl rfl (rfl : _ = (AV.int .i64 y328.1)) ?_
  refine AOps.pureR rfl rfl rfl rfl rfl (rfl : _ = (AV.bool (y348 != y328.1))) ?_
  refine AOps.nilR ?_
  rcases oite h with ⟨hc356, h⟩ | ⟨hc356, h⟩
  · refine AW.condT (congrArg AV.bool hc356) ?_
    refine AW.seq ?_
    refine AW.region ?_
    refine AOps.pureR rfl rfl rfl rfl rfl (rfl : _ = (AV.bool false)) ?_
    refine AOps.nilR ?_
    cases h
    exact AW.ret ⟨⟨_, hH347⟩, _, _, rfl, (Fin.of (p := (rB) false) .B rfl).2⟩
  refine AW.condF (congrArg AV.bool hc356) ?_
  refine AW.skip ?_
  refine AW.seq ?_
  refine AW.region ?_
  refine AOps.ldE (v := (AV.agg [(AV.int .i64 p1.Stack), (AV.int .i64 p1.Start), (AV.sl z2 f3 e4), (AV.sl z6 f7 e8), (AV.sl z10 f11 e12), (AV.sl z14 f15 e16)])) rfl rfl rfl rfl rfl rfl ?_
  obtain ⟨y357, h358, h⟩ := obind h
  refine AOps.callP (g := 26) (args := [(AV.agg [(AV.int .i64 p1.Stack), (AV.int .i64 p1.Start), (AV.sl z2 f3 e4), (AV.sl z6 f7 e8), (AV.sl z10 f11 e12), (AV.sl z14 f15 e16)])]) (p := (rChecker) y357) rfl rfl rfl (laws_toChecker_ok h5 h9 h13 h17 h358 (HS.wf' hH347)) ?_
  intro _ o389 h359
  obtain ⟨_, rfl, h360⟩ := h359
  obtain ⟨_, _, rfl, h361, h362⟩ := Cs_cons h360
  cases h361
  obtain ⟨_, _, rfl, h363, h364⟩ := Cs_cons h362
  cases h363
  obtain ⟨_, _, rfl, h365, h366⟩ := Cs_cons h364
  obtain ⟨z367, f368, e369, rfl, h370⟩ := h365
  obtain ⟨_, _, rfl, h371, h372⟩ := Cs_cons h366
  obtain ⟨z373, f374, e375, rfl, h376⟩ := h371
  obtain ⟨_, _, rfl, h377, h378⟩ := Cs_cons h372
  obtain ⟨z379, f380, e381, rfl, h382⟩ := h377
  obtain ⟨_, _, rfl, h383, h384⟩ := Cs_cons h378
  obtain ⟨z385, f386, e387, rfl, h388⟩ := h383
  cases Cs_nil h384
  refine AOps.pureR rfl rfl rfl rfl rfl (rfl : _ = (AV.str p1_18)) ?_
  obtain ⟨y390, h391, h⟩ := obind h
  refine AOps.callP (g := 27) (args := [(AV.agg [(AV.int .i64 y357.Stack), (AV.int .i64 y357.Start), (AV.sl z367 f368 e369), (AV.sl z373 f374 e375), (AV.sl z379 f380 e381), (AV.sl z385 f386 e387)]), (AV.str p1_18)]) (p := (fun x => rT [(rL (rI .i64) 1) x.1, (rI .i64) x.2]) y390) rfl rfl rfl (impl_SummaryOf_ok h370 h376 h382 h388 h391 (HS.wf' hH347)) ?_
  intro _ o402 h392
  obtain ⟨_, rfl, h393⟩ := h392
  obtain ⟨_, _, rfl, h394, h395⟩ := Cs_cons h393
  obtain ⟨z396, f397, e398, rfl, h399⟩ := h394
  obtain ⟨_, _, rfl, h400, h401⟩ := Cs_cons h395
  cases h400
  cases Cs_nil h401
  refine AOps.pureR rfl rfl rfl rfl rfl (rfl : _ = (AV.tup [(AV.sl z396 f397 e398), (AV.int .i64 y390.2)])) ?_
  refine AOps.pureR rfl rfl rfl rfl rfl (rfl : _ = (AV.sl z396 f397 e398)) ?_
  refine AOps.pureR rfl rfl rfl rfl rfl (rfl : _ = (AV.int .i64 y390.2)) ?_
  refine AOps.assignR rfl rfl rfl (rfl : _ = (AV.sl z396 f397 e398)) rfl ?_
  refine AOps.assignR rfl rfl rfl (rfl : _ = (AV.int .i64 y390.2)) rfl ?_
  refine AOps.nilR ?_
  refine AW.seq ?_
  refine AW.seq ?_
  refine AW.region ?_
  refine AOps.pureR rfl rfl rfl rfl rfl (rfl : _ = (AV.sl z396 f397 e398)) ?_
  refine AOps.pureR rfl rfl rfl rfl rfl (rfl : _ = (AV.sl z64 f65 e66)) ?_
  obtain ⟨y403, h404, h⟩ := obind h
  refine AOps.lendP (g := 17) (args := [(AV.sl z396 f397 e398), (AV.sl z64 f65 e66)]) (ps := [(rL (rI .i64) 1) y390.1, (rL (rI .i64) 1) y58.1]) (p := (rB) y403) rfl rfl rfl rfl rfl rfl rfl (.cons (Fin.of (p := (rL (rI .i64) 1) y390.1) (.L fun _ => .I) (⟨_, _, _, rfl, h399⟩)) (.cons (Fin.of (p := (rL (rI .i64) 1) y58.1) (.L fun _ => .I) (⟨_, _, _, rfl, h67⟩)) .nil)) (fun args' hc => by obtain ⟨_, _, rfl, hv0, hd0⟩ := Cs_cons hc; obtain ⟨z405, f406, e407, rfl, h408⟩ := hv0; obtain ⟨_, _, rfl, hv1, hd1⟩ := Cs_cons hd0; obtain ⟨z409, f410, e411, rfl, h412⟩ := hv1; cases Cs_nil hd1; exact laws_eqInt64S_okN h408 h412 h404 WF.blind) (fun v n hv => by cases hv; rfl) ?_
  intro _ h413
  cases h413
  refine AOps.pureR rfl rfl rfl rfl rfl (rfl : _ = (AV.bool (!y403))) ?_
  refine AOps.pureR rfl rfl rfl rfl rfl (rfl : _ = (AV.bool (!y403))) ?_
  refine AOps.split 4 (fun f' => ∃ tm' os', f' = ⟨updL tm' [(9, h144), (12, (AV.int .i64 y328.1)), (95, (AV.bool ((!y403) || (y390.2 != y58.2))))], updL os' [], s336⟩) ?_ ?_
  · rcases Bool.eq_false_or_eq_true (!y403) with hc414 | hc414
    · refine AOps.know (d := 91) rfl hc414 ?_
      refine AOps.skipR rfl rfl ?_
      refine AOps.skipR rfl rfl ?_
      refine AOps.skipR rfl rfl ?_
      refine AOps.pureR rfl rfl rfl rfl rfl (rfl : _ = (AV.bool true)) ?_
      refine AOps.resR [(9, h144), (12, (AV.int .i64 y328.1)), (95, (AV.bool ((!y403) || (y390.2 != y58.2))))] [] ?_ ?_ _ ⟨_, _, rfl⟩
      · exact ⟨rfl, rfl, congrArg AV.bool (or_t hc414), trivial⟩
      exact trivial
    · refine AOps.know (d := 91) rfl hc414 ?_
      refine AOps.pureR rfl rfl rfl rfl rfl (rfl : _ = (AV.int .i64 y390.2)) ?_
      refine AOps.pureR rfl rfl rfl rfl rfl (rfl : _ = (AV.int .i64 y58.2)) ?_
      refine AOps.pureR rfl rfl rfl rfl rfl (rfl : _ = (AV.bool (y390.2 != y58.2))) ?_
      refine AOps.pureR rfl rfl rfl rfl rfl (rfl : _ = (AV.bool (y390.2 != y58.2))) ?_
      refine AOps.resR [(9, h144), (12, (AV.int .i64 y328.1)), (95, (AV.bool ((!y403) || (y390.2 != y58.2))))] [] ?_ ?_ _ ⟨_, _, rfl⟩
      · exact ⟨rfl, rfl, congrArg AV.bool (or_f hc414), trivial⟩
      exact trivial
  rintro _ ⟨tm, os, rfl⟩
  refine AOps.nilR ?_
  rcases oite h with ⟨hc415, h⟩ | ⟨hc415, h⟩
  · refine AW.condT (congrArg AV.bool hc415) ?_
    refine AW.seq ?_
    refine AW.region ?_
    refine AOps.pureR rfl rfl rfl rfl rfl (rfl : _ = (AV.bool false)) ?_
    refine AOps.nilR ?_
    cases h
    exact AW.ret ⟨⟨_, hH347⟩, _, _, rfl, (Fin.of (p := (rB) false) .B rfl).2⟩
  refine AW.condF (congrArg AV.bool hc415) ?_
  refine AW.skip ?_
  refine AW.seq ?_
  refine AW.region ?_
  refine AOps.pureR rfl rfl rfl rfl rfl (rfl : _ = (AV.int .i64 1)) ?_
  refine AOps.nilR ?_
  refine AW.seq ?_
  refine AW.region ?_
  refine AOps.pureR rfl rfl rfl rfl rfl (rfl : _ = h144) ?_
  refine AOps.pureR rfl rfl rfl rfl rfl (rfl : _ = (AV.int .i64 1)) ?_
  obtain ⟨y416, h417, h⟩ := obind h
  refine AOps.lendP (g := 21) (args := [h144, (AV.int .i64 1)]) (ps := [(rL (rI .i64) 1) y328.2, (rI .i64) 1]) (p := (rI .i64) y416) rfl rfl rfl rfl rfl rfl rfl (.cons (Fin.up (by decide) (HS.finS hH347 hG344 (j := 0) rfl Sub.here (Or.inl rfl))) (.cons (Fin.of (p := (rI .i64) 1) .I rfl) .nil)) (fun args' hc => by obtain ⟨_, _, rfl, hv0, hd0⟩ := Cs_cons hc; obtain ⟨z418, f419, e420, rfl, h421⟩ := hv0; obtain ⟨_, _, rfl, hv1, hd1⟩ := Cs_cons hd0; cases hv1; cases Cs_nil hd1; exact laws_heldInt64S_okN h421 h417 WF.blind) (fun v n hv => by cases hv; rfl) ?_
  intro _ h422
  cases h422
  refine AOps.assignR rfl rfl rfl (rfl : _ = (AV.int .i64 y416)) rfl ?_
  refine AOps.nilR ?_
  refine AW.seq ?_
  refine AW.seq ?_
  refine AW.region ?_
  refine AOps.pureR rfl rfl rfl rfl rfl (rfl : _ = (AV.int .i64 y416)) ?_
  refine AOps.pureR rfl rfl rfl rfl rfl (rfl : _ = (AV.bool (decide ((y416 : Int) < 0)))) ?_
  refine AOps.nilR ?_
  rcases oite h with ⟨hc423, h⟩ | ⟨hc423, h⟩
  · refine AW.condT (congrArg AV.bool hc423) ?_
    refine AW.seq ?_
    refine AW.region ?_
    refine AOps.pureR rfl rfl rfl rfl rfl (rfl : _ = (AV.bool false)) ?_
    refine AOps.nilR ?_
    cases h
    exact AW.ret ⟨⟨_, hH347⟩, _, _, rfl, (Fin.of (p := (rB) false) .B rfl).2⟩
  refine AW.condF (congrArg AV.bool hc423) ?_
  refine AW.skip ?_
  refine AW.seq ?_
  refine AW.seq ?_
  refine AW.region ?_
  refine AOps.pureR rfl rfl rfl rfl rfl (rfl : _ = (AV.int .i64 y416)) ?_
  refine AOps.pureR rfl rfl rfl rfl rfl (rfl : _ = (AV.int .i64 y328.1)) ?_
  refine AOps.pureR rfl rfl rfl rfl rfl (rfl : _ = (AV.bool (y416 != y328.1))) ?_
  refine AOps.nilR ?_
  rcases oite h with ⟨hc424, h⟩ | ⟨hc424, h⟩
  · refine AW.condT (congrArg AV.bool hc424) ?_
    refine AW.seq ?_
    refine AW.region ?_
    refine AOps.pureR rfl rfl rfl rfl rfl (rfl : _ = (AV.bool false)) ?_
    refine AOps.nilR ?_
    cases h
    exact AW.ret ⟨⟨_, hH347⟩, _, _, rfl, (Fin.of (p := (rB) false) .B rfl).2⟩
  refine AW.condF (congrArg AV.bool hc424) ?_
  refine AW.skip ?_
  refine AW.seq ?_
  refine AW.region ?_
  refine AOps.pureR rfl rfl rfl rfl rfl (rfl : _ = (AV.bool true)) ?_
  refine AOps.nilR ?_
  cases h
  exact AW.ret ⟨⟨_, hH347⟩, _, _, rfl, (Fin.of (p := (rB) true) .B rfl).2⟩
end Go.Proofs.Ytddjkclabfmakaa.law
