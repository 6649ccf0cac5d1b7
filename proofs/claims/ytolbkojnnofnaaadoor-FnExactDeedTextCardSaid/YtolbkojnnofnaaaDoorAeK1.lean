import Derived.Test.YtolbkojnnofnaaaDoorAeD
import Derived.Test.YtolbkojnnofnaaaDoorAe4
set_option linter.unusedVariables false
set_option linter.unusedSimpArgs false
namespace Go.Proofs.YtolbkojnnofnaaaDoor.law
open Go Go.Proofs Ae
set_option maxRecDepth 100000
set_option linter.unusedVariables false
theorem ext_fmt_ok {n b : Int} {r : List UInt8} (h : fmtM n b = some r) {st : St} (hs : WF st) : ACall Cf 16 [.int .i64 n, .int .i64 b] st fun v _ s' => rS r v ∧ s' = st := by
  refine ⟨0, .str r, false, st, ?_, rfl, rfl⟩
  show ((fmtM n b).map fun w => (AV.str w, false)).map _ = _
  rw [h]
  rfl
theorem laws_toDeed_ok {a1 : Deed} {s : St} {r : Deed} (h : laws_toDeed a1 = some r) (hs : WF s) : ACall Cf 5 [(AV.agg [(AV.int .i64 a1.Kind), (AV.int .i64 a1.A), (AV.int .i64 a1.B)])] s fun v _ s' => (rDeed) r v ∧ s' = s := by
  refine ACall.boxes rfl rfl rfl ?_
  have hH0 := HS.init hs
  unfold laws_toDeed at h
  refine AW.seq ?_
  refine AW.region ?_
  refine AOps.makeR rfl rfl rfl rfl rfl rfl (rfl : _ = (AV.eptr [(AV.int .i64 a1.Kind), (AV.int .i64 a1.A), (AV.int .i64 a1.B)] 0)) ?_
  refine AOps.allocP rfl rfl rfl rfl ⟨rfl, rfl⟩ rfl ?_
  refine AOps.nilR ?_
  refine AW.seq ?_
  refine AW.region ?_
  refine AOps.alloc1 hH0 rfl rfl rfl rfl rfl rfl ?_
  intro b2 s3 hH4
  change HS [] false s s3 [⟨some b2, [(AV.int .i64 0), (AV.int .i64 0), (AV.int .i64 0)], (fun _ => false)⟩] at hH4
  refine AOps.nilR ?_
  refine AW.seq ?_
  refine AW.region ?_
  refine AOps.pureR rfl rfl rfl rfl rfl (rfl : _ = (AV.eptr [(AV.int .i64 a1.Kind), (AV.int .i64 a1.A), (AV.int .i64 a1.B)] 0)) ?_
  refine AOps.ldE (v := (AV.int .i64 a1.Kind)) rfl rfl rfl rfl rfl rfl ?_
  refine AOps.pureR rfl rfl rfl rfl rfl (rfl : _ = (AV.ptr b2 0)) ?_
  refine AOps.stB (i := 0) (v := (AV.int .i64 a1.Kind)) hH4 rfl rfl rfl rfl rfl rfl rfl rfl rfl (lt_b rfl) (le_b rfl) rfl ?_
  intro w5 s6 h7 h8 hH9
  change HS [] false s s6 [⟨some b2, [(AV.int .i64 a1.Kind), (AV.int .i64 0), (AV.int .i64 0)], w5⟩] at hH9
  refine AOps.nilR ?_
  refine AW.seq ?_
  refine AW.region ?_
  refine AOps.pureR rfl rfl rfl rfl rfl (rfl : _ = (AV.eptr [(AV.int .i64 a1.Kind), (AV.int .i64 a1.A), (AV.int .i64 a1.B)] 1)) ?_
  refine AOps.ldE (v := (AV.int .i64 a1.A)) rfl rfl rfl rfl rfl rfl ?_
  refine AOps.pureR rfl rfl rfl rfl rfl (rfl : _ = (AV.ptr b2 1)) ?_
  refine AOps.stB (i := 0) (v := (AV.int .i64 a1.A)) hH9 rfl rfl rfl rfl rfl rfl rfl rfl rfl (lt_b rfl) (le_b rfl) rfl ?_
  intro w10 s11 h12 h13 hH14
  change HS [] false s s11 [⟨some b2, [(AV.int .i64 a1.Kind), (AV.int .i64 a1.A), (AV.int .i64 0)], w10⟩] at hH14
  refine AOps.nilR ?_
  refine AW.seq ?_
  refine AW.region ?_
  refine AOps.pureR rfl rfl rfl rfl rfl (rfl : _ = (AV.eptr [(AV.int .i64 a1.Kind), (AV.int .i64 a1.A), (AV.int .i64 a1.B)] 2)) ?_
  refine AOps.ldE (v := (AV.int .i64 a1.B)) rfl rfl rfl rfl rfl rfl ?_
  refine AOps.pureR rfl rfl rfl rfl rfl (rfl : _ = (AV.ptr b2 2)) ?_
  refine AOps.stB (i := 0) (v := (AV.int .i64 a1.B)) hH14 rfl rfl rfl rfl rfl rfl rfl rfl rfl (lt_b rfl) (le_b rfl) rfl ?_
  intro w15 s16 h17 h18 hH19
  change HS [] false s s16 [⟨some b2, [(AV.int .i64 a1.Kind), (AV.int .i64 a1.A), (AV.int .i64 a1.B)], w15⟩] at hH19
  refine AOps.nilR ?_
  refine AW.seq ?_
  refine AW.region ?_
  refine AOps.ldB (i := 0) (v := (AV.agg [(AV.int .i64 a1.Kind), (AV.int .i64 a1.A), (AV.int .i64 a1.B)])) hH19 rfl rfl rfl rfl rfl rfl rfl rfl rfl ?_
  refine AOps.stP (v := (AV.agg [(AV.int .i64 a1.Kind), (AV.int .i64 a1.A), (AV.int .i64 a1.B)])) rfl rfl rfl rfl rfl rfl rfl rfl rfl (lt_b rfl) rfl ?_
  refine AOps.nilR ?_
  cases h
  exact AW.ret ⟨⟨_, hH19⟩, _, _, rfl, (Fin.of (p := (rDeed) a1) (.A (.cons .I (.cons .I (.cons .I .nil)))) (⟨_, rfl, (.cons rfl (.cons rfl (.cons rfl .nil)))⟩)).2⟩
theorem spec_l00In_ok {n1 : Int} {low2 : Int} {high3 : Int} {s : St} {r : Bool} (h : spec_l00In n1 low2 high3 = some r) (hs : WF s) : ACall Cf 13 [(AV.int .i64 n1), (AV.int .i64 low2), (AV.int .i64 high3)] s fun v _ s' => (rB) r v ∧ s' = s := by
  refine ACall.pure rfl rfl rfl .B ?_
  have hWF := hs.lo'
  unfold spec_l00In at h
  refine AW.seq ?_
  refine AW.region ?_
  refine AOps.pureR rfl rfl rfl rfl rfl (rfl : _ = (AV.bool false)) ?_
  refine AOps.nilR ?_
  refine AW.seq ?_
  refine AW.region ?_
  refine AOps.pureR rfl rfl rfl rfl rfl (rfl : _ = (AV.int .i64 n1)) ?_
  refine AOps.pureR rfl rfl rfl rfl rfl (rfl : _ = (AV.int .i64 low2)) ?_
  refine AOps.pureR rfl rfl rfl rfl rfl (rfl : _ = (AV.bool (decide ((n1 : Int) ≥ low2)))) ?_
  refine AOps.pureR rfl rfl rfl rfl rfl (rfl : _ = (AV.bool (decide ((n1 : Int) ≥ low2)))) ?_
  refine AOps.split 4 (fun f' => ∃ tm' os', f' = ⟨updL tm' [(14, (AV.bool ((decide ((n1 : Int) ≥ low2)) && (decide ((n1 : Int) ≤ high3)))))], updL os' [], { s with lo := s.n }⟩) ?_ ?_
  · rcases Bool.eq_false_or_eq_true (decide ((n1 : Int) ≥ low2)) with hc4 | hc4
    · refine AOps.know (d := 10) rfl hc4 ?_
      refine AOps.pureR rfl rfl rfl rfl rfl (rfl : _ = (AV.int .i64 n1)) ?_
      refine AOps.pureR rfl rfl rfl rfl rfl (rfl : _ = (AV.int .i64 high3)) ?_
      refine AOps.pureR rfl rfl rfl rfl rfl (rfl : _ = (AV.bool (decide ((n1 : Int) ≤ high3)))) ?_
      refine AOps.pureR rfl rfl rfl rfl rfl (rfl : _ = (AV.bool (decide ((n1 : Int) ≤ high3)))) ?_
      refine AOps.resR [(14, (AV.bool ((decide ((n1 : Int) ≥ low2)) && (decide ((n1 : Int) ≤ high3)))))] [] ?_ ?_ _ ⟨_, _, rfl⟩
      · exact ⟨congrArg AV.bool (and_t hc4), trivial⟩
      exact trivial
    · refine AOps.know (d := 10) rfl hc4 ?_
      refine AOps.skipR rfl rfl ?_
      refine AOps.skipR rfl rfl ?_
      refine AOps.skipR rfl rfl ?_
      refine AOps.pureR rfl rfl rfl rfl rfl (rfl : _ = (AV.bool false)) ?_
      refine AOps.resR [(14, (AV.bool ((decide ((n1 : Int) ≥ low2)) && (decide ((n1 : Int) ≤ high3)))))] [] ?_ ?_ _ ⟨_, _, rfl⟩
      · exact ⟨congrArg AV.bool (and_f hc4), trivial⟩
      exact trivial
  rintro _ ⟨tm, os, rfl⟩
  refine AOps.assignR rfl rfl rfl (rfl : _ = (AV.bool ((decide ((n1 : Int) ≥ low2)) && (decide ((n1 : Int) ≤ high3))))) rfl ?_
  refine AOps.nilR ?_
  cases h
  exact AW.ret ⟨rfl, _, _, rfl, rfl⟩
theorem spec_l08Words_ok {s : St} {r : (List (List UInt8)) × (List Int)} (h : spec_l08Words = some r) (hs : WF s) : ACall Cf 8 [] s fun v _ s' => (fun x => rT [(rL rS 1) x.1, (rL (rI .i64) 1) x.2]) r v ∧ s' = s := by
  refine ACall.pure rfl rfl rfl (.T (.cons (.L fun _ => .S) (.cons (.L fun _ => .I) .nil))) ?_
  have hWF := hs.lo'
  unfold spec_l08Words at h
  refine AW.seq ?_
  refine AW.region ?_
  refine AOps.pureR rfl rfl rfl rfl rfl (rfl : _ = (AV.sl 0 true [])) ?_
  refine AOps.pureR rfl rfl rfl rfl rfl (rfl : _ = (AV.sl 0 true [])) ?_
  refine AOps.nilR ?_
  refine AW.seq ?_
  refine AW.region ?_
  refine AOps.makeR rfl rfl rfl rfl rfl rfl (rfl : _ = (AV.sl 1 true [(AV.str ([] : List UInt8)), (AV.str ([115, 101, 110, 100] : List UInt8)), (AV.str ([100, 101, 108, 105, 118, 101, 114] : List UInt8)), (AV.str ([99, 111, 112, 121] : List UInt8)), (AV.str ([100, 114, 111, 112] : List UInt8)), (AV.str ([115, 97, 118, 101] : List UInt8)), (AV.str ([99, 114, 97, 115, 104] : List UInt8))])) ?_
  refine AOps.makeR rfl rfl rfl rfl rfl rfl (rfl : _ = (AV.sl 1 true [(AV.int .i64 0), (AV.int .i64 2), (AV.int .i64 1), (AV.int .i64 1), (AV.int .i64 1), (AV.int .i64 0), (AV.int .i64 0)])) ?_
  refine AOps.assignR rfl rfl rfl (rfl : _ = (AV.sl 1 true [(AV.str ([] : List UInt8)), (AV.str ([115, 101, 110, 100] : List UInt8)), (AV.str ([100, 101, 108, 105, 118, 101, 114] : List UInt8)), (AV.str ([99, 111, 112, 121] : List UInt8)), (AV.str ([100, 114, 111, 112] : List UInt8)), (AV.str ([115, 97, 118, 101] : List UInt8)), (AV.str ([99, 114, 97, 115, 104] : List UInt8))])) rfl ?_
  refine AOps.assignR rfl rfl rfl (rfl : _ = (AV.sl 1 true [(AV.int .i64 0), (AV.int .i64 2), (AV.int .i64 1), (AV.int .i64 1), (AV.int .i64 1), (AV.int .i64 0), (AV.int .i64 0)])) rfl ?_
  refine AOps.nilR ?_
  cases h
  exact AW.ret ⟨rfl, _, _, rfl, ⟨_, rfl, (.cons ⟨_, _, _, rfl, LR.lit (r := rS) (sz := 1) (.cons rfl (.cons rfl (.cons rfl (.cons rfl (.cons rfl (.cons rfl (.cons rfl .nil)))))))⟩ (.cons ⟨_, _, _, rfl, LR.lit (r := rI .i64) (sz := 1) (.cons rfl (.cons rfl (.cons rfl (.cons rfl (.cons rfl (.cons rfl (.cons rfl .nil)))))))⟩ .nil))⟩⟩
theorem spec_l08Deed_ok {d1 : Deed} {s : St} {r : Bool} (h : spec_l08Deed d1 = some r) (hs : WF s) : ACall Cf 7 [(AV.agg [(AV.int .i64 d1.Kind), (AV.int .i64 d1.A), (AV.int .i64 d1.B)])] s fun v _ s' => (rB) r v ∧ s' = s := by
  refine ACall.pure rfl rfl rfl .B ?_
  have hWF := hs.lo'
  unfold spec_l08Deed at h
  refine AW.seq ?_
  refine AW.region ?_
  refine AOps.makeR rfl rfl rfl rfl rfl rfl (rfl : _ = (AV.eptr [(AV.int .i64 d1.Kind), (AV.int .i64 d1.A), (AV.int .i64 d1.B)] 0)) ?_
  refine AOps.pureR rfl rfl rfl rfl rfl (rfl : _ = (AV.bool false)) ?_
  refine AOps.nilR ?_
  refine AW.seq ?_
  refine AW.seq ?_
  refine AW.region ?_
  refine AOps.pureR rfl rfl rfl rfl rfl (rfl : _ = (AV.eptr [(AV.int .i64 d1.Kind), (AV.int .i64 d1.A), (AV.int .i64 d1.B)] 0)) ?_
  refine AOps.ldE (v := (AV.int .i64 d1.Kind)) rfl rfl rfl rfl rfl rfl ?_
  obtain ⟨y2, h3, h⟩ := obind h
  refine AOps.callP (g := 13) (args := [(AV.int .i64 d1.Kind), (AV.int .i64 1), (AV.int .i64 6)]) (p := (rB) y2) rfl rfl rfl (spec_l00In_ok  h3 hWF) ?_
  intro _ o5 h4
  cases h4
  refine AOps.pureR rfl rfl rfl rfl rfl (rfl : _ = (AV.bool (!y2))) ?_
  refine AOps.pureR rfl rfl rfl rfl rfl (rfl : _ = (AV.bool (!y2))) ?_
  obtain ⟨b7, hb, h⟩ := obind h
  refine AOps.split 5 (fun f' => ∃ tm' os', f' = ⟨updL tm' [(1, (AV.eptr [(AV.int .i64 d1.Kind), (AV.int .i64 d1.A), (AV.int .i64 d1.B)] 0)), (14, (AV.bool b7))], updL os' [], { s with lo := s.n }⟩) ?_ ?_
  · rcases oite hb with ⟨hc6, hb⟩ | ⟨hc6, hb⟩
    · refine AOps.know (d := 9) rfl hc6 ?_
      refine AOps.skipR rfl rfl ?_
      refine AOps.skipR rfl rfl ?_
      refine AOps.skipR rfl rfl ?_
      refine AOps.skipR rfl rfl ?_
      refine AOps.pureR rfl rfl rfl rfl rfl (rfl : _ = (AV.bool true)) ?_
      refine AOps.resR [(1, (AV.eptr [(AV.int .i64 d1.Kind), (AV.int .i64 d1.A), (AV.int .i64 d1.B)] 0)), (14, (AV.bool b7))] [] ?_ ?_ _ ⟨_, _, rfl⟩
      · exact ⟨rfl, congrArg AV.bool (Option.some.inj hb), trivial⟩
      exact trivial
    · have h := hb
      refine AOps.know (d := 9) rfl hc6 ?_
      refine AOps.pureR rfl rfl rfl rfl rfl (rfl : _ = (AV.eptr [(AV.int .i64 d1.Kind), (AV.int .i64 d1.A), (AV.int .i64 d1.B)] 1)) ?_
      refine AOps.ldE (v := (AV.int .i64 d1.A)) rfl rfl rfl rfl rfl rfl ?_
      obtain ⟨y8, h9, h⟩ := obind h
      refine AOps.callP (g := 13) (args := [(AV.int .i64 d1.A), (AV.int .i64 0), (AV.int .i64 999)]) (p := (rB) y8) rfl rfl rfl (spec_l00In_ok  h9 hWF) ?_
      intro _ o11 h10
      cases h10
      refine AOps.pureR rfl rfl rfl rfl rfl (rfl : _ = (AV.bool (!y8))) ?_
      refine AOps.pureR rfl rfl rfl rfl rfl (rfl : _ = (AV.bool (!y8))) ?_
      refine AOps.resR [(1, (AV.eptr [(AV.int .i64 d1.Kind), (AV.int .i64 d1.A), (AV.int .i64 d1.B)] 0)), (14, (AV.bool b7))] [] ?_ ?_ _ ⟨_, _, rfl⟩
      · exact ⟨rfl, congrArg AV.bool (Option.some.inj h), trivial⟩
      exact trivial
  rintro _ ⟨tm, os, rfl⟩
  refine AOps.pureR rfl rfl rfl rfl rfl (rfl : _ = (AV.bool b7)) ?_
  obtain ⟨b13, hb, h⟩ := obind h
  refine AOps.split 5 (fun f' => ∃ tm' os', f' = ⟨updL tm' [(1, (AV.eptr [(AV.int .i64 d1.Kind), (AV.int .i64 d1.A), (AV.int .i64 d1.B)] 0)), (20, (AV.bool b13))], updL os' [], { s with lo := s.n }⟩) ?_ ?_
  · rcases oite hb with ⟨hc12, hb⟩ | ⟨hc12, hb⟩
    · refine AOps.know (d := 15) rfl hc12 ?_
      refine AOps.skipR rfl rfl ?_
      refine AOps.skipR rfl rfl ?_
      refine AOps.skipR rfl rfl ?_
      refine AOps.skipR rfl rfl ?_
      refine AOps.pureR rfl rfl rfl rfl rfl (rfl : _ = (AV.bool true)) ?_
      refine AOps.resR [(1, (AV.eptr [(AV.int .i64 d1.Kind), (AV.int .i64 d1.A), (AV.int .i64 d1.B)] 0)), (20, (AV.bool b13))] [] ?_ ?_ _ ⟨_, _, rfl⟩
      · exact ⟨rfl, congrArg AV.bool (Option.some.inj hb), trivial⟩
      exact trivial
    · have h := hb
      refine AOps.know (d := 15) rfl hc12 ?_
      refine AOps.pureR rfl rfl rfl rfl rfl (rfl : _ = (AV.eptr [(AV.int .i64 d1.Kind), (AV.int .i64 d1.A), (AV.int .i64 d1.B)] 2)) ?_
      refine AOps.ldE (v := (AV.int .i64 d1.B)) rfl rfl rfl rfl rfl rfl ?_
      obtain ⟨y14, h15, h⟩ := obind h
      refine AOps.callP (g := 13) (args := [(AV.int .i64 d1.B), (AV.int .i64 0), (AV.int .i64 999)]) (p := (rB) y14) rfl rfl rfl (spec_l00In_ok  h15 hWF) ?_
      intro _ o17 h16
      cases h16
      refine AOps.pureR rfl rfl rfl rfl rfl (rfl : _ = (AV.bool (!y14))) ?_
      refine AOps.pureR rfl rfl rfl rfl rfl (rfl : _ = (AV.bool (!y14))) ?_
      refine AOps.resR [(1, (AV.eptr [(AV.int .i64 d1.Kind), (AV.int .i64 d1.A), (AV.int .i64 d1.B)] 0)), (20, (AV.bool b13))] [] ?_ ?_ _ ⟨_, _, rfl⟩
      · exact ⟨rfl, congrArg AV.bool (Option.some.inj h), trivial⟩
      exact trivial
  rintro _ ⟨tm, os, rfl⟩
  refine AOps.nilR ?_
  rcases oite h with ⟨hc18, h⟩ | ⟨hc18, h⟩
  · refine AW.condT (congrArg AV.bool hc18) ?_
    refine AW.seq ?_
    refine AW.region ?_
    refine AOps.pureR rfl rfl rfl rfl rfl (rfl : _ = (AV.bool false)) ?_
    refine AOps.nilR ?_
    cases h
    exact AW.ret ⟨rfl, _, _, rfl, rfl⟩
  refine AW.condF (congrArg AV.bool hc18) ?_
  refine AW.skip ?_
  refine AW.seq ?_
  refine AW.region ?_
  obtain ⟨y19, h20, h⟩ := obind h
  refine AOps.callP (g := 8) (args := []) (p := (fun x => rT [(rL rS 1) x.1, (rL (rI .i64) 1) x.2]) y19) rfl rfl rfl (spec_l08Words_ok  h20 hWF) ?_
  intro _ o35 h21
  obtain ⟨_, rfl, h22⟩ := h21
  obtain ⟨_, _, rfl, h23, h24⟩ := Cs_cons h22
  obtain ⟨z25, f26, e27, rfl, h28⟩ := h23
  obtain ⟨_, _, rfl, h29, h30⟩ := Cs_cons h24
  obtain ⟨z31, f32, e33, rfl, h34⟩ := h29
  cases Cs_nil h30
  refine AOps.pureR rfl rfl rfl rfl rfl (rfl : _ = (AV.tup [(AV.sl z25 f26 e27), (AV.sl z31 f32 e33)])) ?_
  refine AOps.pureR rfl rfl rfl rfl rfl (rfl : _ = (AV.sl z25 f26 e27)) ?_
  refine AOps.pureR rfl rfl rfl rfl rfl (rfl : _ = (AV.sl z31 f32 e33)) ?_
  refine AOps.assignR rfl rfl rfl (rfl : _ = (AV.sl z25 f26 e27)) rfl ?_
  refine AOps.assignR rfl rfl rfl (rfl : _ = (AV.sl z31 f32 e33)) rfl ?_
  refine AOps.nilR ?_
  refine AW.seq ?_
  refine AW.region ?_
  refine AOps.pureR rfl rfl rfl rfl rfl (rfl : _ = (AV.sl z31 f32 e33)) ?_
  refine AOps.pureR rfl rfl rfl rfl rfl (rfl : _ = (AV.eptr [(AV.int .i64 d1.Kind), (AV.int .i64 d1.A), (AV.int .i64 d1.B)] 0)) ?_
  refine AOps.ldE (v := (AV.int .i64 d1.Kind)) rfl rfl rfl rfl rfl rfl ?_
  obtain ⟨x36, h37, h⟩ := obind h
  obtain ⟨v40, h38, h39⟩ := idx_sl h34 h37
  cases h38
  refine AOps.pureR rfl rfl rfl h39 rfl (rfl : _ = (AV.eptr [(AV.int .i64 x36)] 0)) ?_
  refine AOps.ldE (v := (AV.int .i64 x36)) rfl rfl rfl rfl rfl rfl ?_
  refine AOps.pureR rfl rfl rfl rfl rfl (rfl : _ = (AV.bool (decide ((x36 : Int) > 0)))) ?_
  refine AOps.pureR rfl rfl rfl rfl rfl (rfl : _ = (AV.bool (decide ((x36 : Int) > 0)))) ?_
  refine AOps.split 4 (fun f' => ∃ tm' os', f' = ⟨updL tm' [(1, (AV.eptr [(AV.int .i64 d1.Kind), (AV.int .i64 d1.A), (AV.int .i64 d1.B)] 0)), (4, (AV.sl z31 f32 e33)), (35, (AV.bool ((decide ((x36 : Int) > 0)) || (d1.A == 0))))], updL os' [], { s with lo := s.n }⟩) ?_ ?_
  · rcases Bool.eq_false_or_eq_true (decide ((x36 : Int) > 0)) with hc41 | hc41
    · refine AOps.know (d := 31) rfl hc41 ?_
      refine AOps.skipR rfl rfl ?_
      refine AOps.skipR rfl rfl ?_
      refine AOps.skipR rfl rfl ?_
      refine AOps.pureR rfl rfl rfl rfl rfl (rfl : _ = (AV.bool true)) ?_
      refine AOps.resR [(1, (AV.eptr [(AV.int .i64 d1.Kind), (AV.int .i64 d1.A), (AV.int .i64 d1.B)] 0)), (4, (AV.sl z31 f32 e33)), (35, (AV.bool ((decide ((x36 : Int) > 0)) || (d1.A == 0))))] [] ?_ ?_ _ ⟨_, _, rfl⟩
      · exact ⟨rfl, rfl, congrArg AV.bool (or_t hc41), trivial⟩
      exact trivial
    · refine AOps.know (d := 31) rfl hc41 ?_
      refine AOps.pureR rfl rfl rfl rfl rfl (rfl : _ = (AV.eptr [(AV.int .i64 d1.Kind), (AV.int .i64 d1.A), (AV.int .i64 d1.B)] 1)) ?_
      refine AOps.ldE (v := (AV.int .i64 d1.A)) rfl rfl rfl rfl rfl rfl ?_
      refine AOps.pureR rfl rfl rfl rfl rfl (rfl : _ = (AV.bool (d1.A == 0))) ?_
      refine AOps.pureR rfl rfl rfl rfl rfl (rfl : _ = (AV.bool (d1.A == 0))) ?_
      refine AOps.resR [(1, (AV.eptr [(AV.int .i64 d1.Kind), (AV.int .i64 d1.A), (AV.int .i64 d1.B)] 0)), (4, (AV.sl z31 f32 e33)), (35, (AV.bool ((decide ((x36 : Int) > 0)) || (d1.A == 0))))] [] ?_ ?_ _ ⟨_, _, rfl⟩
      · exact ⟨rfl, rfl, congrArg AV.bool (or_f hc41), trivial⟩
      exact trivial
  rintro _ ⟨tm, os, rfl⟩
  refine AOps.pureR rfl rfl rfl rfl rfl (rfl : _ = (AV.bool ((decide ((x36 : Int) > 0)) || (d1.A == 0)))) ?_
  obtain ⟨b43, hb, h⟩ := obind h
  refine AOps.split 12 (fun f' => ∃ tm' os', f' = ⟨updL tm' [(48, (AV.bool b43))], updL os' [], { s with lo := s.n }⟩) ?_ ?_
  · rcases oite hb with ⟨hc42, hb⟩ | ⟨hc42, hb⟩
    · have h := hb
      refine AOps.know (d := 36) rfl hc42 ?_
      refine AOps.pureR rfl rfl rfl rfl rfl (rfl : _ = (AV.sl z31 f32 e33)) ?_
      refine AOps.pureR rfl rfl rfl rfl rfl (rfl : _ = (AV.eptr [(AV.int .i64 d1.Kind), (AV.int .i64 d1.A), (AV.int .i64 d1.B)] 0)) ?_
      refine AOps.ldE (v := (AV.int .i64 d1.Kind)) rfl rfl rfl rfl rfl rfl ?_
      obtain ⟨x44, h45, h⟩ := obind h
      obtain ⟨v48, h46, h47⟩ := idx_sl h34 h45
      cases h46
      refine AOps.pureR rfl rfl rfl h47 rfl (rfl : _ = (AV.eptr [(AV.int .i64 x44)] 0)) ?_
      refine AOps.ldE (v := (AV.int .i64 x44)) rfl rfl rfl rfl rfl rfl ?_
      refine AOps.pureR rfl rfl rfl rfl rfl (rfl : _ = (AV.bool (decide ((x44 : Int) > 1)))) ?_
      refine AOps.pureR rfl rfl rfl rfl rfl (rfl : _ = (AV.bool (decide ((x44 : Int) > 1)))) ?_
      refine AOps.split 4 (fun f' => ∃ tm' os', f' = ⟨updL tm' [(36, (AV.bool true)), (47, (AV.bool ((decide ((x44 : Int) > 1)) || (d1.B == 0))))], updL os' [], { s with lo := s.n }⟩) ?_ ?_
      · rcases Bool.eq_false_or_eq_true (decide ((x44 : Int) > 1)) with hc49 | hc49
        · refine AOps.know (d := 43) rfl hc49 ?_
          refine AOps.skipR rfl rfl ?_
          refine AOps.skipR rfl rfl ?_
          refine AOps.skipR rfl rfl ?_
          refine AOps.pureR rfl rfl rfl rfl rfl (rfl : _ = (AV.bool true)) ?_
          refine AOps.resR [(36, (AV.bool true)), (47, (AV.bool ((decide ((x44 : Int) > 1)) || (d1.B == 0))))] [] ?_ ?_ _ ⟨_, _, rfl⟩
          · exact ⟨rfl, congrArg AV.bool (or_t hc49), trivial⟩
          exact trivial
        · refine AOps.know (d := 43) rfl hc49 ?_
          refine AOps.pureR rfl rfl rfl rfl rfl (rfl : _ = (AV.eptr [(AV.int .i64 d1.Kind), (AV.int .i64 d1.A), (AV.int .i64 d1.B)] 2)) ?_
          refine AOps.ldE (v := (AV.int .i64 d1.B)) rfl rfl rfl rfl rfl rfl ?_
          refine AOps.pureR rfl rfl rfl rfl rfl (rfl : _ = (AV.bool (d1.B == 0))) ?_
          refine AOps.pureR rfl rfl rfl rfl rfl (rfl : _ = (AV.bool (d1.B == 0))) ?_
          refine AOps.resR [(36, (AV.bool true)), (47, (AV.bool ((decide ((x44 : Int) > 1)) || (d1.B == 0))))] [] ?_ ?_ _ ⟨_, _, rfl⟩
          · exact ⟨rfl, congrArg AV.bool (or_f hc49), trivial⟩
          exact trivial
      rintro _ ⟨tm, os, rfl⟩
      refine AOps.pureR rfl rfl rfl rfl rfl (rfl : _ = (AV.bool ((decide ((x44 : Int) > 1)) || (d1.B == 0)))) ?_
      refine AOps.resR [(48, (AV.bool b43))] [] ?_ ?_ _ ⟨_, _, rfl⟩
      · exact ⟨congrArg AV.bool (Option.some.inj h), trivial⟩
      exact trivial
    · refine AOps.know (d := 36) rfl hc42 ?_
      refine AOps.skipR rfl rfl ?_
      refine AOps.skipR rfl rfl ?_
      refine AOps.skipR rfl rfl ?_
      refine AOps.skipR rfl rfl ?_
      refine AOps.skipR rfl rfl ?_
      refine AOps.skipR rfl rfl ?_
      refine AOps.skipR rfl rfl ?_
      refine AOps.skipR rfl rfl ?_
      refine AOps.skipR rfl rfl ?_
      refine AOps.skipR rfl rfl ?_
      refine AOps.skipR rfl rfl ?_
      refine AOps.pureR rfl rfl rfl rfl rfl (rfl : _ = (AV.bool false)) ?_
      refine AOps.resR [(48, (AV.bool b43))] [] ?_ ?_ _ ⟨_, _, rfl⟩
      · exact ⟨congrArg AV.bool (Option.some.inj hb), trivial⟩
      exact trivial
  rintro _ ⟨tm, os, rfl⟩
  refine AOps.assignR rfl rfl rfl (rfl : _ = (AV.bool b43)) rfl ?_
  refine AOps.nilR ?_
  cases h
  exact AW.ret ⟨rfl, _, _, rfl, rfl⟩
theorem spec_Decimal_B_ok {rec14 : Int → Option (List UInt8)} {n1 : Int} {s : St} (rec14_ok : ∀ {a1 : Int} {s : St} {r : (List UInt8)}, rec14 a1 = some r → WF s → ACall Cf 14 [(AV.int .i64 a1)] s fun v _ s' => (rS) r v ∧ s' = s) {r : (List UInt8)} (h : spec_Decimal_B rec14 n1 = some r) (hs : WF s) : ACall Cf 14 [(AV.int .i64 n1)] s fun v _ s' => (rS) r v ∧ s' = s := by
  refine ACall.pure rfl rfl rfl .S ?_
  have hWF := hs.lo'
  unfold spec_Decimal_B at h
  refine AW.seq ?_
  refine AW.region ?_
  refine AOps.pureR rfl rfl rfl rfl rfl (rfl : _ = (AV.str ([] : List UInt8))) ?_
  refine AOps.nilR ?_
  refine AW.seq ?_
  refine AW.seq ?_
  refine AW.region ?_
  refine AOps.pureR rfl rfl rfl rfl rfl (rfl : _ = (AV.int .i64 n1)) ?_
  refine AOps.pureR rfl rfl rfl rfl rfl (rfl : _ = (AV.bool (decide ((n1 : Int) ≥ 10)))) ?_
  refine AOps.nilR ?_
  rcases oite h with ⟨hc2, h⟩ | ⟨hc2, h⟩
  · refine AW.condT (congrArg AV.bool hc2) ?_
    refine AW.seq ?_
    refine AW.region ?_
    refine AOps.pureR rfl rfl rfl rfl rfl (rfl : _ = (AV.int .i64 n1)) ?_
    obtain ⟨q3, h4, h⟩ := obind h
    refine AOps.pureR rfl rfl rfl (quo_ok h4) rfl (rfl : _ = (AV.int .i64 q3)) ?_
    obtain ⟨y5, h6, h⟩ := obind h
    refine AOps.callDP (g := 14) (args := [(AV.int .i64 q3)]) (p := (rS) y5) rfl rfl rfl (rec14_ok  h6 hWF.still) (fun v hv => Nice.pure (k := FINK) (p := (rS) y5) .S _ v hv) ?_
    intro _ o8 h7
    cases h7
    refine AOps.pureR rfl rfl rfl rfl rfl (rfl : _ = (AV.int .i64 n1)) ?_
    obtain ⟨q9, h10, h⟩ := obind h
    refine AOps.pureR rfl rfl rfl (rem_ok h10) rfl (rfl : _ = (AV.int .i64 q9)) ?_
    refine AOps.pureR rfl rfl rfl rfl rfl (rfl : _ = (AV.int .i64 (IntKind.wrap .i64 (48 + q9)))) ?_
    refine AOps.pureR rfl rfl rfl rfl rfl (rfl : _ = (AV.int .u8 (IntKind.wrap .u8 (IntKind.wrap .i64 (48 + q9))))) ?_
    refine AOps.makeR rfl rfl rfl rfl rfl rfl (rfl : _ = (AV.sl 1 true [(AV.int .u8 (IntKind.wrap .u8 (IntKind.wrap .i64 (48 + q9))))])) ?_
    refine AOps.pureR rfl rfl rfl (bytes_str (l := ([IntKind.wrap .u8 (IntKind.wrap .i64 (48 + q9))] : List Int)) (z := 1) (e := [(AV.int .u8 (IntKind.wrap .u8 (IntKind.wrap .i64 (48 + q9))))]) (LR.lit (r := rI .u8) (sz := 1) (.cons rfl .nil))) rfl (rfl : _ = (AV.str (bytesOf ([IntKind.wrap .u8 (IntKind.wrap .i64 (48 + q9))] : List Int)))) ?_
    obtain ⟨w11, h12, h⟩ := obind h
    refine AOps.pureR rfl rfl rfl (add_str h12) rfl (rfl : _ = (AV.str w11)) ?_
    refine AOps.assignR rfl rfl rfl (rfl : _ = (AV.str w11)) rfl ?_
    refine AOps.nilR ?_
    cases h
    exact AW.ret ⟨rfl, _, _, rfl, rfl⟩
  refine AW.condF (congrArg AV.bool hc2) ?_
  refine AW.skip ?_
  refine AW.seq ?_
  refine AW.region ?_
  refine AOps.pureR rfl rfl rfl rfl rfl (rfl : _ = (AV.int .i64 n1)) ?_
  refine AOps.pureR rfl rfl rfl rfl rfl (rfl : _ = (AV.int .i64 (IntKind.wrap .i64 (48 + n1)))) ?_
  refine AOps.pureR rfl rfl rfl rfl rfl (rfl : _ = (AV.int .u8 (IntKind.wrap .u8 (IntKind.wrap .i64 (48 + n1))))) ?_
  refine AOps.makeR rfl rfl rfl rfl rfl rfl (rfl : _ = (AV.sl 1 true [(AV.int .u8 (IntKind.wrap .u8 (IntKind.wrap .i64 (48 + n1))))])) ?_
  refine AOps.pureR rfl rfl rfl (bytes_str (l := ([IntKind.wrap .u8 (IntKind.wrap .i64 (48 + n1))] : List Int)) (z := 1) (e := [(AV.int .u8 (IntKind.wrap .u8 (IntKind.wrap .i64 (48 + n1))))]) (LR.lit (r := rI .u8) (sz := 1) (.cons rfl .nil))) rfl (rfl : _ = (AV.str (bytesOf ([IntKind.wrap .u8 (IntKind.wrap .i64 (48 + n1))] : List Int)))) ?_
  refine AOps.assignR rfl rfl rfl (rfl : _ = (AV.str (bytesOf ([IntKind.wrap .u8 (IntKind.wrap .i64 (48 + n1))] : List Int)))) rfl ?_
  refine AOps.nilR ?_
  cases h
  exact AW.ret ⟨rfl, _, _, rfl, rfl⟩
theorem spec_Decimal_N_ok (n : Nat) : ∀ {a1 : Int} {s : St} {r : (List UInt8)}, spec_Decimal_N n a1 = some r → WF s → ACall Cf 14 [(AV.int .i64 a1)] s fun v _ s' => (rS) r v ∧ s' = s := by
  induction n with
  | zero => intros; rename_i h _; cases h
  | succ n ih =>
    intros
    rename_i h hs
    exact spec_Decimal_B_ok ih  h hs
theorem spec_Decimal_ok {a1 : Int} {s : St} {r : (List UInt8)} (h : spec_Decimal a1 = some r) (hs : WF s) : ACall Cf 14 [(AV.int .i64 a1)] s fun v _ s' => (rS) r v ∧ s' = s := spec_Decimal_N_ok 1000  h hs
theorem spec_l02Row_ok {text1 : List UInt8} {list2 : List Int} {z3 : Nat} {f4 : Bool} {e5 : List AV} {s : St} (h6 : LR (rI .i64) 1 list2 z3 e5) {r : (List UInt8)} (h : spec_l02Row text1 list2 = some r) (hs : WF s) : ACall Cf 9 [(AV.str text1), (AV.sl z3 f4 e5)] s fun v _ s' => (rS) r v ∧ s' = s := by
  refine ACall.pure rfl rfl rfl .S ?_
  have hWF := hs.lo'
  unfold spec_l02Row at h
  refine AW.seq ?_
  refine AW.region ?_
  refine AOps.pureR rfl rfl rfl rfl rfl (rfl : _ = (AV.str ([] : List UInt8))) ?_
  refine AOps.nilR ?_
  refine AW.seq ?_
  refine AW.seq ?_
  refine AW.region ?_
  refine AOps.pureR rfl rfl rfl rfl rfl (rfl : _ = (AV.int .i64 0)) ?_
  refine AOps.nilR ?_
  refine AW.meet (σ := (List UInt8)) (fun text7 tm os => ⟨updL tm [(0, (AV.str text7))], updL os [], { s with lo := s.n }⟩) (fun text7 => spec_l02Row_J1 text7 = some r) ?_ ?_
  · rintro text7 tm os h
    unfold spec_l02Row_J1 at h
    refine AW.seq ?_
    refine AW.region ?_
    refine AOps.pureR rfl rfl rfl rfl rfl (rfl : _ = (AV.str text7)) ?_
    refine AOps.assignR rfl rfl rfl (rfl : _ = (AV.str text7)) rfl ?_
    refine AOps.nilR ?_
    cases h
    exact AW.ret ⟨rfl, _, _, rfl, rfl⟩
  intro KJ8
  refine AW.block ?_
  refine AW.res [(0, (AV.str text1)), (1, (AV.sl z3 f4 e5)), (5, (AV.int .i64 0))] [] ⟨rfl, rfl, rfl, trivial⟩ trivial ?_
  refine AW.loopF (σ := (List UInt8) × Int) (τ := Unit) (fun (text9, i10) _ => True) (fun (text9, i10) _ tm os => ⟨updL tm [(0, (AV.str text9)), (1, (AV.sl z3 f4 e5)), (5, (AV.int .i64 i10))], updL os [], { s with lo := s.n }⟩) ?_ (x := (text1, 0)) (y := ()) h trivial
  clear h
  rintro ⟨text9, i10⟩ _ tm os - e1 h hL1 hR1
  unfold spec_l02Row_S1 at h
  dsimp only at h
  refine AW.seq ?_
  refine AW.seq ?_
  refine AW.region ?_
  refine AOps.pureR rfl rfl rfl rfl rfl (rfl : _ = (AV.int .i64 i10)) ?_
  refine AOps.pureR rfl rfl rfl rfl rfl (rfl : _ = (AV.sl z3 f4 e5)) ?_
  refine AOps.pureR rfl rfl rfl rfl rfl (len_eq h6) ?_
  refine AOps.pureR rfl rfl rfl rfl rfl (rfl : _ = (AV.bool (decide ((i10 : Int) < (list2.length : Int))))) ?_
  refine AOps.nilR ?_
  rcases oite h with ⟨hc11, h⟩ | ⟨hc11, h⟩
  · refine AW.condT (congrArg AV.bool hc11) ?_
    refine AW.skip ?_
    refine AW.seq ?_
    refine AW.block ?_
    refine AW.region ?_
    refine AOps.pureR rfl rfl rfl rfl rfl (rfl : _ = (AV.str text9)) ?_
    refine AOps.pureR rfl rfl rfl rfl rfl (rfl : _ = (AV.sl z3 f4 e5)) ?_
    refine AOps.pureR rfl rfl rfl rfl rfl (rfl : _ = (AV.int .i64 i10)) ?_
    obtain ⟨x12, h13, h⟩ := obind h
    obtain ⟨v16, h14, h15⟩ := idx_sl h6 h13
    cases h14
    refine AOps.pureR rfl rfl rfl h15 rfl (rfl : _ = (AV.eptr [(AV.int .i64 x12)] 0)) ?_
    refine AOps.ldE (v := (AV.int .i64 x12)) rfl rfl rfl rfl rfl rfl ?_
    obtain ⟨y17, h18, h⟩ := obind h
    refine AOps.callP (g := 14) (args := [(AV.int .i64 x12)]) (p := (rS) y17) rfl rfl rfl (spec_Decimal_ok  h18 hWF) ?_
    intro _ o20 h19
    cases h19
    obtain ⟨w21, h22, h⟩ := obind h
    refine AOps.pureR rfl rfl rfl (add_str h22) rfl (rfl : _ = (AV.str w21)) ?_
    obtain ⟨w23, h24, h⟩ := obind h
    refine AOps.pureR rfl rfl rfl (add_str h24) rfl (rfl : _ = (AV.str w23)) ?_
    refine AOps.assignR rfl rfl rfl (rfl : _ = (AV.str w23)) rfl ?_
    refine AOps.nilR ?_
    refine AW.inBlock ?_
    refine AW.region ?_
    refine AOps.pureR rfl rfl rfl rfl rfl (rfl : _ = (AV.int .i64 i10)) ?_
    refine AOps.pureR rfl rfl rfl rfl rfl (rfl : _ = (AV.int .i64 (IntKind.wrap .i64 (i10 + 1)))) ?_
    refine AOps.assignR rfl rfl rfl (rfl : _ = (AV.int .i64 (IntKind.wrap .i64 (i10 + 1)))) rfl ?_
    refine AOps.nilR ?_
    cases h
    exact AW.res [(0, (AV.str w23)), (1, (AV.sl z3 f4 e5)), (5, (AV.int .i64 (IntKind.wrap .i64 (i10 + 1))))] [] ⟨rfl, rfl, rfl, trivial⟩ trivial (hL1 _ rfl () _ _ trivial)
  refine AW.condF (congrArg AV.bool hc11) ?_
  refine AW.exit rfl ?_
  obtain ⟨r25, hm, hx⟩ := omap h
  clear h
  subst hx
  have hx := hR1 _ rfl
  rw [hx] at hm
  have h := hm
  exact AW.res [(0, (AV.str text9))] [] ⟨rfl, trivial⟩ trivial (KJ8 (text9) _ _ h)
theorem spec_DeedText_ok {d1 : Deed} {s : St} {r : (List UInt8)} (h : spec_DeedText d1 = some r) (hs : WF s) : ACall Cf 4 [(AV.agg [(AV.int .i64 d1.Kind), (AV.int .i64 d1.A), (AV.int .i64 d1.B)])] s fun v _ s' => (rS) r v ∧ s' = s := by
  refine ACall.pure rfl rfl rfl .S ?_
  have hWF := hs.lo'
  unfold spec_DeedText at h
  refine AW.seq ?_
  refine AW.region ?_
  refine AOps.makeR rfl rfl rfl rfl rfl rfl (rfl : _ = (AV.eptr [(AV.int .i64 d1.Kind), (AV.int .i64 d1.A), (AV.int .i64 d1.B)] 0)) ?_
  refine AOps.pureR rfl rfl rfl rfl rfl (rfl : _ = (AV.str ([] : List UInt8))) ?_
  refine AOps.nilR ?_
  refine AW.seq ?_
  refine AW.seq ?_
  refine AW.region ?_
  refine AOps.ldE (v := (AV.agg [(AV.int .i64 d1.Kind), (AV.int .i64 d1.A), (AV.int .i64 d1.B)])) rfl rfl rfl rfl rfl rfl ?_
  obtain ⟨y2, h3, h⟩ := obind h
  refine AOps.callP (g := 7) (args := [(AV.agg [(AV.int .i64 d1.Kind), (AV.int .i64 d1.A), (AV.int .i64 d1.B)])]) (p := (rB) y2) rfl rfl rfl (spec_l08Deed_ok  h3 hWF) ?_
  intro _ o5 h4
  cases h4
  refine AOps.pureR rfl rfl rfl rfl rfl (rfl : _ = (AV.bool (!y2))) ?_
  refine AOps.nilR ?_
  rcases oite h with ⟨hc6, h⟩ | ⟨hc6, h⟩
  · refine AW.condT (congrArg AV.bool hc6) ?_
    refine AW.seq ?_
    refine AW.region ?_
    refine AOps.pureR rfl rfl rfl rfl rfl (rfl : _ = (AV.str ([] : List UInt8))) ?_
    refine AOps.nilR ?_
    cases h
    exact AW.ret ⟨rfl, _, _, rfl, rfl⟩
  refine AW.condF (congrArg AV.bool hc6) ?_
  refine AW.skip ?_
  refine AW.seq ?_
  refine AW.region ?_
  obtain ⟨y7, h8, h⟩ := obind h
  refine AOps.callP (g := 8) (args := []) (p := (fun x => rT [(rL rS 1) x.1, (rL (rI .i64) 1) x.2]) y7) rfl rfl rfl (spec_l08Words_ok  h8 hWF) ?_
  intro _ o23 h9
  obtain ⟨_, rfl, h10⟩ := h9
  obtain ⟨_, _, rfl, h11, h12⟩ := Cs_cons h10
  obtain ⟨z13, f14, e15, rfl, h16⟩ := h11
  obtain ⟨_, _, rfl, h17, h18⟩ := Cs_cons h12
  obtain ⟨z19, f20, e21, rfl, h22⟩ := h17
  cases Cs_nil h18
  refine AOps.pureR rfl rfl rfl rfl rfl (rfl : _ = (AV.tup [(AV.sl z13 f14 e15), (AV.sl z19 f20 e21)])) ?_
  refine AOps.pureR rfl rfl rfl rfl rfl (rfl : _ = (AV.sl z13 f14 e15)) ?_
  refine AOps.pureR rfl rfl rfl rfl rfl (rfl : _ = (AV.sl z19 f20 e21)) ?_
  refine AOps.assignR rfl rfl rfl (rfl : _ = (AV.sl z13 f14 e15)) rfl ?_
  refine AOps.assignR rfl rfl rfl (rfl : _ = (AV.sl z19 f20 e21)) rfl ?_
  refine AOps.nilR ?_
  refine AW.seq ?_
  refine AW.region ?_
  refine AOps.pureR rfl rfl rfl rfl rfl (rfl : _ = (AV.sl z13 f14 e15)) ?_
  refine AOps.pureR rfl rfl rfl rfl rfl (rfl : _ = (AV.eptr [(AV.int .i64 d1.Kind), (AV.int .i64 d1.A), (AV.int .i64 d1.B)] 0)) ?_
  refine AOps.ldE (v := (AV.int .i64 d1.Kind)) rfl rfl rfl rfl rfl rfl ?_
  obtain ⟨x24, h25, h⟩ := obind h
  obtain ⟨v28, h26, h27⟩ := idx_sl h16 h25
  cases h26
  refine AOps.pureR rfl rfl rfl h27 rfl (rfl : _ = (AV.eptr [(AV.str x24)] 0)) ?_
  refine AOps.ldE (v := (AV.str x24)) rfl rfl rfl rfl rfl rfl ?_
  refine AOps.pureR rfl rfl rfl rfl rfl (rfl : _ = (AV.eptr [(AV.int .i64 d1.Kind), (AV.int .i64 d1.A), (AV.int .i64 d1.B)] 1)) ?_
  refine AOps.ldE (v := (AV.int .i64 d1.A)) rfl rfl rfl rfl rfl rfl ?_
  refine AOps.pureR rfl rfl rfl rfl rfl (rfl : _ = (AV.eptr [(AV.int .i64 d1.Kind), (AV.int .i64 d1.A), (AV.int .i64 d1.B)] 2)) ?_
  refine AOps.ldE (v := (AV.int .i64 d1.B)) rfl rfl rfl rfl rfl rfl ?_
  refine AOps.makeR rfl rfl rfl rfl rfl rfl (rfl : _ = (AV.sl 1 true [(AV.int .i64 d1.A), (AV.int .i64 d1.B)])) ?_
  refine AOps.pureR rfl rfl rfl rfl rfl (rfl : _ = (AV.sl z19 f20 e21)) ?_
  refine AOps.pureR rfl rfl rfl rfl rfl (rfl : _ = (AV.eptr [(AV.int .i64 d1.Kind), (AV.int .i64 d1.A), (AV.int .i64 d1.B)] 0)) ?_
  refine AOps.ldE (v := (AV.int .i64 d1.Kind)) rfl rfl rfl rfl rfl rfl ?_
  obtain ⟨x29, h30, h⟩ := obind h
  obtain ⟨v33, h31, h32⟩ := idx_sl h22 h30
  cases h31
  refine AOps.pureR rfl rfl rfl h32 rfl (rfl : _ = (AV.eptr [(AV.int .i64 x29)] 0)) ?_
  refine AOps.ldE (v := (AV.int .i64 x29)) rfl rfl rfl rfl rfl rfl ?_
  obtain ⟨l34, h35, h⟩ := obind h
  obtain ⟨f36, e37, h38, h39⟩ := cut_slH true (LR.lit (r := rI .i64) (sz := 1) (.cons rfl (.cons rfl .nil))) h35
  refine AOps.pureR rfl rfl rfl h39 rfl (rfl : _ = (AV.sl 1 f36 e37)) ?_
  obtain ⟨y40, h41, h⟩ := obind h
  refine AOps.callDP (g := 9) (args := [(AV.str x24), (AV.sl 1 f36 e37)]) (p := (rS) y40) rfl rfl rfl (spec_l02Row_ok h38 h41 hWF.still) (fun v hv => Nice.pure (k := FINK) (p := (rS) y40) .S _ v hv) ?_
  intro _ o43 h42
  cases h42
  refine AOps.assignR rfl rfl rfl (rfl : _ = (AV.str y40)) rfl ?_
  refine AOps.nilR ?_
  cases h
  exact AW.ret ⟨rfl, _, _, rfl, rfl⟩
theorem impl_deedWord_ok {kind1 : Int} {s : St} {r : (List UInt8) × Int} (h : impl_deedWord kind1 = some r) (hs : WF s) : ACall Cf 11 [(AV.int .i64 kind1)] s fun v _ s' => (fun x => rT [rS x.1, (rI .i64) x.2]) r v ∧ s' = s := by
  refine ACall.pure rfl rfl rfl (.T (.cons .S (.cons .I .nil))) ?_
  have hWF := hs.lo'
  unfold impl_deedWord at h
  refine AW.seq ?_
  refine AW.region ?_
  refine AOps.pureR rfl rfl rfl rfl rfl (rfl : _ = (AV.str ([] : List UInt8))) ?_
  refine AOps.pureR rfl rfl rfl rfl rfl (rfl : _ = (AV.int .i64 0)) ?_
  refine AOps.nilR ?_
  refine AW.seq ?_
  refine AW.seq ?_
  refine AW.region ?_
  refine AOps.pureR rfl rfl rfl rfl rfl (rfl : _ = (AV.int .i64 kind1)) ?_
  refine AOps.nilR ?_
  refine AW.block ?_
  refine AW.seq ?_
  refine AW.region ?_
  refine AOps.pureR rfl rfl rfl rfl rfl (rfl : _ = (AV.bool (kind1 == 1))) ?_
  refine AOps.assignR rfl rfl rfl (rfl : _ = (AV.bool (kind1 == 1))) rfl ?_
  refine AOps.nilR ?_
  rcases oite h with ⟨hc2, h⟩ | ⟨hc2, h⟩
  · refine AW.condT (congrArg AV.bool hc2) ?_
    refine AW.seq ?_
    refine AW.region ?_
    refine AOps.pureR rfl rfl rfl rfl rfl (rfl : _ = (AV.str ([115, 101, 110, 100] : List UInt8))) ?_
    refine AOps.pureR rfl rfl rfl rfl rfl (rfl : _ = (AV.int .i64 2)) ?_
    refine AOps.nilR ?_
    cases h
    exact AW.ret ⟨rfl, _, _, rfl, ⟨_, rfl, (.cons rfl (.cons rfl .nil))⟩⟩
  refine AW.condF (congrArg AV.bool hc2) ?_
  refine AW.seq ?_
  refine AW.region ?_
  refine AOps.pureR rfl rfl rfl rfl rfl (rfl : _ = (AV.bool (kind1 == 2))) ?_
  refine AOps.assignR rfl rfl rfl (rfl : _ = (AV.bool (kind1 == 2))) rfl ?_
  refine AOps.nilR ?_
  rcases oite h with ⟨hc3, h⟩ | ⟨hc3, h⟩
  · refine AW.condT (congrArg AV.bool hc3) ?_
    refine AW.seq ?_
    refine AW.region ?_
    refine AOps.pureR rfl rfl rfl rfl rfl (rfl : _ = (AV.str ([100, 101, 108, 105, 118, 101, 114] : List UInt8))) ?_
    refine AOps.pureR rfl rfl rfl rfl rfl (rfl : _ = (AV.int .i64 1)) ?_
    refine AOps.nilR ?_
    cases h
    exact AW.ret ⟨rfl, _, _, rfl, ⟨_, rfl, (.cons rfl (.cons rfl .nil))⟩⟩
  refine AW.condF (congrArg AV.bool hc3) ?_
  refine AW.seq ?_
  refine AW.region ?_
  refine AOps.pureR rfl rfl rfl rfl rfl (rfl : _ = (AV.bool (kind1 == 3))) ?_
  refine AOps.assignR rfl rfl rfl (rfl : _ = (AV.bool (kind1 == 3))) rfl ?_
  refine AOps.nilR ?_
  rcases oite h with ⟨hc4, h⟩ | ⟨hc4, h⟩
  · refine AW.condT (congrArg AV.bool hc4) ?_
    refine AW.seq ?_
    refine AW.region ?_
    refine AOps.pureR rfl rfl rfl rfl rfl (rfl : _ = (AV.str ([99, 111, 112, 121] : List UInt8))) ?_
    refine AOps.pureR rfl rfl rfl rfl rfl (rfl : _ = (AV.int .i64 1)) ?_
    refine AOps.nilR ?_
    cases h
    exact AW.ret ⟨rfl, _, _, rfl, ⟨_, rfl, (.cons rfl (.cons rfl .nil))⟩⟩
  refine AW.condF (congrArg AV.bool hc4) ?_
  refine AW.seq ?_
  refine AW.region ?_
  refine AOps.pureR rfl rfl rfl rfl rfl (rfl : _ = (AV.bool (kind1 == 4))) ?_
  refine AOps.assignR rfl rfl rfl (rfl : _ = (AV.bool (kind1 == 4))) rfl ?_
  refine AOps.nilR ?_
  rcases oite h with ⟨hc5, h⟩ | ⟨hc5, h⟩
  · refine AW.condT (congrArg AV.bool hc5) ?_
    refine AW.seq ?_
    refine AW.region ?_
    refine AOps.pureR rfl rfl rfl rfl rfl (rfl : _ = (AV.str ([100, 114, 111, 112] : List UInt8))) ?_
    refine AOps.pureR rfl rfl rfl rfl rfl (rfl : _ = (AV.int .i64 1)) ?_
    refine AOps.nilR ?_
    cases h
    exact AW.ret ⟨rfl, _, _, rfl, ⟨_, rfl, (.cons rfl (.cons rfl .nil))⟩⟩
  refine AW.condF (congrArg AV.bool hc5) ?_
  refine AW.seq ?_
  refine AW.region ?_
  refine AOps.pureR rfl rfl rfl rfl rfl (rfl : _ = (AV.bool (kind1 == 5))) ?_
  refine AOps.assignR rfl rfl rfl (rfl : _ = (AV.bool (kind1 == 5))) rfl ?_
  refine AOps.nilR ?_
  rcases oite h with ⟨hc6, h⟩ | ⟨hc6, h⟩
  · refine AW.condT (congrArg AV.bool hc6) ?_
    refine AW.seq ?_
    refine AW.region ?_
    refine AOps.pureR rfl rfl rfl rfl rfl (rfl : _ = (AV.str ([115, 97, 118, 101] : List UInt8))) ?_
    refine AOps.pureR rfl rfl rfl rfl rfl (rfl : _ = (AV.int .i64 0)) ?_
    refine AOps.nilR ?_
    cases h
    exact AW.ret ⟨rfl, _, _, rfl, ⟨_, rfl, (.cons rfl (.cons rfl .nil))⟩⟩
  refine AW.condF (congrArg AV.bool hc6) ?_
  refine AW.seq ?_
  refine AW.region ?_
  refine AOps.pureR rfl rfl rfl rfl rfl (rfl : _ = (AV.bool (kind1 == 6))) ?_
  refine AOps.assignR rfl rfl rfl (rfl : _ = (AV.bool (kind1 == 6))) rfl ?_
  refine AOps.nilR ?_
  rcases oite h with ⟨hc7, h⟩ | ⟨hc7, h⟩
  · refine AW.condT (congrArg AV.bool hc7) ?_
    refine AW.seq ?_
    refine AW.region ?_
    refine AOps.pureR rfl rfl rfl rfl rfl (rfl : _ = (AV.str ([99, 114, 97, 115, 104] : List UInt8))) ?_
    refine AOps.pureR rfl rfl rfl rfl rfl (rfl : _ = (AV.int .i64 0)) ?_
    refine AOps.nilR ?_
    cases h
    exact AW.ret ⟨rfl, _, _, rfl, ⟨_, rfl, (.cons rfl (.cons rfl .nil))⟩⟩
  refine AW.condF (congrArg AV.bool hc7) ?_
  refine AW.skip ?_
  refine AW.inBlock ?_
  refine AW.seq ?_
  refine AW.region ?_
  refine AOps.pureR rfl rfl rfl rfl rfl (rfl : _ = (AV.str ([] : List UInt8))) ?_
  refine AOps.pureR rfl rfl rfl rfl rfl (rfl : _ = (AV.int .i64 0)) ?_
  refine AOps.nilR ?_
  cases h
  exact AW.ret ⟨rfl, _, _, rfl, ⟨_, rfl, (.cons rfl (.cons rfl .nil))⟩⟩
theorem impl_within_ok {n1 : Int} {low2 : Int} {high3 : Int} {s : St} {r : Bool} (h : impl_within n1 low2 high3 = some r) (hs : WF s) : ACall Cf 15 [(AV.int .i64 n1), (AV.int .i64 low2), (AV.int .i64 high3)] s fun v _ s' => (rB) r v ∧ s' = s := by
  refine ACall.pure rfl rfl rfl .B ?_
  have hWF := hs.lo'
  unfold impl_within at h
  refine AW.seq ?_
  refine AW.region ?_
  refine AOps.pureR rfl rfl rfl rfl rfl (rfl : _ = (AV.bool false)) ?_
  refine AOps.nilR ?_
  refine AW.seq ?_
  refine AW.region ?_
  refine AOps.pureR rfl rfl rfl rfl rfl (rfl : _ = (AV.int .i64 n1)) ?_
  refine AOps.pureR rfl rfl rfl rfl rfl (rfl : _ = (AV.int .i64 low2)) ?_
  refine AOps.pureR rfl rfl rfl rfl rfl (rfl : _ = (AV.bool (decide ((n1 : Int) ≥ low2)))) ?_
  refine AOps.pureR rfl rfl rfl rfl rfl (rfl : _ = (AV.bool (decide ((n1 : Int) ≥ low2)))) ?_
  refine AOps.split 4 (fun f' => ∃ tm' os', f' = ⟨updL tm' [(14, (AV.bool ((decide ((n1 : Int) ≥ low2)) && (decide ((n1 : Int) ≤ high3)))))], updL os' [], { s with lo := s.n }⟩) ?_ ?_
  · rcases Bool.eq_false_or_eq_true (decide ((n1 : Int) ≥ low2)) with hc4 | hc4
    · refine AOps.know (d := 10) rfl hc4 ?_
      refine AOps.pureR rfl rfl rfl rfl rfl (rfl : _ = (AV.int .i64 n1)) ?_
      refine AOps.pureR rfl rfl rfl rfl rfl (rfl : _ = (AV.int .i64 high3)) ?_
      refine AOps.pureR rfl rfl rfl rfl rfl (rfl : _ = (AV.bool (decide ((n1 : Int) ≤ high3)))) ?_
      refine AOps.pureR rfl rfl rfl rfl rfl (rfl : _ = (AV.bool (decide ((n1 : Int) ≤ high3)))) ?_
      refine AOps.resR [(14, (AV.bool ((decide ((n1 : Int) ≥ low2)) && (decide ((n1 : Int) ≤ high3)))))] [] ?_ ?_ _ ⟨_, _, rfl⟩
      · exact ⟨congrArg AV.bool (and_t hc4), trivial⟩
      exact trivial
    · refine AOps.know (d := 10) rfl hc4 ?_
      refine AOps.skipR rfl rfl ?_
      refine AOps.skipR rfl rfl ?_
      refine AOps.skipR rfl rfl ?_
      refine AOps.pureR rfl rfl rfl rfl rfl (rfl : _ = (AV.bool false)) ?_
      refine AOps.resR [(14, (AV.bool ((decide ((n1 : Int) ≥ low2)) && (decide ((n1 : Int) ≤ high3)))))] [] ?_ ?_ _ ⟨_, _, rfl⟩
      · exact ⟨congrArg AV.bool (and_f hc4), trivial⟩
      exact trivial
  rintro _ ⟨tm, os, rfl⟩
  refine AOps.assignR rfl rfl rfl (rfl : _ = (AV.bool ((decide ((n1 : Int) ≥ low2)) && (decide ((n1 : Int) ≤ high3))))) rfl ?_
  refine AOps.nilR ?_
  cases h
  exact AW.ret ⟨rfl, _, _, rfl, rfl⟩
theorem impl_ValidDeed_ok {d1 : Deed} {s : St} {r : Bool} (h : impl_ValidDeed d1 = some r) (hs : WF s) : ACall Cf 10 [(AV.agg [(AV.int .i64 d1.Kind), (AV.int .i64 d1.A), (AV.int .i64 d1.B)])] s fun v _ s' => (rB) r v ∧ s' = s := by
  refine ACall.pure rfl rfl rfl .B ?_
  have hWF := hs.lo'
  unfold impl_ValidDeed at h
  refine AW.seq ?_
  refine AW.region ?_
  refine AOps.makeR rfl rfl rfl rfl rfl rfl (rfl : _ = (AV.eptr [(AV.int .i64 d1.Kind), (AV.int .i64 d1.A), (AV.int .i64 d1.B)] 0)) ?_
  refine AOps.pureR rfl rfl rfl rfl rfl (rfl : _ = (AV.bool false)) ?_
  refine AOps.nilR ?_
  refine AW.seq ?_
  refine AW.region ?_
  refine AOps.pureR rfl rfl rfl rfl rfl (rfl : _ = (AV.eptr [(AV.int .i64 d1.Kind), (AV.int .i64 d1.A), (AV.int .i64 d1.B)] 0)) ?_
  refine AOps.ldE (v := (AV.int .i64 d1.Kind)) rfl rfl rfl rfl rfl rfl ?_
  obtain ⟨y2, h3, h⟩ := obind h
  refine AOps.callP (g := 11) (args := [(AV.int .i64 d1.Kind)]) (p := (fun x => rT [rS x.1, (rI .i64) x.2]) y2) rfl rfl rfl (impl_deedWord_ok  h3 hWF) ?_
  intro _ o10 h4
  obtain ⟨_, rfl, h5⟩ := h4
  obtain ⟨_, _, rfl, h6, h7⟩ := Cs_cons h5
  cases h6
  obtain ⟨_, _, rfl, h8, h9⟩ := Cs_cons h7
  cases h8
  cases Cs_nil h9
  refine AOps.pureR rfl rfl rfl rfl rfl (rfl : _ = (AV.tup [(AV.str y2.1), (AV.int .i64 y2.2)])) ?_
  refine AOps.pureR rfl rfl rfl rfl rfl (rfl : _ = (AV.str y2.1)) ?_
  refine AOps.pureR rfl rfl rfl rfl rfl (rfl : _ = (AV.int .i64 y2.2)) ?_
  refine AOps.assignR rfl rfl rfl (rfl : _ = (AV.str y2.1)) rfl ?_
  refine AOps.assignR rfl rfl rfl (rfl : _ = (AV.int .i64 y2.2)) rfl ?_
  refine AOps.nilR ?_
  refine AW.seq ?_
  refine AW.region ?_
  refine AOps.pureR rfl rfl rfl rfl rfl (rfl : _ = (AV.str y2.1)) ?_
  refine AOps.pureR rfl rfl rfl rfl rfl (rfl : _ = (AV.bool (!(y2.1 == ([] : List UInt8))))) ?_
  refine AOps.pureR rfl rfl rfl rfl rfl (rfl : _ = (AV.bool (!(y2.1 == ([] : List UInt8))))) ?_
  obtain ⟨b12, hb, h⟩ := obind h
  refine AOps.split 4 (fun f' => ∃ tm' os', f' = ⟨updL tm' [(1, (AV.eptr [(AV.int .i64 d1.Kind), (AV.int .i64 d1.A), (AV.int .i64 d1.B)] 0)), (4, (AV.int .i64 y2.2)), (17, (AV.bool b12))], updL os' [], { s with lo := s.n }⟩) ?_ ?_
  · rcases oite hb with ⟨hc11, hb⟩ | ⟨hc11, hb⟩
    · have h := hb
      refine AOps.know (d := 13) rfl hc11 ?_
      refine AOps.pureR rfl rfl rfl rfl rfl (rfl : _ = (AV.eptr [(AV.int .i64 d1.Kind), (AV.int .i64 d1.A), (AV.int .i64 d1.B)] 1)) ?_
      refine AOps.ldE (v := (AV.int .i64 d1.A)) rfl rfl rfl rfl rfl rfl ?_
      obtain ⟨y13, h14, h⟩ := obind h
      refine AOps.callP (g := 15) (args := [(AV.int .i64 d1.A), (AV.int .i64 0), (AV.int .i64 999)]) (p := (rB) y13) rfl rfl rfl (impl_within_ok  h14 hWF) ?_
      intro _ o16 h15
      cases h15
      refine AOps.pureR rfl rfl rfl rfl rfl (rfl : _ = (AV.bool y13)) ?_
      refine AOps.resR [(1, (AV.eptr [(AV.int .i64 d1.Kind), (AV.int .i64 d1.A), (AV.int .i64 d1.B)] 0)), (4, (AV.int .i64 y2.2)), (17, (AV.bool b12))] [] ?_ ?_ _ ⟨_, _, rfl⟩
      · exact ⟨rfl, rfl, congrArg AV.bool (Option.some.inj h), trivial⟩
      exact trivial
    · refine AOps.know (d := 13) rfl hc11 ?_
      refine AOps.skipR rfl rfl ?_
      refine AOps.skipR rfl rfl ?_
      refine AOps.skipR rfl rfl ?_
      refine AOps.pureR rfl rfl rfl rfl rfl (rfl : _ = (AV.bool false)) ?_
      refine AOps.resR [(1, (AV.eptr [(AV.int .i64 d1.Kind), (AV.int .i64 d1.A), (AV.int .i64 d1.B)] 0)), (4, (AV.int .i64 y2.2)), (17, (AV.bool b12))] [] ?_ ?_ _ ⟨_, _, rfl⟩
      · exact ⟨rfl, rfl, congrArg AV.bool (Option.some.inj hb), trivial⟩
      exact trivial
  rintro _ ⟨tm, os, rfl⟩
  refine AOps.pureR rfl rfl rfl rfl rfl (rfl : _ = (AV.bool b12)) ?_
  obtain ⟨b18, hb, h⟩ := obind h
  refine AOps.split 4 (fun f' => ∃ tm' os', f' = ⟨updL tm' [(1, (AV.eptr [(AV.int .i64 d1.Kind), (AV.int .i64 d1.A), (AV.int .i64 d1.B)] 0)), (4, (AV.int .i64 y2.2)), (22, (AV.bool b18))], updL os' [], { s with lo := s.n }⟩) ?_ ?_
  · rcases oite hb with ⟨hc17, hb⟩ | ⟨hc17, hb⟩
    · have h := hb
      refine AOps.know (d := 18) rfl hc17 ?_
      refine AOps.pureR rfl rfl rfl rfl rfl (rfl : _ = (AV.eptr [(AV.int .i64 d1.Kind), (AV.int .i64 d1.A), (AV.int .i64 d1.B)] 2)) ?_
      refine AOps.ldE (v := (AV.int .i64 d1.B)) rfl rfl rfl rfl rfl rfl ?_
      obtain ⟨y19, h20, h⟩ := obind h
      refine AOps.callP (g := 15) (args := [(AV.int .i64 d1.B), (AV.int .i64 0), (AV.int .i64 999)]) (p := (rB) y19) rfl rfl rfl (impl_within_ok  h20 hWF) ?_
      intro _ o22 h21
      cases h21
      refine AOps.pureR rfl rfl rfl rfl rfl (rfl : _ = (AV.bool y19)) ?_
      refine AOps.resR [(1, (AV.eptr [(AV.int .i64 d1.Kind), (AV.int .i64 d1.A), (AV.int .i64 d1.B)] 0)), (4, (AV.int .i64 y2.2)), (22, (AV.bool b18))] [] ?_ ?_ _ ⟨_, _, rfl⟩
      · exact ⟨rfl, rfl, congrArg AV.bool (Option.some.inj h), trivial⟩
      exact trivial
    · refine AOps.know (d := 18) rfl hc17 ?_
      refine AOps.skipR rfl rfl ?_
      refine AOps.skipR rfl rfl ?_
      refine AOps.skipR rfl rfl ?_
      refine AOps.pureR rfl rfl rfl rfl rfl (rfl : _ = (AV.bool false)) ?_
      refine AOps.resR [(1, (AV.eptr [(AV.int .i64 d1.Kind), (AV.int .i64 d1.A), (AV.int .i64 d1.B)] 0)), (4, (AV.int .i64 y2.2)), (22, (AV.bool b18))] [] ?_ ?_ _ ⟨_, _, rfl⟩
      · exact ⟨rfl, rfl, congrArg AV.bool (Option.some.inj hb), trivial⟩
      exact trivial
  rintro _ ⟨tm, os, rfl⟩
  refine AOps.pureR rfl rfl rfl rfl rfl (rfl : _ = (AV.bool b18)) ?_
  refine AOps.split 8 (fun f' => ∃ tm' os', f' = ⟨updL tm' [(1, (AV.eptr [(AV.int .i64 d1.Kind), (AV.int .i64 d1.A), (AV.int .i64 d1.B)] 0)), (4, (AV.int .i64 y2.2)), (31, (AV.bool (b18 && ((decide ((y2.2 : Int) > 0)) || (d1.A == 0)))))], updL os' [], { s with lo := s.n }⟩) ?_ ?_
  · rcases Bool.eq_false_or_eq_true b18 with hc23 | hc23
    · refine AOps.know (d := 23) rfl hc23 ?_
      refine AOps.pureR rfl rfl rfl rfl rfl (rfl : _ = (AV.int .i64 y2.2)) ?_
      refine AOps.pureR rfl rfl rfl rfl rfl (rfl : _ = (AV.bool (decide ((y2.2 : Int) > 0)))) ?_
      refine AOps.pureR rfl rfl rfl rfl rfl (rfl : _ = (AV.bool (decide ((y2.2 : Int) > 0)))) ?_
      refine AOps.split 4 (fun f' => ∃ tm' os', f' = ⟨updL tm' [(1, (AV.eptr [(AV.int .i64 d1.Kind), (AV.int .i64 d1.A), (AV.int .i64 d1.B)] 0)), (4, (AV.int .i64 y2.2)), (23, (AV.bool true)), (30, (AV.bool ((decide ((y2.2 : Int) > 0)) || (d1.A == 0))))], updL os' [], { s with lo := s.n }⟩) ?_ ?_
      · rcases Bool.eq_false_or_eq_true (decide ((y2.2 : Int) > 0)) with hc24 | hc24
        · refine AOps.know (d := 26) rfl hc24 ?_
          refine AOps.skipR rfl rfl ?_
          refine AOps.skipR rfl rfl ?_
          refine AOps.skipR rfl rfl ?_
          refine AOps.pureR rfl rfl rfl rfl rfl (rfl : _ = (AV.bool true)) ?_
          refine AOps.resR [(1, (AV.eptr [(AV.int .i64 d1.Kind), (AV.int .i64 d1.A), (AV.int .i64 d1.B)] 0)), (4, (AV.int .i64 y2.2)), (23, (AV.bool true)), (30, (AV.bool ((decide ((y2.2 : Int) > 0)) || (d1.A == 0))))] [] ?_ ?_ _ ⟨_, _, rfl⟩
          · exact ⟨rfl, rfl, rfl, congrArg AV.bool (or_t hc24), trivial⟩
          exact trivial
        · refine AOps.know (d := 26) rfl hc24 ?_
          refine AOps.pureR rfl rfl rfl rfl rfl (rfl : _ = (AV.eptr [(AV.int .i64 d1.Kind), (AV.int .i64 d1.A), (AV.int .i64 d1.B)] 1)) ?_
          refine AOps.ldE (v := (AV.int .i64 d1.A)) rfl rfl rfl rfl rfl rfl ?_
          refine AOps.pureR rfl rfl rfl rfl rfl (rfl : _ = (AV.bool (d1.A == 0))) ?_
          refine AOps.pureR rfl rfl rfl rfl rfl (rfl : _ = (AV.bool (d1.A == 0))) ?_
          refine AOps.resR [(1, (AV.eptr [(AV.int .i64 d1.Kind), (AV.int .i64 d1.A), (AV.int .i64 d1.B)] 0)), (4, (AV.int .i64 y2.2)), (23, (AV.bool true)), (30, (AV.bool ((decide ((y2.2 : Int) > 0)) || (d1.A == 0))))] [] ?_ ?_ _ ⟨_, _, rfl⟩
          · exact ⟨rfl, rfl, rfl, congrArg AV.bool (or_f hc24), trivial⟩
          exact trivial
      rintro _ ⟨tm, os, rfl⟩
      refine AOps.pureR rfl rfl rfl rfl rfl (rfl : _ = (AV.bool ((decide ((y2.2 : Int) > 0)) || (d1.A == 0)))) ?_
      refine AOps.resR [(1, (AV.eptr [(AV.int .i64 d1.Kind), (AV.int .i64 d1.A), (AV.int .i64 d1.B)] 0)), (4, (AV.int .i64 y2.2)), (31, (AV.bool (b18 && ((decide ((y2.2 : Int) > 0)) || (d1.A == 0)))))] [] ?_ ?_ _ ⟨_, _, rfl⟩
      · exact ⟨rfl, rfl, congrArg AV.bool (and_t hc23), trivial⟩
      exact trivial
    · refine AOps.know (d := 23) rfl hc23 ?_
      refine AOps.skipR rfl rfl ?_
      refine AOps.skipR rfl rfl ?_
      refine AOps.skipR rfl rfl ?_
      refine AOps.skipR rfl rfl ?_
      refine AOps.skipR rfl rfl ?_
      refine AOps.skipR rfl rfl ?_
      refine AOps.skipR rfl rfl ?_
      refine AOps.pureR rfl rfl rfl rfl rfl (rfl : _ = (AV.bool false)) ?_
      refine AOps.resR [(1, (AV.eptr [(AV.int .i64 d1.Kind), (AV.int .i64 d1.A), (AV.int .i64 d1.B)] 0)), (4, (AV.int .i64 y2.2)), (31, (AV.bool (b18 && ((decide ((y2.2 : Int) > 0)) || (d1.A == 0)))))] [] ?_ ?_ _ ⟨_, _, rfl⟩
      · exact ⟨rfl, rfl, congrArg AV.bool (and_f hc23), trivial⟩
      exact trivial
  rintro _ ⟨tm, os, rfl⟩
  refine AOps.pureR rfl rfl rfl rfl rfl (rfl : _ = (AV.bool (b18 && ((decide ((y2.2 : Int) > 0)) || (d1.A == 0))))) ?_
  refine AOps.split 8 (fun f' => ∃ tm' os', f' = ⟨updL tm' [(40, (AV.bool ((b18 && ((decide ((y2.2 : Int) > 0)) || (d1.A == 0))) && ((decide ((y2.2 : Int) > 1)) || (d1.B == 0)))))], updL os' [], { s with lo := s.n }⟩) ?_ ?_
  · rcases Bool.eq_false_or_eq_true (b18 && ((decide ((y2.2 : Int) > 0)) || (d1.A == 0))) with hc25 | hc25
    · refine AOps.know (d := 32) rfl hc25 ?_
      refine AOps.pureR rfl rfl rfl rfl rfl (rfl : _ = (AV.int .i64 y2.2)) ?_
      refine AOps.pureR rfl rfl rfl rfl rfl (rfl : _ = (AV.bool (decide ((y2.2 : Int) > 1)))) ?_
      refine AOps.pureR rfl rfl rfl rfl rfl (rfl : _ = (AV.bool (decide ((y2.2 : Int) > 1)))) ?_
      refine AOps.split 4 (fun f' => ∃ tm' os', f' = ⟨updL tm' [(32, (AV.bool true)), (39, (AV.bool ((decide ((y2.2 : Int) > 1)) || (d1.B == 0))))], updL os' [], { s with lo := s.n }⟩) ?_ ?_
      · rcases Bool.eq_false_or_eq_true (decide ((y2.2 : Int) > 1)) with hc26 | hc26
        · refine AOps.know (d := 35) rfl hc26 ?_
          refine AOps.skipR rfl rfl ?_
          refine AOps.skipR rfl rfl ?_
          refine AOps.skipR rfl rfl ?_
          refine AOps.pureR rfl rfl rfl rfl rfl (rfl : _ = (AV.bool true)) ?_
          refine AOps.resR [(32, (AV.bool true)), (39, (AV.bool ((decide ((y2.2 : Int) > 1)) || (d1.B == 0))))] [] ?_ ?_ _ ⟨_, _, rfl⟩
          · exact ⟨rfl, congrArg AV.bool (or_t hc26), trivial⟩
          exact trivial
        · refine AOps.know (d := 35) rfl hc26 ?_
          refine AOps.pureR rfl rfl rfl rfl rfl (rfl : _ = (AV.eptr [(AV.int .i64 d1.Kind), (AV.int .i64 d1.A), (AV.int .i64 d1.B)] 2)) ?_
          refine AOps.ldE (v := (AV.int .i64 d1.B)) rfl rfl rfl rfl rfl rfl ?_
          refine AOps.pureR rfl rfl rfl rfl rfl (rfl : _ = (AV.bool (d1.B == 0))) ?_
          refine AOps.pureR rfl rfl rfl rfl rfl (rfl : _ = (AV.bool (d1.B == 0))) ?_
          refine AOps.resR [(32, (AV.bool true)), (39, (AV.bool ((decide ((y2.2 : Int) > 1)) || (d1.B == 0))))] [] ?_ ?_ _ ⟨_, _, rfl⟩
          · exact ⟨rfl, congrArg AV.bool (or_f hc26), trivial⟩
          exact trivial
      rintro _ ⟨tm, os, rfl⟩
      refine AOps.pureR rfl rfl rfl rfl rfl (rfl : _ = (AV.bool ((decide ((y2.2 : Int) > 1)) || (d1.B == 0)))) ?_
      refine AOps.resR [(40, (AV.bool ((b18 && ((decide ((y2.2 : Int) > 0)) || (d1.A == 0))) && ((decide ((y2.2 : Int) > 1)) || (d1.B == 0)))))] [] ?_ ?_ _ ⟨_, _, rfl⟩
      · exact ⟨congrArg AV.bool (and_t hc25), trivial⟩
      exact trivial
    · refine AOps.know (d := 32) rfl hc25 ?_
      refine AOps.skipR rfl rfl ?_
      refine AOps.skipR rfl rfl ?_
      refine AOps.skipR rfl rfl ?_
      refine AOps.skipR rfl rfl ?_
      refine AOps.skipR rfl rfl ?_
      refine AOps.skipR rfl rfl ?_
      refine AOps.skipR rfl rfl ?_
      refine AOps.pureR rfl rfl rfl rfl rfl (rfl : _ = (AV.bool false)) ?_
      refine AOps.resR [(40, (AV.bool ((b18 && ((decide ((y2.2 : Int) > 0)) || (d1.A == 0))) && ((decide ((y2.2 : Int) > 1)) || (d1.B == 0)))))] [] ?_ ?_ _ ⟨_, _, rfl⟩
      · exact ⟨congrArg AV.bool (and_f hc25), trivial⟩
      exact trivial
  rintro _ ⟨tm, os, rfl⟩
  refine AOps.assignR rfl rfl rfl (rfl : _ = (AV.bool ((b18 && ((decide ((y2.2 : Int) > 0)) || (d1.A == 0))) && ((decide ((y2.2 : Int) > 1)) || (d1.B == 0))))) rfl ?_
  refine AOps.nilR ?_
  cases h
  exact AW.ret ⟨rfl, _, _, rfl, rfl⟩
theorem impl_decimal_ok {n1 : Int} {s : St} {r : (List UInt8)} (h : impl_decimal n1 = some r) (hs : WF s) : ACall Cf 12 [(AV.int .i64 n1)] s fun v _ s' => (rS) r v ∧ s' = s := by
  refine ACall.pure rfl rfl rfl .S ?_
  have hWF := hs.lo'
  unfold impl_decimal at h
  refine AW.seq ?_
  refine AW.region ?_
  refine AOps.pureR rfl rfl rfl rfl rfl (rfl : _ = (AV.str ([] : List UInt8))) ?_
  refine AOps.nilR ?_
  refine AW.seq ?_
  refine AW.region ?_
  refine AOps.pureR rfl rfl rfl rfl rfl (rfl : _ = (AV.int .i64 n1)) ?_
  obtain ⟨y2, h3, h⟩ := obind h
  refine AOps.callP (g := 16) (args := [(AV.int .i64 n1), (AV.int .i64 10)]) (p := (rS) y2) rfl rfl rfl (ext_fmt_ok h3 hWF) ?_
  intro _ o5 h4
  cases h4
  refine AOps.assignR rfl rfl rfl (rfl : _ = (AV.str y2)) rfl ?_
  refine AOps.nilR ?_
  cases h
  exact AW.ret ⟨rfl, _, _, rfl, rfl⟩
theorem impl_DeedText_ok {d1 : Deed} {s : St} {r : (List UInt8)} (h : impl_DeedText d1 = some r) (hs : WF s) : ACall Cf 6 [(AV.agg [(AV.int .i64 d1.Kind), (AV.int .i64 d1.A), (AV.int .i64 d1.B)])] s fun v _ s' => (rS) r v ∧ s' = s := by
  refine ACall.pure rfl rfl rfl .S ?_
  have hWF := hs.lo'
  unfold impl_DeedText at h
  refine AW.seq ?_
  refine AW.region ?_
  refine AOps.makeR rfl rfl rfl rfl rfl rfl (rfl : _ = (AV.eptr [(AV.int .i64 d1.Kind), (AV.int .i64 d1.A), (AV.int .i64 d1.B)] 0)) ?_
  refine AOps.pureR rfl rfl rfl rfl rfl (rfl : _ = (AV.str ([] : List UInt8))) ?_
  refine AOps.nilR ?_
  refine AW.seq ?_
  refine AW.seq ?_
  refine AW.region ?_
  refine AOps.ldE (v := (AV.agg [(AV.int .i64 d1.Kind), (AV.int .i64 d1.A), (AV.int .i64 d1.B)])) rfl rfl rfl rfl rfl rfl ?_
  obtain ⟨y2, h3, h⟩ := obind h
  refine AOps.callP (g := 10) (args := [(AV.agg [(AV.int .i64 d1.Kind), (AV.int .i64 d1.A), (AV.int .i64 d1.B)])]) (p := (rB) y2) rfl rfl rfl (impl_ValidDeed_ok  h3 hWF) ?_
  intro _ o5 h4
  cases h4
  refine AOps.pureR rfl rfl rfl rfl rfl (rfl : _ = (AV.bool (!y2))) ?_
  refine AOps.nilR ?_
  rcases oite h with ⟨hc6, h⟩ | ⟨hc6, h⟩
  · refine AW.condT (congrArg AV.bool hc6) ?_
    refine AW.seq ?_
    refine AW.region ?_
    refine AOps.pureR rfl rfl rfl rfl rfl (rfl : _ = (AV.str ([] : List UInt8))) ?_
    refine AOps.nilR ?_
    cases h
    exact AW.ret ⟨rfl, _, _, rfl, rfl⟩
  refine AW.condF (congrArg AV.bool hc6) ?_
  refine AW.skip ?_
  refine AW.seq ?_
  refine AW.region ?_
  refine AOps.pureR rfl rfl rfl rfl rfl (rfl : _ = (AV.eptr [(AV.int .i64 d1.Kind), (AV.int .i64 d1.A), (AV.int .i64 d1.B)] 0)) ?_
  refine AOps.ldE (v := (AV.int .i64 d1.Kind)) rfl rfl rfl rfl rfl rfl ?_
  obtain ⟨y7, h8, h⟩ := obind h
  refine AOps.callP (g := 11) (args := [(AV.int .i64 d1.Kind)]) (p := (fun x => rT [rS x.1, (rI .i64) x.2]) y7) rfl rfl rfl (impl_deedWord_ok  h8 hWF) ?_
  intro _ o15 h9
  obtain ⟨_, rfl, h10⟩ := h9
  obtain ⟨_, _, rfl, h11, h12⟩ := Cs_cons h10
  cases h11
  obtain ⟨_, _, rfl, h13, h14⟩ := Cs_cons h12
  cases h13
  cases Cs_nil h14
  refine AOps.pureR rfl rfl rfl rfl rfl (rfl : _ = (AV.tup [(AV.str y7.1), (AV.int .i64 y7.2)])) ?_
  refine AOps.pureR rfl rfl rfl rfl rfl (rfl : _ = (AV.str y7.1)) ?_
  refine AOps.pureR rfl rfl rfl rfl rfl (rfl : _ = (AV.int .i64 y7.2)) ?_
  refine AOps.assignR rfl rfl rfl (rfl : _ = (AV.str y7.1)) rfl ?_
  refine AOps.assignR rfl rfl rfl (rfl : _ = (AV.int .i64 y7.2)) rfl ?_
  refine AOps.nilR ?_
  refine AW.seq ?_
  refine AW.seq ?_
  refine AW.region ?_
  refine AOps.pureR rfl rfl rfl rfl rfl (rfl : _ = (AV.eptr [(AV.int .i64 d1.Kind), (AV.int .i64 d1.A), (AV.int .i64 d1.B)] 1)) ?_
  refine AOps.ldE (v := (AV.int .i64 d1.A)) rfl rfl rfl rfl rfl rfl ?_
  refine AOps.pureR rfl rfl rfl rfl rfl (rfl : _ = (AV.eptr [(AV.int .i64 d1.Kind), (AV.int .i64 d1.A), (AV.int .i64 d1.B)] 2)) ?_
  refine AOps.ldE (v := (AV.int .i64 d1.B)) rfl rfl rfl rfl rfl rfl ?_
  refine AOps.makeR rfl rfl rfl rfl rfl rfl (rfl : _ = (AV.sl 1 true [(AV.int .i64 d1.A), (AV.int .i64 d1.B)])) ?_
  refine AOps.pureR rfl rfl rfl rfl rfl (rfl : _ = (AV.int .i64 y7.2)) ?_
  obtain ⟨l16, h17, h⟩ := obind h
  obtain ⟨f18, e19, h20, h21⟩ := cut_slH true (LR.lit (r := rI .i64) (sz := 1) (.cons rfl (.cons rfl .nil))) h17
  refine AOps.pureR rfl rfl rfl h21 rfl (rfl : _ = (AV.sl 1 f18 e19)) ?_
  refine AOps.pureR rfl rfl rfl rfl rfl (len_eq h20) ?_
  refine AOps.pureR rfl rfl rfl rfl rfl (rfl : _ = (AV.int .i64 0)) ?_
  refine AOps.nilR ?_
  refine AW.meet (σ := (List UInt8)) (fun out22 tm os => ⟨updL tm [(3, (AV.str out22))], updL os [], { s with lo := s.n }⟩) (fun out22 => impl_DeedText_J1 out22 = some r) ?_ ?_
  · rintro out22 tm os h
    unfold impl_DeedText_J1 at h
    refine AW.seq ?_
    refine AW.region ?_
    refine AOps.pureR rfl rfl rfl rfl rfl (rfl : _ = (AV.str out22)) ?_
    refine AOps.assignR rfl rfl rfl (rfl : _ = (AV.str out22)) rfl ?_
    refine AOps.nilR ?_
    cases h
    exact AW.ret ⟨rfl, _, _, rfl, rfl⟩
  intro KJ23
  refine AW.block ?_
  refine AW.res [(3, (AV.str y7.1)), (22, (AV.sl 1 f18 e19)), (23, (AV.int .i64 (l16.length : Int))), (24, (AV.int .i64 0))] [] ⟨rfl, rfl, rfl, rfl, trivial⟩ trivial ?_
  refine AW.loopF (σ := (List UInt8) × Int) (τ := Unit) (fun (out24, t25) _ => True) (fun (out24, t25) _ tm os => ⟨updL tm [(3, (AV.str out24)), (22, (AV.sl 1 f18 e19)), (23, (AV.int .i64 (l16.length : Int))), (24, (AV.int .i64 t25))], updL os [], { s with lo := s.n }⟩) ?_ (x := (y7.1, 0)) (y := ()) h trivial
  clear h
  rintro ⟨out24, t25⟩ _ tm os - e1 h hL1 hR1
  unfold impl_DeedText_S1 at h
  dsimp only at h
  refine AW.seq ?_
  refine AW.region ?_
  refine AOps.pureR rfl rfl rfl rfl rfl (rfl : _ = (AV.bool (decide ((t25 : Int) < (l16.length : Int))))) ?_
  refine AOps.nilR ?_
  refine AW.seq ?_
  rcases oite h with ⟨hc26, h⟩ | ⟨hc26, h⟩
  · refine AW.condT (congrArg AV.bool hc26) ?_
    refine AW.skip ?_
    refine AW.seq ?_
    refine AW.block ?_
    refine AW.seq ?_
    refine AW.region ?_
    obtain ⟨x27, h28, h⟩ := obind h
    obtain ⟨v31, h29, h30⟩ := idx_sl h20 h28
    cases h29
    refine AOps.pureR rfl rfl rfl h30 rfl (rfl : _ = (AV.eptr [(AV.int .i64 x27)] 0)) ?_
    refine AOps.ldE (v := (AV.int .i64 x27)) rfl rfl rfl rfl rfl rfl ?_
    refine AOps.assignR rfl rfl rfl (rfl : _ = (AV.int .i64 x27)) rfl ?_
    refine AOps.nilR ?_
    refine AW.region ?_
    refine AOps.pureR rfl rfl rfl rfl rfl (rfl : _ = (AV.str out24)) ?_
    refine AOps.pureR rfl rfl rfl rfl rfl (rfl : _ = (AV.int .i64 x27)) ?_
    obtain ⟨y32, h33, h⟩ := obind h
    refine AOps.callP (g := 12) (args := [(AV.int .i64 x27)]) (p := (rS) y32) rfl rfl rfl (impl_decimal_ok  h33 hWF) ?_
    intro _ o35 h34
    cases h34
    obtain ⟨w36, h37, h⟩ := obind h
    refine AOps.pureR rfl rfl rfl (add_str h37) rfl (rfl : _ = (AV.str w36)) ?_
    obtain ⟨w38, h39, h⟩ := obind h
    refine AOps.pureR rfl rfl rfl (add_str h39) rfl (rfl : _ = (AV.str w38)) ?_
    refine AOps.assignR rfl rfl rfl (rfl : _ = (AV.str w38)) rfl ?_
    refine AOps.nilR ?_
    refine AW.inBlock ?_
    refine AW.region ?_
    refine AOps.pureR rfl rfl rfl rfl rfl (rfl : _ = (AV.int .i64 (IntKind.wrap .i64 (t25 + 1)))) ?_
    refine AOps.pureR rfl rfl rfl rfl rfl (rfl : _ = (AV.int .i64 (IntKind.wrap .i64 (t25 + 1)))) ?_
    refine AOps.nilR ?_
    cases h
    exact AW.res [(3, (AV.str w38)), (22, (AV.sl 1 f18 e19)), (23, (AV.int .i64 (l16.length : Int))), (24, (AV.int .i64 (IntKind.wrap .i64 (t25 + 1))))] [] ⟨rfl, rfl, rfl, rfl, trivial⟩ trivial (hL1 _ rfl () _ _ trivial)
  refine AW.condF (congrArg AV.bool hc26) ?_
  refine AW.exit rfl ?_
  obtain ⟨r40, hm, hx⟩ := omap h
  clear h
  subst hx
  have hx := hR1 _ rfl
  rw [hx] at hm
  have h := hm
  exact AW.res [(3, (AV.str out24))] [] ⟨rfl, trivial⟩ trivial (KJ23 (out24) _ _ h)
theorem laws_FnExactDeedText_ok {aD1 : Deed} {s : St} {r : Bool} (h : laws_FnExactDeedText aD1 = some r) (hs : WF s) : ACall Cf 3 [(AV.agg [(AV.int .i64 aD1.Kind), (AV.int .i64 aD1.A), (AV.int .i64 aD1.B)])] s fun v _ s' => (rB) r v ∧ s' = s := by
  refine ACall.pure rfl rfl rfl .B ?_
  have hWF := hs.lo'
  unfold laws_FnExactDeedText at h
  refine AW.seq ?_
  refine AW.region ?_
  refine AOps.makeR rfl rfl rfl rfl rfl rfl (rfl : _ = (AV.eptr [(AV.int .i64 aD1.Kind), (AV.int .i64 aD1.A), (AV.int .i64 aD1.B)] 0)) ?_
  refine AOps.pureR rfl rfl rfl rfl rfl (rfl : _ = (AV.bool false)) ?_
  refine AOps.nilR ?_
  refine AW.seq ?_
  refine AW.region ?_
  refine AOps.ldE (v := (AV.agg [(AV.int .i64 aD1.Kind), (AV.int .i64 aD1.A), (AV.int .i64 aD1.B)])) rfl rfl rfl rfl rfl rfl ?_
  obtain ⟨y2, h3, h⟩ := obind h
  refine AOps.callP (g := 5) (args := [(AV.agg [(AV.int .i64 aD1.Kind), (AV.int .i64 aD1.A), (AV.int .i64 aD1.B)])]) (p := (rDeed) y2) rfl rfl rfl (laws_toDeed_ok  h3 hWF) ?_
  intro _ o12 h4
  obtain ⟨_, rfl, h5⟩ := h4
  obtain ⟨_, _, rfl, h6, h7⟩ := Cs_cons h5
  cases h6
  obtain ⟨_, _, rfl, h8, h9⟩ := Cs_cons h7
  cases h8
  obtain ⟨_, _, rfl, h10, h11⟩ := Cs_cons h9
  cases h10
  cases Cs_nil h11
  obtain ⟨y13, h14, h⟩ := obind h
  refine AOps.callP (g := 4) (args := [(AV.agg [(AV.int .i64 y2.Kind), (AV.int .i64 y2.A), (AV.int .i64 y2.B)])]) (p := (rS) y13) rfl rfl rfl (spec_DeedText_ok  h14 hWF) ?_
  intro _ o16 h15
  cases h15
  refine AOps.assignR rfl rfl rfl (rfl : _ = (AV.str y13)) rfl ?_
  refine AOps.nilR ?_
  refine AW.seq ?_
  refine AW.region ?_
  refine AOps.ldE (v := (AV.agg [(AV.int .i64 aD1.Kind), (AV.int .i64 aD1.A), (AV.int .i64 aD1.B)])) rfl rfl rfl rfl rfl rfl ?_
  obtain ⟨y17, h18, h⟩ := obind h
  refine AOps.callP (g := 5) (args := [(AV.agg [(AV.int .i64 aD1.Kind), (AV.int .i64 aD1.A), (AV.int .i64 aD1.B)])]) (p := (rDeed) y17) rfl rfl rfl (laws_toDeed_ok  h18 hWF) ?_
  intro _ o27 h19
  obtain ⟨_, rfl, h20⟩ := h19
  obtain ⟨_, _, rfl, h21, h22⟩ := Cs_cons h20
  cases h21
  obtain ⟨_, _, rfl, h23, h24⟩ := Cs_cons h22
  cases h23
  obtain ⟨_, _, rfl, h25, h26⟩ := Cs_cons h24
  cases h25
  cases Cs_nil h26
  obtain ⟨y28, h29, h⟩ := obind h
  refine AOps.callP (g := 6) (args := [(AV.agg [(AV.int .i64 y17.Kind), (AV.int .i64 y17.A), (AV.int .i64 y17.B)])]) (p := (rS) y28) rfl rfl rfl (impl_DeedText_ok  h29 hWF) ?_
  intro _ o31 h30
  cases h30
  refine AOps.assignR rfl rfl rfl (rfl : _ = (AV.str y28)) rfl ?_
  refine AOps.nilR ?_
  refine AW.seq ?_
  refine AW.seq ?_
  refine AW.region ?_
  refine AOps.pureR rfl rfl rfl rfl rfl (rfl : _ = (AV.str y28)) ?_
  refine AOps.pureR rfl rfl rfl rfl rfl (rfl : _ = (AV.str y13)) ?_
  refine AOps.pureR rfl rfl rfl rfl rfl (rfl : _ = (AV.bool (!(y28 == y13)))) ?_
  refine AOps.nilR ?_
  rcases oite h with ⟨hc32, h⟩ | ⟨hc32, h⟩
  · refine AW.condT (congrArg AV.bool hc32) ?_
    refine AW.seq ?_
    refine AW.region ?_
    refine AOps.pureR rfl rfl rfl rfl rfl (rfl : _ = (AV.bool false)) ?_
    refine AOps.nilR ?_
    cases h
    exact AW.ret ⟨rfl, _, _, rfl, rfl⟩
  refine AW.condF (congrArg AV.bool hc32) ?_
  refine AW.skip ?_
  refine AW.seq ?_
  refine AW.region ?_
  refine AOps.pureR rfl rfl rfl rfl rfl (rfl : _ = (AV.bool true)) ?_
  refine AOps.nilR ?_
  cases h
  exact AW.ret ⟨rfl, _, _, rfl, rfl⟩
end Go.Proofs.YtolbkojnnofnaaaDoor.law
