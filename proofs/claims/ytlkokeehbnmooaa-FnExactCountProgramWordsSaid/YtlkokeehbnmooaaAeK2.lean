import Derived.Test.YtlkokeehbnmooaaAeD
import Derived.Test.YtlkokeehbnmooaaAe4
import Derived.Test.YtlkokeehbnmooaaAeK1
set_option linter.unusedVariables false
set_option linter.unusedSimpArgs false
namespace Go.Proofs.Ytlkokeehbnmooaa.law
open Go Go.Proofs Ae
set_option maxRecDepth 100000
set_option linter.unusedVariables false
theorem spec_CountProgramWords_ok {p1 : ProgramT} {length6 : Int} {z2 : Nat} {f3 : Bool} {e4 : List AV} {s : St} (h5 : LR rModule 2 p1.Modules z2 e4) {r : Int × Int} (h : spec_CountProgramWords p1 length6 = some r) (hs : WF s) : ACall Cf 5 [(AV.agg [(AV.sl z2 f3 e4)]), (AV.int .i64 length6)] s fun v _ s' => (fun x => rT [(rI .i64) x.1, (rI .i64) x.2]) r v ∧ s' = s := by
 refine ACall.pure rfl rfl rfl (.T (.cons .I (.cons .I .nil))) ?_
 have hWF := hs.lo'
 unfold spec_CountProgramWords at h
 refine AW.sr ?_
 refine AOps.makeR rfl rfl rfl rfl rfl rfl (rfl : _ = (AV.eptr [(AV.sl z2 f3 e4)] 0)) ?_
 refine AOps.p rfl (rfl : _ = (AV.int .i64 0)) ?_
 refine AOps.p rfl (rfl : _ = (AV.int .i64 0)) ?_
 refine AOps.nilR ?_
 refine AW.seq ?_
 refine AW.sr ?_
 obtain ⟨y7, h8, h⟩ := obind h
 refine AOps.callP (g := 10) (args := [(AV.eptr [(AV.sl z2 f3 e4)] 0)]) (p := (rB) y7) rfl rfl rfl (spec_l07Ok_ok h5 h8 hWF) ?_
 intro _ o10 h9
 cases h9
 refine AOps.p rfl (rfl : _ = (AV.bool (!y7))) ?_
 refine AOps.nilR ?_
 rcases oite h with ⟨hc11, h⟩ | ⟨hc11, h⟩
 ·refine AW.condT (congrArg AV.bool hc11) ?_
  refine AW.sr ?_
  refine AOps.p rfl (rfl : _ = (AV.int .i64 0)) ?_
  refine AOps.p rfl (rfl : _ = (AV.int .i64 1)) ?_
  refine AOps.nilR ?_
  cases h
  exact AW.ret ⟨rfl, _, _, rfl, ⟨_, rfl, (.cons rfl (.cons rfl .nil))⟩⟩
 refine AW.condF (congrArg AV.bool hc11) ?_
 refine AW.skip ?_
 refine AW.seq ?_
 refine AW.sr ?_
 refine AOps.p rfl (rfl : _ = (AV.int .i64 length6)) ?_
 obtain ⟨y12, h13, h⟩ := obind h
 refine AOps.callP (g := 11) (args := [(AV.int .i64 length6), (AV.int .i64 0), (AV.int .i64 5)]) (p := (rB) y12) rfl rfl rfl (spec_l00In_ok  h13 hWF) ?_
 intro _ o15 h14
 cases h14
 refine AOps.p rfl (rfl : _ = (AV.bool (!y12))) ?_
 refine AOps.nilR ?_
 rcases oite h with ⟨hc16, h⟩ | ⟨hc16, h⟩
 ·refine AW.condT (congrArg AV.bool hc16) ?_
  refine AW.sr ?_
  refine AOps.p rfl (rfl : _ = (AV.int .i64 0)) ?_
  refine AOps.p rfl (rfl : _ = (AV.int .i64 2)) ?_
  refine AOps.nilR ?_
  cases h
  exact AW.ret ⟨rfl, _, _, rfl, ⟨_, rfl, (.cons rfl (.cons rfl .nil))⟩⟩
 refine AW.condF (congrArg AV.bool hc16) ?_
 refine AW.skip ?_
 refine AW.sr ?_
 refine AOps.p rfl (rfl : _ = (AV.int .i64 0)) ?_
 refine AOps.nilR ?_
 refine AW.sr ?_
 refine AOps.p rfl (rfl : _ = (AV.int .i64 length6)) ?_
 obtain ⟨y17, h18, h⟩ := obind h
 refine AOps.callP (g := 12) (args := [(AV.int .i64 length6)]) (p := (fun x => rT [(rI .i64) x.1, (rI .i64) x.2]) y17) rfl rfl rfl (spec_CountMatched_ok  h18 hWF) ?_
 intro _ o25 h19
 obtain ⟨_, rfl, h20⟩ := h19
 obtain ⟨_, _, rfl, h21, h22⟩ := Cs_cons h20
 cases h21
 obtain ⟨_, _, rfl, h23, h24⟩ := Cs_cons h22
 cases h23
 cases Cs_nil h24
 refine AOps.p rfl (rfl : _ = (AV.tup [(AV.int .i64 y17.1), (AV.int .i64 y17.2)])) ?_
 refine AOps.p rfl (rfl : _ = (AV.int .i64 y17.1)) ?_
 refine AOps.p rfl (rfl : _ = (AV.int .i64 y17.2)) ?_
 refine AOps.assignR rfl rfl rfl (rfl : _ = (AV.int .i64 y17.1)) rfl ?_
 refine AOps.assignR rfl rfl rfl (rfl : _ = (AV.int .i64 y17.2)) rfl ?_
 refine AOps.nilR ?_
 refine AW.seq ?_
 refine AW.sr ?_
 refine AOps.p rfl (rfl : _ = (AV.int .i64 0)) ?_
 refine AOps.nilR ?_
 refine AW.meet (σ := Int) (fun count26 tm os => ⟨updL tm [(6, (AV.int .i64 count26))], updL os [], { s with lo := s.n }⟩) (fun count26 => spec_CountProgramWords_J1 count26 = some r) ?_ ?_
 ·rintro count26 tm os h
  unfold spec_CountProgramWords_J1 at h
  refine AW.sr ?_
  refine AOps.p rfl (rfl : _ = (AV.int .i64 count26)) ?_
  refine AOps.assignR rfl rfl rfl (rfl : _ = (AV.int .i64 count26)) rfl ?_
  refine AOps.p rfl (rfl : _ = (AV.int .i64 0)) ?_
  refine AOps.nilR ?_
  cases h
  exact AW.ret ⟨rfl, _, _, rfl, ⟨_, rfl, (.cons rfl (.cons rfl .nil))⟩⟩
 intro KJ27
 refine AW.block ?_
 refine AW.res [(1, (AV.int .i64 length6)), (2, (AV.eptr [(AV.sl z2 f3 e4)] 0)), (6, (AV.int .i64 0)), (7, (AV.int .i64 y17.1)), (9, (AV.int .i64 0))] [] ⟨rfl, rfl, rfl, rfl, rfl, trivial⟩ trivial ?_
 refine AW.loopF (σ := Int × Int) (τ := Unit) (fun (count28, k29) _ => True) (fun (count28, k29) _ tm os => ⟨updL tm [(1, (AV.int .i64 length6)), (2, (AV.eptr [(AV.sl z2 f3 e4)] 0)), (6, (AV.int .i64 count28)), (7, (AV.int .i64 y17.1)), (9, (AV.int .i64 k29))], updL os [], { s with lo := s.n }⟩) ?_ (x := (0, 0)) (y := ()) h trivial
 clear h
 rintro ⟨count28, k29⟩ _ tm os - ee1 h hL1 hR1
 unfold spec_CountProgramWords_S1 at h
 dsimp only at h
 refine AW.seq ?_
 refine AW.sr ?_
 refine AOps.p rfl (rfl : _ = (AV.int .i64 k29)) ?_
 refine AOps.p rfl (rfl : _ = (AV.int .i64 y17.1)) ?_
 refine AOps.p rfl (rfl : _ = (AV.bool (decide ((k29 : Int) < y17.1)))) ?_
 refine AOps.nilR ?_
 rcases oite h with ⟨hc30, h⟩ | ⟨hc30, h⟩
 ·refine AW.condT (congrArg AV.bool hc30) ?_
  refine AW.skip ?_
  refine AW.seq ?_
  refine AW.block ?_
  refine AW.sr ?_
  refine AOps.p rfl (rfl : _ = (AV.int .i64 length6)) ?_
  refine AOps.p rfl (rfl : _ = (AV.int .i64 k29)) ?_
  obtain ⟨y31, h32, h⟩ := obind h
  refine AOps.callP (g := 13) (args := [(AV.int .i64 length6), (AV.int .i64 k29)]) (p := (fun x => rT [rS x.1, (rI .i64) x.2]) y31) rfl rfl rfl (spec_MatchedAt_ok  h32 hWF) ?_
  intro _ o39 h33
  obtain ⟨_, rfl, h34⟩ := h33
  obtain ⟨_, _, rfl, h35, h36⟩ := Cs_cons h34
  cases h35
  obtain ⟨_, _, rfl, h37, h38⟩ := Cs_cons h36
  cases h37
  cases Cs_nil h38
  refine AOps.p rfl (rfl : _ = (AV.tup [(AV.str y31.1), (AV.int .i64 y31.2)])) ?_
  refine AOps.p rfl (rfl : _ = (AV.str y31.1)) ?_
  refine AOps.p rfl (rfl : _ = (AV.int .i64 y31.2)) ?_
  refine AOps.assignR rfl rfl rfl (rfl : _ = (AV.str y31.1)) rfl ?_
  refine AOps.assignR rfl rfl rfl (rfl : _ = (AV.int .i64 y31.2)) rfl ?_
  refine AOps.nilR ?_
  refine AW.sr ?_
  refine AOps.p rfl (rfl : _ = (AV.str y31.1)) ?_
  obtain ⟨y40, h41, h⟩ := obind h
  refine AOps.callP (g := 14) (args := [(AV.eptr [(AV.sl z2 f3 e4)] 0), (AV.str y31.1)]) (p := (rB) y40) rfl rfl rfl (spec_l07Takes_ok h5 h41 hWF) ?_
  intro _ o43 h42
  cases h42
  refine AOps.nilR ?_
  refine AW.meet (σ := Int) (fun count44 tm os => ⟨updL tm [(1, (AV.int .i64 length6)), (2, (AV.eptr [(AV.sl z2 f3 e4)] 0)), (6, (AV.int .i64 count44)), (7, (AV.int .i64 y17.1)), (9, (AV.int .i64 k29))], updL os [], { s with lo := s.n }⟩) (fun count44 => spec_CountProgramWords_J2 k29 count44 = some ee1) ?_ ?_
  ·rintro count44 tm os h
   unfold spec_CountProgramWords_J2 at h
   refine AW.inBlock ?_
   refine AW.region ?_
   refine AOps.p rfl (rfl : _ = (AV.int .i64 k29)) ?_
   refine AOps.p rfl (rfl : _ = (AV.int .i64 (IntKind.wrap .i64 (k29 + 1)))) ?_
   refine AOps.assignR rfl rfl rfl (rfl : _ = (AV.int .i64 (IntKind.wrap .i64 (k29 + 1)))) rfl ?_
   refine AOps.nilR ?_
   cases h
   exact AW.res [(1, (AV.int .i64 length6)), (2, (AV.eptr [(AV.sl z2 f3 e4)] 0)), (6, (AV.int .i64 count44)), (7, (AV.int .i64 y17.1)), (9, (AV.int .i64 (IntKind.wrap .i64 (k29 + 1))))] [] ⟨rfl, rfl, rfl, rfl, rfl, trivial⟩ trivial (hL1 _ rfl () _ _ trivial)
  intro KJ45
  rcases oite h with ⟨hc46, h⟩ | ⟨hc46, h⟩
  ·refine AW.condT (congrArg AV.bool hc46) ?_
   refine AW.region ?_
   refine AOps.p rfl (rfl : _ = (AV.int .i64 count28)) ?_
   refine AOps.p rfl (rfl : _ = (AV.int .i64 (IntKind.wrap .i64 (count28 + 1)))) ?_
   refine AOps.assignR rfl rfl rfl (rfl : _ = (AV.int .i64 (IntKind.wrap .i64 (count28 + 1)))) rfl ?_
   refine AOps.nilR ?_
   exact AW.res [(1, (AV.int .i64 length6)), (2, (AV.eptr [(AV.sl z2 f3 e4)] 0)), (6, (AV.int .i64 (IntKind.wrap .i64 (count28 + 1)))), (7, (AV.int .i64 y17.1)), (9, (AV.int .i64 k29))] [] ⟨rfl, rfl, rfl, rfl, rfl, trivial⟩ trivial (KJ45 (IntKind.wrap .i64 (count28 + 1)) _ _ h)
  refine AW.condF (congrArg AV.bool hc46) ?_
  refine AW.skip ?_
  exact AW.res [(1, (AV.int .i64 length6)), (2, (AV.eptr [(AV.sl z2 f3 e4)] 0)), (6, (AV.int .i64 count28)), (7, (AV.int .i64 y17.1)), (9, (AV.int .i64 k29))] [] ⟨rfl, rfl, rfl, rfl, rfl, trivial⟩ trivial (KJ45 (count28) _ _ h)
 refine AW.condF (congrArg AV.bool hc30) ?_
 refine AW.exit rfl ?_
 obtain ⟨r47, hm, hx⟩ := omap h
 clear h
 subst hx
 have hx := hR1 _ rfl
 rw [hx] at hm
 have h := hm
 exact AW.res [(6, (AV.int .i64 count28))] [] ⟨rfl, trivial⟩ trivial (KJ27 (count28) _ _ h)
theorem impl_size_impl_Module_ok {list1 : List Module} {z2 : Nat} {f3 : Bool} {e4 : List AV} {s : St} (h5 : LR rModule 2 list1 z2 e4) {r : Int} (h : impl_size_impl_Module list1 = some r) (hs : WF s) : ACall Cf 31 [(AV.sl z2 f3 e4)] s fun v _ s' => (rI .i64) r v ∧ s' = s := by
 refine ACall.pure rfl rfl rfl .I ?_
 have hWF := hs.lo'
 unfold impl_size_impl_Module at h
 refine AW.sr ?_
 refine AOps.p rfl (rfl : _ = (AV.int .i64 0)) ?_
 refine AOps.nilR ?_
 refine AW.sr ?_
 refine AOps.p rfl (rfl : _ = (AV.sl z2 f3 e4)) ?_
 refine AOps.p rfl (len_eq h5) ?_
 refine AOps.assignR rfl rfl rfl (rfl : _ = (AV.int .i64 (list1.length : Int))) rfl ?_
 refine AOps.nilR ?_
 cases h
 exact AW.ret ⟨rfl, _, _, rfl, rfl⟩
theorem impl_within_ok {n1 : Int} {low2 : Int} {high3 : Int} {s : St} {r : Bool} (h : impl_within n1 low2 high3 = some r) (hs : WF s) : ACall Cf 17 [(AV.int .i64 n1), (AV.int .i64 low2), (AV.int .i64 high3)] s fun v _ s' => (rB) r v ∧ s' = s := by
 refine ACall.pure rfl rfl rfl .B ?_
 have hWF := hs.lo'
 unfold impl_within at h
 refine AW.sr ?_
 refine AOps.p rfl (rfl : _ = (AV.bool false)) ?_
 refine AOps.nilR ?_
 refine AW.sr ?_
 refine AOps.p rfl (rfl : _ = (AV.int .i64 n1)) ?_
 refine AOps.p rfl (rfl : _ = (AV.int .i64 low2)) ?_
 refine AOps.p rfl (rfl : _ = (AV.bool (decide ((n1 : Int) ≥ low2)))) ?_
 refine AOps.p rfl (rfl : _ = (AV.bool (decide ((n1 : Int) ≥ low2)))) ?_
 refine AOps.split 4 (fun f' => ∃ tm' os', f' = ⟨updL tm' [(14, (AV.bool ((decide ((n1 : Int) ≥ low2)) && (decide ((n1 : Int) ≤ high3)))))], updL os' [], { s with lo := s.n }⟩) ?_ ?_
 ·rcases Bool.eq_false_or_eq_true (decide ((n1 : Int) ≥ low2)) with hc4 | hc4
  ·refine AOps.know (d := 10) rfl hc4 ?_
   refine AOps.p rfl (rfl : _ = (AV.int .i64 n1)) ?_
   refine AOps.p rfl (rfl : _ = (AV.int .i64 high3)) ?_
   refine AOps.p rfl (rfl : _ = (AV.bool (decide ((n1 : Int) ≤ high3)))) ?_
   refine AOps.p rfl (rfl : _ = (AV.bool (decide ((n1 : Int) ≤ high3)))) ?_
   refine AOps.resR [(14, (AV.bool ((decide ((n1 : Int) ≥ low2)) && (decide ((n1 : Int) ≤ high3)))))] [] ?_ ?_ _ ⟨_, _, rfl⟩
   ·exact ⟨congrArg AV.bool (and_t hc4), trivial⟩
   exact trivial
  ·refine AOps.know (d := 10) rfl hc4 ?_
   refine AOps.skipR rfl rfl ?_
   refine AOps.skipR rfl rfl ?_
   refine AOps.skipR rfl rfl ?_
   refine AOps.p rfl (rfl : _ = (AV.bool false)) ?_
   refine AOps.resR [(14, (AV.bool ((decide ((n1 : Int) ≥ low2)) && (decide ((n1 : Int) ≤ high3)))))] [] ?_ ?_ _ ⟨_, _, rfl⟩
   ·exact ⟨congrArg AV.bool (and_f hc4), trivial⟩
   exact trivial
 rintro _ ⟨tm, os, rfl⟩
 refine AOps.assignR rfl rfl rfl (rfl : _ = (AV.bool ((decide ((n1 : Int) ≥ low2)) && (decide ((n1 : Int) ≤ high3))))) rfl ?_
 refine AOps.nilR ?_
 cases h
 exact AW.ret ⟨rfl, _, _, rfl, rfl⟩
theorem slices_IndexFunc_simpl_Module_impl_Module_ok {s1 : List Module} {f6 : Module → Option Bool} {z2 : Nat} {f3 : Bool} {e4 : List AV} {g7 : Nat} {cap8 : List AV} {s : St} (h5 : LR rModule 2 s1 z2 e4) (h9 : ∀ x vs y, Cs [rModule x] vs → f6 x = some y → ∀ s, WF s → ACall Cf g7 (vs ++ cap8) s fun v _ s' => (rB) y v ∧ s' = s) {r : Int} (h : slices_IndexFunc_simpl_Module_impl_Module s1 f6 = some r) (hs : WF s) : ACall Cf 52 [(AV.sl z2 f3 e4), (AV.fn g7 cap8)] s fun v _ s' => (rI .i64) r v ∧ s' = s := by
 refine ACall.pure rfl rfl rfl .I ?_
 have hWF := hs.lo'
 unfold slices_IndexFunc_simpl_Module_impl_Module at h
 refine AW.sr ?_
 refine AOps.p rfl (rfl : _ = (AV.int .i64 0)) ?_
 refine AOps.nilR ?_
 refine AW.seq ?_
 refine AW.sr ?_
 refine AOps.p rfl (rfl : _ = (AV.sl z2 f3 e4)) ?_
 refine AOps.p rfl (len_eq h5) ?_
 refine AOps.p rfl (rfl : _ = (AV.int .i64 0)) ?_
 refine AOps.nilR ?_
 refine AW.meet (σ := Unit) (fun _ tm os => ⟨updL tm [], updL os [], { s with lo := s.n }⟩) (fun _ => slices_IndexFunc_simpl_Module_impl_Module_J1 = some r) ?_ ?_
 ·rintro _ tm os h
  unfold slices_IndexFunc_simpl_Module_impl_Module_J1 at h
  refine AW.sr ?_
  refine AOps.p rfl (rfl : _ = (AV.int .i64 (-1))) ?_
  refine AOps.nilR ?_
  cases h
  exact AW.ret ⟨rfl, _, _, rfl, rfl⟩
 intro KJ10
 refine AW.block ?_
 refine AW.res [(0, (AV.sl z2 f3 e4)), (1, (AV.fn g7 cap8)), (7, (AV.int .i64 (s1.length : Int))), (8, (AV.int .i64 0))] [] ⟨rfl, rfl, rfl, rfl, trivial⟩ trivial ?_
 refine AW.loopF (σ := Int) (τ := Unit) (fun t11 _ => True) (fun t11 _ tm os => ⟨updL tm [(0, (AV.sl z2 f3 e4)), (1, (AV.fn g7 cap8)), (7, (AV.int .i64 (s1.length : Int))), (8, (AV.int .i64 t11))], updL os [], { s with lo := s.n }⟩) ?_ (x := (0)) (y := ()) h trivial
 clear h
 rintro t11 _ tm os - ee1 h hL1 hR1
 unfold slices_IndexFunc_simpl_Module_impl_Module_S1 at h
 refine AW.sr ?_
 refine AOps.p rfl (rfl : _ = (AV.bool (decide ((t11 : Int) < (s1.length : Int))))) ?_
 refine AOps.nilR ?_
 refine AW.seq ?_
 rcases oite h with ⟨hc12, h⟩ | ⟨hc12, h⟩
 ·refine AW.condT (congrArg AV.bool hc12) ?_
  refine AW.skip ?_
  refine AW.seq ?_
  refine AW.block ?_
  refine AW.sr ?_
  refine AOps.p rfl (rfl : _ = (AV.int .i64 t11)) ?_
  refine AOps.assignR rfl rfl rfl (rfl : _ = (AV.int .i64 t11)) rfl ?_
  refine AOps.nilR ?_
  refine AW.sr ?_
  refine AOps.p rfl (rfl : _ = (AV.fn g7 cap8)) ?_
  refine AOps.p rfl (rfl : _ = (AV.sl z2 f3 e4)) ?_
  refine AOps.p rfl (rfl : _ = (AV.int .i64 t11)) ?_
  obtain ⟨x13, h14, h⟩ := obind h
  obtain ⟨v17, h15, h16⟩ := idx_sl h5 h14
  obtain ⟨_, rfl, h18⟩ := h15
  obtain ⟨_, _, rfl, h19, h20⟩ := Cs_cons h18
  cases h19
  obtain ⟨_, _, rfl, h21, h22⟩ := Cs_cons h20
  obtain ⟨z23, f24, e25, rfl, h26⟩ := h21
  cases Cs_nil h22
  refine AOps.pureR rfl rfl rfl h16 rfl (rfl : _ = (AV.eptr [(AV.int .i64 x13.Nodes), (AV.sl z23 f24 e25)] 0)) ?_
  refine AOps.ldE (v := (AV.agg [(AV.int .i64 x13.Nodes), (AV.sl z23 f24 e25)])) rfl rfl rfl rfl rfl rfl ?_
  obtain ⟨y27, h28, h⟩ := obind h
  refine AOps.callP (g := g7) (args := ([(AV.agg [(AV.int .i64 x13.Nodes), (AV.sl z23 f24 e25)])] ++ cap8)) (p := (rB) y27) rfl rfl rfl (h9 x13 _ _ (.cons ⟨_, rfl, (.cons rfl (.cons ⟨_, _, _, rfl, h26⟩ .nil))⟩ .nil) h28 _ hWF) ?_
  intro _ o30 h29
  cases h29
  refine AOps.nilR ?_
  rcases oite h with ⟨hc31, h⟩ | ⟨hc31, h⟩
  ·refine AW.condT (congrArg AV.bool hc31) ?_
   refine AW.sr ?_
   refine AOps.p rfl (rfl : _ = (AV.int .i64 t11)) ?_
   refine AOps.assignR rfl rfl rfl (rfl : _ = (AV.int .i64 t11)) rfl ?_
   refine AOps.nilR ?_
   cases h
   have hr := hR1 _ rfl
   subst hr
   exact AW.ret ⟨rfl, _, _, rfl, rfl⟩
  refine AW.condF (congrArg AV.bool hc31) ?_
  refine AW.skip ?_
  refine AW.inBlock ?_
  refine AW.region ?_
  refine AOps.p rfl (rfl : _ = (AV.int .i64 (IntKind.wrap .i64 (t11 + 1)))) ?_
  refine AOps.p rfl (rfl : _ = (AV.int .i64 (IntKind.wrap .i64 (t11 + 1)))) ?_
  refine AOps.nilR ?_
  cases h
  exact AW.res [(0, (AV.sl z2 f3 e4)), (1, (AV.fn g7 cap8)), (7, (AV.int .i64 (s1.length : Int))), (8, (AV.int .i64 (IntKind.wrap .i64 (t11 + 1))))] [] ⟨rfl, rfl, rfl, rfl, trivial⟩ trivial (hL1 _ rfl () _ _ trivial)
 refine AW.condF (congrArg AV.bool hc12) ?_
 refine AW.exit rfl ?_
 obtain ⟨r32, hm, hx⟩ := omap h
 clear h
 subst hx
 have hx := hR1 _ rfl
 rw [hx] at hm
 have h := hm
 exact AW.res [] [] trivial trivial (KJ10 () _ _ h)
theorem slices_ContainsFunc_simpl_Module_impl_Module_ok {s1 : List Module} {f6 : Module → Option Bool} {z2 : Nat} {f3 : Bool} {e4 : List AV} {g7 : Nat} {cap8 : List AV} {s : St} (h5 : LR rModule 2 s1 z2 e4) (h9 : ∀ x vs y, Cs [rModule x] vs → f6 x = some y → ∀ s, WF s → ACall Cf g7 (vs ++ cap8) s fun v _ s' => (rB) y v ∧ s' = s) {r : Bool} (h : slices_ContainsFunc_simpl_Module_impl_Module s1 f6 = some r) (hs : WF s) : ACall Cf 32 [(AV.sl z2 f3 e4), (AV.fn g7 cap8)] s fun v _ s' => (rB) r v ∧ s' = s := by
 refine ACall.pure rfl rfl rfl .B ?_
 have hWF := hs.lo'
 unfold slices_ContainsFunc_simpl_Module_impl_Module at h
 refine AW.sr ?_
 refine AOps.p rfl (rfl : _ = (AV.bool false)) ?_
 refine AOps.nilR ?_
 refine AW.sr ?_
 refine AOps.p rfl (rfl : _ = (AV.sl z2 f3 e4)) ?_
 refine AOps.p rfl (rfl : _ = (AV.fn g7 cap8)) ?_
 obtain ⟨y10, h11, h⟩ := obind h
 refine AOps.callP (g := 52) (args := [(AV.sl z2 f3 e4), (AV.fn g7 cap8)]) (p := (rI .i64) y10) rfl rfl rfl (slices_IndexFunc_simpl_Module_impl_Module_ok h5 h9 h11 hWF) ?_
 intro _ o13 h12
 cases h12
 refine AOps.p rfl (rfl : _ = (AV.bool (decide ((y10 : Int) ≥ 0)))) ?_
 refine AOps.assignR rfl rfl rfl (rfl : _ = (AV.bool (decide ((y10 : Int) ≥ 0)))) rfl ?_
 refine AOps.nilR ?_
 cases h
 exact AW.ret ⟨rfl, _, _, rfl, rfl⟩
theorem slices_IndexFunc_simpl_Link_impl_Link_ok {s1 : List Link} {f6 : Link → Option Bool} {z2 : Nat} {f3 : Bool} {e4 : List AV} {g7 : Nat} {cap8 : List AV} {s : St} (h5 : LR rLink 4 s1 z2 e4) (h9 : ∀ x vs y, Cs [rLink x] vs → f6 x = some y → ∀ s, WF s → ACall Cf g7 (vs ++ cap8) s fun v _ s' => (rB) y v ∧ s' = s) {r : Int} (h : slices_IndexFunc_simpl_Link_impl_Link s1 f6 = some r) (hs : WF s) : ACall Cf 53 [(AV.sl z2 f3 e4), (AV.fn g7 cap8)] s fun v _ s' => (rI .i64) r v ∧ s' = s := by
 refine ACall.pure rfl rfl rfl .I ?_
 have hWF := hs.lo'
 unfold slices_IndexFunc_simpl_Link_impl_Link at h
 refine AW.sr ?_
 refine AOps.p rfl (rfl : _ = (AV.int .i64 0)) ?_
 refine AOps.nilR ?_
 refine AW.seq ?_
 refine AW.sr ?_
 refine AOps.p rfl (rfl : _ = (AV.sl z2 f3 e4)) ?_
 refine AOps.p rfl (len_eq h5) ?_
 refine AOps.p rfl (rfl : _ = (AV.int .i64 0)) ?_
 refine AOps.nilR ?_
 refine AW.meet (σ := Unit) (fun _ tm os => ⟨updL tm [], updL os [], { s with lo := s.n }⟩) (fun _ => slices_IndexFunc_simpl_Link_impl_Link_J1 = some r) ?_ ?_
 ·rintro _ tm os h
  unfold slices_IndexFunc_simpl_Link_impl_Link_J1 at h
  refine AW.sr ?_
  refine AOps.p rfl (rfl : _ = (AV.int .i64 (-1))) ?_
  refine AOps.nilR ?_
  cases h
  exact AW.ret ⟨rfl, _, _, rfl, rfl⟩
 intro KJ10
 refine AW.block ?_
 refine AW.res [(0, (AV.sl z2 f3 e4)), (1, (AV.fn g7 cap8)), (7, (AV.int .i64 (s1.length : Int))), (8, (AV.int .i64 0))] [] ⟨rfl, rfl, rfl, rfl, trivial⟩ trivial ?_
 refine AW.loopF (σ := Int) (τ := Unit) (fun t11 _ => True) (fun t11 _ tm os => ⟨updL tm [(0, (AV.sl z2 f3 e4)), (1, (AV.fn g7 cap8)), (7, (AV.int .i64 (s1.length : Int))), (8, (AV.int .i64 t11))], updL os [], { s with lo := s.n }⟩) ?_ (x := (0)) (y := ()) h trivial
 clear h
 rintro t11 _ tm os - ee1 h hL1 hR1
 unfold slices_IndexFunc_simpl_Link_impl_Link_S1 at h
 refine AW.sr ?_
 refine AOps.p rfl (rfl : _ = (AV.bool (decide ((t11 : Int) < (s1.length : Int))))) ?_
 refine AOps.nilR ?_
 refine AW.seq ?_
 rcases oite h with ⟨hc12, h⟩ | ⟨hc12, h⟩
 ·refine AW.condT (congrArg AV.bool hc12) ?_
  refine AW.skip ?_
  refine AW.seq ?_
  refine AW.block ?_
  refine AW.sr ?_
  refine AOps.p rfl (rfl : _ = (AV.int .i64 t11)) ?_
  refine AOps.assignR rfl rfl rfl (rfl : _ = (AV.int .i64 t11)) rfl ?_
  refine AOps.nilR ?_
  refine AW.sr ?_
  refine AOps.p rfl (rfl : _ = (AV.fn g7 cap8)) ?_
  refine AOps.p rfl (rfl : _ = (AV.sl z2 f3 e4)) ?_
  refine AOps.p rfl (rfl : _ = (AV.int .i64 t11)) ?_
  obtain ⟨x13, h14, h⟩ := obind h
  obtain ⟨v17, h15, h16⟩ := idx_sl h5 h14
  obtain ⟨_, rfl, h18⟩ := h15
  obtain ⟨_, _, rfl, h19, h20⟩ := Cs_cons h18
  cases h19
  obtain ⟨_, _, rfl, h21, h22⟩ := Cs_cons h20
  cases h21
  obtain ⟨_, _, rfl, h23, h24⟩ := Cs_cons h22
  cases h23
  obtain ⟨_, _, rfl, h25, h26⟩ := Cs_cons h24
  cases h25
  cases Cs_nil h26
  refine AOps.pureR rfl rfl rfl h16 rfl (rfl : _ = (AV.eptr [(AV.int .i64 x13.From), (AV.int .i64 x13.To), (AV.str x13.Act), (AV.int .i64 x13.Module)] 0)) ?_
  refine AOps.ldE (v := (AV.agg [(AV.int .i64 x13.From), (AV.int .i64 x13.To), (AV.str x13.Act), (AV.int .i64 x13.Module)])) rfl rfl rfl rfl rfl rfl ?_
  obtain ⟨y27, h28, h⟩ := obind h
  refine AOps.callP (g := g7) (args := ([(AV.agg [(AV.int .i64 x13.From), (AV.int .i64 x13.To), (AV.str x13.Act), (AV.int .i64 x13.Module)])] ++ cap8)) (p := (rB) y27) rfl rfl rfl (h9 x13 _ _ (.cons ⟨_, rfl, (.cons rfl (.cons rfl (.cons rfl (.cons rfl .nil))))⟩ .nil) h28 _ hWF) ?_
  intro _ o30 h29
  cases h29
  refine AOps.nilR ?_
  rcases oite h with ⟨hc31, h⟩ | ⟨hc31, h⟩
  ·refine AW.condT (congrArg AV.bool hc31) ?_
   refine AW.sr ?_
   refine AOps.p rfl (rfl : _ = (AV.int .i64 t11)) ?_
   refine AOps.assignR rfl rfl rfl (rfl : _ = (AV.int .i64 t11)) rfl ?_
   refine AOps.nilR ?_
   cases h
   have hr := hR1 _ rfl
   subst hr
   exact AW.ret ⟨rfl, _, _, rfl, rfl⟩
  refine AW.condF (congrArg AV.bool hc31) ?_
  refine AW.skip ?_
  refine AW.inBlock ?_
  refine AW.region ?_
  refine AOps.p rfl (rfl : _ = (AV.int .i64 (IntKind.wrap .i64 (t11 + 1)))) ?_
  refine AOps.p rfl (rfl : _ = (AV.int .i64 (IntKind.wrap .i64 (t11 + 1)))) ?_
  refine AOps.nilR ?_
  cases h
  exact AW.res [(0, (AV.sl z2 f3 e4)), (1, (AV.fn g7 cap8)), (7, (AV.int .i64 (s1.length : Int))), (8, (AV.int .i64 (IntKind.wrap .i64 (t11 + 1))))] [] ⟨rfl, rfl, rfl, rfl, trivial⟩ trivial (hL1 _ rfl () _ _ trivial)
 refine AW.condF (congrArg AV.bool hc12) ?_
 refine AW.exit rfl ?_
 obtain ⟨r32, hm, hx⟩ := omap h
 clear h
 subst hx
 have hx := hR1 _ rfl
 rw [hx] at hm
 have h := hm
 exact AW.res [] [] trivial trivial (KJ10 () _ _ h)
theorem slices_ContainsFunc_simpl_Link_impl_Link_ok {s1 : List Link} {f6 : Link → Option Bool} {z2 : Nat} {f3 : Bool} {e4 : List AV} {g7 : Nat} {cap8 : List AV} {s : St} (h5 : LR rLink 4 s1 z2 e4) (h9 : ∀ x vs y, Cs [rLink x] vs → f6 x = some y → ∀ s, WF s → ACall Cf g7 (vs ++ cap8) s fun v _ s' => (rB) y v ∧ s' = s) {r : Bool} (h : slices_ContainsFunc_simpl_Link_impl_Link s1 f6 = some r) (hs : WF s) : ACall Cf 34 [(AV.sl z2 f3 e4), (AV.fn g7 cap8)] s fun v _ s' => (rB) r v ∧ s' = s := by
 refine ACall.pure rfl rfl rfl .B ?_
 have hWF := hs.lo'
 unfold slices_ContainsFunc_simpl_Link_impl_Link at h
 refine AW.sr ?_
 refine AOps.p rfl (rfl : _ = (AV.bool false)) ?_
 refine AOps.nilR ?_
 refine AW.sr ?_
 refine AOps.p rfl (rfl : _ = (AV.sl z2 f3 e4)) ?_
 refine AOps.p rfl (rfl : _ = (AV.fn g7 cap8)) ?_
 obtain ⟨y10, h11, h⟩ := obind h
 refine AOps.callP (g := 53) (args := [(AV.sl z2 f3 e4), (AV.fn g7 cap8)]) (p := (rI .i64) y10) rfl rfl rfl (slices_IndexFunc_simpl_Link_impl_Link_ok h5 h9 h11 hWF) ?_
 intro _ o13 h12
 cases h12
 refine AOps.p rfl (rfl : _ = (AV.bool (decide ((y10 : Int) ≥ 0)))) ?_
 refine AOps.assignR rfl rfl rfl (rfl : _ = (AV.bool (decide ((y10 : Int) ≥ 0)))) rfl ?_
 refine AOps.nilR ?_
 cases h
 exact AW.ret ⟨rfl, _, _, rfl, rfl⟩
theorem impl_isCall_ok {c1 : Int} {s : St} {r : Bool} (h : impl_isCall c1 = some r) (hs : WF s) : ACall Cf 54 [(AV.int .u8 c1)] s fun v _ s' => (rB) r v ∧ s' = s := by
 refine ACall.pure rfl rfl rfl .B ?_
 have hWF := hs.lo'
 unfold impl_isCall at h
 refine AW.sr ?_
 refine AOps.p rfl (rfl : _ = (AV.bool false)) ?_
 refine AOps.nilR ?_
 refine AW.sr ?_
 refine AOps.p rfl (rfl : _ = (AV.int .u8 c1)) ?_
 refine AOps.p rfl (rfl : _ = (AV.bool (c1 == 40))) ?_
 refine AOps.p rfl (rfl : _ = (AV.bool (c1 == 40))) ?_
 refine AOps.split 3 (fun f' => ∃ tm' os', f' = ⟨updL tm' [(8, (AV.bool ((c1 == 40) || (c1 == 91))))], updL os' [], { s with lo := s.n }⟩) ?_ ?_
 ·rcases Bool.eq_false_or_eq_true (c1 == 40) with hc2 | hc2
  ·refine AOps.know (d := 5) rfl hc2 ?_
   refine AOps.skipR rfl rfl ?_
   refine AOps.skipR rfl rfl ?_
   refine AOps.p rfl (rfl : _ = (AV.bool true)) ?_
   refine AOps.resR [(8, (AV.bool ((c1 == 40) || (c1 == 91))))] [] ?_ ?_ _ ⟨_, _, rfl⟩
   ·exact ⟨congrArg AV.bool (or_t hc2), trivial⟩
   exact trivial
  ·refine AOps.know (d := 5) rfl hc2 ?_
   refine AOps.p rfl (rfl : _ = (AV.int .u8 c1)) ?_
   refine AOps.p rfl (rfl : _ = (AV.bool (c1 == 91))) ?_
   refine AOps.p rfl (rfl : _ = (AV.bool (c1 == 91))) ?_
   refine AOps.resR [(8, (AV.bool ((c1 == 40) || (c1 == 91))))] [] ?_ ?_ _ ⟨_, _, rfl⟩
   ·exact ⟨congrArg AV.bool (or_f hc2), trivial⟩
   exact trivial
 rintro _ ⟨tm, os, rfl⟩
 refine AOps.assignR rfl rfl rfl (rfl : _ = (AV.bool ((c1 == 40) || (c1 == 91)))) rfl ?_
 refine AOps.nilR ?_
 cases h
 exact AW.ret ⟨rfl, _, _, rfl, rfl⟩
theorem impl_isReturn_ok {c1 : Int} {s : St} {r : Bool} (h : impl_isReturn c1 = some r) (hs : WF s) : ACall Cf 55 [(AV.int .u8 c1)] s fun v _ s' => (rB) r v ∧ s' = s := by
 refine ACall.pure rfl rfl rfl .B ?_
 have hWF := hs.lo'
 unfold impl_isReturn at h
 refine AW.sr ?_
 refine AOps.p rfl (rfl : _ = (AV.bool false)) ?_
 refine AOps.nilR ?_
 refine AW.sr ?_
 refine AOps.p rfl (rfl : _ = (AV.int .u8 c1)) ?_
 refine AOps.p rfl (rfl : _ = (AV.bool (c1 == 41))) ?_
 refine AOps.p rfl (rfl : _ = (AV.bool (c1 == 41))) ?_
 refine AOps.split 3 (fun f' => ∃ tm' os', f' = ⟨updL tm' [(8, (AV.bool ((c1 == 41) || (c1 == 93))))], updL os' [], { s with lo := s.n }⟩) ?_ ?_
 ·rcases Bool.eq_false_or_eq_true (c1 == 41) with hc2 | hc2
  ·refine AOps.know (d := 5) rfl hc2 ?_
   refine AOps.skipR rfl rfl ?_
   refine AOps.skipR rfl rfl ?_
   refine AOps.p rfl (rfl : _ = (AV.bool true)) ?_
   refine AOps.resR [(8, (AV.bool ((c1 == 41) || (c1 == 93))))] [] ?_ ?_ _ ⟨_, _, rfl⟩
   ·exact ⟨congrArg AV.bool (or_t hc2), trivial⟩
   exact trivial
  ·refine AOps.know (d := 5) rfl hc2 ?_
   refine AOps.p rfl (rfl : _ = (AV.int .u8 c1)) ?_
   refine AOps.p rfl (rfl : _ = (AV.bool (c1 == 93))) ?_
   refine AOps.p rfl (rfl : _ = (AV.bool (c1 == 93))) ?_
   refine AOps.resR [(8, (AV.bool ((c1 == 41) || (c1 == 93))))] [] ?_ ?_ _ ⟨_, _, rfl⟩
   ·exact ⟨congrArg AV.bool (or_f hc2), trivial⟩
   exact trivial
 rintro _ ⟨tm, os, rfl⟩
 refine AOps.assignR rfl rfl rfl (rfl : _ = (AV.bool ((c1 == 41) || (c1 == 93)))) rfl ?_
 refine AOps.nilR ?_
 cases h
 exact AW.ret ⟨rfl, _, _, rfl, rfl⟩
theorem impl_isBrackets_ok {p0_1 : List UInt8} {s : St} {r : Bool} (h : impl_isBrackets p0_1 = some r) (hs : WF s) : ACall Cf 36 [(AV.str p0_1)] s fun v _ s' => (rB) r v ∧ s' = s := by
 refine ACall.pure rfl rfl rfl .B ?_
 have hWF := hs.lo'
 unfold impl_isBrackets at h
 refine AW.sr ?_
 refine AOps.p rfl (rfl : _ = (AV.bool false)) ?_
 refine AOps.nilR ?_
 refine AW.sr ?_
 refine AOps.p rfl (rfl : _ = (AV.str p0_1)) ?_
 refine AOps.p rfl (rfl : _ = (AV.int .i64 (p0_1.length : Int))) ?_
 refine AOps.p rfl (rfl : _ = (AV.bool ((p0_1.length : Int) == 2))) ?_
 refine AOps.p rfl (rfl : _ = (AV.bool ((p0_1.length : Int) == 2))) ?_
 obtain ⟨b3, hb, h⟩ := obind h
 refine AOps.split 4 (fun f' => ∃ tm' os', f' = ⟨updL tm' [(0, (AV.str p0_1)), (10, (AV.bool b3))], updL os' [], { s with lo := s.n }⟩) ?_ ?_
 ·rcases oite hb with ⟨hc2, hb⟩ | ⟨hc2, hb⟩
  ·have h := hb
   refine AOps.know (d := 6) rfl hc2 ?_
   refine AOps.p rfl (rfl : _ = (AV.str p0_1)) ?_
   obtain ⟨c4, h5, h⟩ := obind h
   refine AOps.pureR rfl rfl rfl (chr_str h5) rfl (rfl : _ = (AV.int .u8 c4)) ?_
   obtain ⟨y6, h7, h⟩ := obind h
   refine AOps.callP (g := 54) (args := [(AV.int .u8 c4)]) (p := (rB) y6) rfl rfl rfl (impl_isCall_ok  h7 hWF) ?_
   intro _ o9 h8
   cases h8
   refine AOps.p rfl (rfl : _ = (AV.bool y6)) ?_
   refine AOps.resR [(0, (AV.str p0_1)), (10, (AV.bool b3))] [] ?_ ?_ _ ⟨_, _, rfl⟩
   ·exact ⟨rfl, congrArg AV.bool (Option.some.inj h), trivial⟩
   exact trivial
  ·refine AOps.know (d := 6) rfl hc2 ?_
   refine AOps.skipR rfl rfl ?_
   refine AOps.skipR rfl rfl ?_
   refine AOps.skipR rfl rfl ?_
   refine AOps.p rfl (rfl : _ = (AV.bool false)) ?_
   refine AOps.resR [(0, (AV.str p0_1)), (10, (AV.bool b3))] [] ?_ ?_ _ ⟨_, _, rfl⟩
   ·exact ⟨rfl, congrArg AV.bool (Option.some.inj hb), trivial⟩
   exact trivial
 rintro _ ⟨tm, os, rfl⟩
 refine AOps.p rfl (rfl : _ = (AV.bool b3)) ?_
 obtain ⟨b11, hb, h⟩ := obind h
 refine AOps.split 4 (fun f' => ∃ tm' os', f' = ⟨updL tm' [(15, (AV.bool b11))], updL os' [], { s with lo := s.n }⟩) ?_ ?_
 ·rcases oite hb with ⟨hc10, hb⟩ | ⟨hc10, hb⟩
  ·have h := hb
   refine AOps.know (d := 11) rfl hc10 ?_
   refine AOps.p rfl (rfl : _ = (AV.str p0_1)) ?_
   obtain ⟨c12, h13, h⟩ := obind h
   refine AOps.pureR rfl rfl rfl (chr_str h13) rfl (rfl : _ = (AV.int .u8 c12)) ?_
   obtain ⟨y14, h15, h⟩ := obind h
   refine AOps.callP (g := 55) (args := [(AV.int .u8 c12)]) (p := (rB) y14) rfl rfl rfl (impl_isReturn_ok  h15 hWF) ?_
   intro _ o17 h16
   cases h16
   refine AOps.p rfl (rfl : _ = (AV.bool y14)) ?_
   refine AOps.resR [(15, (AV.bool b11))] [] ?_ ?_ _ ⟨_, _, rfl⟩
   ·exact ⟨congrArg AV.bool (Option.some.inj h), trivial⟩
   exact trivial
  ·refine AOps.know (d := 11) rfl hc10 ?_
   refine AOps.skipR rfl rfl ?_
   refine AOps.skipR rfl rfl ?_
   refine AOps.skipR rfl rfl ?_
   refine AOps.p rfl (rfl : _ = (AV.bool false)) ?_
   refine AOps.resR [(15, (AV.bool b11))] [] ?_ ?_ _ ⟨_, _, rfl⟩
   ·exact ⟨congrArg AV.bool (Option.some.inj hb), trivial⟩
   exact trivial
 rintro _ ⟨tm, os, rfl⟩
 refine AOps.assignR rfl rfl rfl (rfl : _ = (AV.bool b11)) rfl ?_
 refine AOps.nilR ?_
 cases h
 exact AW.ret ⟨rfl, _, _, rfl, rfl⟩
theorem impl_isLetter_ok {p0_1 : List UInt8} {s : St} {r : Bool} (h : impl_isLetter p0_1 = some r) (hs : WF s) : ACall Cf 37 [(AV.str p0_1)] s fun v _ s' => (rB) r v ∧ s' = s := by
 refine ACall.pure rfl rfl rfl .B ?_
 have hWF := hs.lo'
 unfold impl_isLetter at h
 refine AW.sr ?_
 refine AOps.p rfl (rfl : _ = (AV.bool false)) ?_
 refine AOps.nilR ?_
 refine AW.sr ?_
 refine AOps.p rfl (rfl : _ = (AV.str p0_1)) ?_
 refine AOps.p rfl (rfl : _ = (AV.bool (p0_1 == ([97] : List UInt8)))) ?_
 refine AOps.p rfl (rfl : _ = (AV.bool (p0_1 == ([97] : List UInt8)))) ?_
 refine AOps.split 3 (fun f' => ∃ tm' os', f' = ⟨updL tm' [(8, (AV.bool ((p0_1 == ([97] : List UInt8)) || (p0_1 == ([98] : List UInt8)))))], updL os' [], { s with lo := s.n }⟩) ?_ ?_
 ·rcases Bool.eq_false_or_eq_true (p0_1 == ([97] : List UInt8)) with hc2 | hc2
  ·refine AOps.know (d := 5) rfl hc2 ?_
   refine AOps.skipR rfl rfl ?_
   refine AOps.skipR rfl rfl ?_
   refine AOps.p rfl (rfl : _ = (AV.bool true)) ?_
   refine AOps.resR [(8, (AV.bool ((p0_1 == ([97] : List UInt8)) || (p0_1 == ([98] : List UInt8)))))] [] ?_ ?_ _ ⟨_, _, rfl⟩
   ·exact ⟨congrArg AV.bool (or_t hc2), trivial⟩
   exact trivial
  ·refine AOps.know (d := 5) rfl hc2 ?_
   refine AOps.p rfl (rfl : _ = (AV.str p0_1)) ?_
   refine AOps.p rfl (rfl : _ = (AV.bool (p0_1 == ([98] : List UInt8)))) ?_
   refine AOps.p rfl (rfl : _ = (AV.bool (p0_1 == ([98] : List UInt8)))) ?_
   refine AOps.resR [(8, (AV.bool ((p0_1 == ([97] : List UInt8)) || (p0_1 == ([98] : List UInt8)))))] [] ?_ ?_ _ ⟨_, _, rfl⟩
   ·exact ⟨congrArg AV.bool (or_f hc2), trivial⟩
   exact trivial
 rintro _ ⟨tm, os, rfl⟩
 refine AOps.assignR rfl rfl rfl (rfl : _ = (AV.bool ((p0_1 == ([97] : List UInt8)) || (p0_1 == ([98] : List UInt8))))) rfl ?_
 refine AOps.nilR ?_
 cases h
 exact AW.ret ⟨rfl, _, _, rfl, rfl⟩
theorem impl_ValidProgram_1_1_ok {l1 : Link} {c2 : Module} {c7 : Int} {z3 : Nat} {f4 : Bool} {e5 : List AV} {s : St} (h6 : LR rLink 4 c2.Links z3 e5) {r : Bool} (h : impl_ValidProgram_1_1 l1 c2 c7 = some r) (hs : WF s) : ACall Cf 35 [(AV.agg [(AV.int .i64 l1.From), (AV.int .i64 l1.To), (AV.str l1.Act), (AV.int .i64 l1.Module)]), (AV.eptr [(AV.int .i64 c2.Nodes), (AV.sl z3 f4 e5)] 0), (AV.eptr [(AV.int .i64 c7)] 0)] s fun v _ s' => (rB) r v ∧ s' = s := by
 refine ACall.pure rfl rfl rfl .B ?_
 have hWF := hs.lo'
 unfold impl_ValidProgram_1_1 at h
 refine AW.sr ?_
 refine AOps.makeR rfl rfl rfl rfl rfl rfl (rfl : _ = (AV.eptr [(AV.int .i64 l1.From), (AV.int .i64 l1.To), (AV.str l1.Act), (AV.int .i64 l1.Module)] 0)) ?_
 refine AOps.p rfl (rfl : _ = (AV.bool false)) ?_
 refine AOps.nilR ?_
 refine AW.seq ?_
 refine AW.sr ?_
 refine AOps.p rfl (rfl : _ = (AV.eptr [(AV.int .i64 l1.From), (AV.int .i64 l1.To), (AV.str l1.Act), (AV.int .i64 l1.Module)] 0)) ?_
 refine AOps.ldE (v := (AV.int .i64 l1.From)) rfl rfl rfl rfl rfl rfl ?_
 refine AOps.p rfl (rfl : _ = (AV.eptr [(AV.int .i64 c2.Nodes), (AV.sl z3 f4 e5)] 0)) ?_
 refine AOps.ldE (v := (AV.int .i64 c2.Nodes)) rfl rfl rfl rfl rfl rfl ?_
 refine AOps.p rfl (rfl : _ = (AV.int .i64 (IntKind.wrap .i64 (c2.Nodes - 1)))) ?_
 obtain ⟨y8, h9, h⟩ := obind h
 refine AOps.callP (g := 17) (args := [(AV.int .i64 l1.From), (AV.int .i64 0), (AV.int .i64 (IntKind.wrap .i64 (c2.Nodes - 1)))]) (p := (rB) y8) rfl rfl rfl (impl_within_ok  h9 hWF) ?_
 intro _ o11 h10
 cases h10
 refine AOps.p rfl (rfl : _ = (AV.bool (!y8))) ?_
 refine AOps.p rfl (rfl : _ = (AV.bool (!y8))) ?_
 obtain ⟨b13, hb, h⟩ := obind h
 refine AOps.split 8 (fun f' => ∃ tm' os', f' = ⟨updL tm' [(2, (AV.eptr [(AV.int .i64 c7)] 0)), (3, (AV.eptr [(AV.int .i64 l1.From), (AV.int .i64 l1.To), (AV.str l1.Act), (AV.int .i64 l1.Module)] 0)), (20, (AV.bool b13))], updL os' [], { s with lo := s.n }⟩) ?_ ?_
 ·rcases oite hb with ⟨hc12, hb⟩ | ⟨hc12, hb⟩
  ·refine AOps.know (d := 12) rfl hc12 ?_
   refine AOps.skipR rfl rfl ?_
   refine AOps.skipR rfl rfl ?_
   refine AOps.skipR rfl rfl ?_
   refine AOps.skipR rfl rfl ?_
   refine AOps.skipR rfl rfl ?_
   refine AOps.skipR rfl rfl ?_
   refine AOps.skipR rfl rfl ?_
   refine AOps.p rfl (rfl : _ = (AV.bool true)) ?_
   refine AOps.resR [(2, (AV.eptr [(AV.int .i64 c7)] 0)), (3, (AV.eptr [(AV.int .i64 l1.From), (AV.int .i64 l1.To), (AV.str l1.Act), (AV.int .i64 l1.Module)] 0)), (20, (AV.bool b13))] [] ?_ ?_ _ ⟨_, _, rfl⟩
   ·exact ⟨rfl, rfl, congrArg AV.bool (Option.some.inj hb), trivial⟩
   exact trivial
  ·have h := hb
   refine AOps.know (d := 12) rfl hc12 ?_
   refine AOps.p rfl (rfl : _ = (AV.eptr [(AV.int .i64 l1.From), (AV.int .i64 l1.To), (AV.str l1.Act), (AV.int .i64 l1.Module)] 1)) ?_
   refine AOps.ldE (v := (AV.int .i64 l1.To)) rfl rfl rfl rfl rfl rfl ?_
   refine AOps.p rfl (rfl : _ = (AV.eptr [(AV.int .i64 c2.Nodes), (AV.sl z3 f4 e5)] 0)) ?_
   refine AOps.ldE (v := (AV.int .i64 c2.Nodes)) rfl rfl rfl rfl rfl rfl ?_
   refine AOps.p rfl (rfl : _ = (AV.int .i64 (IntKind.wrap .i64 (c2.Nodes - 1)))) ?_
   obtain ⟨y14, h15, h⟩ := obind h
   refine AOps.callP (g := 17) (args := [(AV.int .i64 l1.To), (AV.int .i64 0), (AV.int .i64 (IntKind.wrap .i64 (c2.Nodes - 1)))]) (p := (rB) y14) rfl rfl rfl (impl_within_ok  h15 hWF) ?_
   intro _ o17 h16
   cases h16
   refine AOps.p rfl (rfl : _ = (AV.bool (!y14))) ?_
   refine AOps.p rfl (rfl : _ = (AV.bool (!y14))) ?_
   refine AOps.resR [(2, (AV.eptr [(AV.int .i64 c7)] 0)), (3, (AV.eptr [(AV.int .i64 l1.From), (AV.int .i64 l1.To), (AV.str l1.Act), (AV.int .i64 l1.Module)] 0)), (20, (AV.bool b13))] [] ?_ ?_ _ ⟨_, _, rfl⟩
   ·exact ⟨rfl, rfl, congrArg AV.bool (Option.some.inj h), trivial⟩
   exact trivial
 rintro _ ⟨tm, os, rfl⟩
 refine AOps.p rfl (rfl : _ = (AV.bool b13)) ?_
 obtain ⟨b19, hb, h⟩ := obind h
 refine AOps.split 7 (fun f' => ∃ tm' os', f' = ⟨updL tm' [(3, (AV.eptr [(AV.int .i64 l1.From), (AV.int .i64 l1.To), (AV.str l1.Act), (AV.int .i64 l1.Module)] 0)), (28, (AV.bool b19))], updL os' [], { s with lo := s.n }⟩) ?_ ?_
 ·rcases oite hb with ⟨hc18, hb⟩ | ⟨hc18, hb⟩
  ·refine AOps.know (d := 21) rfl hc18 ?_
   refine AOps.skipR rfl rfl ?_
   refine AOps.skipR rfl rfl ?_
   refine AOps.skipR rfl rfl ?_
   refine AOps.skipR rfl rfl ?_
   refine AOps.skipR rfl rfl ?_
   refine AOps.skipR rfl rfl ?_
   refine AOps.p rfl (rfl : _ = (AV.bool true)) ?_
   refine AOps.resR [(3, (AV.eptr [(AV.int .i64 l1.From), (AV.int .i64 l1.To), (AV.str l1.Act), (AV.int .i64 l1.Module)] 0)), (28, (AV.bool b19))] [] ?_ ?_ _ ⟨_, _, rfl⟩
   ·exact ⟨rfl, congrArg AV.bool (Option.some.inj hb), trivial⟩
   exact trivial
  ·have h := hb
   refine AOps.know (d := 21) rfl hc18 ?_
   refine AOps.p rfl (rfl : _ = (AV.eptr [(AV.int .i64 l1.From), (AV.int .i64 l1.To), (AV.str l1.Act), (AV.int .i64 l1.Module)] 3)) ?_
   refine AOps.ldE (v := (AV.int .i64 l1.Module)) rfl rfl rfl rfl rfl rfl ?_
   refine AOps.ldE (v := (AV.int .i64 c7)) rfl rfl rfl rfl rfl rfl ?_
   refine AOps.p rfl (rfl : _ = (AV.int .i64 (IntKind.wrap .i64 (c7 - 1)))) ?_
   obtain ⟨y20, h21, h⟩ := obind h
   refine AOps.callP (g := 17) (args := [(AV.int .i64 l1.Module), (AV.int .i64 0), (AV.int .i64 (IntKind.wrap .i64 (c7 - 1)))]) (p := (rB) y20) rfl rfl rfl (impl_within_ok  h21 hWF) ?_
   intro _ o23 h22
   cases h22
   refine AOps.p rfl (rfl : _ = (AV.bool (!y20))) ?_
   refine AOps.p rfl (rfl : _ = (AV.bool (!y20))) ?_
   refine AOps.resR [(3, (AV.eptr [(AV.int .i64 l1.From), (AV.int .i64 l1.To), (AV.str l1.Act), (AV.int .i64 l1.Module)] 0)), (28, (AV.bool b19))] [] ?_ ?_ _ ⟨_, _, rfl⟩
   ·exact ⟨rfl, congrArg AV.bool (Option.some.inj h), trivial⟩
   exact trivial
 rintro _ ⟨tm, os, rfl⟩
 refine AOps.nilR ?_
 rcases oite h with ⟨hc24, h⟩ | ⟨hc24, h⟩
 ·refine AW.condT (congrArg AV.bool hc24) ?_
  refine AW.sr ?_
  refine AOps.p rfl (rfl : _ = (AV.bool true)) ?_
  refine AOps.nilR ?_
  cases h
  exact AW.ret ⟨rfl, _, _, rfl, rfl⟩
 refine AW.condF (congrArg AV.bool hc24) ?_
 refine AW.skip ?_
 refine AW.sr ?_
 refine AOps.p rfl (rfl : _ = (AV.eptr [(AV.int .i64 l1.From), (AV.int .i64 l1.To), (AV.str l1.Act), (AV.int .i64 l1.Module)] 2)) ?_
 refine AOps.ldE (v := (AV.str l1.Act)) rfl rfl rfl rfl rfl rfl ?_
 obtain ⟨y25, h26, h⟩ := obind h
 refine AOps.callP (g := 36) (args := [(AV.str l1.Act)]) (p := (rB) y25) rfl rfl rfl (impl_isBrackets_ok  h26 hWF) ?_
 intro _ o28 h27
 cases h27
 refine AOps.p rfl (rfl : _ = (AV.bool (!y25))) ?_
 refine AOps.p rfl (rfl : _ = (AV.bool (!y25))) ?_
 obtain ⟨b30, hb, h⟩ := obind h
 refine AOps.split 10 (fun f' => ∃ tm' os', f' = ⟨updL tm' [(43, (AV.bool b30))], updL os' [], { s with lo := s.n }⟩) ?_ ?_
 ·rcases oite hb with ⟨hc29, hb⟩ | ⟨hc29, hb⟩
  ·have h := hb
   refine AOps.know (d := 33) rfl hc29 ?_
   refine AOps.p rfl (rfl : _ = (AV.eptr [(AV.int .i64 l1.From), (AV.int .i64 l1.To), (AV.str l1.Act), (AV.int .i64 l1.Module)] 2)) ?_
   refine AOps.ldE (v := (AV.str l1.Act)) rfl rfl rfl rfl rfl rfl ?_
   obtain ⟨y31, h32, h⟩ := obind h
   refine AOps.callP (g := 37) (args := [(AV.str l1.Act)]) (p := (rB) y31) rfl rfl rfl (impl_isLetter_ok  h32 hWF) ?_
   intro _ o34 h33
   cases h33
   refine AOps.p rfl (rfl : _ = (AV.bool (!y31))) ?_
   refine AOps.p rfl (rfl : _ = (AV.bool (!y31))) ?_
   refine AOps.split 4 (fun f' => ∃ tm' os', f' = ⟨updL tm' [(33, (AV.bool true)), (42, (AV.bool ((!y31) || (l1.Module != 0))))], updL os' [], { s with lo := s.n }⟩) ?_ ?_
   ·rcases Bool.eq_false_or_eq_true (!y31) with hc35 | hc35
    ·refine AOps.know (d := 38) rfl hc35 ?_
     refine AOps.skipR rfl rfl ?_
     refine AOps.skipR rfl rfl ?_
     refine AOps.skipR rfl rfl ?_
     refine AOps.p rfl (rfl : _ = (AV.bool true)) ?_
     refine AOps.resR [(33, (AV.bool true)), (42, (AV.bool ((!y31) || (l1.Module != 0))))] [] ?_ ?_ _ ⟨_, _, rfl⟩
     ·exact ⟨rfl, congrArg AV.bool (or_t hc35), trivial⟩
     exact trivial
    ·refine AOps.know (d := 38) rfl hc35 ?_
     refine AOps.p rfl (rfl : _ = (AV.eptr [(AV.int .i64 l1.From), (AV.int .i64 l1.To), (AV.str l1.Act), (AV.int .i64 l1.Module)] 3)) ?_
     refine AOps.ldE (v := (AV.int .i64 l1.Module)) rfl rfl rfl rfl rfl rfl ?_
     refine AOps.p rfl (rfl : _ = (AV.bool (l1.Module != 0))) ?_
     refine AOps.p rfl (rfl : _ = (AV.bool (l1.Module != 0))) ?_
     refine AOps.resR [(33, (AV.bool true)), (42, (AV.bool ((!y31) || (l1.Module != 0))))] [] ?_ ?_ _ ⟨_, _, rfl⟩
     ·exact ⟨rfl, congrArg AV.bool (or_f hc35), trivial⟩
     exact trivial
   rintro _ ⟨tm, os, rfl⟩
   refine AOps.p rfl (rfl : _ = (AV.bool ((!y31) || (l1.Module != 0)))) ?_
   refine AOps.resR [(43, (AV.bool b30))] [] ?_ ?_ _ ⟨_, _, rfl⟩
   ·exact ⟨congrArg AV.bool (Option.some.inj h), trivial⟩
   exact trivial
  ·refine AOps.know (d := 33) rfl hc29 ?_
   refine AOps.skipR rfl rfl ?_
   refine AOps.skipR rfl rfl ?_
   refine AOps.skipR rfl rfl ?_
   refine AOps.skipR rfl rfl ?_
   refine AOps.skipR rfl rfl ?_
   refine AOps.skipR rfl rfl ?_
   refine AOps.skipR rfl rfl ?_
   refine AOps.skipR rfl rfl ?_
   refine AOps.skipR rfl rfl ?_
   refine AOps.p rfl (rfl : _ = (AV.bool false)) ?_
   refine AOps.resR [(43, (AV.bool b30))] [] ?_ ?_ _ ⟨_, _, rfl⟩
   ·exact ⟨congrArg AV.bool (Option.some.inj hb), trivial⟩
   exact trivial
 rintro _ ⟨tm, os, rfl⟩
 refine AOps.assignR rfl rfl rfl (rfl : _ = (AV.bool b30)) rfl ?_
 refine AOps.nilR ?_
 cases h
 exact AW.ret ⟨rfl, _, _, rfl, rfl⟩
theorem impl_ValidProgram_1_ok {m1 : Module} {c6 : Int} {z2 : Nat} {f3 : Bool} {e4 : List AV} {s : St} (h5 : LR rLink 4 m1.Links z2 e4) {r : Bool} (h : impl_ValidProgram_1 m1 c6 = some r) (hs : WF s) : ACall Cf 33 [(AV.agg [(AV.int .i64 m1.Nodes), (AV.sl z2 f3 e4)]), (AV.eptr [(AV.int .i64 c6)] 0)] s fun v _ s' => (rB) r v ∧ s' = s := by
 refine ACall.pure rfl rfl rfl .B ?_
 have hWF := hs.lo'
 unfold impl_ValidProgram_1 at h
 refine AW.sr ?_
 refine AOps.makeR rfl rfl rfl rfl rfl rfl (rfl : _ = (AV.eptr [(AV.int .i64 m1.Nodes), (AV.sl z2 f3 e4)] 0)) ?_
 refine AOps.p rfl (rfl : _ = (AV.bool false)) ?_
 refine AOps.nilR ?_
 refine AW.sr ?_
 refine AOps.p rfl (rfl : _ = (AV.eptr [(AV.int .i64 m1.Nodes), (AV.sl z2 f3 e4)] 0)) ?_
 refine AOps.ldE (v := (AV.int .i64 m1.Nodes)) rfl rfl rfl rfl rfl rfl ?_
 obtain ⟨y7, h8, h⟩ := obind h
 refine AOps.callP (g := 17) (args := [(AV.int .i64 m1.Nodes), (AV.int .i64 1), (AV.int .i64 8)]) (p := (rB) y7) rfl rfl rfl (impl_within_ok  h8 hWF) ?_
 intro _ o10 h9
 cases h9
 refine AOps.p rfl (rfl : _ = (AV.bool (!y7))) ?_
 refine AOps.p rfl (rfl : _ = (AV.bool (!y7))) ?_
 refine AOps.split 5 (fun f' => ∃ tm' os', f' = ⟨updL tm' [(1, (AV.eptr [(AV.int .i64 c6)] 0)), (2, (AV.eptr [(AV.int .i64 m1.Nodes), (AV.sl z2 f3 e4)] 0)), (13, (AV.bool ((!y7) || (decide (((m1.Links.length : Int) : Int) > 12)))))], updL os' [], { s with lo := s.n }⟩) ?_ ?_
 ·rcases Bool.eq_false_or_eq_true (!y7) with hc11 | hc11
  ·refine AOps.know (d := 8) rfl hc11 ?_
   refine AOps.skipR rfl rfl ?_
   refine AOps.skipR rfl rfl ?_
   refine AOps.skipR rfl rfl ?_
   refine AOps.skipR rfl rfl ?_
   refine AOps.p rfl (rfl : _ = (AV.bool true)) ?_
   refine AOps.resR [(1, (AV.eptr [(AV.int .i64 c6)] 0)), (2, (AV.eptr [(AV.int .i64 m1.Nodes), (AV.sl z2 f3 e4)] 0)), (13, (AV.bool ((!y7) || (decide (((m1.Links.length : Int) : Int) > 12)))))] [] ?_ ?_ _ ⟨_, _, rfl⟩
   ·exact ⟨rfl, rfl, congrArg AV.bool (or_t hc11), trivial⟩
   exact trivial
  ·refine AOps.know (d := 8) rfl hc11 ?_
   refine AOps.p rfl (rfl : _ = (AV.eptr [(AV.int .i64 m1.Nodes), (AV.sl z2 f3 e4)] 1)) ?_
   refine AOps.ldE (v := (AV.sl z2 f3 e4)) rfl rfl rfl rfl rfl rfl ?_
   refine AOps.p rfl (len_eq h5) ?_
   refine AOps.p rfl (rfl : _ = (AV.bool (decide (((m1.Links.length : Int) : Int) > 12)))) ?_
   refine AOps.p rfl (rfl : _ = (AV.bool (decide (((m1.Links.length : Int) : Int) > 12)))) ?_
   refine AOps.resR [(1, (AV.eptr [(AV.int .i64 c6)] 0)), (2, (AV.eptr [(AV.int .i64 m1.Nodes), (AV.sl z2 f3 e4)] 0)), (13, (AV.bool ((!y7) || (decide (((m1.Links.length : Int) : Int) > 12)))))] [] ?_ ?_ _ ⟨_, _, rfl⟩
   ·exact ⟨rfl, rfl, congrArg AV.bool (or_f hc11), trivial⟩
   exact trivial
 rintro _ ⟨tm, os, rfl⟩
 refine AOps.p rfl (rfl : _ = (AV.bool ((!y7) || (decide (((m1.Links.length : Int) : Int) > 12))))) ?_
 obtain ⟨b13, hb, h⟩ := obind h
 refine AOps.split 5 (fun f' => ∃ tm' os', f' = ⟨updL tm' [(19, (AV.bool b13))], updL os' [], { s with lo := s.n }⟩) ?_ ?_
 ·rcases oite hb with ⟨hc12, hb⟩ | ⟨hc12, hb⟩
  ·refine AOps.know (d := 14) rfl hc12 ?_
   refine AOps.skipR rfl rfl ?_
   refine AOps.skipR rfl rfl ?_
   refine AOps.skipR rfl rfl ?_
   refine AOps.skipR rfl rfl ?_
   refine AOps.p rfl (rfl : _ = (AV.bool true)) ?_
   refine AOps.resR [(19, (AV.bool b13))] [] ?_ ?_ _ ⟨_, _, rfl⟩
   ·exact ⟨congrArg AV.bool (Option.some.inj hb), trivial⟩
   exact trivial
  ·have h := hb
   refine AOps.know (d := 14) rfl hc12 ?_
   refine AOps.p rfl (rfl : _ = (AV.eptr [(AV.int .i64 m1.Nodes), (AV.sl z2 f3 e4)] 1)) ?_
   refine AOps.ldE (v := (AV.sl z2 f3 e4)) rfl rfl rfl rfl rfl rfl ?_
   refine AOps.p rfl (rfl : _ = (AV.fn 35 [(AV.eptr [(AV.int .i64 m1.Nodes), (AV.sl z2 f3 e4)] 0), (AV.eptr [(AV.int .i64 c6)] 0)])) ?_
   obtain ⟨y23, h24, h⟩ := obind h
   refine AOps.callP (g := 34) (args := [(AV.sl z2 f3 e4), (AV.fn 35 [(AV.eptr [(AV.int .i64 m1.Nodes), (AV.sl z2 f3 e4)] 0), (AV.eptr [(AV.int .i64 c6)] 0)])]) (p := (rB) y23) rfl rfl rfl (slices_ContainsFunc_simpl_Link_impl_Link_ok h5 (by intro x vs y hc hx s hs; obtain ⟨_, _, rfl, hv0, hd0⟩ := Cs_cons hc; obtain ⟨_, rfl, h14⟩ := hv0; obtain ⟨_, _, rfl, h15, h16⟩ := Cs_cons h14; cases h15; obtain ⟨_, _, rfl, h17, h18⟩ := Cs_cons h16; cases h17; obtain ⟨_, _, rfl, h19, h20⟩ := Cs_cons h18; cases h19; obtain ⟨_, _, rfl, h21, h22⟩ := Cs_cons h20; cases h21; cases Cs_nil h22; cases Cs_nil hd0; exact impl_ValidProgram_1_1_ok h5 hx hs) h24 hWF) ?_
   intro _ o26 h25
   cases h25
   refine AOps.p rfl (rfl : _ = (AV.bool y23)) ?_
   refine AOps.resR [(19, (AV.bool b13))] [] ?_ ?_ _ ⟨_, _, rfl⟩
   ·exact ⟨congrArg AV.bool (Option.some.inj h), trivial⟩
   exact trivial
 rintro _ ⟨tm, os, rfl⟩
 refine AOps.assignR rfl rfl rfl (rfl : _ = (AV.bool b13)) rfl ?_
 refine AOps.nilR ?_
 cases h
 exact AW.ret ⟨rfl, _, _, rfl, rfl⟩
theorem impl_ValidProgram_ok {p1 : ProgramT} {z2 : Nat} {f3 : Bool} {e4 : List AV} {s : St} (h5 : LR rModule 2 p1.Modules z2 e4) {r : Bool} (h : impl_ValidProgram p1 = some r) (hs : WF s) : ACall Cf 16 [(AV.agg [(AV.sl z2 f3 e4)])] s fun v _ s' => (rB) r v ∧ s' = s := by
 refine ACall.pure rfl rfl rfl .B ?_
 have hWF := hs.lo'
 unfold impl_ValidProgram at h
 refine AW.sr ?_
 refine AOps.makeR rfl rfl rfl rfl rfl rfl (rfl : _ = (AV.eptr [(AV.sl z2 f3 e4)] 0)) ?_
 refine AOps.p rfl (rfl : _ = (AV.bool false)) ?_
 refine AOps.nilR ?_
 refine AW.sr ?_
 refine AOps.p rfl (rfl : _ = (AV.eptr [(AV.sl z2 f3 e4)] 0)) ?_
 refine AOps.ldE (v := (AV.sl z2 f3 e4)) rfl rfl rfl rfl rfl rfl ?_
 obtain ⟨y6, h7, h⟩ := obind h
 refine AOps.callP (g := 31) (args := [(AV.sl z2 f3 e4)]) (p := (rI .i64) y6) rfl rfl rfl (impl_size_impl_Module_ok h5 h7 hWF) ?_
 intro _ o9 h8
 cases h8
 refine AOps.allocP rfl rfl rfl rfl ⟨rfl, rfl⟩ rfl ?_
 refine AOps.stP (v := (AV.int .i64 y6)) rfl rfl rfl rfl rfl rfl rfl rfl rfl (lt_b rfl) rfl ?_
 refine AOps.nilR ?_
 refine AW.sr ?_
 refine AOps.ldE (v := (AV.int .i64 y6)) rfl rfl rfl rfl rfl rfl ?_
 obtain ⟨y10, h11, h⟩ := obind h
 refine AOps.callP (g := 17) (args := [(AV.int .i64 y6), (AV.int .i64 1), (AV.int .i64 4)]) (p := (rB) y10) rfl rfl rfl (impl_within_ok  h11 hWF) ?_
 intro _ o13 h12
 cases h12
 refine AOps.p rfl (rfl : _ = (AV.bool y10)) ?_
 obtain ⟨b15, hb, h⟩ := obind h
 refine AOps.split 6 (fun f' => ∃ tm' os', f' = ⟨updL tm' [(15, (AV.bool b15))], updL os' [], { s with lo := s.n }⟩) ?_ ?_
 ·rcases oite hb with ⟨hc14, hb⟩ | ⟨hc14, hb⟩
  ·have h := hb
   refine AOps.know (d := 9) rfl hc14 ?_
   refine AOps.p rfl (rfl : _ = (AV.eptr [(AV.sl z2 f3 e4)] 0)) ?_
   refine AOps.ldE (v := (AV.sl z2 f3 e4)) rfl rfl rfl rfl rfl rfl ?_
   refine AOps.p rfl (rfl : _ = (AV.fn 33 [(AV.eptr [(AV.int .i64 y6)] 0)])) ?_
   obtain ⟨y25, h26, h⟩ := obind h
   refine AOps.callP (g := 32) (args := [(AV.sl z2 f3 e4), (AV.fn 33 [(AV.eptr [(AV.int .i64 y6)] 0)])]) (p := (rB) y25) rfl rfl rfl (slices_ContainsFunc_simpl_Module_impl_Module_ok h5 (by intro x vs y hc hx s hs; obtain ⟨_, _, rfl, hv0, hd0⟩ := Cs_cons hc; obtain ⟨_, rfl, h16⟩ := hv0; obtain ⟨_, _, rfl, h17, h18⟩ := Cs_cons h16; cases h17; obtain ⟨_, _, rfl, h19, h20⟩ := Cs_cons h18; obtain ⟨z21, f22, e23, rfl, h24⟩ := h19; cases Cs_nil h20; cases Cs_nil hd0; exact impl_ValidProgram_1_ok h24 hx hs) h26 hWF) ?_
   intro _ o28 h27
   cases h27
   refine AOps.p rfl (rfl : _ = (AV.bool (!y25))) ?_
   refine AOps.p rfl (rfl : _ = (AV.bool (!y25))) ?_
   refine AOps.resR [(15, (AV.bool b15))] [] ?_ ?_ _ ⟨_, _, rfl⟩
   ·exact ⟨congrArg AV.bool (Option.some.inj h), trivial⟩
   exact trivial
  ·refine AOps.know (d := 9) rfl hc14 ?_
   refine AOps.skipR rfl rfl ?_
   refine AOps.skipR rfl rfl ?_
   refine AOps.skipR rfl rfl ?_
   refine AOps.skipR rfl rfl ?_
   refine AOps.skipR rfl rfl ?_
   refine AOps.p rfl (rfl : _ = (AV.bool false)) ?_
   refine AOps.resR [(15, (AV.bool b15))] [] ?_ ?_ _ ⟨_, _, rfl⟩
   ·exact ⟨congrArg AV.bool (Option.some.inj hb), trivial⟩
   exact trivial
 rintro _ ⟨tm, os, rfl⟩
 refine AOps.assignR rfl rfl rfl (rfl : _ = (AV.bool b15)) rfl ?_
 refine AOps.nilR ?_
 cases h
 exact AW.ret ⟨rfl, _, _, rfl, rfl⟩
theorem impl_endings_ok {s : St} {r : (List Int)} (h : impl_endings = some r) (hs : WF s) : ACall Cf 38 [] s fun v _ s' => (rAr .i64 462) r v ∧ s' = s := by
 refine ACall.boxes rfl rfl rfl ?_
 have hH0 := HS.init hs
 unfold impl_endings at h
 refine AW.sr ?_
 refine AOps.allocP rfl rfl rfl rfl ⟨rfl, rfl⟩ rfl ?_
 refine AOps.nilR ?_
 refine AW.sr ?_
 refine AOps.p rfl (rfl : _ = (AV.agg (List.replicate 462 (AV.int .i64 0)))) ?_
 refine AOps.alloc1 hH0 rfl rfl rfl rfl rfl rfl ?_
 intro b1 s2 hH3
 change HS [] false s s2 [⟨some b1, (List.replicate 462 (AV.int .i64 0)), (fun _ => false)⟩] at hH3
 refine AOps.stAr (i := 0) hH3 rfl rfl (AR.ms0 (AR.rep .i64 462 0 rfl)) (AR.rep .i64 462 0 rfl) rfl rfl rfl rfl rfl rfl (lt_b rfl) rfl ?_
 intro cs4 w5 s6 h7 hH8
 change HS [] false s s6 [⟨some b1, cs4, w5⟩] at hH8
 refine AOps.nilR ?_
 refine AW.sr ?_
 obtain ⟨u9, h10, h⟩ := obind h
 refine AOps.pureR rfl rfl rfl (idx_rng h10) rfl (rfl : _ = (AV.ptr b1 (0 + Int.toNat 0 * 22))) ?_
 obtain ⟨u11, h12, h⟩ := obind h
 obtain ⟨x13, h14, h⟩ := obind h
 refine AOps.pureR rfl rfl rfl (idx_ar2 h10 h12) rfl (rfl : _ = (AV.ptr b1 (0 + Int.toNat (0 * 22 + 0) * 1))) ?_
 refine AOps.stM (i := 0) (r := rI .i64) (v := (AV.int .i64 1)) (y := 1) hH8 rfl rfl h7 h14 rfl rfl rfl rfl rfl rfl (Sh.I 1 _ rfl) rfl rfl (lt_b rfl) rfl rfl ?_
 intro cs15 w16 s17 h18 hH19
 change HS [] false s s17 [⟨some b1, cs15, w16⟩] at hH19
 refine AOps.nilR ?_
 refine AW.seq ?_
 refine AW.sr ?_
 refine AOps.p rfl (rfl : _ = (AV.int .i64 1)) ?_
 refine AOps.nilR ?_
 refine AW.meet (σ := (List Int) × BX × Nat × St) (fun (out20, x21, b22, s25) tm os => ⟨updL tm [(0, (AV.pend 462)), (1, (AV.ptr b22 0))], updL os [(0, true)], s25⟩) (fun (out20, x21, b22, s25) => (x21.b = some b22) ∧ (MS (rI .i64) false 1 out20 462 x21.cs) ∧ (HS [] false s s25 [x21]) ∧ impl_endings_J1 out20 = some r) ?_ ?_
 ·rintro ⟨out20, x21, b22, s25⟩ tm os ⟨h23, h24, hH26, h⟩
  unfold impl_endings_J1 at h
  refine AW.sr ?_
  refine AOps.ldAr (i := 0) hH26 rfl h23 h24 rfl rfl rfl rfl rfl rfl rfl ?_
  refine AOps.stP (v := (AV.agg (List.map (AV.int .i64) out20))) rfl rfl rfl rfl rfl rfl rfl (AR.laid (MS.arMap h24)).1 (AR.laid (MS.arMap h24)).2 (lt_b rfl) rfl ?_
  refine AOps.nilR ?_
  cases h
  exact AW.ret ⟨⟨_, hH26⟩, _, _, (resAr rfl rfl rfl (MS.arMap h24) rfl rfl), (Fin.of (p := (rAr .i64 462) _) .ar (⟨_, rfl, (MS.arMap h24)⟩)).2⟩
 intro KJ27
 refine AW.block ?_
 refine AW.res [(0, (AV.pend 462)), (1, (AV.ptr b1 0)), (2, (AV.int .i64 1))] [(0, true)] ⟨rfl, rfl, rfl, trivial⟩ ⟨rfl, trivial⟩ ?_
 refine AW.loopF (σ := (List Int) × Int) (τ := BX × Nat × St) (fun (out28, n33) (x29, b30, s34) => (x29.b = some b30) ∧ (MS (rI .i64) false 1 out28 462 x29.cs) ∧ (HS [] false s s34 [x29])) (fun (out28, n33) (x29, b30, s34) tm os => ⟨updL tm [(0, (AV.pend 462)), (1, (AV.ptr b30 0)), (2, (AV.int .i64 n33))], updL os [(0, true)], s34⟩) ?_ (x := (((List.replicate 462 (0 : Int)).set (Int.toNat (0 * 22 + 0)) 1), 1)) (y := (⟨some b1, cs15, w16⟩, b1, s17)) h ⟨rfl, h18, (HS.sel hH19 [some 0] (by decide))⟩
 clear h
 rintro ⟨out28, n33⟩ ⟨x29, b30, s34⟩ tm os ⟨h31, h32, hH35⟩ ee1 h hL1 hR1
 unfold impl_endings_S1 at h
 dsimp only at h
 refine AW.seq ?_
 refine AW.sr ?_
 refine AOps.p rfl (rfl : _ = (AV.int .i64 n33)) ?_
 refine AOps.p rfl (rfl : _ = (AV.bool (decide ((n33 : Int) ≤ 20)))) ?_
 refine AOps.nilR ?_
 rcases oite h with ⟨hc36, h⟩ | ⟨hc36, h⟩
 ·refine AW.condT (congrArg AV.bool hc36) ?_
  refine AW.skip ?_
  refine AW.seq ?_
  refine AW.block ?_
  refine AW.sr ?_
  refine AOps.p rfl (rfl : _ = (AV.int .i64 0)) ?_
  refine AOps.nilR ?_
  refine AW.meet (σ := (List Int) × BX × Nat × St) (fun (out37, x38, b39, s42) tm os => ⟨updL tm [(0, (AV.pend 462)), (1, (AV.ptr b39 0)), (2, (AV.int .i64 n33))], updL os [(0, true)], s42⟩) (fun (out37, x38, b39, s42) => (x38.b = some b39) ∧ (MS (rI .i64) false 1 out37 462 x38.cs) ∧ (HS [] false s s42 [x38]) ∧ impl_endings_J2 n33 out37 = some ee1) ?_ ?_
  ·rintro ⟨out37, x38, b39, s42⟩ tm os ⟨h40, h41, hH43, h⟩
   unfold impl_endings_J2 at h
   refine AW.inBlock ?_
   refine AW.region ?_
   refine AOps.p rfl (rfl : _ = (AV.int .i64 n33)) ?_
   refine AOps.p rfl (rfl : _ = (AV.int .i64 (IntKind.wrap .i64 (n33 + 1)))) ?_
   refine AOps.assignR rfl rfl rfl (rfl : _ = (AV.int .i64 (IntKind.wrap .i64 (n33 + 1)))) rfl ?_
   refine AOps.nilR ?_
   cases h
   exact AW.res [(0, (AV.pend 462)), (1, (AV.ptr b39 0)), (2, (AV.int .i64 (IntKind.wrap .i64 (n33 + 1))))] [(0, true)] ⟨rfl, rfl, rfl, trivial⟩ ⟨rfl, trivial⟩ (hL1 _ rfl (x38, b39, s42) _ _ ⟨h40, h41, (HS.sel hH43 [some 0] (by decide))⟩)
  intro KJ44
  refine AW.block ?_
  refine AW.res [(0, (AV.pend 462)), (1, (AV.ptr b30 0)), (2, (AV.int .i64 n33)), (3, (AV.int .i64 0))] [(0, true)] ⟨rfl, rfl, rfl, rfl, trivial⟩ ⟨rfl, trivial⟩ ?_
  refine AW.loopF (σ := (List Int) × Int) (τ := BX × Nat × St) (fun (out45, d50) (x46, b47, s51) => (x46.b = some b47) ∧ (MS (rI .i64) false 1 out45 462 x46.cs) ∧ (HS [] false s s51 [x46])) (fun (out45, d50) (x46, b47, s51) tm os => ⟨updL tm [(0, (AV.pend 462)), (1, (AV.ptr b47 0)), (2, (AV.int .i64 n33)), (3, (AV.int .i64 d50))], updL os [(0, true)], s51⟩) ?_ (x := (out28, 0)) (y := (x29, b30, s34)) h ⟨h31, h32, (HS.sel hH35 [some 0] (by decide))⟩
  clear h
  rintro ⟨out45, d50⟩ ⟨x46, b47, s51⟩ tm os ⟨h48, h49, hH52⟩ ee2 h hL2 hR2
  unfold impl_endings_S2 at h
  dsimp only at h
  refine AW.seq ?_
  refine AW.sr ?_
  refine AOps.p rfl (rfl : _ = (AV.int .i64 d50)) ?_
  refine AOps.p rfl (rfl : _ = (AV.int .i64 n33)) ?_
  refine AOps.p rfl (rfl : _ = (AV.int .i64 (IntKind.wrap .i64 (20 - n33)))) ?_
  refine AOps.p rfl (rfl : _ = (AV.bool (decide ((d50 : Int) ≤ (IntKind.wrap .i64 (20 - n33)))))) ?_
  refine AOps.nilR ?_
  rcases oite h with ⟨hc53, h⟩ | ⟨hc53, h⟩
  ·refine AW.condT (congrArg AV.bool hc53) ?_
   refine AW.skip ?_
   refine AW.seq ?_
   refine AW.block ?_
   refine AW.sr ?_
   refine AOps.p rfl (rfl : _ = (AV.int .i64 n33)) ?_
   refine AOps.p rfl (rfl : _ = (AV.int .i64 d50)) ?_
   refine AOps.p rfl (rfl : _ = (AV.int .i64 n33)) ?_
   refine AOps.p rfl (rfl : _ = (AV.int .i64 (IntKind.wrap .i64 (n33 - 1)))) ?_
   refine AOps.p rfl (rfl : _ = (AV.int .i64 d50)) ?_
   refine AOps.p rfl (rfl : _ = (AV.int .i64 (IntKind.wrap .i64 (d50 + 1)))) ?_
   obtain ⟨u54, h55, h⟩ := obind h
   refine AOps.pureR rfl rfl rfl (idx_rng h55) rfl (rfl : _ = (AV.ptr b47 (0 + Int.toNat (IntKind.wrap .i64 (n33 - 1)) * 22))) ?_
   obtain ⟨u56, h57, h⟩ := obind h
   obtain ⟨x58, h59, h⟩ := obind h
   refine AOps.pureR rfl rfl rfl (idx_ar2 h55 h57) rfl (rfl : _ = (AV.ptr b47 (0 + Int.toNat ((IntKind.wrap .i64 (n33 - 1)) * 22 + (IntKind.wrap .i64 (d50 + 1))) * 1))) ?_
   refine AOps.ldM (i := 0) (r := rI .i64) (off := 0) hH52 rfl h48 h49 h59 rfl rfl rfl rfl rfl (lt_b rfl) (le_b rfl) rfl rfl ?_ (fun c hr hs => by cases hr; exact ⟨_, rfl⟩)
   intro c60 h61 h62 v63 h64
   cases h61
   cases h64
   refine AOps.p rfl (rfl : _ = (AV.int .i64 (IntKind.wrap .i64 (2 * x58)))) ?_
   refine AOps.p rfl (rfl : _ = (AV.int .i64 n33)) ?_
   refine AOps.p rfl (rfl : _ = (AV.int .i64 (IntKind.wrap .i64 (n33 - 1)))) ?_
   refine AOps.p rfl (rfl : _ = (AV.int .i64 d50)) ?_
   obtain ⟨u65, h66, h⟩ := obind h
   refine AOps.pureR rfl rfl rfl (idx_rng h66) rfl (rfl : _ = (AV.ptr b47 (0 + Int.toNat (IntKind.wrap .i64 (n33 - 1)) * 22))) ?_
   obtain ⟨u67, h68, h⟩ := obind h
   obtain ⟨x69, h70, h⟩ := obind h
   refine AOps.pureR rfl rfl rfl (idx_ar2 h66 h68) rfl (rfl : _ = (AV.ptr b47 (0 + Int.toNat ((IntKind.wrap .i64 (n33 - 1)) * 22 + d50) * 1))) ?_
   refine AOps.ldM (i := 0) (r := rI .i64) (off := 0) hH52 rfl h48 h49 h70 rfl rfl rfl rfl rfl (lt_b rfl) (le_b rfl) rfl rfl ?_ (fun c hr hs => by cases hr; exact ⟨_, rfl⟩)
   intro c71 h72 h73 v74 h75
   cases h72
   cases h75
   refine AOps.p rfl (rfl : _ = (AV.int .i64 (IntKind.wrap .i64 (2 * x69)))) ?_
   refine AOps.p rfl (rfl : _ = (AV.int .i64 (IntKind.wrap .i64 ((IntKind.wrap .i64 (2 * x58)) + (IntKind.wrap .i64 (2 * x69)))))) ?_
   obtain ⟨u76, h77, h⟩ := obind h
   refine AOps.pureR rfl rfl rfl (idx_rng h77) rfl (rfl : _ = (AV.ptr b47 (0 + Int.toNat n33 * 22))) ?_
   obtain ⟨u78, h79, h⟩ := obind h
   obtain ⟨x80, h81, h⟩ := obind h
   refine AOps.pureR rfl rfl rfl (idx_ar2 h77 h79) rfl (rfl : _ = (AV.ptr b47 (0 + Int.toNat (n33 * 22 + d50) * 1))) ?_
   refine AOps.stM (i := 0) (r := rI .i64) (v := (AV.int .i64 (IntKind.wrap .i64 ((IntKind.wrap .i64 (2 * x58)) + (IntKind.wrap .i64 (2 * x69)))))) (y := IntKind.wrap .i64 ((IntKind.wrap .i64 (2 * x58)) + (IntKind.wrap .i64 (2 * x69)))) hH52 rfl h48 h49 h81 rfl rfl rfl rfl rfl rfl (Sh.I (IntKind.wrap .i64 ((IntKind.wrap .i64 (2 * x58)) + (IntKind.wrap .i64 (2 * x69)))) _ rfl) rfl rfl (lt_b rfl) rfl rfl ?_
   intro cs82 w83 s84 h85 hH86
   change HS [] false s s84 [⟨some b47, cs82, w83⟩] at hH86
   refine AOps.nilR ?_
   refine AW.sr ?_
   refine AOps.p rfl (rfl : _ = (AV.int .i64 d50)) ?_
   refine AOps.p rfl (rfl : _ = (AV.bool (decide ((d50 : Int) > 0)))) ?_
   refine AOps.nilR ?_
   refine AW.meet (σ := (List Int) × BX × Nat × St) (fun (out87, x88, b89, s92) tm os => ⟨updL tm [(0, (AV.pend 462)), (1, (AV.ptr b89 0)), (2, (AV.int .i64 n33)), (3, (AV.int .i64 d50))], updL os [(0, true)], s92⟩) (fun (out87, x88, b89, s92) => (x88.b = some b89) ∧ (MS (rI .i64) false 1 out87 462 x88.cs) ∧ (HS [] false s s92 [x88]) ∧ impl_endings_J3 d50 out87 = some ee2) ?_ ?_
   ·rintro ⟨out87, x88, b89, s92⟩ tm os ⟨h90, h91, hH93, h⟩
    unfold impl_endings_J3 at h
    refine AW.inBlock ?_
    refine AW.region ?_
    refine AOps.p rfl (rfl : _ = (AV.int .i64 d50)) ?_
    refine AOps.p rfl (rfl : _ = (AV.int .i64 (IntKind.wrap .i64 (d50 + 1)))) ?_
    refine AOps.assignR rfl rfl rfl (rfl : _ = (AV.int .i64 (IntKind.wrap .i64 (d50 + 1)))) rfl ?_
    refine AOps.nilR ?_
    cases h
    exact AW.res [(0, (AV.pend 462)), (1, (AV.ptr b89 0)), (2, (AV.int .i64 n33)), (3, (AV.int .i64 (IntKind.wrap .i64 (d50 + 1))))] [(0, true)] ⟨rfl, rfl, rfl, rfl, trivial⟩ ⟨rfl, trivial⟩ (hL2 _ rfl (x88, b89, s92) _ _ ⟨h90, h91, (HS.sel hH93 [some 0] (by decide))⟩)
   intro KJ94
   rcases oite h with ⟨hc95, h⟩ | ⟨hc95, h⟩
   ·refine AW.condT (congrArg AV.bool hc95) ?_
    refine AW.region ?_
    refine AOps.p rfl (rfl : _ = (AV.int .i64 n33)) ?_
    refine AOps.p rfl (rfl : _ = (AV.int .i64 d50)) ?_
    obtain ⟨u96, h97, h⟩ := obind h
    refine AOps.pureR rfl rfl rfl (idx_rng h97) rfl (rfl : _ = (AV.ptr b47 (0 + Int.toNat n33 * 22))) ?_
    obtain ⟨u98, h99, h⟩ := obind h
    obtain ⟨x100, h101, h⟩ := obind h
    refine AOps.pureR rfl rfl rfl (idx_ar2 h97 h99) rfl (rfl : _ = (AV.ptr b47 (0 + Int.toNat (n33 * 22 + d50) * 1))) ?_
    refine AOps.ldM (i := 0) (r := rI .i64) (off := 0) hH86 rfl rfl h85 h101 rfl rfl rfl rfl rfl (lt_b rfl) (le_b rfl) rfl rfl ?_ (fun c hr hs => by cases hr; exact ⟨_, rfl⟩)
    intro c102 h103 h104 v105 h106
    cases h103
    cases h106
    refine AOps.p rfl (rfl : _ = (AV.int .i64 n33)) ?_
    refine AOps.p rfl (rfl : _ = (AV.int .i64 (IntKind.wrap .i64 (n33 - 1)))) ?_
    refine AOps.p rfl (rfl : _ = (AV.int .i64 d50)) ?_
    refine AOps.p rfl (rfl : _ = (AV.int .i64 (IntKind.wrap .i64 (d50 - 1)))) ?_
    obtain ⟨u107, h108, h⟩ := obind h
    refine AOps.pureR rfl rfl rfl (idx_rng h108) rfl (rfl : _ = (AV.ptr b47 (0 + Int.toNat (IntKind.wrap .i64 (n33 - 1)) * 22))) ?_
    obtain ⟨u109, h110, h⟩ := obind h
    obtain ⟨x111, h112, h⟩ := obind h
    refine AOps.pureR rfl rfl rfl (idx_ar2 h108 h110) rfl (rfl : _ = (AV.ptr b47 (0 + Int.toNat ((IntKind.wrap .i64 (n33 - 1)) * 22 + (IntKind.wrap .i64 (d50 - 1))) * 1))) ?_
    refine AOps.ldM (i := 0) (r := rI .i64) (off := 0) hH86 rfl rfl h85 h112 rfl rfl rfl rfl rfl (lt_b rfl) (le_b rfl) rfl rfl ?_ (fun c hr hs => by cases hr; exact ⟨_, rfl⟩)
    intro c113 h114 h115 v116 h117
    cases h114
    cases h117
    refine AOps.p rfl (rfl : _ = (AV.int .i64 (IntKind.wrap .i64 (2 * x111)))) ?_
    refine AOps.p rfl (rfl : _ = (AV.int .i64 (IntKind.wrap .i64 (x100 + (IntKind.wrap .i64 (2 * x111)))))) ?_
    obtain ⟨u118, h119, h⟩ := obind h
    refine AOps.pureR rfl rfl rfl (idx_rng h119) rfl (rfl : _ = (AV.ptr b47 (0 + Int.toNat n33 * 22))) ?_
    obtain ⟨u120, h121, h⟩ := obind h
    obtain ⟨x122, h123, h⟩ := obind h
    refine AOps.pureR rfl rfl rfl (idx_ar2 h119 h121) rfl (rfl : _ = (AV.ptr b47 (0 + Int.toNat (n33 * 22 + d50) * 1))) ?_
    refine AOps.stM (i := 0) (r := rI .i64) (v := (AV.int .i64 (IntKind.wrap .i64 (x100 + (IntKind.wrap .i64 (2 * x111)))))) (y := IntKind.wrap .i64 (x100 + (IntKind.wrap .i64 (2 * x111)))) hH86 rfl rfl h85 h123 rfl rfl rfl rfl rfl rfl (Sh.I (IntKind.wrap .i64 (x100 + (IntKind.wrap .i64 (2 * x111)))) _ rfl) rfl rfl (lt_b rfl) rfl rfl ?_
    intro cs124 w125 s126 h127 hH128
    change HS [] false s s126 [⟨some b47, cs124, w125⟩] at hH128
    refine AOps.nilR ?_
    exact AW.res [(0, (AV.pend 462)), (1, (AV.ptr b47 0)), (2, (AV.int .i64 n33)), (3, (AV.int .i64 d50))] [(0, true)] ⟨rfl, rfl, rfl, rfl, trivial⟩ ⟨rfl, trivial⟩ (KJ94 (((out45.set (Int.toNat (n33 * 22 + d50)) (IntKind.wrap .i64 ((IntKind.wrap .i64 (2 * x58)) + (IntKind.wrap .i64 (2 * x69))))).set (Int.toNat (n33 * 22 + d50)) (IntKind.wrap .i64 (x100 + (IntKind.wrap .i64 (2 * x111))))), ⟨some b47, cs124, w125⟩, b47, s126) _ _ ⟨rfl, h127, (HS.sel hH128 [some 0] (by decide)), h⟩)
   refine AW.condF (congrArg AV.bool hc95) ?_
   refine AW.skip ?_
   exact AW.res [(0, (AV.pend 462)), (1, (AV.ptr b47 0)), (2, (AV.int .i64 n33)), (3, (AV.int .i64 d50))] [(0, true)] ⟨rfl, rfl, rfl, rfl, trivial⟩ ⟨rfl, trivial⟩ (KJ94 ((out45.set (Int.toNat (n33 * 22 + d50)) (IntKind.wrap .i64 ((IntKind.wrap .i64 (2 * x58)) + (IntKind.wrap .i64 (2 * x69))))), ⟨some b47, cs82, w83⟩, b47, s84) _ _ ⟨rfl, h85, (HS.sel hH86 [some 0] (by decide)), h⟩)
  refine AW.condF (congrArg AV.bool hc53) ?_
  refine AW.exit rfl ?_
  obtain ⟨r129, hm, hx⟩ := omap h
  clear h
  subst hx
  have hx := hR2 _ rfl
  rw [hx] at hm
  have h := hm
  exact AW.res [(0, (AV.pend 462)), (1, (AV.ptr b47 0)), (2, (AV.int .i64 n33))] [(0, true)] ⟨rfl, rfl, rfl, trivial⟩ ⟨rfl, trivial⟩ (KJ44 (out45, x46, b47, s51) _ _ ⟨h48, h49, (HS.sel hH52 [some 0] (by decide)), h⟩)
 refine AW.condF (congrArg AV.bool hc36) ?_
 refine AW.exit rfl ?_
 obtain ⟨r130, hm, hx⟩ := omap h
 clear h
 subst hx
 have hx := hR1 _ rfl
 rw [hx] at hm
 have h := hm
 exact AW.res [(0, (AV.pend 462)), (1, (AV.ptr b30 0))] [(0, true)] ⟨rfl, rfl, trivial⟩ ⟨rfl, trivial⟩ (KJ27 (out28, x29, b30, s34) _ _ ⟨h31, h32, (HS.sel hH35 [some 0] (by decide)), h⟩)
theorem impl_ways_ok {table1 : List Int} {n4 : Int} {depth5 : Int} {e2 : List AV} {s : St} (h3 : AR .i64 462 table1 e2) {r : Int} (h : impl_ways table1 n4 depth5 = some r) (hs : WF s) : ACall Cf 39 [(AV.eptr e2 0), (AV.int .i64 n4), (AV.int .i64 depth5)] s fun v _ s' => (rI .i64) r v ∧ s' = s := by
 refine ACall.pure rfl rfl rfl .I ?_
 have hWF := hs.lo'
 unfold impl_ways at h
 refine AW.sr ?_
 refine AOps.p rfl (rfl : _ = (AV.int .i64 0)) ?_
 refine AOps.nilR ?_
 refine AW.seq ?_
 refine AW.sr ?_
 refine AOps.p rfl (rfl : _ = (AV.int .i64 depth5)) ?_
 refine AOps.p rfl (rfl : _ = (AV.bool (decide ((depth5 : Int) < 0)))) ?_
 refine AOps.p rfl (rfl : _ = (AV.bool (decide ((depth5 : Int) < 0)))) ?_
 refine AOps.split 4 (fun f' => ∃ tm' os', f' = ⟨updL tm' [(0, (AV.eptr e2 0)), (1, (AV.int .i64 n4)), (2, (AV.int .i64 depth5)), (13, (AV.bool ((decide ((depth5 : Int) < 0)) || (decide ((depth5 : Int) > n4)))))], updL os' [], { s with lo := s.n }⟩) ?_ ?_
 ·rcases Bool.eq_false_or_eq_true (decide ((depth5 : Int) < 0)) with hc6 | hc6
  ·refine AOps.know (d := 9) rfl hc6 ?_
   refine AOps.skipR rfl rfl ?_
   refine AOps.skipR rfl rfl ?_
   refine AOps.skipR rfl rfl ?_
   refine AOps.p rfl (rfl : _ = (AV.bool true)) ?_
   refine AOps.resR [(0, (AV.eptr e2 0)), (1, (AV.int .i64 n4)), (2, (AV.int .i64 depth5)), (13, (AV.bool ((decide ((depth5 : Int) < 0)) || (decide ((depth5 : Int) > n4)))))] [] ?_ ?_ _ ⟨_, _, rfl⟩
   ·exact ⟨rfl, rfl, rfl, congrArg AV.bool (or_t hc6), trivial⟩
   exact trivial
  ·refine AOps.know (d := 9) rfl hc6 ?_
   refine AOps.p rfl (rfl : _ = (AV.int .i64 depth5)) ?_
   refine AOps.p rfl (rfl : _ = (AV.int .i64 n4)) ?_
   refine AOps.p rfl (rfl : _ = (AV.bool (decide ((depth5 : Int) > n4)))) ?_
   refine AOps.p rfl (rfl : _ = (AV.bool (decide ((depth5 : Int) > n4)))) ?_
   refine AOps.resR [(0, (AV.eptr e2 0)), (1, (AV.int .i64 n4)), (2, (AV.int .i64 depth5)), (13, (AV.bool ((decide ((depth5 : Int) < 0)) || (decide ((depth5 : Int) > n4)))))] [] ?_ ?_ _ ⟨_, _, rfl⟩
   ·exact ⟨rfl, rfl, rfl, congrArg AV.bool (or_f hc6), trivial⟩
   exact trivial
 rintro _ ⟨tm, os, rfl⟩
 refine AOps.nilR ?_
 rcases oite h with ⟨hc7, h⟩ | ⟨hc7, h⟩
 ·refine AW.condT (congrArg AV.bool hc7) ?_
  refine AW.sr ?_
  refine AOps.p rfl (rfl : _ = (AV.int .i64 0)) ?_
  refine AOps.nilR ?_
  cases h
  exact AW.ret ⟨rfl, _, _, rfl, rfl⟩
 refine AW.condF (congrArg AV.bool hc7) ?_
 refine AW.skip ?_
 refine AW.sr ?_
 refine AOps.p rfl (rfl : _ = (AV.eptr e2 0)) ?_
 refine AOps.p rfl (rfl : _ = (AV.int .i64 n4)) ?_
 refine AOps.p rfl (rfl : _ = (AV.int .i64 depth5)) ?_
 refine AOps.p rfl (rfl : _ = (AV.eptr e2 0)) ?_
 obtain ⟨u8, h9, h⟩ := obind h
 refine AOps.pureR rfl rfl rfl (idx_rng h9) rfl (rfl : _ = (AV.eptr e2 (0 + Int.toNat n4 * 22))) ?_
 obtain ⟨u10, h11, h⟩ := obind h
 obtain ⟨x12, h13, h⟩ := obind h
 refine AOps.pureR rfl rfl rfl (idx_ar2e h9 h11) rfl (rfl : _ = (AV.eptr e2 (0 + Int.toNat (n4 * 22 + depth5) * 1))) ?_
 refine AOps.ldE (v := (AV.int .i64 x12)) rfl rfl rfl rfl (AR.part h3 h13 rfl) rfl ?_
 refine AOps.assignR rfl rfl rfl (rfl : _ = (AV.int .i64 x12)) rfl ?_
 refine AOps.nilR ?_
 cases h
 exact AW.ret ⟨rfl, _, _, rfl, rfl⟩
theorem impl_CountMatched_ok {length1 : Int} {s : St} {r : Int × Int} (h : impl_CountMatched length1 = some r) (hs : WF s) : ACall Cf 18 [(AV.int .i64 length1)] s fun v _ s' => (fun x => rT [(rI .i64) x.1, (rI .i64) x.2]) r v ∧ s' = s := by
 refine ACall.pure rfl rfl rfl (.T (.cons .I (.cons .I .nil))) ?_
 have hWF := hs.lo'
 unfold impl_CountMatched at h
 refine AW.sr ?_
 refine AOps.p rfl (rfl : _ = (AV.int .i64 0)) ?_
 refine AOps.p rfl (rfl : _ = (AV.int .i64 0)) ?_
 refine AOps.nilR ?_
 refine AW.seq ?_
 refine AW.sr ?_
 refine AOps.p rfl (rfl : _ = (AV.int .i64 length1)) ?_
 obtain ⟨y2, h3, h⟩ := obind h
 refine AOps.callP (g := 17) (args := [(AV.int .i64 length1), (AV.int .i64 0), (AV.int .i64 20)]) (p := (rB) y2) rfl rfl rfl (impl_within_ok  h3 hWF) ?_
 intro _ o5 h4
 cases h4
 refine AOps.p rfl (rfl : _ = (AV.bool (!y2))) ?_
 refine AOps.nilR ?_
 rcases oite h with ⟨hc6, h⟩ | ⟨hc6, h⟩
 ·refine AW.condT (congrArg AV.bool hc6) ?_
  refine AW.sr ?_
  refine AOps.p rfl (rfl : _ = (AV.int .i64 0)) ?_
  refine AOps.p rfl (rfl : _ = (AV.int .i64 2)) ?_
  refine AOps.nilR ?_
  cases h
  exact AW.ret ⟨rfl, _, _, rfl, ⟨_, rfl, (.cons rfl (.cons rfl .nil))⟩⟩
 refine AW.condF (congrArg AV.bool hc6) ?_
 refine AW.skip ?_
 refine AW.sr ?_
 obtain ⟨y7, h8, h⟩ := obind h
 refine AOps.callP (g := 38) (args := []) (p := (rAr .i64 462) y7) rfl rfl rfl (impl_endings_ok  h8 hWF) ?_
 intro _ o12 h9
 obtain ⟨e10, rfl, h11⟩ := h9
 refine AOps.allocP rfl rfl rfl rfl ⟨rfl, rfl⟩ rfl ?_
 refine AOps.stP (v := (AV.agg e10)) rfl rfl rfl rfl rfl rfl rfl (AR.laid h11).1 (AR.laid h11).2 (lt_b rfl) rfl ?_
 refine AOps.nilR ?_
 refine AW.sr ?_
 refine AOps.p rfl (rfl : _ = (AV.int .i64 length1)) ?_
 obtain ⟨y13, h14, h⟩ := obind h
 refine AOps.callP (g := 39) (args := [(AV.eptr e10 0), (AV.int .i64 length1), (AV.int .i64 0)]) (p := (rI .i64) y13) rfl rfl rfl (impl_ways_ok h11 h14 hWF) ?_
 intro _ o16 h15
 cases h15
 refine AOps.assignR rfl rfl rfl (rfl : _ = (AV.int .i64 y13)) rfl ?_
 refine AOps.p rfl (rfl : _ = (AV.int .i64 0)) ?_
 refine AOps.nilR ?_
 cases h
 exact AW.ret ⟨rfl, _, _, rfl, ⟨_, rfl, (.cons rfl (.cons rfl .nil))⟩⟩
theorem impl_depthBehind_ok {depth1 : Int} {c2 : Int} {s : St} {r : Int} (h : impl_depthBehind depth1 c2 = some r) (hs : WF s) : ACall Cf 40 [(AV.int .i64 depth1), (AV.int .u8 c2)] s fun v _ s' => (rI .i64) r v ∧ s' = s := by
 refine ACall.pure rfl rfl rfl .I ?_
 have hWF := hs.lo'
 unfold impl_depthBehind at h
 refine AW.sr ?_
 refine AOps.p rfl (rfl : _ = (AV.int .i64 0)) ?_
 refine AOps.nilR ?_
 refine AW.seq ?_
 refine AW.block ?_
 refine AW.sr ?_
 refine AOps.p rfl (rfl : _ = (AV.int .u8 c2)) ?_
 obtain ⟨y3, h4, h⟩ := obind h
 refine AOps.callP (g := 54) (args := [(AV.int .u8 c2)]) (p := (rB) y3) rfl rfl rfl (impl_isCall_ok  h4 hWF) ?_
 intro _ o6 h5
 cases h5
 refine AOps.assignR rfl rfl rfl (rfl : _ = (AV.bool y3)) rfl ?_
 refine AOps.nilR ?_
 rcases oite h with ⟨hc7, h⟩ | ⟨hc7, h⟩
 ·refine AW.condT (congrArg AV.bool hc7) ?_
  refine AW.sr ?_
  refine AOps.p rfl (rfl : _ = (AV.int .i64 depth1)) ?_
  refine AOps.p rfl (rfl : _ = (AV.int .i64 (IntKind.wrap .i64 (depth1 + 1)))) ?_
  refine AOps.assignR rfl rfl rfl (rfl : _ = (AV.int .i64 (IntKind.wrap .i64 (depth1 + 1)))) rfl ?_
  refine AOps.nilR ?_
  cases h
  exact AW.ret ⟨rfl, _, _, rfl, rfl⟩
 refine AW.condF (congrArg AV.bool hc7) ?_
 refine AW.sr ?_
 refine AOps.p rfl (rfl : _ = (AV.int .u8 c2)) ?_
 obtain ⟨y8, h9, h⟩ := obind h
 refine AOps.callP (g := 55) (args := [(AV.int .u8 c2)]) (p := (rB) y8) rfl rfl rfl (impl_isReturn_ok  h9 hWF) ?_
 intro _ o11 h10
 cases h10
 refine AOps.assignR rfl rfl rfl (rfl : _ = (AV.bool y8)) rfl ?_
 refine AOps.nilR ?_
 rcases oite h with ⟨hc12, h⟩ | ⟨hc12, h⟩
 ·refine AW.condT (congrArg AV.bool hc12) ?_
  refine AW.sr ?_
  refine AOps.p rfl (rfl : _ = (AV.int .i64 depth1)) ?_
  refine AOps.p rfl (rfl : _ = (AV.int .i64 (IntKind.wrap .i64 (depth1 - 1)))) ?_
  refine AOps.assignR rfl rfl rfl (rfl : _ = (AV.int .i64 (IntKind.wrap .i64 (depth1 - 1)))) rfl ?_
  refine AOps.nilR ?_
  cases h
  exact AW.ret ⟨rfl, _, _, rfl, rfl⟩
 refine AW.condF (congrArg AV.bool hc12) ?_
 refine AW.skip ?_
 refine AW.inBlock ?_
 refine AW.sr ?_
 refine AOps.p rfl (rfl : _ = (AV.int .i64 depth1)) ?_
 refine AOps.assignR rfl rfl rfl (rfl : _ = (AV.int .i64 depth1)) rfl ?_
 refine AOps.nilR ?_
 cases h
 exact AW.ret ⟨rfl, _, _, rfl, rfl⟩
theorem impl_MatchedAt_ok {length1 : Int} {k2 : Int} {s : St} {r : (List UInt8) × Int} (h : impl_MatchedAt length1 k2 = some r) (hs : WF s) : ACall Cf 19 [(AV.int .i64 length1), (AV.int .i64 k2)] s fun v _ s' => (fun x => rT [rS x.1, (rI .i64) x.2]) r v ∧ s' = s := by
 refine ACall.pure rfl rfl rfl (.T (.cons .S (.cons .I .nil))) ?_
 have hWF := hs.lo'
 unfold impl_MatchedAt at h
 refine AW.sr ?_
 refine AOps.p rfl (rfl : _ = (AV.str ([] : List UInt8))) ?_
 refine AOps.p rfl (rfl : _ = (AV.int .i64 0)) ?_
 refine AOps.nilR ?_
 refine AW.sr ?_
 refine AOps.p rfl (rfl : _ = (AV.int .i64 length1)) ?_
 obtain ⟨y3, h4, h⟩ := obind h
 refine AOps.callP (g := 18) (args := [(AV.int .i64 length1)]) (p := (fun x => rT [(rI .i64) x.1, (rI .i64) x.2]) y3) rfl rfl rfl (impl_CountMatched_ok  h4 hWF) ?_
 intro _ o11 h5
 obtain ⟨_, rfl, h6⟩ := h5
 obtain ⟨_, _, rfl, h7, h8⟩ := Cs_cons h6
 cases h7
 obtain ⟨_, _, rfl, h9, h10⟩ := Cs_cons h8
 cases h9
 cases Cs_nil h10
 refine AOps.p rfl (rfl : _ = (AV.tup [(AV.int .i64 y3.1), (AV.int .i64 y3.2)])) ?_
 refine AOps.p rfl (rfl : _ = (AV.int .i64 y3.1)) ?_
 refine AOps.p rfl (rfl : _ = (AV.int .i64 y3.2)) ?_
 refine AOps.assignR rfl rfl rfl (rfl : _ = (AV.int .i64 y3.1)) rfl ?_
 refine AOps.assignR rfl rfl rfl (rfl : _ = (AV.int .i64 y3.2)) rfl ?_
 refine AOps.nilR ?_
 refine AW.seq ?_
 refine AW.sr ?_
 refine AOps.p rfl (rfl : _ = (AV.int .i64 y3.2)) ?_
 refine AOps.p rfl (rfl : _ = (AV.bool (y3.2 != 0))) ?_
 refine AOps.p rfl (rfl : _ = (AV.bool (y3.2 != 0))) ?_
 obtain ⟨b13, hb, h⟩ := obind h
 refine AOps.split 6 (fun f' => ∃ tm' os', f' = ⟨updL tm' [(0, (AV.int .i64 length1)), (1, (AV.int .i64 k2)), (28, (AV.bool b13))], updL os' [], { s with lo := s.n }⟩) ?_ ?_
 ·rcases oite hb with ⟨hc12, hb⟩ | ⟨hc12, hb⟩
  ·refine AOps.know (d := 22) rfl hc12 ?_
   refine AOps.skipR rfl rfl ?_
   refine AOps.skipR rfl rfl ?_
   refine AOps.skipR rfl rfl ?_
   refine AOps.skipR rfl rfl ?_
   refine AOps.skipR rfl rfl ?_
   refine AOps.p rfl (rfl : _ = (AV.bool true)) ?_
   refine AOps.resR [(0, (AV.int .i64 length1)), (1, (AV.int .i64 k2)), (28, (AV.bool b13))] [] ?_ ?_ _ ⟨_, _, rfl⟩
   ·exact ⟨rfl, rfl, congrArg AV.bool (Option.some.inj hb), trivial⟩
   exact trivial
  ·have h := hb
   refine AOps.know (d := 22) rfl hc12 ?_
   refine AOps.p rfl (rfl : _ = (AV.int .i64 k2)) ?_
   refine AOps.p rfl (rfl : _ = (AV.int .i64 y3.1)) ?_
   refine AOps.p rfl (rfl : _ = (AV.int .i64 (IntKind.wrap .i64 (y3.1 - 1)))) ?_
   obtain ⟨y14, h15, h⟩ := obind h
   refine AOps.callP (g := 17) (args := [(AV.int .i64 k2), (AV.int .i64 0), (AV.int .i64 (IntKind.wrap .i64 (y3.1 - 1)))]) (p := (rB) y14) rfl rfl rfl (impl_within_ok  h15 hWF) ?_
   intro _ o17 h16
   cases h16
   refine AOps.p rfl (rfl : _ = (AV.bool (!y14))) ?_
   refine AOps.p rfl (rfl : _ = (AV.bool (!y14))) ?_
   refine AOps.resR [(0, (AV.int .i64 length1)), (1, (AV.int .i64 k2)), (28, (AV.bool b13))] [] ?_ ?_ _ ⟨_, _, rfl⟩
   ·exact ⟨rfl, rfl, congrArg AV.bool (Option.some.inj h), trivial⟩
   exact trivial
 rintro _ ⟨tm, os, rfl⟩
 refine AOps.nilR ?_
 rcases oite h with ⟨hc18, h⟩ | ⟨hc18, h⟩
 ·refine AW.condT (congrArg AV.bool hc18) ?_
  refine AW.sr ?_
  refine AOps.p rfl (rfl : _ = (AV.str ([] : List UInt8))) ?_
  refine AOps.p rfl (rfl : _ = (AV.int .i64 2)) ?_
  refine AOps.nilR ?_
  cases h
  exact AW.ret ⟨rfl, _, _, rfl, ⟨_, rfl, (.cons rfl (.cons rfl .nil))⟩⟩
 refine AW.condF (congrArg AV.bool hc18) ?_
 refine AW.skip ?_
 refine AW.sr ?_
 obtain ⟨y19, h20, h⟩ := obind h
 refine AOps.callP (g := 38) (args := []) (p := (rAr .i64 462) y19) rfl rfl rfl (impl_endings_ok  h20 hWF) ?_
 intro _ o24 h21
 obtain ⟨e22, rfl, h23⟩ := h21
 refine AOps.makeR rfl rfl rfl rfl rfl rfl (rfl : _ = (AV.sl 1 true [])) ?_
 refine AOps.allocP rfl rfl rfl rfl ⟨rfl, rfl⟩ rfl ?_
 refine AOps.stP (v := (AV.agg e22)) rfl rfl rfl rfl rfl rfl rfl (AR.laid h23).1 (AR.laid h23).2 (lt_b rfl) rfl ?_
 refine AOps.assignR rfl rfl rfl (rfl : _ = (AV.sl 1 true [])) rfl ?_
 refine AOps.p rfl (rfl : _ = (AV.int .i64 0)) ?_
 refine AOps.nilR ?_
 refine AW.seq ?_
 refine AW.sr ?_
 refine AOps.p rfl (rfl : _ = (AV.int .i64 length1)) ?_
 refine AOps.p rfl (rfl : _ = (AV.int .i64 (IntKind.wrap .i64 (length1 - 1)))) ?_
 refine AOps.assignR rfl rfl rfl (rfl : _ = (AV.int .i64 (IntKind.wrap .i64 (length1 - 1)))) rfl ?_
 refine AOps.nilR ?_
 refine AW.meet (σ := (List Int) × Nat × Bool × (List AV) × Bool) (fun (out25, z26, f27, e28, o30) tm os => ⟨updL tm [(9, (AV.sl z26 f27 e28))], updL os [(9, o30)], { s with lo := s.n }⟩) (fun (out25, z26, f27, e28, o30) => (LR (rI .u8) 1 out25 z26 e28) ∧ (f27 = true ∨ o30 = true) ∧ impl_MatchedAt_J1 out25 = some r) ?_ ?_
 ·rintro ⟨out25, z26, f27, e28, o30⟩ tm os ⟨h29, h31, h⟩
  unfold impl_MatchedAt_J1 at h
  refine AW.sr ?_
  refine AOps.p rfl (rfl : _ = (AV.sl z26 f27 e28)) ?_
  refine AOps.pureR rfl rfl rfl (bytes_str (l := out25) (z := z26) (e := e28) h29) rfl (rfl : _ = (AV.str (bytesOf out25))) ?_
  refine AOps.assignR rfl rfl rfl (rfl : _ = (AV.str (bytesOf out25))) rfl ?_
  refine AOps.p rfl (rfl : _ = (AV.int .i64 0)) ?_
  refine AOps.nilR ?_
  cases h
  exact AW.ret ⟨rfl, _, _, rfl, ⟨_, rfl, (.cons rfl (.cons rfl .nil))⟩⟩
 intro KJ32
 refine AW.block ?_
 refine AW.res [(1, (AV.int .i64 k2)), (8, (AV.eptr e22 0)), (9, (AV.sl 1 true [])), (10, (AV.int .i64 0)), (11, (AV.int .i64 (IntKind.wrap .i64 (length1 - 1))))] [(9, false)] ⟨rfl, rfl, rfl, rfl, rfl, trivial⟩ ⟨rfl, trivial⟩ ?_
 refine AW.loopF (σ := Int × (List Int) × Int × Int) (τ := Nat × Bool × (List AV) × Bool) (fun (k33, out34, depth41, n42) (z35, f36, e37, o39) => (LR (rI .u8) 1 out34 z35 e37) ∧ (f36 = true ∨ o39 = true)) (fun (k33, out34, depth41, n42) (z35, f36, e37, o39) tm os => ⟨updL tm [(1, (AV.int .i64 k33)), (8, (AV.eptr e22 0)), (9, (AV.sl z35 f36 e37)), (10, (AV.int .i64 depth41)), (11, (AV.int .i64 n42))], updL os [(9, o39)], { s with lo := s.n }⟩) ?_ (x := (k2, ([] : List Int), 0, IntKind.wrap .i64 (length1 - 1))) (y := (1, true, [], false)) h ⟨⟨.inl rfl, .nil⟩, (Or.inl rfl)⟩
 clear h
 rintro ⟨k33, out34, depth41, n42⟩ ⟨z35, f36, e37, o39⟩ tm os ⟨h38, h40⟩ ee1 h hL1 hR1
 unfold impl_MatchedAt_S1 at h
 dsimp only at h
 refine AW.seq ?_
 refine AW.sr ?_
 refine AOps.p rfl (rfl : _ = (AV.int .i64 n42)) ?_
 refine AOps.p rfl (rfl : _ = (AV.bool (decide ((n42 : Int) ≥ 0)))) ?_
 refine AOps.nilR ?_
 rcases oite h with ⟨hc43, h⟩ | ⟨hc43, h⟩
 ·refine AW.condT (congrArg AV.bool hc43) ?_
  refine AW.skip ?_
  refine AW.seq ?_
  refine AW.block ?_
  refine AW.sr ?_
  refine AOps.p rfl (rfl : _ = (AV.int .i64 0)) ?_
  refine AOps.nilR ?_
  refine AW.meet (σ := Int × (List Int) × Int × Nat × Bool × (List AV) × Bool) (fun (k44, out45, depth52, z46, f47, e48, o50) tm os => ⟨updL tm [(1, (AV.int .i64 k44)), (8, (AV.eptr e22 0)), (9, (AV.sl z46 f47 e48)), (10, (AV.int .i64 depth52)), (11, (AV.int .i64 n42))], updL os [(9, o50)], { s with lo := s.n }⟩) (fun (k44, out45, depth52, z46, f47, e48, o50) => (LR (rI .u8) 1 out45 z46 e48) ∧ (f47 = true ∨ o50 = true) ∧ impl_MatchedAt_J2 n42 k44 out45 depth52 = some ee1) ?_ ?_
  ·rintro ⟨k44, out45, depth52, z46, f47, e48, o50⟩ tm os ⟨h49, h51, h⟩
   unfold impl_MatchedAt_J2 at h
   refine AW.inBlock ?_
   refine AW.region ?_
   refine AOps.p rfl (rfl : _ = (AV.int .i64 n42)) ?_
   refine AOps.p rfl (rfl : _ = (AV.int .i64 (IntKind.wrap .i64 (n42 - 1)))) ?_
   refine AOps.assignR rfl rfl rfl (rfl : _ = (AV.int .i64 (IntKind.wrap .i64 (n42 - 1)))) rfl ?_
   refine AOps.nilR ?_
   cases h
   exact AW.res [(1, (AV.int .i64 k44)), (8, (AV.eptr e22 0)), (9, (AV.sl z46 f47 e48)), (10, (AV.int .i64 depth52)), (11, (AV.int .i64 (IntKind.wrap .i64 (n42 - 1))))] [(9, o50)] ⟨rfl, rfl, rfl, rfl, rfl, trivial⟩ ⟨rfl, trivial⟩ (hL1 _ rfl (z46, f47, e48, o50) _ _ ⟨h49, h51⟩)
  intro KJ53
  refine AW.block ?_
  refine AW.res [(1, (AV.int .i64 k33)), (8, (AV.eptr e22 0)), (9, (AV.sl z35 f36 e37)), (10, (AV.int .i64 depth41)), (11, (AV.int .i64 n42)), (37, (AV.int .i64 0))] [(9, o39)] ⟨rfl, rfl, rfl, rfl, rfl, rfl, trivial⟩ ⟨rfl, trivial⟩ ?_
  refine AW.loopF (σ := Int × Int) (τ := Bool) (fun (k54, t57) o55 => (f36 = true ∨ o55 = true)) (fun (k54, t57) o55 tm os => ⟨updL tm [(1, (AV.int .i64 k54)), (8, (AV.eptr e22 0)), (9, (AV.sl z35 f36 e37)), (10, (AV.int .i64 depth41)), (11, (AV.int .i64 n42)), (37, (AV.int .i64 t57))], updL os [(9, o55)], { s with lo := s.n }⟩) ?_ (x := (k33, 0)) (y := (o39)) h h40
  clear h
  rintro ⟨k54, t57⟩ o55 tm os h56 ee2 h hL2 hR2
  unfold impl_MatchedAt_S2 at h
  dsimp only at h
  refine AW.sr ?_
  refine AOps.p rfl (rfl : _ = (AV.bool (decide ((t57 : Int) < 6)))) ?_
  refine AOps.nilR ?_
  refine AW.seq ?_
  rcases oite h with ⟨hc58, h⟩ | ⟨hc58, h⟩
  ·refine AW.condT (congrArg AV.bool hc58) ?_
   refine AW.skip ?_
   refine AW.seq ?_
   refine AW.meet (σ := Int × Bool) (fun (k59, o60) tm os => ⟨updL tm [(1, (AV.int .i64 k59)), (8, (AV.eptr e22 0)), (9, (AV.sl z35 f36 e37)), (10, (AV.int .i64 depth41)), (11, (AV.int .i64 n42)), (37, (AV.int .i64 t57))], updL os [(9, o60)], { s with lo := s.n }⟩) (fun (k59, o60) => (f36 = true ∨ o60 = true) ∧ impl_MatchedAt_J3 t57 k59 = some ee2) ?_ ?_
   ·rintro ⟨k59, o60⟩ tm os ⟨h61, h⟩
    unfold impl_MatchedAt_J3 at h
    refine AW.region ?_
    refine AOps.p rfl (rfl : _ = (AV.int .i64 (IntKind.wrap .i64 (t57 + 1)))) ?_
    refine AOps.p rfl (rfl : _ = (AV.int .i64 (IntKind.wrap .i64 (t57 + 1)))) ?_
    refine AOps.nilR ?_
    cases h
    exact AW.res [(1, (AV.int .i64 k59)), (8, (AV.eptr e22 0)), (9, (AV.sl z35 f36 e37)), (10, (AV.int .i64 depth41)), (11, (AV.int .i64 n42)), (37, (AV.int .i64 (IntKind.wrap .i64 (t57 + 1))))] [(9, o60)] ⟨rfl, rfl, rfl, rfl, rfl, rfl, trivial⟩ ⟨rfl, trivial⟩ (hL2 _ rfl (o60) _ _ h61)
   intro KJ62
   refine AW.block ?_
   refine AW.sr ?_
   refine AOps.p rfl (rfl : _ = (AV.int .i64 t57)) ?_
   refine AOps.assignR rfl rfl rfl (rfl : _ = (AV.int .i64 t57)) rfl ?_
   refine AOps.nilR ?_
   refine AW.sr ?_
   refine AOps.p rfl (rfl : _ = (AV.int .i64 depth41)) ?_
   refine AOps.p rfl (rfl : _ = (AV.int .i64 t57)) ?_
   obtain ⟨c63, h64, h⟩ := obind h
   refine AOps.pureR rfl rfl rfl (chr_str h64) rfl (rfl : _ = (AV.int .u8 c63)) ?_
   obtain ⟨y65, h66, h⟩ := obind h
   refine AOps.callP (g := 40) (args := [(AV.int .i64 depth41), (AV.int .u8 c63)]) (p := (rI .i64) y65) rfl rfl rfl (impl_depthBehind_ok  h66 hWF) ?_
   intro _ o68 h67
   cases h67
   refine AOps.assignR rfl rfl rfl (rfl : _ = (AV.int .i64 y65)) rfl ?_
   refine AOps.nilR ?_
   refine AW.seq ?_
   refine AW.sr ?_
   refine AOps.p rfl (rfl : _ = (AV.int .i64 n42)) ?_
   refine AOps.p rfl (rfl : _ = (AV.int .i64 y65)) ?_
   obtain ⟨y69, h70, h⟩ := obind h
   refine AOps.callP (g := 39) (args := [(AV.eptr e22 0), (AV.int .i64 n42), (AV.int .i64 y65)]) (p := (rI .i64) y69) rfl rfl rfl (impl_ways_ok h23 h70 hWF) ?_
   intro _ o72 h71
   cases h71
   refine AOps.assignR rfl rfl rfl (rfl : _ = (AV.int .i64 y69)) rfl ?_
   refine AOps.nilR ?_
   refine AW.sr ?_
   refine AOps.p rfl (rfl : _ = (AV.int .i64 k54)) ?_
   refine AOps.p rfl (rfl : _ = (AV.int .i64 y69)) ?_
   refine AOps.p rfl (rfl : _ = (AV.bool (decide ((k54 : Int) ≥ y69)))) ?_
   refine AOps.nilR ?_
   rcases oite h with ⟨hc73, h⟩ | ⟨hc73, h⟩
   ·refine AW.condT (congrArg AV.bool hc73) ?_
    refine AW.sr ?_
    refine AOps.p rfl (rfl : _ = (AV.int .i64 k54)) ?_
    refine AOps.p rfl (rfl : _ = (AV.int .i64 y69)) ?_
    refine AOps.p rfl (rfl : _ = (AV.int .i64 (IntKind.wrap .i64 (k54 - y69)))) ?_
    refine AOps.assignR rfl rfl rfl (rfl : _ = (AV.int .i64 (IntKind.wrap .i64 (k54 - y69)))) rfl ?_
    refine AOps.nilR ?_
    refine AW.exit rfl ?_
    exact AW.res [(1, (AV.int .i64 (IntKind.wrap .i64 (k54 - y69)))), (8, (AV.eptr e22 0)), (9, (AV.sl z35 f36 e37)), (10, (AV.int .i64 depth41)), (11, (AV.int .i64 n42)), (37, (AV.int .i64 t57))] [(9, o55)] ⟨rfl, rfl, rfl, rfl, rfl, rfl, trivial⟩ ⟨rfl, trivial⟩ (KJ62 (IntKind.wrap .i64 (k54 - y69), o55) _ _ ⟨h56, h⟩)
   refine AW.condF (congrArg AV.bool hc73) ?_
   refine AW.skip ?_
   refine AW.sr ?_
   refine AOps.moveR rfl rfl rfl rfl (rfl : _ = (AV.sl z35 f36 e37)) rfl ?_
   refine AOps.p rfl (rfl : _ = (AV.int .i64 t57)) ?_
   obtain ⟨c74, h75, h⟩ := obind h
   refine AOps.pureR rfl rfl rfl (chr_str h75) rfl (rfl : _ = (AV.int .u8 c74)) ?_
   refine AOps.makeR rfl rfl rfl rfl rfl rfl (rfl : _ = (AV.sl 1 true [(AV.int .u8 c74)])) ?_
   obtain ⟨l76, h77, h⟩ := obind h
   obtain ⟨h78, h79⟩ := app_LR h38 (LR.lit (r := rI .u8) (sz := 1) (.cons rfl .nil)) h77
   refine AOps.appL (z := z35) (f := f36) (e := e37) (z' := 1) (f' := true) (e' := [(AV.int .u8 c74)]) rfl rfl rfl rfl rfl rfl rfl (appSrc_sl (LR.z (LR.lit (r := rI .u8) (sz := 1) (.cons rfl .nil))) rfl) (LR.z h38) ⟨by decide, by decide, rfl, rfl⟩ rfl rfl h79 (own_tmp h56 rfl rfl) ?_
   refine AOps.p rfl (rfl : _ = (AV.int .i64 y65)) ?_
   refine AOps.assignR rfl rfl rfl (rfl : _ = (AV.sl 1 false (e37 ++ [(AV.int .u8 c74)]))) rfl ?_
   refine AOps.assignR rfl rfl rfl (rfl : _ = (AV.int .i64 y65)) rfl ?_
   refine AOps.nilR ?_
   refine AW.exit rfl ?_
   obtain ⟨r80, hm, hx⟩ := omap h
   clear h
   subst hx
   have hx := hR2 _ rfl
   rw [hx] at hm
   have h := hm
   exact AW.res [(1, (AV.int .i64 k54)), (8, (AV.eptr e22 0)), (9, (AV.sl 1 false (e37 ++ [(AV.int .u8 c74)]))), (10, (AV.int .i64 y65)), (11, (AV.int .i64 n42))] [(9, true)] ⟨rfl, rfl, rfl, rfl, rfl, trivial⟩ ⟨rfl, trivial⟩ (KJ53 (k54, l76, y65, 1, false, (e37 ++ [(AV.int .u8 c74)]), true) _ _ ⟨h78, (Or.inr rfl), h⟩)
  refine AW.condF (congrArg AV.bool hc58) ?_
  refine AW.exit rfl ?_
  obtain ⟨r81, hm, hx⟩ := omap h
  clear h
  subst hx
  have hx := hR2 _ rfl
  rw [hx] at hm
  have h := hm
  exact AW.res [(1, (AV.int .i64 k54)), (8, (AV.eptr e22 0)), (9, (AV.sl z35 f36 e37)), (10, (AV.int .i64 depth41)), (11, (AV.int .i64 n42))] [(9, o55)] ⟨rfl, rfl, rfl, rfl, rfl, trivial⟩ ⟨rfl, trivial⟩ (KJ53 (k54, out34, depth41, z35, f36, e37, o55) _ _ ⟨h38, h56, h⟩)
 refine AW.condF (congrArg AV.bool hc43) ?_
 refine AW.exit rfl ?_
 obtain ⟨r82, hm, hx⟩ := omap h
 clear h
 subst hx
 have hx := hR1 _ rfl
 rw [hx] at hm
 have h := hm
 exact AW.res [(9, (AV.sl z35 f36 e37))] [(9, o39)] ⟨rfl, trivial⟩ ⟨rfl, trivial⟩ (KJ32 (out34, z35, f36, e37, o39) _ _ ⟨h38, h40, h⟩)
theorem impl_size_int64_d_ok {list1 : List Int} {v2 : AV} {x3 : BX} {s : St} (h4 : DY (rI .i64) false 1 list1 v2 x3) (h5 : ∀ b, x3.b = some b → s.h b = some x3.cs) {r : Int} (h : impl_size_int64_d list1 = some r) (hs : WF s) : ACall Cf 57 [v2] s fun v _ s' => (rI .i64) r v ∧ s' = s := by
 refine ACall.pure rfl rfl rfl .I ?_
 have hWF := hs.lo'
 unfold impl_size_int64_d at h
 refine AW.sr ?_
 refine AOps.p rfl (rfl : _ = (AV.int .i64 0)) ?_
 refine AOps.nilR ?_
 refine AW.sr ?_
 refine AOps.p rfl (rfl : _ = v2) ?_
 refine AOps.pureR rfl rfl rfl (DY.len h4 rfl rfl rfl) rfl (rfl : _ = (AV.int .i64 (list1.length : Int))) ?_
 refine AOps.assignR rfl rfl rfl (rfl : _ = (AV.int .i64 (list1.length : Int))) rfl ?_
 refine AOps.nilR ?_
 cases h
 exact AW.ret ⟨rfl, _, _, rfl, rfl⟩
theorem impl_match_ok {p1 : List UInt8} {s : St} {r : Matching} (h : impl_match p1 = some r) (hs : WF s) : ACall Cf 43 [(AV.str p1)] s fun v _ s' => (rMatching) r v ∧ s' = s := by
 refine ACall.boxes rfl rfl rfl ?_
 have hH0 := HS.init hs
 unfold impl_match at h
 refine AW.sr ?_
 refine AOps.allocP rfl rfl rfl rfl ⟨rfl, rfl⟩ rfl ?_
 refine AOps.nilR ?_
 refine AW.sr ?_
 refine AOps.makeR rfl rfl rfl rfl rfl rfl (rfl : _ = (AV.sl 1 true [(AV.int .i64 0)])) ?_
 refine AOps.p rfl (rfl : _ = (AV.agg [(AV.sl 0 true []), (AV.sl 0 true []), (AV.sl 0 true []), (AV.sl 1 true [(AV.int .i64 0)]), (AV.sl 0 true [])])) ?_
 refine AOps.alloc1 hH0 rfl rfl rfl rfl rfl rfl ?_
 intro b2 s3 hH4
 change HS [] false s s3 [⟨some b2, [(AV.sl 0 true []), (AV.sl 0 true []), (AV.sl 0 true []), (AV.sl 0 true []), (AV.sl 0 true [])], (fun _ => false)⟩] at hH4
 refine AOps.stB (i := 0) (v := (AV.agg [(AV.sl 0 true []), (AV.sl 0 true []), (AV.sl 0 true []), (AV.sl 1 true [(AV.int .i64 0)]), (AV.sl 0 true [])])) hH4 rfl rfl rfl rfl rfl rfl rfl rfl rfl (lt_b rfl) (le_b rfl) rfl ?_
 intro w5 s6 h7 h8 hH9
 change HS [] false s s6 [⟨some b2, [(AV.sl 0 true []), (AV.sl 0 true []), (AV.sl 0 true []), (AV.sl 1 true [(AV.int .i64 0)]), (AV.sl 0 true [])], w5⟩] at hH9
 refine AOps.nilR ?_
 refine AW.seq ?_
 refine AW.sr ?_
 refine AOps.p rfl (rfl : _ = (AV.str p1)) ?_
 refine AOps.p rfl (rfl : _ = (AV.int .i64 (p1.length : Int))) ?_
 refine AOps.p rfl (rfl : _ = (AV.int .i64 0)) ?_
 refine AOps.nilR ?_
 refine AW.meet (σ := (List Int) × (List Int) × (List Int) × (List Int) × (List Int) × (Nat → Bool) × BX × AV × Nat × Bool × (List AV) × BX × AV × Nat × Bool × (List AV) × Nat × Bool × (List AV) × St) (fun (m11, m15, m21, m25, m31, w10, x12, v13, z16, f17, e18, x22, v23, z26, f27, e28, z32, f33, e34, s37) tm os => ⟨updL tm [(2, (AV.pend 5)), (3, (AV.ptr b2 0))], updL os [(2, true)], s37⟩) (fun (m11, m15, m21, m25, m31, w10, x12, v13, z16, f17, e18, x22, v23, z26, f27, e28, z32, f33, e34, s37) => (DY (rI .i64) false 1 m11 v13 x12) ∧ (LR (rI .i64) 1 m15 z16 e18) ∧ (f17 = true ∨ w10 1 = true) ∧ (DY (rI .i64) false 1 m21 v23 x22) ∧ (LR (rI .i64) 1 m25 z26 e28) ∧ (f27 = true ∨ w10 3 = true) ∧ (LR (rI .i64) 1 m31 z32 e34) ∧ (f33 = true ∨ w10 4 = true) ∧ (HS [] false s s37 [⟨some b2, [v13, (AV.sl z16 f17 e18), v23, (AV.sl z26 f27 e28), (AV.sl z32 f33 e34)], w10⟩, x12, x22]) ∧ impl_match_J1 m11 m15 m21 m25 m31 = some r) ?_ ?_
 ·rintro ⟨m11, m15, m21, m25, m31, w10, x12, v13, z16, f17, e18, x22, v23, z26, f27, e28, z32, f33, e34, s37⟩ tm os ⟨h14, h19, h20, h24, h29, h30, h35, h36, hH38, h⟩
  unfold impl_match_J1 at h
  refine AW.sr ?_
  refine AOps.ldB (i := 0) (v := (AV.agg [v13, (AV.sl z16 f17 e18), v23, (AV.sl z26 f27 e28), (AV.sl z32 f33 e34)])) hH38 rfl rfl rfl rfl rfl rfl rfl rfl rfl ?_
  refine AOps.stP (v := (AV.agg [v13, (AV.sl z16 f17 e18), v23, (AV.sl z26 f27 e28), (AV.sl z32 f33 e34)])) rfl rfl rfl rfl rfl rfl rfl (lay_cons (DY.one h14) (lay_cons rfl (lay_cons (DY.one h24) (lay_cons rfl (lay_cons rfl lay_nil))))) rfl (lt_b rfl) rfl ?_
  refine AOps.nilR ?_
  cases h
  exact AW.ret ⟨⟨_, hH38⟩, _, _, rfl, (Fin.A (.cons (Fin.dy (r := rI .i64) hH38 (i := 1) rfl h14 (fun _ => .I) (fun _ => rfl)) (.cons (Fin.of (p := (rL (rI .i64) 1) m15) (.L fun _ => .I) (⟨_, _, _, rfl, h19⟩)) (.cons (Fin.dy (r := rI .i64) hH38 (i := 2) rfl h24 (fun _ => .I) (fun _ => rfl)) (.cons (Fin.of (p := (rL (rI .i64) 1) m25) (.L fun _ => .I) (⟨_, _, _, rfl, h29⟩)) (.cons (Fin.of (p := (rL (rI .i64) 1) m31) (.L fun _ => .I) (⟨_, _, _, rfl, h35⟩)) .nil)))))).2⟩
 intro KJ39
 refine AW.block ?_
 refine AW.res [(0, (AV.str p1)), (2, (AV.pend 5)), (3, (AV.ptr b2 0)), (13, (AV.int .i64 (p1.length : Int))), (14, (AV.int .i64 0))] [(2, true)] ⟨rfl, rfl, rfl, rfl, rfl, trivial⟩ ⟨rfl, trivial⟩ ?_
 refine AW.loopF (σ := (List Int) × (List Int) × (List Int) × (List Int) × (List Int) × Int) (τ := (Nat → Bool) × BX × AV × Nat × Bool × (List AV) × BX × AV × Nat × Bool × (List AV) × Nat × Bool × (List AV) × St) (fun (m41, m45, m51, m55, m61, t67) (w40, x42, v43, z46, f47, e48, x52, v53, z56, f57, e58, z62, f63, e64, s68) => (DY (rI .i64) false 1 m41 v43 x42) ∧ (LR (rI .i64) 1 m45 z46 e48) ∧ (f47 = true ∨ w40 1 = true) ∧ (DY (rI .i64) false 1 m51 v53 x52) ∧ (LR (rI .i64) 1 m55 z56 e58) ∧ (f57 = true ∨ w40 3 = true) ∧ (LR (rI .i64) 1 m61 z62 e64) ∧ (f63 = true ∨ w40 4 = true) ∧ (HS [] false s s68 [⟨some b2, [v43, (AV.sl z46 f47 e48), v53, (AV.sl z56 f57 e58), (AV.sl z62 f63 e64)], w40⟩, x42, x52])) (fun (m41, m45, m51, m55, m61, t67) (w40, x42, v43, z46, f47, e48, x52, v53, z56, f57, e58, z62, f63, e64, s68) tm os => ⟨updL tm [(0, (AV.str p1)), (2, (AV.pend 5)), (3, (AV.ptr b2 0)), (13, (AV.int .i64 (p1.length : Int))), (14, (AV.int .i64 t67))], updL os [(2, true)], s68⟩) ?_ (x := (([] : List Int), ([] : List Int), ([] : List Int), ([0] : List Int), ([] : List Int), 0)) (y := (w5, noBX, (AV.sl 0 true []), 0, true, [], noBX, (AV.sl 0 true []), 1, true, [(AV.int .i64 0)], 0, true, [], s6)) h ⟨DY.nil, ⟨.inr ⟨rfl, rfl⟩, .nil⟩, (Or.inl rfl), DY.nil, LR.lit (r := rI .i64) (sz := 1) (.cons rfl .nil), (Or.inl rfl), ⟨.inr ⟨rfl, rfl⟩, .nil⟩, (Or.inl rfl), (HS.sel hH9 [some 0, none, none] (by decide))⟩
 clear h
 rintro ⟨m41, m45, m51, m55, m61, t67⟩ ⟨w40, x42, v43, z46, f47, e48, x52, v53, z56, f57, e58, z62, f63, e64, s68⟩ tm os ⟨h44, h49, h50, h54, h59, h60, h65, h66, hH69⟩ ee1 h hL1 hR1
 unfold impl_match_S1 at h
 dsimp only at h
 refine AW.sr ?_
 refine AOps.p rfl (rfl : _ = (AV.bool (decide ((t67 : Int) < (p1.length : Int))))) ?_
 refine AOps.nilR ?_
 refine AW.seq ?_
 rcases oite h with ⟨hc70, h⟩ | ⟨hc70, h⟩
 ·refine AW.condT (congrArg AV.bool hc70) ?_
  refine AW.skip ?_
  refine AW.seq ?_
  refine AW.block ?_
  refine AW.sr ?_
  refine AOps.p rfl (rfl : _ = (AV.int .i64 t67)) ?_
  refine AOps.assignR rfl rfl rfl (rfl : _ = (AV.int .i64 t67)) rfl ?_
  refine AOps.nilR ?_
  refine AW.sr ?_
  refine AOps.p rfl (rfl : _ = (AV.int .i64 t67)) ?_
  refine AOps.assignR rfl rfl rfl (rfl : _ = (AV.int .i64 t67)) rfl ?_
  refine AOps.p rfl (rfl : _ = (AV.int .i64 (-1))) ?_
  refine AOps.nilR ?_
  refine AW.sr ?_
  refine AOps.p rfl (rfl : _ = (AV.ptr b2 2)) ?_
  refine AOps.ldB (i := 0) (v := v53) hH69 rfl rfl rfl rfl rfl rfl rfl rfl rfl ?_
  refine AOps.pureR rfl rfl rfl (DY.len h54 rfl rfl rfl) rfl (rfl : _ = (AV.int .i64 (m51.length : Int))) ?_
  refine AOps.assignR rfl rfl rfl (rfl : _ = (AV.int .i64 (m51.length : Int))) rfl ?_
  refine AOps.nilR ?_
  refine AW.seq ?_
  refine AW.block ?_
  refine AW.sr ?_
  refine AOps.p rfl (rfl : _ = (AV.str p1)) ?_
  refine AOps.p rfl (rfl : _ = (AV.int .i64 t67)) ?_
  obtain ⟨c71, h72, h⟩ := obind h
  refine AOps.pureR rfl rfl rfl (chr_str h72) rfl (rfl : _ = (AV.int .u8 c71)) ?_
  obtain ⟨y73, h74, h⟩ := obind h
  refine AOps.callP (g := 55) (args := [(AV.int .u8 c71)]) (p := (rB) y73) rfl rfl rfl (impl_isReturn_ok  h74 (HS.wf' hH69)) ?_
  intro _ o76 h75
  cases h75
  refine AOps.p rfl (rfl : _ = (AV.bool y73)) ?_
  refine AOps.split 3 (fun f' => ∃ tm' os', f' = ⟨updL tm' [(0, (AV.str p1)), (2, (AV.pend 5)), (3, (AV.ptr b2 0)), (4, (AV.int .i64 t67)), (5, (AV.int .i64 t67)), (6, (AV.int .i64 (-1))), (7, (AV.int .i64 (m51.length : Int))), (13, (AV.int .i64 (p1.length : Int))), (14, (AV.int .i64 t67)), (29, (AV.bool (y73 && ((m51.length : Int) == 0))))], updL os' [(2, true)], s68⟩) ?_ ?_
  ·rcases Bool.eq_false_or_eq_true y73 with hc77 | hc77
   ·refine AOps.know (d := 26) rfl hc77 ?_
    refine AOps.p rfl (rfl : _ = (AV.int .i64 (m51.length : Int))) ?_
    refine AOps.p rfl (rfl : _ = (AV.bool ((m51.length : Int) == 0))) ?_
    refine AOps.p rfl (rfl : _ = (AV.bool ((m51.length : Int) == 0))) ?_
    refine AOps.resR [(0, (AV.str p1)), (2, (AV.pend 5)), (3, (AV.ptr b2 0)), (4, (AV.int .i64 t67)), (5, (AV.int .i64 t67)), (6, (AV.int .i64 (-1))), (7, (AV.int .i64 (m51.length : Int))), (13, (AV.int .i64 (p1.length : Int))), (14, (AV.int .i64 t67)), (29, (AV.bool (y73 && ((m51.length : Int) == 0))))] [(2, true)] ?_ ?_ _ ⟨_, _, rfl⟩
    ·exact ⟨rfl, rfl, rfl, rfl, rfl, rfl, rfl, rfl, rfl, congrArg AV.bool (and_t hc77), trivial⟩
    exact ⟨rfl, trivial⟩
   ·refine AOps.know (d := 26) rfl hc77 ?_
    refine AOps.skipR rfl rfl ?_
    refine AOps.skipR rfl rfl ?_
    refine AOps.p rfl (rfl : _ = (AV.bool false)) ?_
    refine AOps.resR [(0, (AV.str p1)), (2, (AV.pend 5)), (3, (AV.ptr b2 0)), (4, (AV.int .i64 t67)), (5, (AV.int .i64 t67)), (6, (AV.int .i64 (-1))), (7, (AV.int .i64 (m51.length : Int))), (13, (AV.int .i64 (p1.length : Int))), (14, (AV.int .i64 t67)), (29, (AV.bool (y73 && ((m51.length : Int) == 0))))] [(2, true)] ?_ ?_ _ ⟨_, _, rfl⟩
    ·exact ⟨rfl, rfl, rfl, rfl, rfl, rfl, rfl, rfl, rfl, congrArg AV.bool (and_f hc77), trivial⟩
    exact ⟨rfl, trivial⟩
  rintro _ ⟨tm, os, rfl⟩
  refine AOps.assignR rfl rfl rfl (rfl : _ = (AV.bool (y73 && ((m51.length : Int) == 0)))) rfl ?_
  refine AOps.nilR ?_
  refine AW.meet (σ := (List Int) × (List Int) × (List Int) × Int × (Nat → Bool) × BX × AV × Nat × Bool × (List AV) × BX × AV × St) (fun (m79, m83, m89, t95, w78, x80, v81, z84, f85, e86, x90, v91, s96) tm os => ⟨updL tm [(0, (AV.str p1)), (2, (AV.pend 5)), (3, (AV.ptr b2 0)), (4, (AV.int .i64 t67)), (5, (AV.int .i64 t67)), (6, (AV.int .i64 t95)), (13, (AV.int .i64 (p1.length : Int))), (14, (AV.int .i64 t67))], updL os [(2, true)], s96⟩) (fun (m79, m83, m89, t95, w78, x80, v81, z84, f85, e86, x90, v91, s96) => (DY (rI .i64) false 1 m79 v81 x80) ∧ (LR (rI .i64) 1 m83 z84 e86) ∧ (f85 = true ∨ w78 1 = true) ∧ (DY (rI .i64) false 1 m89 v91 x90) ∧ (f57 = true ∨ w78 3 = true) ∧ (f63 = true ∨ w78 4 = true) ∧ (HS [] false s s96 [⟨some b2, [v81, (AV.sl z84 f85 e86), v91, (AV.sl z56 f57 e58), (AV.sl z62 f63 e64)], w78⟩, x80, x90]) ∧ impl_match_J2 p1 m55 m61 t67 m79 m83 m89 t95 = some ee1) ?_ ?_
  ·rintro ⟨m79, m83, m89, t95, w78, x80, v81, z84, f85, e86, x90, v91, s96⟩ tm os ⟨h82, h87, h88, h92, h93, h94, hH97, h⟩
   unfold impl_match_J2 at h
   refine AW.inBlock ?_
   refine AW.sr ?_
   refine AOps.p rfl (rfl : _ = (AV.int .i64 (-1))) ?_
   refine AOps.nilR ?_
   refine AW.seq ?_
   refine AW.sr ?_
   refine AOps.p rfl (rfl : _ = (AV.ptr b2 2)) ?_
   refine AOps.ldB (i := 0) (v := v91) hH97 rfl rfl rfl rfl rfl rfl rfl rfl rfl ?_
   refine AOps.pureR rfl rfl rfl (DY.len h92 rfl rfl rfl) rfl (rfl : _ = (AV.int .i64 (m89.length : Int))) ?_
   refine AOps.assignR rfl rfl rfl (rfl : _ = (AV.int .i64 (m89.length : Int))) rfl ?_
   refine AOps.nilR ?_
   refine AW.sr ?_
   refine AOps.p rfl (rfl : _ = (AV.int .i64 (m89.length : Int))) ?_
   refine AOps.p rfl (rfl : _ = (AV.bool (decide (((m89.length : Int) : Int) > 0)))) ?_
   refine AOps.nilR ?_
   refine AW.meet (σ := Int × BX × AV × St) (fun (t102, x99, v100, s103) tm os => ⟨updL tm [(0, (AV.str p1)), (2, (AV.pend 5)), (3, (AV.ptr b2 0)), (4, (AV.int .i64 t67)), (5, (AV.int .i64 t67)), (6, (AV.int .i64 t95)), (8, (AV.int .i64 t102)), (13, (AV.int .i64 (p1.length : Int))), (14, (AV.int .i64 t67))], updL os [(2, true)], s103⟩) (fun (t102, x99, v100, s103) => (DY (rI .i64) false 1 m89 v100 x99) ∧ (HS [] false s s103 [⟨some b2, [v81, (AV.sl z84 f85 e86), v100, (AV.sl z56 f57 e58), (AV.sl z62 f63 e64)], w78⟩, x80, x99]) ∧ impl_match_J3 p1 m55 m61 t67 m79 m83 m89 t95 t102 = some ee1) ?_ ?_
   ·rintro ⟨t102, x99, v100, s103⟩ tm os ⟨h101, hH104, h⟩
    unfold impl_match_J3 at h
    refine AW.seq ?_
    refine AW.sr ?_
    refine AOps.p rfl (rfl : _ = (AV.str p1)) ?_
    refine AOps.p rfl (rfl : _ = (AV.int .i64 t67)) ?_
    obtain ⟨c106, h107, h⟩ := obind h
    refine AOps.pureR rfl rfl rfl (chr_str h107) rfl (rfl : _ = (AV.int .u8 c106)) ?_
    obtain ⟨y108, h109, h⟩ := obind h
    refine AOps.callP (g := 54) (args := [(AV.int .u8 c106)]) (p := (rB) y108) rfl rfl rfl (impl_isCall_ok  h109 (HS.wf' hH104)) ?_
    intro _ o111 h110
    cases h110
    refine AOps.nilR ?_
    refine AW.meet (σ := (List Int) × Int × (Nat → Bool) × BX × AV × St) (fun (m114, t120, w112, x115, v116, s121) tm os => ⟨updL tm [(0, (AV.str p1)), (2, (AV.pend 5)), (3, (AV.ptr b2 0)), (6, (AV.int .i64 t120)), (8, (AV.int .i64 t102)), (13, (AV.int .i64 (p1.length : Int))), (14, (AV.int .i64 t67))], updL os [(2, true)], s121⟩) (fun (m114, t120, w112, x115, v116, s121) => (f85 = true ∨ w112 1 = true) ∧ (DY (rI .i64) false 1 m114 v116 x115) ∧ (f57 = true ∨ w112 3 = true) ∧ (f63 = true ∨ w112 4 = true) ∧ (HS [] false s s121 [⟨some b2, [v81, (AV.sl z84 f85 e86), v116, (AV.sl z56 f57 e58), (AV.sl z62 f63 e64)], w112⟩, x80, x115]) ∧ impl_match_J4 m55 m61 t67 m79 m83 t102 m114 t120 = some ee1) ?_ ?_
    ·rintro ⟨m114, t120, w112, x115, v116, s121⟩ tm os ⟨h113, h117, h118, h119, hH122, h⟩
     unfold impl_match_J4 at h
     refine AW.sr ?_
     refine AOps.p rfl (rfl : _ = (AV.ptr b2 0)) ?_
     refine AOps.ldB (i := 0) (v := v81) hH122 rfl rfl rfl rfl rfl rfl rfl rfl rfl ?_
     refine AOps.p rfl (rfl : _ = (AV.int .i64 t120)) ?_
     refine AOps.makeR rfl rfl rfl rfl rfl rfl (rfl : _ = (AV.sl 1 true [(AV.int .i64 t120)])) ?_
     obtain ⟨l124, h125, h⟩ := obind h
     refine AOps.appD (i := 1) (r := rI .i64) (ei := ty2) (z' := 1) (f' := true) (e' := [(AV.int .i64 t120)]) hH122 rfl h82 Sh.I rfl rfl rfl rfl rfl rfl rfl (appSrc_sl (LR.z (LR.lit (r := rI .i64) (sz := 1) (.cons rfl .nil))) rfl) (LR.el (LR.lit (r := rI .i64) (sz := 1) (.cons rfl .nil))) rfl ⟨by decide, by decide, rfl, rfl⟩ rfl rfl h125 ?_
     intro b126 n127 cs128 s129 h130 hH131
     change HS [] false s s129 [⟨some b2, [v81, (AV.sl z84 f85 e86), v116, (AV.sl z56 f57 e58), (AV.sl z62 f63 e64)], w112⟩, ⟨some b126, cs128, fun _ => false⟩, x115] at hH131
     refine AOps.p rfl (rfl : _ = (AV.ptr b2 4)) ?_
     refine AOps.ldMv (i := 0) (v := (AV.sl z62 f63 e64)) hH131 rfl rfl rfl rfl rfl rfl rfl rfl rfl rfl h119 ?_
     intro o132 w133 s137 h134 h135 hH136
     change HS [] false s s137 [⟨some b2, [v81, (AV.sl z84 f85 e86), v116, (AV.sl z56 f57 e58), (AV.sl z62 f63 e64)], w133⟩, ⟨some b126, cs128, fun _ => false⟩, x115] at hH136
     refine AOps.p rfl (rfl : _ = (AV.int .i64 t102)) ?_
     refine AOps.makeR rfl rfl rfl rfl rfl rfl (rfl : _ = (AV.sl 1 true [(AV.int .i64 t102)])) ?_
     obtain ⟨l138, h139, h⟩ := obind h
     obtain ⟨h140, h141⟩ := app_LR h65 (LR.lit (r := rI .i64) (sz := 1) (.cons rfl .nil)) h139
     refine AOps.appL (z := z62) (f := f63) (e := e64) (z' := 1) (f' := true) (e' := [(AV.int .i64 t102)]) rfl rfl rfl rfl rfl rfl rfl (appSrc_sl (LR.z (LR.lit (r := rI .i64) (sz := 1) (.cons rfl .nil))) rfl) (LR.z h65) ⟨by decide, by decide, rfl, rfl⟩ rfl rfl h141 (own_tmp h134 rfl rfl) ?_
     refine AOps.p rfl (rfl : _ = (AV.ptr b2 0)) ?_
     refine AOps.stB (i := 0) (v := (AV.ms false 1 b126 0 n127)) hH136 rfl rfl rfl rfl rfl rfl rfl rfl rfl (lt_b rfl) (le_b rfl) rfl ?_
     intro w142 s143 h144 h145 hH146
     change HS [] false s s143 [⟨some b2, [(AV.ms false 1 b126 0 n127), (AV.sl z84 f85 e86), v116, (AV.sl z56 f57 e58), (AV.sl z62 f63 e64)], w142⟩, ⟨some b126, cs128, fun _ => false⟩, x115] at hH146
     refine AOps.p rfl (rfl : _ = (AV.ptr b2 4)) ?_
     refine AOps.stB (i := 0) (v := (AV.sl 1 false (e64 ++ [(AV.int .i64 t102)]))) hH146 rfl rfl rfl rfl rfl rfl rfl rfl rfl (lt_b rfl) (le_b rfl) rfl ?_
     intro w147 s148 h149 h150 hH151
     change HS [] false s s148 [⟨some b2, [(AV.ms false 1 b126 0 n127), (AV.sl z84 f85 e86), v116, (AV.sl z56 f57 e58), (AV.sl 1 false (e64 ++ [(AV.int .i64 t102)]))], w147⟩, ⟨some b126, cs128, fun _ => false⟩, x115] at hH151
     refine AOps.nilR ?_
     refine AW.region ?_
     refine AOps.p rfl (rfl : _ = (AV.ptr b2 3)) ?_
     refine AOps.ldMv (i := 0) (v := (AV.sl z56 f57 e58)) hH151 rfl rfl rfl rfl rfl rfl rfl rfl rfl rfl (own_keep (own_keep (own_keep h118 (h135 _ (by decide))) (h144 _ (by decide))) (h149 _ (by decide))) ?_
     intro o152 w153 s157 h154 h155 hH156
     change HS [] false s s157 [⟨some b2, [(AV.ms false 1 b126 0 n127), (AV.sl z84 f85 e86), v116, (AV.sl z56 f57 e58), (AV.sl 1 false (e64 ++ [(AV.int .i64 t102)]))], w153⟩, ⟨some b126, cs128, fun _ => false⟩, x115] at hH156
     refine AOps.p rfl (rfl : _ = (AV.ptr b2 2)) ?_
     refine AOps.ldB (i := 0) (v := v116) hH156 rfl rfl rfl rfl rfl rfl rfl rfl rfl ?_
     obtain ⟨y158, h159, h⟩ := obind h
     refine AOps.callDP (g := 57) (args := [v116]) (p := (rI .i64) y158) rfl rfl rfl (impl_size_int64_d_ok (s := St.still s157) h117 (HS.fr hH156 (i := 2) rfl) h159 ((HS.wf' hH156).still)) (fun v hv => Nice.pure (k := FINK) (p := (rI .i64) y158) .I _ v hv) ?_
     intro _ o161 h160
     cases h160
     refine AOps.makeR rfl rfl rfl rfl rfl rfl (rfl : _ = (AV.sl 1 true [(AV.int .i64 y158)])) ?_
     obtain ⟨l162, h163, h⟩ := obind h
     obtain ⟨h164, h165⟩ := app_LR h59 (LR.lit (r := rI .i64) (sz := 1) (.cons rfl .nil)) h163
     refine AOps.appL (z := z56) (f := f57) (e := e58) (z' := 1) (f' := true) (e' := [(AV.int .i64 y158)]) rfl rfl rfl rfl rfl rfl rfl (appSrc_sl (LR.z (LR.lit (r := rI .i64) (sz := 1) (.cons rfl .nil))) rfl) (LR.z h59) ⟨by decide, by decide, rfl, rfl⟩ rfl rfl h165 (own_tmp h154 rfl rfl) ?_
     refine AOps.p rfl (rfl : _ = (AV.ptr b2 3)) ?_
     refine AOps.stB (i := 0) (v := (AV.sl 1 false (e58 ++ [(AV.int .i64 y158)]))) hH156 rfl rfl rfl rfl rfl rfl rfl rfl rfl (lt_b rfl) (le_b rfl) rfl ?_
     intro w166 s167 h168 h169 hH170
     change HS [] false s s167 [⟨some b2, [(AV.ms false 1 b126 0 n127), (AV.sl z84 f85 e86), v116, (AV.sl 1 false (e58 ++ [(AV.int .i64 y158)])), (AV.sl 1 false (e64 ++ [(AV.int .i64 t102)]))], w166⟩, ⟨some b126, cs128, fun _ => false⟩, x115] at hH170
     refine AOps.nilR ?_
     refine AW.inBlock ?_
     refine AW.region ?_
     refine AOps.p rfl (rfl : _ = (AV.int .i64 (IntKind.wrap .i64 (t67 + 1)))) ?_
     refine AOps.p rfl (rfl : _ = (AV.int .i64 (IntKind.wrap .i64 (t67 + 1)))) ?_
     refine AOps.nilR ?_
     cases h
     exact AW.res [(0, (AV.str p1)), (2, (AV.pend 5)), (3, (AV.ptr b2 0)), (13, (AV.int .i64 (p1.length : Int))), (14, (AV.int .i64 (IntKind.wrap .i64 (t67 + 1))))] [(2, true)] ⟨rfl, rfl, rfl, rfl, rfl, trivial⟩ ⟨rfl, trivial⟩ (hL1 _ rfl (w166, ⟨some b126, cs128, fun _ => false⟩, (AV.ms false 1 b126 0 n127), z84, f85, e86, x115, v116, 1, false, (e58 ++ [(AV.int .i64 y158)]), 1, false, (e64 ++ [(AV.int .i64 t102)]), s167) _ _ ⟨(DY.ms rfl h130), h87, (own_keep (own_keep (own_keep (own_keep (own_keep h113 (h135 _ (by decide))) (h144 _ (by decide))) (h149 _ (by decide))) (h155 _ (by decide))) (h168 _ (by decide))), h117, h164, (own_st (Or.inr rfl) h169 rfl rfl rfl), h140, (own_keep (own_keep (own_st (Or.inr rfl) h150 rfl rfl rfl) (h155 _ (by decide))) (h168 _ (by decide))), (HS.sel hH170 [some 0, some 1, some 2] (by decide))⟩)
    intro KJ123
    rcases oite h with ⟨hc171, h⟩ | ⟨hc171, h⟩
    ·refine AW.condT (congrArg AV.bool hc171) ?_
     refine AW.sr ?_
     refine AOps.p rfl (rfl : _ = (AV.int .i64 (-2))) ?_
     refine AOps.nilR ?_
     refine AW.region ?_
     refine AOps.p rfl (rfl : _ = (AV.ptr b2 2)) ?_
     refine AOps.ldB (i := 0) (v := v100) hH104 rfl rfl rfl rfl rfl rfl rfl rfl rfl ?_
     refine AOps.p rfl (rfl : _ = (AV.int .i64 t67)) ?_
     refine AOps.makeR rfl rfl rfl rfl rfl rfl (rfl : _ = (AV.sl 1 true [(AV.int .i64 t67)])) ?_
     obtain ⟨l172, h173, h⟩ := obind h
     refine AOps.appD (i := 2) (r := rI .i64) (ei := ty2) (z' := 1) (f' := true) (e' := [(AV.int .i64 t67)]) hH104 rfl h101 Sh.I rfl rfl rfl rfl rfl rfl rfl (appSrc_sl (LR.z (LR.lit (r := rI .i64) (sz := 1) (.cons rfl .nil))) rfl) (LR.el (LR.lit (r := rI .i64) (sz := 1) (.cons rfl .nil))) rfl ⟨by decide, by decide, rfl, rfl⟩ rfl rfl h173 ?_
     intro b174 n175 cs176 s177 h178 hH179
     change HS [] false s s177 [⟨some b2, [v81, (AV.sl z84 f85 e86), v100, (AV.sl z56 f57 e58), (AV.sl z62 f63 e64)], w78⟩, x80, ⟨some b174, cs176, fun _ => false⟩] at hH179
     refine AOps.p rfl (rfl : _ = (AV.ptr b2 2)) ?_
     refine AOps.stB (i := 0) (v := (AV.ms false 1 b174 0 n175)) hH179 rfl rfl rfl rfl rfl rfl rfl rfl rfl (lt_b rfl) (le_b rfl) rfl ?_
     intro w180 s181 h182 h183 hH184
     change HS [] false s s181 [⟨some b2, [v81, (AV.sl z84 f85 e86), (AV.ms false 1 b174 0 n175), (AV.sl z56 f57 e58), (AV.sl z62 f63 e64)], w180⟩, x80, ⟨some b174, cs176, fun _ => false⟩] at hH184
     refine AOps.nilR ?_
     exact AW.res [(0, (AV.str p1)), (2, (AV.pend 5)), (3, (AV.ptr b2 0)), (6, (AV.int .i64 (-2))), (8, (AV.int .i64 t102)), (13, (AV.int .i64 (p1.length : Int))), (14, (AV.int .i64 t67))] [(2, true)] ⟨rfl, rfl, rfl, rfl, rfl, rfl, rfl, trivial⟩ ⟨rfl, trivial⟩ (KJ123 (l172, (-2), w180, ⟨some b174, cs176, fun _ => false⟩, (AV.ms false 1 b174 0 n175), s181) _ _ ⟨(own_keep h88 (h182 _ (by decide))), (DY.ms rfl h178), (own_keep h93 (h182 _ (by decide))), (own_keep h94 (h182 _ (by decide))), (HS.sel hH184 [some 0, some 1, some 2] (by decide)), h⟩)
    refine AW.condF (congrArg AV.bool hc171) ?_
    refine AW.skip ?_
    exact AW.res [(0, (AV.str p1)), (2, (AV.pend 5)), (3, (AV.ptr b2 0)), (6, (AV.int .i64 t95)), (8, (AV.int .i64 t102)), (13, (AV.int .i64 (p1.length : Int))), (14, (AV.int .i64 t67))] [(2, true)] ⟨rfl, rfl, rfl, rfl, rfl, rfl, rfl, trivial⟩ ⟨rfl, trivial⟩ (KJ123 (m89, t95, w78, x99, v100, s103) _ _ ⟨h88, h101, h93, h94, (HS.sel hH104 [some 0, some 1, some 2] (by decide)), h⟩)
   intro KJ105
   rcases oite h with ⟨hc185, h⟩ | ⟨hc185, h⟩
   ·refine AW.condT (congrArg AV.bool hc185) ?_
    refine AW.region ?_
    refine AOps.p rfl (rfl : _ = (AV.ptr b2 2)) ?_
    refine AOps.ldB (i := 0) (v := v91) hH97 rfl rfl rfl rfl rfl rfl rfl rfl rfl ?_
    refine AOps.p rfl (rfl : _ = (AV.int .i64 (m89.length : Int))) ?_
    refine AOps.p rfl (rfl : _ = (AV.int .i64 (IntKind.wrap .i64 ((m89.length : Int) - 1)))) ?_
    obtain ⟨x186, h187, h⟩ := obind h
    obtain ⟨b188, n189, h190, h192, h191⟩ := DY.has h92 h187
    subst h192
    refine AOps.pureR rfl rfl rfl (idx_ms h191 h187) rfl (rfl : _ = (AV.ptr b188 (0 + Int.toNat (IntKind.wrap .i64 ((m89.length : Int) - 1)) * 1))) ?_
    refine AOps.ldM (i := 2) (r := rI .i64) (off := 0) hH97 rfl h190 h191 h187 rfl rfl rfl rfl rfl (lt_b rfl) (le_b rfl) rfl rfl ?_ (fun c hr hs => by cases hr; exact ⟨_, rfl⟩)
    intro c193 h194 h195 v196 h197
    cases h194
    cases h197
    refine AOps.assignR rfl rfl rfl (rfl : _ = (AV.int .i64 x186)) rfl ?_
    refine AOps.nilR ?_
    exact AW.res [(0, (AV.str p1)), (2, (AV.pend 5)), (3, (AV.ptr b2 0)), (4, (AV.int .i64 t67)), (5, (AV.int .i64 t67)), (6, (AV.int .i64 t95)), (8, (AV.int .i64 x186)), (13, (AV.int .i64 (p1.length : Int))), (14, (AV.int .i64 t67))] [(2, true)] ⟨rfl, rfl, rfl, rfl, rfl, rfl, rfl, rfl, rfl, trivial⟩ ⟨rfl, trivial⟩ (KJ105 (x186, x90, (AV.ms false 1 b188 0 n189), s96) _ _ ⟨(DY.ms h190 h191), (HS.sel hH97 [some 0, some 1, some 2] (by decide)), h⟩)
   refine AW.condF (congrArg AV.bool hc185) ?_
   refine AW.skip ?_
   exact AW.res [(0, (AV.str p1)), (2, (AV.pend 5)), (3, (AV.ptr b2 0)), (4, (AV.int .i64 t67)), (5, (AV.int .i64 t67)), (6, (AV.int .i64 t95)), (8, (AV.int .i64 (-1))), (13, (AV.int .i64 (p1.length : Int))), (14, (AV.int .i64 t67))] [(2, true)] ⟨rfl, rfl, rfl, rfl, rfl, rfl, rfl, rfl, rfl, trivial⟩ ⟨rfl, trivial⟩ (KJ105 ((-1), x90, v91, s96) _ _ ⟨h92, (HS.sel hH97 [some 0, some 1, some 2] (by decide)), h⟩)
  intro KJ98
  rcases oite h with ⟨hc198, h⟩ | ⟨hc198, h⟩
  ·refine AW.condT (congrArg AV.bool hc198) ?_
   refine AW.sr ?_
   refine AOps.p rfl (rfl : _ = (AV.int .i64 (-2))) ?_
   refine AOps.nilR ?_
   refine AW.region ?_
   refine AOps.p rfl (rfl : _ = (AV.ptr b2 1)) ?_
   refine AOps.ldMv (i := 0) (v := (AV.sl z46 f47 e48)) hH69 rfl rfl rfl rfl rfl rfl rfl rfl rfl rfl h50 ?_
   intro o199 w200 s204 h201 h202 hH203
   change HS [] false s s204 [⟨some b2, [v43, (AV.sl z46 f47 e48), v53, (AV.sl z56 f57 e58), (AV.sl z62 f63 e64)], w200⟩, x42, x52] at hH203
   refine AOps.p rfl (rfl : _ = (AV.int .i64 t67)) ?_
   refine AOps.makeR rfl rfl rfl rfl rfl rfl (rfl : _ = (AV.sl 1 true [(AV.int .i64 t67)])) ?_
   obtain ⟨l205, h206, h⟩ := obind h
   obtain ⟨h207, h208⟩ := app_LR h49 (LR.lit (r := rI .i64) (sz := 1) (.cons rfl .nil)) h206
   refine AOps.appL (z := z46) (f := f47) (e := e48) (z' := 1) (f' := true) (e' := [(AV.int .i64 t67)]) rfl rfl rfl rfl rfl rfl rfl (appSrc_sl (LR.z (LR.lit (r := rI .i64) (sz := 1) (.cons rfl .nil))) rfl) (LR.z h49) ⟨by decide, by decide, rfl, rfl⟩ rfl rfl h208 (own_tmp h201 rfl rfl) ?_
   refine AOps.p rfl (rfl : _ = (AV.ptr b2 1)) ?_
   refine AOps.stB (i := 0) (v := (AV.sl 1 false (e48 ++ [(AV.int .i64 t67)]))) hH203 rfl rfl rfl rfl rfl rfl rfl rfl rfl (lt_b rfl) (le_b rfl) rfl ?_
   intro w209 s210 h211 h212 hH213
   change HS [] false s s210 [⟨some b2, [v43, (AV.sl 1 false (e48 ++ [(AV.int .i64 t67)])), v53, (AV.sl z56 f57 e58), (AV.sl z62 f63 e64)], w209⟩, x42, x52] at hH213
   refine AOps.nilR ?_
   exact AW.res [(0, (AV.str p1)), (2, (AV.pend 5)), (3, (AV.ptr b2 0)), (4, (AV.int .i64 t67)), (5, (AV.int .i64 t67)), (6, (AV.int .i64 (-2))), (13, (AV.int .i64 (p1.length : Int))), (14, (AV.int .i64 t67))] [(2, true)] ⟨rfl, rfl, rfl, rfl, rfl, rfl, rfl, rfl, trivial⟩ ⟨rfl, trivial⟩ (KJ98 (m41, l205, m51, (-2), w209, x42, v43, 1, false, (e48 ++ [(AV.int .i64 t67)]), x52, v53, s210) _ _ ⟨h44, h207, (own_st (Or.inr rfl) h212 rfl rfl rfl), h54, (own_keep (own_keep h60 (h202 _ (by decide))) (h211 _ (by decide))), (own_keep (own_keep h66 (h202 _ (by decide))) (h211 _ (by decide))), (HS.sel hH213 [some 0, some 1, some 2] (by decide)), h⟩)
  refine AW.condF (congrArg AV.bool hc198) ?_
  refine AW.sr ?_
  refine AOps.p rfl (rfl : _ = (AV.str p1)) ?_
  refine AOps.p rfl (rfl : _ = (AV.int .i64 t67)) ?_
  obtain ⟨c214, h215, h⟩ := obind h
  refine AOps.pureR rfl rfl rfl (chr_str h215) rfl (rfl : _ = (AV.int .u8 c214)) ?_
  obtain ⟨y216, h217, h⟩ := obind h
  refine AOps.callP (g := 55) (args := [(AV.int .u8 c214)]) (p := (rB) y216) rfl rfl rfl (impl_isReturn_ok  h217 (HS.wf' hH69)) ?_
  intro _ o219 h218
  cases h218
  refine AOps.assignR rfl rfl rfl (rfl : _ = (AV.bool y216)) rfl ?_
  refine AOps.nilR ?_
  rcases oite h with ⟨hc220, h⟩ | ⟨hc220, h⟩
  ·refine AW.condT (congrArg AV.bool hc220) ?_
   refine AW.sr ?_
   refine AOps.p rfl (rfl : _ = (AV.ptr b2 2)) ?_
   refine AOps.ldB (i := 0) (v := v53) hH69 rfl rfl rfl rfl rfl rfl rfl rfl rfl ?_
   refine AOps.p rfl (rfl : _ = (AV.int .i64 (m51.length : Int))) ?_
   refine AOps.p rfl (rfl : _ = (AV.int .i64 (IntKind.wrap .i64 ((m51.length : Int) - 1)))) ?_
   obtain ⟨x221, h222, h⟩ := obind h
   obtain ⟨b223, n224, h225, h227, h226⟩ := DY.has h54 h222
   subst h227
   refine AOps.pureR rfl rfl rfl (idx_ms h226 h222) rfl (rfl : _ = (AV.ptr b223 (0 + Int.toNat (IntKind.wrap .i64 ((m51.length : Int) - 1)) * 1))) ?_
   refine AOps.ldM (i := 2) (r := rI .i64) (off := 0) hH69 rfl h225 h226 h222 rfl rfl rfl rfl rfl (lt_b rfl) (le_b rfl) rfl rfl ?_ (fun c hr hs => by cases hr; exact ⟨_, rfl⟩)
   intro c228 h229 h230 v231 h232
   cases h229
   cases h232
   refine AOps.assignR rfl rfl rfl (rfl : _ = (AV.int .i64 x221)) rfl ?_
   refine AOps.nilR ?_
   refine AW.sr ?_
   refine AOps.p rfl (rfl : _ = (AV.ptr b2 0)) ?_
   refine AOps.ldB (i := 0) (v := v43) hH69 rfl rfl rfl rfl rfl rfl rfl rfl rfl ?_
   refine AOps.p rfl (rfl : _ = (AV.int .i64 x221)) ?_
   refine AOps.p rfl (rfl : _ = (AV.int .i64 t67)) ?_
   obtain ⟨x233, h234, h⟩ := obind h
   obtain ⟨b235, n236, h237, h239, h238⟩ := DY.has h44 h234
   subst h239
   refine AOps.pureR rfl rfl rfl (idx_ms h238 h234) rfl (rfl : _ = (AV.ptr b235 (0 + Int.toNat x221 * 1))) ?_
   refine AOps.stM (i := 1) (r := rI .i64) (v := (AV.int .i64 t67)) (y := t67) hH69 rfl h237 h238 h234 rfl rfl rfl rfl rfl rfl (Sh.I t67 _ rfl) rfl rfl (lt_b rfl) rfl rfl ?_
   intro cs240 w241 s242 h243 hH244
   change HS [] false s s242 [⟨some b2, [(AV.ms false 1 b235 0 n236), (AV.sl z46 f47 e48), (AV.ms false 1 b223 0 n224), (AV.sl z56 f57 e58), (AV.sl z62 f63 e64)], w40⟩, ⟨some b235, cs240, w241⟩, x52] at hH244
   refine AOps.nilR ?_
   refine AW.region ?_
   refine AOps.p rfl (rfl : _ = (AV.ptr b2 2)) ?_
   refine AOps.ldB (i := 0) (v := (AV.ms false 1 b223 0 n224)) hH244 rfl rfl rfl rfl rfl rfl rfl rfl rfl ?_
   refine AOps.p rfl (rfl : _ = (AV.int .i64 (m51.length : Int))) ?_
   refine AOps.p rfl (rfl : _ = (AV.int .i64 (IntKind.wrap .i64 ((m51.length : Int) - 1)))) ?_
   obtain ⟨l245, h246, h⟩ := obind h
   obtain ⟨h247, h248⟩ := MS.cut (b := b223) (k := .i64) h226 h246
   refine AOps.pureR rfl rfl rfl h248 rfl (rfl : _ = (AV.ms false 1 b223 0 (Int.toNat (IntKind.wrap .i64 ((m51.length : Int) - 1))))) ?_
   refine AOps.p rfl (rfl : _ = (AV.ptr b2 2)) ?_
   refine AOps.stB (i := 0) (v := (AV.ms false 1 b223 0 (Int.toNat (IntKind.wrap .i64 ((m51.length : Int) - 1))))) hH244 rfl rfl rfl rfl rfl rfl rfl rfl rfl (lt_b rfl) (le_b rfl) rfl ?_
   intro w249 s250 h251 h252 hH253
   change HS [] false s s250 [⟨some b2, [(AV.ms false 1 b235 0 n236), (AV.sl z46 f47 e48), (AV.ms false 1 b223 0 (Int.toNat (IntKind.wrap .i64 ((m51.length : Int) - 1)))), (AV.sl z56 f57 e58), (AV.sl z62 f63 e64)], w249⟩, ⟨some b235, cs240, w241⟩, x52] at hH253
   refine AOps.nilR ?_
   exact AW.res [(0, (AV.str p1)), (2, (AV.pend 5)), (3, (AV.ptr b2 0)), (4, (AV.int .i64 t67)), (5, (AV.int .i64 t67)), (6, (AV.int .i64 x221)), (13, (AV.int .i64 (p1.length : Int))), (14, (AV.int .i64 t67))] [(2, true)] ⟨rfl, rfl, rfl, rfl, rfl, rfl, rfl, rfl, trivial⟩ ⟨rfl, trivial⟩ (KJ98 ((m41.set (Int.toNat x221) t67), m45, l245, x221, w249, ⟨some b235, cs240, w241⟩, (AV.ms false 1 b235 0 n236), z46, f47, e48, x52, (AV.ms false 1 b223 0 (Int.toNat (IntKind.wrap .i64 ((m51.length : Int) - 1)))), s250) _ _ ⟨(DY.ms rfl h243), h49, (own_keep h50 (h251 _ (by decide))), (DY.ms h225 h247), (own_keep h60 (h251 _ (by decide))), (own_keep h66 (h251 _ (by decide))), (HS.sel hH253 [some 0, some 1, some 2] (by decide)), h⟩)
  refine AW.condF (congrArg AV.bool hc220) ?_
  refine AW.skip ?_
  exact AW.res [(0, (AV.str p1)), (2, (AV.pend 5)), (3, (AV.ptr b2 0)), (4, (AV.int .i64 t67)), (5, (AV.int .i64 t67)), (6, (AV.int .i64 (-1))), (13, (AV.int .i64 (p1.length : Int))), (14, (AV.int .i64 t67))] [(2, true)] ⟨rfl, rfl, rfl, rfl, rfl, rfl, rfl, rfl, trivial⟩ ⟨rfl, trivial⟩ (KJ98 (m41, m45, m51, (-1), w40, x42, v43, z46, f47, e48, x52, v53, s68) _ _ ⟨h44, h49, h50, h54, h60, h66, (HS.sel hH69 [some 0, some 1, some 2] (by decide)), h⟩)
 refine AW.condF (congrArg AV.bool hc70) ?_
 refine AW.exit rfl ?_
 obtain ⟨r254, hm, hx⟩ := omap h
 clear h
 subst hx
 have hx := hR1 _ rfl
 rw [hx] at hm
 have h := hm
 exact AW.res [(2, (AV.pend 5)), (3, (AV.ptr b2 0))] [(2, true)] ⟨rfl, rfl, trivial⟩ ⟨rfl, trivial⟩ (KJ39 (m41, m45, m51, m55, m61, w40, x42, v43, z46, f47, e48, x52, v53, z56, f57, e58, z62, f63, e64, s68) _ _ ⟨h44, h49, h50, h54, h59, h60, h65, h66, (HS.sel hH69 [some 0, some 1, some 2] (by decide)), h⟩)
theorem impl_factors_ok {w1 : List UInt8} {s : St} {r : (List (List UInt8))} (h : impl_factors w1 = some r) (hs : WF s) : ACall Cf 21 [(AV.str w1)] s fun v _ s' => (rL rS 1) r v ∧ s' = s := by
 refine ACall.pure rfl rfl rfl (.L fun _ => .S) ?_
 have hWF := hs.lo'
 unfold impl_factors at h
 refine AW.sr ?_
 refine AOps.p rfl (rfl : _ = (AV.sl 0 true [])) ?_
 refine AOps.nilR ?_
 refine AW.sr ?_
 refine AOps.makeR rfl rfl rfl rfl rfl rfl (rfl : _ = (AV.sl 1 true [])) ?_
 refine AOps.p rfl (rfl : _ = (AV.str w1)) ?_
 obtain ⟨y2, h3, h⟩ := obind h
 refine AOps.callP (g := 43) (args := [(AV.str w1)]) (p := (rMatching) y2) rfl rfl rfl (impl_match_ok  h3 hWF) ?_
 intro _ o36 h4
 obtain ⟨_, rfl, h5⟩ := h4
 obtain ⟨_, _, rfl, h6, h7⟩ := Cs_cons h5
 obtain ⟨z8, f9, e10, rfl, h11⟩ := h6
 obtain ⟨_, _, rfl, h12, h13⟩ := Cs_cons h7
 obtain ⟨z14, f15, e16, rfl, h17⟩ := h12
 obtain ⟨_, _, rfl, h18, h19⟩ := Cs_cons h13
 obtain ⟨z20, f21, e22, rfl, h23⟩ := h18
 obtain ⟨_, _, rfl, h24, h25⟩ := Cs_cons h19
 obtain ⟨z26, f27, e28, rfl, h29⟩ := h24
 obtain ⟨_, _, rfl, h30, h31⟩ := Cs_cons h25
 obtain ⟨z32, f33, e34, rfl, h35⟩ := h30
 cases Cs_nil h31
 refine AOps.allocP rfl rfl rfl rfl ⟨rfl, rfl⟩ rfl ?_
 refine AOps.assignR rfl rfl rfl (rfl : _ = (AV.sl 1 true [])) rfl ?_
 refine AOps.stP (v := (AV.agg [(AV.sl z8 f9 e10), (AV.sl z14 f15 e16), (AV.sl z20 f21 e22), (AV.sl z26 f27 e28), (AV.sl z32 f33 e34)])) rfl rfl rfl rfl rfl rfl rfl rfl rfl (lt_b rfl) rfl ?_
 refine AOps.nilR ?_
 refine AW.seq ?_
 refine AW.sr ?_
 refine AOps.p rfl (rfl : _ = (AV.int .i64 0)) ?_
 refine AOps.nilR ?_
 refine AW.meet (σ := (List (List UInt8)) × Nat × Bool × (List AV) × Bool) (fun (out37, z38, f39, e40, o42) tm os => ⟨updL tm [(3, (AV.sl z38 f39 e40))], updL os [(3, o42)], { s with lo := s.n }⟩) (fun (out37, z38, f39, e40, o42) => (LR rS 1 out37 z38 e40) ∧ (f39 = true ∨ o42 = true) ∧ impl_factors_J1 out37 = some r) ?_ ?_
 ·rintro ⟨out37, z38, f39, e40, o42⟩ tm os ⟨h41, h43, h⟩
  unfold impl_factors_J1 at h
  refine AW.sr ?_
  refine AOps.p rfl (rfl : _ = (AV.sl z38 f39 e40)) ?_
  refine AOps.assignR rfl rfl rfl (rfl : _ = (AV.sl z38 f39 e40)) rfl ?_
  refine AOps.nilR ?_
  cases h
  exact AW.ret ⟨rfl, _, _, rfl, ⟨_, _, _, rfl, h41⟩⟩
 intro KJ44
 refine AW.block ?_
 refine AW.res [(0, (AV.str w1)), (3, (AV.sl 1 true [])), (4, (AV.eptr [(AV.sl z8 f9 e10), (AV.sl z14 f15 e16), (AV.sl z20 f21 e22), (AV.sl z26 f27 e28), (AV.sl z32 f33 e34)] 0)), (5, (AV.int .i64 0))] [(3, false)] ⟨rfl, rfl, rfl, rfl, trivial⟩ ⟨rfl, trivial⟩ ?_
 refine AW.loopF (σ := (List (List UInt8)) × Int) (τ := Nat × Bool × (List AV) × Bool) (fun (out45, i52) (z46, f47, e48, o50) => (LR rS 1 out45 z46 e48) ∧ (f47 = true ∨ o50 = true)) (fun (out45, i52) (z46, f47, e48, o50) tm os => ⟨updL tm [(0, (AV.str w1)), (3, (AV.sl z46 f47 e48)), (4, (AV.eptr [(AV.sl z8 f9 e10), (AV.sl z14 f15 e16), (AV.sl z20 f21 e22), (AV.sl z26 f27 e28), (AV.sl z32 f33 e34)] 0)), (5, (AV.int .i64 i52))], updL os [(3, o50)], { s with lo := s.n }⟩) ?_ (x := (([] : List (List UInt8)), 0)) (y := (1, true, [], false)) h ⟨⟨.inl rfl, .nil⟩, (Or.inl rfl)⟩
 clear h
 rintro ⟨out45, i52⟩ ⟨z46, f47, e48, o50⟩ tm os ⟨h49, h51⟩ ee1 h hL1 hR1
 unfold impl_factors_S1 at h
 dsimp only at h
 refine AW.seq ?_
 refine AW.sr ?_
 refine AOps.p rfl (rfl : _ = (AV.int .i64 i52)) ?_
 refine AOps.p rfl (rfl : _ = (AV.str w1)) ?_
 refine AOps.p rfl (rfl : _ = (AV.int .i64 (w1.length : Int))) ?_
 refine AOps.p rfl (rfl : _ = (AV.bool (decide ((i52 : Int) < (w1.length : Int))))) ?_
 refine AOps.nilR ?_
 rcases oite h with ⟨hc53, h⟩ | ⟨hc53, h⟩
 ·refine AW.condT (congrArg AV.bool hc53) ?_
  refine AW.skip ?_
  refine AW.block ?_
  refine AW.sr ?_
  refine AOps.p rfl (rfl : _ = (AV.int .i64 i52)) ?_
  refine AOps.p rfl (rfl : _ = (AV.eptr [(AV.sl z8 f9 e10), (AV.sl z14 f15 e16), (AV.sl z20 f21 e22), (AV.sl z26 f27 e28), (AV.sl z32 f33 e34)] 0)) ?_
  refine AOps.ldE (v := (AV.sl z8 f9 e10)) rfl rfl rfl rfl rfl rfl ?_
  refine AOps.p rfl (rfl : _ = (AV.int .i64 i52)) ?_
  obtain ⟨x54, h55, h⟩ := obind h
  obtain ⟨v58, h56, h57⟩ := idx_sl h11 h55
  cases h56
  refine AOps.pureR rfl rfl rfl h57 rfl (rfl : _ = (AV.eptr [(AV.int .i64 x54)] 0)) ?_
  refine AOps.ldE (v := (AV.int .i64 x54)) rfl rfl rfl rfl rfl rfl ?_
  refine AOps.p rfl (rfl : _ = (AV.int .i64 (if (i52 : Int) < x54 then x54 else i52))) ?_
  refine AOps.assignR rfl rfl rfl (rfl : _ = (AV.int .i64 (if (i52 : Int) < x54 then x54 else i52))) rfl ?_
  refine AOps.nilR ?_
  refine AW.sr ?_
  refine AOps.moveR rfl rfl rfl rfl (rfl : _ = (AV.sl z46 f47 e48)) rfl ?_
  refine AOps.p rfl (rfl : _ = (AV.str w1)) ?_
  refine AOps.p rfl (rfl : _ = (AV.int .i64 i52)) ?_
  refine AOps.p rfl (rfl : _ = (AV.int .i64 (if (i52 : Int) < x54 then x54 else i52))) ?_
  refine AOps.p rfl (rfl : _ = (AV.int .i64 (IntKind.wrap .i64 ((if (i52 : Int) < x54 then x54 else i52) + 1)))) ?_
  obtain ⟨w59, h60, h⟩ := obind h
  refine AOps.pureR rfl rfl rfl (cut_strLH h60) rfl (rfl : _ = (AV.str w59)) ?_
  refine AOps.makeR rfl rfl rfl rfl rfl rfl (rfl : _ = (AV.sl 1 true [(AV.str w59)])) ?_
  obtain ⟨l61, h62, h⟩ := obind h
  obtain ⟨h63, h64⟩ := app_LR h49 (LR.lit (r := rS) (sz := 1) (.cons rfl .nil)) h62
  refine AOps.appL (z := z46) (f := f47) (e := e48) (z' := 1) (f' := true) (e' := [(AV.str w59)]) rfl rfl rfl rfl rfl rfl rfl (appSrc_sl (LR.z (LR.lit (r := rS) (sz := 1) (.cons rfl .nil))) rfl) (LR.z h49) ⟨by decide, by decide, rfl, rfl⟩ rfl rfl h64 (own_tmp h51 rfl rfl) ?_
  refine AOps.assignR rfl rfl rfl (rfl : _ = (AV.sl 1 false (e48 ++ [(AV.str w59)]))) rfl ?_
  refine AOps.nilR ?_
  refine AW.region ?_
  refine AOps.p rfl (rfl : _ = (AV.int .i64 (if (i52 : Int) < x54 then x54 else i52))) ?_
  refine AOps.p rfl (rfl : _ = (AV.int .i64 (IntKind.wrap .i64 ((if (i52 : Int) < x54 then x54 else i52) + 1)))) ?_
  refine AOps.assignR rfl rfl rfl (rfl : _ = (AV.int .i64 (IntKind.wrap .i64 ((if (i52 : Int) < x54 then x54 else i52) + 1)))) rfl ?_
  refine AOps.nilR ?_
  refine AW.inBlock ?_
  cases h
  exact AW.res [(0, (AV.str w1)), (3, (AV.sl 1 false (e48 ++ [(AV.str w59)]))), (4, (AV.eptr [(AV.sl z8 f9 e10), (AV.sl z14 f15 e16), (AV.sl z20 f21 e22), (AV.sl z26 f27 e28), (AV.sl z32 f33 e34)] 0)), (5, (AV.int .i64 (IntKind.wrap .i64 ((if (i52 : Int) < x54 then x54 else i52) + 1))))] [(3, true)] ⟨rfl, rfl, rfl, rfl, trivial⟩ ⟨rfl, trivial⟩ (hL1 _ rfl (1, false, (e48 ++ [(AV.str w59)]), true) _ _ ⟨h63, (Or.inr rfl)⟩)
 refine AW.condF (congrArg AV.bool hc53) ?_
 refine AW.exit rfl ?_
 obtain ⟨r65, hm, hx⟩ := omap h
 clear h
 subst hx
 have hx := hR1 _ rfl
 rw [hx] at hm
 have h := hm
 exact AW.res [(3, (AV.sl z46 f47 e48))] [(3, o50)] ⟨rfl, trivial⟩ ⟨rfl, trivial⟩ (KJ44 (out45, z46, f47, e48, o50) _ _ ⟨h49, h51, h⟩)
theorem impl_Link_isCallLink_ok {l1 : Link} {s : St} {r : Bool} (h : impl_Link_isCallLink l1 = some r) (hs : WF s) : ACall Cf 65 [(AV.agg [(AV.int .i64 l1.From), (AV.int .i64 l1.To), (AV.str l1.Act), (AV.int .i64 l1.Module)])] s fun v _ s' => (rB) r v ∧ s' = s := by
 refine ACall.pure rfl rfl rfl .B ?_
 have hWF := hs.lo'
 unfold impl_Link_isCallLink at h
 refine AW.sr ?_
 refine AOps.makeR rfl rfl rfl rfl rfl rfl (rfl : _ = (AV.eptr [(AV.int .i64 l1.From), (AV.int .i64 l1.To), (AV.str l1.Act), (AV.int .i64 l1.Module)] 0)) ?_
 refine AOps.p rfl (rfl : _ = (AV.bool false)) ?_
 refine AOps.nilR ?_
 refine AW.sr ?_
 refine AOps.p rfl (rfl : _ = (AV.eptr [(AV.int .i64 l1.From), (AV.int .i64 l1.To), (AV.str l1.Act), (AV.int .i64 l1.Module)] 2)) ?_
 refine AOps.ldE (v := (AV.str l1.Act)) rfl rfl rfl rfl rfl rfl ?_
 refine AOps.p rfl (rfl : _ = (AV.int .i64 (l1.Act.length : Int))) ?_
 refine AOps.p rfl (rfl : _ = (AV.bool ((l1.Act.length : Int) == 2))) ?_
 refine AOps.assignR rfl rfl rfl (rfl : _ = (AV.bool ((l1.Act.length : Int) == 2))) rfl ?_
 refine AOps.nilR ?_
 cases h
 exact AW.ret ⟨rfl, _, _, rfl, rfl⟩
theorem impl_Program_matches_ok {rec20 : ProgramT → Int → Int → (List (List UInt8)) → Option Bool} {p1 : ProgramT} {l6 : Link} {f7 : List UInt8} {z2 : Nat} {f3 : Bool} {e4 : List AV} {s : St} (rec20_ok : ∀ {a1 : ProgramT} {a6 : Int} {a7 : Int} {a8 : List (List UInt8)} {z2 : Nat} {f3 : Bool} {e4 : List AV} {z9 : Nat} {f10 : Bool} {e11 : List AV} {s : St} (h5 : LR rModule 2 a1.Modules z2 e4) (h12 : LR rS 1 a8 z9 e11) {r : Bool}, rec20 a1 a6 a7 a8 = some r → WF s → ACall Cf 20 [(AV.agg [(AV.sl z2 f3 e4)]), (AV.int .i64 a6), (AV.int .i64 a7), (AV.sl z9 f10 e11)] s fun v _ s' => (rB) r v ∧ s' = s) (h5 : LR rModule 2 p1.Modules z2 e4) {r : Bool} (h : impl_Program_matches rec20 p1 l6 f7 = some r) (hs : WF s) : ACall Cf 56 [(AV.agg [(AV.sl z2 f3 e4)]), (AV.agg [(AV.int .i64 l6.From), (AV.int .i64 l6.To), (AV.str l6.Act), (AV.int .i64 l6.Module)]), (AV.str f7)] s fun v _ s' => (rB) r v ∧ s' = s := by
 refine ACall.pure rfl rfl rfl .B ?_
 have hWF := hs.lo'
 unfold impl_Program_matches at h
 refine AW.sr ?_
 refine AOps.makeR rfl rfl rfl rfl rfl rfl (rfl : _ = (AV.eptr [(AV.sl z2 f3 e4)] 0)) ?_
 refine AOps.makeR rfl rfl rfl rfl rfl rfl (rfl : _ = (AV.eptr [(AV.int .i64 l6.From), (AV.int .i64 l6.To), (AV.str l6.Act), (AV.int .i64 l6.Module)] 0)) ?_
 refine AOps.p rfl (rfl : _ = (AV.bool false)) ?_
 refine AOps.nilR ?_
 refine AW.sr ?_
 refine AOps.p rfl (rfl : _ = (AV.str f7)) ?_
 refine AOps.p rfl (rfl : _ = (AV.int .i64 (f7.length : Int))) ?_
 refine AOps.p rfl (rfl : _ = (AV.int .i64 (IntKind.wrap .i64 ((f7.length : Int) - 1)))) ?_
 refine AOps.assignR rfl rfl rfl (rfl : _ = (AV.int .i64 (IntKind.wrap .i64 ((f7.length : Int) - 1)))) rfl ?_
 refine AOps.nilR ?_
 refine AW.seq ?_
 refine AW.sr ?_
 refine AOps.p rfl (rfl : _ = (AV.int .i64 (IntKind.wrap .i64 ((f7.length : Int) - 1)))) ?_
 refine AOps.p rfl (rfl : _ = (AV.bool ((IntKind.wrap .i64 ((f7.length : Int) - 1)) == 0))) ?_
 refine AOps.p rfl (rfl : _ = (AV.bool ((IntKind.wrap .i64 ((f7.length : Int) - 1)) == 0))) ?_
 obtain ⟨b9, hb, h⟩ := obind h
 refine AOps.split 4 (fun f' => ∃ tm' os', f' = ⟨updL tm' [(2, (AV.str f7)), (3, (AV.eptr [(AV.sl z2 f3 e4)] 0)), (4, (AV.eptr [(AV.int .i64 l6.From), (AV.int .i64 l6.To), (AV.str l6.Act), (AV.int .i64 l6.Module)] 0)), (7, (AV.int .i64 (IntKind.wrap .i64 ((f7.length : Int) - 1)))), (17, (AV.bool b9))], updL os' [], { s with lo := s.n }⟩) ?_ ?_
 ·rcases oite hb with ⟨hc8, hb⟩ | ⟨hc8, hb⟩
  ·refine AOps.know (d := 13) rfl hc8 ?_
   refine AOps.skipR rfl rfl ?_
   refine AOps.skipR rfl rfl ?_
   refine AOps.skipR rfl rfl ?_
   refine AOps.p rfl (rfl : _ = (AV.bool true)) ?_
   refine AOps.resR [(2, (AV.str f7)), (3, (AV.eptr [(AV.sl z2 f3 e4)] 0)), (4, (AV.eptr [(AV.int .i64 l6.From), (AV.int .i64 l6.To), (AV.str l6.Act), (AV.int .i64 l6.Module)] 0)), (7, (AV.int .i64 (IntKind.wrap .i64 ((f7.length : Int) - 1)))), (17, (AV.bool b9))] [] ?_ ?_ _ ⟨_, _, rfl⟩
   ·exact ⟨rfl, rfl, rfl, rfl, congrArg AV.bool (Option.some.inj hb), trivial⟩
   exact trivial
  ·have h := hb
   refine AOps.know (d := 13) rfl hc8 ?_
   refine AOps.ldE (v := (AV.agg [(AV.int .i64 l6.From), (AV.int .i64 l6.To), (AV.str l6.Act), (AV.int .i64 l6.Module)])) rfl rfl rfl rfl rfl rfl ?_
   obtain ⟨y10, h11, h⟩ := obind h
   refine AOps.callP (g := 65) (args := [(AV.agg [(AV.int .i64 l6.From), (AV.int .i64 l6.To), (AV.str l6.Act), (AV.int .i64 l6.Module)])]) (p := (rB) y10) rfl rfl rfl (impl_Link_isCallLink_ok  h11 hWF) ?_
   intro _ o13 h12
   cases h12
   refine AOps.p rfl (rfl : _ = (AV.bool (!y10))) ?_
   refine AOps.p rfl (rfl : _ = (AV.bool (!y10))) ?_
   refine AOps.resR [(2, (AV.str f7)), (3, (AV.eptr [(AV.sl z2 f3 e4)] 0)), (4, (AV.eptr [(AV.int .i64 l6.From), (AV.int .i64 l6.To), (AV.str l6.Act), (AV.int .i64 l6.Module)] 0)), (7, (AV.int .i64 (IntKind.wrap .i64 ((f7.length : Int) - 1)))), (17, (AV.bool b9))] [] ?_ ?_ _ ⟨_, _, rfl⟩
   ·exact ⟨rfl, rfl, rfl, rfl, congrArg AV.bool (Option.some.inj h), trivial⟩
   exact trivial
 rintro _ ⟨tm, os, rfl⟩
 refine AOps.nilR ?_
 rcases oite h with ⟨hc14, h⟩ | ⟨hc14, h⟩
 ·refine AW.condT (congrArg AV.bool hc14) ?_
  refine AW.sr ?_
  refine AOps.p rfl (rfl : _ = (AV.eptr [(AV.int .i64 l6.From), (AV.int .i64 l6.To), (AV.str l6.Act), (AV.int .i64 l6.Module)] 2)) ?_
  refine AOps.ldE (v := (AV.str l6.Act)) rfl rfl rfl rfl rfl rfl ?_
  refine AOps.p rfl (rfl : _ = (AV.str f7)) ?_
  refine AOps.p rfl (rfl : _ = (AV.bool (l6.Act == f7))) ?_
  refine AOps.assignR rfl rfl rfl (rfl : _ = (AV.bool (l6.Act == f7))) rfl ?_
  refine AOps.nilR ?_
  cases h
  exact AW.ret ⟨rfl, _, _, rfl, rfl⟩
 refine AW.condF (congrArg AV.bool hc14) ?_
 refine AW.skip ?_
 refine AW.sr ?_
 refine AOps.p rfl (rfl : _ = (AV.eptr [(AV.int .i64 l6.From), (AV.int .i64 l6.To), (AV.str l6.Act), (AV.int .i64 l6.Module)] 2)) ?_
 refine AOps.ldE (v := (AV.str l6.Act)) rfl rfl rfl rfl rfl rfl ?_
 refine AOps.p rfl (rfl : _ = (AV.str f7)) ?_
 obtain ⟨w15, h16, h⟩ := obind h
 refine AOps.pureR rfl rfl rfl (cut_strH h16) rfl (rfl : _ = (AV.str w15)) ?_
 refine AOps.p rfl (rfl : _ = (AV.str f7)) ?_
 refine AOps.p rfl (rfl : _ = (AV.int .i64 (IntKind.wrap .i64 ((f7.length : Int) - 1)))) ?_
 obtain ⟨w17, h18, h⟩ := obind h
 refine AOps.pureR rfl rfl rfl (cut_strL h18) rfl (rfl : _ = (AV.str w17)) ?_
 obtain ⟨w19, h20, h⟩ := obind h
 refine AOps.pureR rfl rfl rfl (add_str h20) rfl (rfl : _ = (AV.str w19)) ?_
 refine AOps.p rfl (rfl : _ = (AV.bool (l6.Act == w19))) ?_
 refine AOps.p rfl (rfl : _ = (AV.bool (l6.Act == w19))) ?_
 obtain ⟨b22, hb, h⟩ := obind h
 refine AOps.split 9 (fun f' => ∃ tm' os', f' = ⟨updL tm' [(40, (AV.bool b22))], updL os' [], { s with lo := s.n }⟩) ?_ ?_
 ·rcases oite hb with ⟨hc21, hb⟩ | ⟨hc21, hb⟩
  ·have h := hb
   refine AOps.know (d := 31) rfl hc21 ?_
   refine AOps.ldE (v := (AV.agg [(AV.sl z2 f3 e4)])) rfl rfl rfl rfl rfl rfl ?_
   refine AOps.p rfl (rfl : _ = (AV.eptr [(AV.int .i64 l6.From), (AV.int .i64 l6.To), (AV.str l6.Act), (AV.int .i64 l6.Module)] 3)) ?_
   refine AOps.ldE (v := (AV.int .i64 l6.Module)) rfl rfl rfl rfl rfl rfl ?_
   refine AOps.p rfl (rfl : _ = (AV.str f7)) ?_
   refine AOps.p rfl (rfl : _ = (AV.int .i64 (IntKind.wrap .i64 ((f7.length : Int) - 1)))) ?_
   obtain ⟨w23, h24, h⟩ := obind h
   refine AOps.pureR rfl rfl rfl (cut_strLH h24) rfl (rfl : _ = (AV.str w23)) ?_
   obtain ⟨y25, h26, h⟩ := obind h
   refine AOps.callDP (g := 21) (args := [(AV.str w23)]) (p := (rL rS 1) y25) rfl rfl rfl (impl_factors_ok  h26 hWF.still) (fun v hv => Nice.pure (k := FINK) (p := (rL rS 1) y25) (.L fun _ => .S) _ v hv) ?_
   intro _ o32 h27
   obtain ⟨z28, f29, e30, rfl, h31⟩ := h27
   obtain ⟨y33, h34, h⟩ := obind h
   refine AOps.callDP (g := 20) (args := [(AV.agg [(AV.sl z2 f3 e4)]), (AV.int .i64 l6.Module), (AV.int .i64 0), (AV.sl z28 f29 e30)]) (p := (rB) y33) rfl rfl rfl (rec20_ok h5 h31 h34 hWF.still) (fun v hv => Nice.pure (k := FINK) (p := (rB) y33) .B _ v hv) ?_
   intro _ o36 h35
   cases h35
   refine AOps.p rfl (rfl : _ = (AV.bool y33)) ?_
   refine AOps.resR [(40, (AV.bool b22))] [] ?_ ?_ _ ⟨_, _, rfl⟩
   ·exact ⟨congrArg AV.bool (Option.some.inj h), trivial⟩
   exact trivial
  ·refine AOps.know (d := 31) rfl hc21 ?_
   refine AOps.skipR rfl rfl ?_
   refine AOps.skipR rfl rfl ?_
   refine AOps.skipR rfl rfl ?_
   refine AOps.skipR rfl rfl ?_
   refine AOps.skipR rfl rfl ?_
   refine AOps.skipR rfl rfl ?_
   refine AOps.skipR rfl rfl ?_
   refine AOps.skipR rfl rfl ?_
   refine AOps.p rfl (rfl : _ = (AV.bool false)) ?_
   refine AOps.resR [(40, (AV.bool b22))] [] ?_ ?_ _ ⟨_, _, rfl⟩
   ·exact ⟨congrArg AV.bool (Option.some.inj hb), trivial⟩
   exact trivial
 rintro _ ⟨tm, os, rfl⟩
 refine AOps.assignR rfl rfl rfl (rfl : _ = (AV.bool b22)) rfl ?_
 refine AOps.nilR ?_
 cases h
 exact AW.ret ⟨rfl, _, _, rfl, rfl⟩
theorem impl_Program_after_ok {rec20 : ProgramT → Int → Int → (List (List UInt8)) → Option Bool} {p1 : ProgramT} {module6 : Int} {from7 : Int} {list8 : List (List UInt8)} {z2 : Nat} {f3 : Bool} {e4 : List AV} {z9 : Nat} {f10 : Bool} {e11 : List AV} {s : St} (rec20_ok : ∀ {a1 : ProgramT} {a6 : Int} {a7 : Int} {a8 : List (List UInt8)} {z2 : Nat} {f3 : Bool} {e4 : List AV} {z9 : Nat} {f10 : Bool} {e11 : List AV} {s : St} (h5 : LR rModule 2 a1.Modules z2 e4) (h12 : LR rS 1 a8 z9 e11) {r : Bool}, rec20 a1 a6 a7 a8 = some r → WF s → ACall Cf 20 [(AV.agg [(AV.sl z2 f3 e4)]), (AV.int .i64 a6), (AV.int .i64 a7), (AV.sl z9 f10 e11)] s fun v _ s' => (rB) r v ∧ s' = s) (h5 : LR rModule 2 p1.Modules z2 e4) (h12 : LR rS 1 list8 z9 e11) {r : Int} (h : impl_Program_after rec20 p1 module6 from7 list8 = some r) (hs : WF s) : ACall Cf 41 [(AV.agg [(AV.sl z2 f3 e4)]), (AV.int .i64 module6), (AV.int .u64 from7), (AV.sl z9 f10 e11)] s fun v _ s' => (rI .u64) r v ∧ s' = s := by
 refine ACall.pure rfl rfl rfl .I ?_
 have hWF := hs.lo'
 unfold impl_Program_after at h
 refine AW.sr ?_
 refine AOps.makeR rfl rfl rfl rfl rfl rfl (rfl : _ = (AV.eptr [(AV.sl z2 f3 e4)] 0)) ?_
 refine AOps.p rfl (rfl : _ = (AV.int .u64 0)) ?_
 refine AOps.nilR ?_
 refine AW.seq ?_
 refine AW.sr ?_
 refine AOps.p rfl (rfl : _ = (AV.sl z9 f10 e11)) ?_
 refine AOps.p rfl (len_eq h12) ?_
 refine AOps.p rfl (rfl : _ = (AV.int .i64 0)) ?_
 refine AOps.nilR ?_
 refine AW.meet (σ := Int) (fun from13 tm os => ⟨updL tm [(2, (AV.int .u64 from13))], updL os [], { s with lo := s.n }⟩) (fun from13 => impl_Program_after_J1 from13 = some r) ?_ ?_
 ·rintro from13 tm os h
  unfold impl_Program_after_J1 at h
  refine AW.sr ?_
  refine AOps.p rfl (rfl : _ = (AV.int .u64 from13)) ?_
  refine AOps.assignR rfl rfl rfl (rfl : _ = (AV.int .u64 from13)) rfl ?_
  refine AOps.nilR ?_
  cases h
  exact AW.ret ⟨rfl, _, _, rfl, rfl⟩
 intro KJ14
 refine AW.block ?_
 refine AW.res [(1, (AV.int .i64 module6)), (2, (AV.int .u64 from7)), (4, (AV.eptr [(AV.sl z2 f3 e4)] 0)), (14, (AV.sl z9 f10 e11)), (15, (AV.int .i64 (list8.length : Int))), (16, (AV.int .i64 0))] [] ⟨rfl, rfl, rfl, rfl, rfl, rfl, trivial⟩ trivial ?_
 refine AW.loopF (σ := Int × Int) (τ := Unit) (fun (from15, t16) _ => True) (fun (from15, t16) _ tm os => ⟨updL tm [(1, (AV.int .i64 module6)), (2, (AV.int .u64 from15)), (4, (AV.eptr [(AV.sl z2 f3 e4)] 0)), (14, (AV.sl z9 f10 e11)), (15, (AV.int .i64 (list8.length : Int))), (16, (AV.int .i64 t16))], updL os [], { s with lo := s.n }⟩) ?_ (x := (from7, 0)) (y := ()) h trivial
 clear h
 rintro ⟨from15, t16⟩ _ tm os - ee1 h hL1 hR1
 unfold impl_Program_after_S1 at h
 dsimp only at h
 refine AW.sr ?_
 refine AOps.p rfl (rfl : _ = (AV.bool (decide ((t16 : Int) < (list8.length : Int))))) ?_
 refine AOps.nilR ?_
 refine AW.seq ?_
 rcases oite h with ⟨hc17, h⟩ | ⟨hc17, h⟩
 ·refine AW.condT (congrArg AV.bool hc17) ?_
  refine AW.skip ?_
  refine AW.seq ?_
  refine AW.block ?_
  refine AW.sr ?_
  obtain ⟨x18, h19, h⟩ := obind h
  obtain ⟨v22, h20, h21⟩ := idx_sl h12 h19
  cases h20
  refine AOps.pureR rfl rfl rfl h21 rfl (rfl : _ = (AV.eptr [(AV.str x18)] 0)) ?_
  refine AOps.ldE (v := (AV.str x18)) rfl rfl rfl rfl rfl rfl ?_
  refine AOps.assignR rfl rfl rfl (rfl : _ = (AV.str x18)) rfl ?_
  refine AOps.nilR ?_
  refine AW.sr ?_
  refine AOps.p rfl (rfl : _ = (AV.int .u64 0)) ?_
  refine AOps.nilR ?_
  refine AW.seq ?_
  refine AW.sr ?_
  refine AOps.p rfl (rfl : _ = (AV.eptr [(AV.sl z2 f3 e4)] 0)) ?_
  refine AOps.ldE (v := (AV.sl z2 f3 e4)) rfl rfl rfl rfl rfl rfl ?_
  refine AOps.p rfl (rfl : _ = (AV.int .i64 module6)) ?_
  obtain ⟨x23, h24, h⟩ := obind h
  obtain ⟨v27, h25, h26⟩ := idx_sl h5 h24
  obtain ⟨_, rfl, h28⟩ := h25
  obtain ⟨_, _, rfl, h29, h30⟩ := Cs_cons h28
  cases h29
  obtain ⟨_, _, rfl, h31, h32⟩ := Cs_cons h30
  obtain ⟨z33, f34, e35, rfl, h36⟩ := h31
  cases Cs_nil h32
  refine AOps.pureR rfl rfl rfl h26 rfl (rfl : _ = (AV.eptr [(AV.int .i64 x23.Nodes), (AV.sl z33 f34 e35)] 0)) ?_
  refine AOps.p rfl (rfl : _ = (AV.eptr [(AV.int .i64 x23.Nodes), (AV.sl z33 f34 e35)] 1)) ?_
  refine AOps.ldE (v := (AV.sl z33 f34 e35)) rfl rfl rfl rfl rfl rfl ?_
  refine AOps.p rfl (len_eq h36) ?_
  refine AOps.p rfl (rfl : _ = (AV.int .i64 0)) ?_
  refine AOps.nilR ?_
  refine AW.meet (σ := Int) (fun to37 tm os => ⟨updL tm [(1, (AV.int .i64 module6)), (4, (AV.eptr [(AV.sl z2 f3 e4)] 0)), (11, (AV.int .u64 to37)), (14, (AV.sl z9 f10 e11)), (15, (AV.int .i64 (list8.length : Int))), (16, (AV.int .i64 t16))], updL os [], { s with lo := s.n }⟩) (fun to37 => impl_Program_after_J2 t16 to37 = some ee1) ?_ ?_
  ·rintro to37 tm os h
   unfold impl_Program_after_J2 at h
   refine AW.region ?_
   refine AOps.p rfl (rfl : _ = (AV.int .u64 to37)) ?_
   refine AOps.assignR rfl rfl rfl (rfl : _ = (AV.int .u64 to37)) rfl ?_
   refine AOps.nilR ?_
   refine AW.inBlock ?_
   refine AW.region ?_
   refine AOps.p rfl (rfl : _ = (AV.int .i64 (IntKind.wrap .i64 (t16 + 1)))) ?_
   refine AOps.p rfl (rfl : _ = (AV.int .i64 (IntKind.wrap .i64 (t16 + 1)))) ?_
   refine AOps.nilR ?_
   cases h
   exact AW.res [(1, (AV.int .i64 module6)), (2, (AV.int .u64 to37)), (4, (AV.eptr [(AV.sl z2 f3 e4)] 0)), (14, (AV.sl z9 f10 e11)), (15, (AV.int .i64 (list8.length : Int))), (16, (AV.int .i64 (IntKind.wrap .i64 (t16 + 1))))] [] ⟨rfl, rfl, rfl, rfl, rfl, rfl, trivial⟩ trivial (hL1 _ rfl () _ _ trivial)
  intro KJ38
  refine AW.block ?_
  refine AW.res [(1, (AV.int .i64 module6)), (2, (AV.int .u64 from15)), (4, (AV.eptr [(AV.sl z2 f3 e4)] 0)), (10, (AV.str x18)), (11, (AV.int .u64 0)), (14, (AV.sl z9 f10 e11)), (15, (AV.int .i64 (list8.length : Int))), (16, (AV.int .i64 t16)), (25, (AV.sl z33 f34 e35)), (26, (AV.int .i64 (x23.Links.length : Int))), (27, (AV.int .i64 0))] [] ⟨rfl, rfl, rfl, rfl, rfl, rfl, rfl, rfl, rfl, rfl, rfl, trivial⟩ trivial ?_
  refine AW.loopF (σ := Int × Int) (τ := Unit) (fun (to39, t40) _ => True) (fun (to39, t40) _ tm os => ⟨updL tm [(1, (AV.int .i64 module6)), (2, (AV.int .u64 from15)), (4, (AV.eptr [(AV.sl z2 f3 e4)] 0)), (10, (AV.str x18)), (11, (AV.int .u64 to39)), (14, (AV.sl z9 f10 e11)), (15, (AV.int .i64 (list8.length : Int))), (16, (AV.int .i64 t16)), (25, (AV.sl z33 f34 e35)), (26, (AV.int .i64 (x23.Links.length : Int))), (27, (AV.int .i64 t40))], updL os [], { s with lo := s.n }⟩) ?_ (x := (0, 0)) (y := ()) h trivial
  clear h
  rintro ⟨to39, t40⟩ _ tm os - ee2 h hL2 hR2
  unfold impl_Program_after_S2 at h
  dsimp only at h
  refine AW.sr ?_
  refine AOps.p rfl (rfl : _ = (AV.bool (decide ((t40 : Int) < (x23.Links.length : Int))))) ?_
  refine AOps.nilR ?_
  refine AW.seq ?_
  rcases oite h with ⟨hc41, h⟩ | ⟨hc41, h⟩
  ·refine AW.condT (congrArg AV.bool hc41) ?_
   refine AW.skip ?_
   refine AW.seq ?_
   refine AW.block ?_
   refine AW.sr ?_
   obtain ⟨x42, h43, h⟩ := obind h
   obtain ⟨v46, h44, h45⟩ := idx_sl h36 h43
   obtain ⟨_, rfl, h47⟩ := h44
   obtain ⟨_, _, rfl, h48, h49⟩ := Cs_cons h47
   cases h48
   obtain ⟨_, _, rfl, h50, h51⟩ := Cs_cons h49
   cases h50
   obtain ⟨_, _, rfl, h52, h53⟩ := Cs_cons h51
   cases h52
   obtain ⟨_, _, rfl, h54, h55⟩ := Cs_cons h53
   cases h54
   cases Cs_nil h55
   refine AOps.pureR rfl rfl rfl h45 rfl (rfl : _ = (AV.eptr [(AV.int .i64 x42.From), (AV.int .i64 x42.To), (AV.str x42.Act), (AV.int .i64 x42.Module)] 0)) ?_
   refine AOps.ldE (v := (AV.agg [(AV.int .i64 x42.From), (AV.int .i64 x42.To), (AV.str x42.Act), (AV.int .i64 x42.Module)])) rfl rfl rfl rfl rfl rfl ?_
   refine AOps.allocP rfl rfl rfl rfl ⟨rfl, rfl⟩ rfl ?_
   refine AOps.stP (v := (AV.agg [(AV.int .i64 x42.From), (AV.int .i64 x42.To), (AV.str x42.Act), (AV.int .i64 x42.Module)])) rfl rfl rfl rfl rfl rfl rfl rfl rfl (lt_b rfl) rfl ?_
   refine AOps.nilR ?_
   refine AW.sr ?_
   refine AOps.p rfl (rfl : _ = (AV.int .u64 from15)) ?_
   refine AOps.p rfl (rfl : _ = (AV.eptr [(AV.int .i64 x42.From), (AV.int .i64 x42.To), (AV.str x42.Act), (AV.int .i64 x42.Module)] 0)) ?_
   refine AOps.ldE (v := (AV.int .i64 x42.From)) rfl rfl rfl rfl rfl rfl ?_
   obtain ⟨q56, h57, h⟩ := obind h
   refine AOps.pureR rfl rfl rfl (shr_ok h57) rfl (rfl : _ = (AV.int .u64 q56)) ?_
   refine AOps.p rfl (rfl : _ = (AV.int .u64 (andI .u64 q56 1))) ?_
   refine AOps.p rfl (rfl : _ = (AV.bool ((andI .u64 q56 1) == 1))) ?_
   refine AOps.p rfl (rfl : _ = (AV.bool ((andI .u64 q56 1) == 1))) ?_
   obtain ⟨b59, hb, h⟩ := obind h
   refine AOps.split 5 (fun f' => ∃ tm' os', f' = ⟨updL tm' [(1, (AV.int .i64 module6)), (2, (AV.int .u64 from15)), (4, (AV.eptr [(AV.sl z2 f3 e4)] 0)), (10, (AV.str x18)), (11, (AV.int .u64 to39)), (13, (AV.eptr [(AV.int .i64 x42.From), (AV.int .i64 x42.To), (AV.str x42.Act), (AV.int .i64 x42.Module)] 0)), (14, (AV.sl z9 f10 e11)), (15, (AV.int .i64 (list8.length : Int))), (16, (AV.int .i64 t16)), (25, (AV.sl z33 f34 e35)), (26, (AV.int .i64 (x23.Links.length : Int))), (27, (AV.int .i64 t40)), (42, (AV.bool b59))], updL os' [], { s with lo := s.n }⟩) ?_ ?_
   ·rcases oite hb with ⟨hc58, hb⟩ | ⟨hc58, hb⟩
    ·have h := hb
     refine AOps.know (d := 37) rfl hc58 ?_
     refine AOps.ldE (v := (AV.agg [(AV.sl z2 f3 e4)])) rfl rfl rfl rfl rfl rfl ?_
     refine AOps.ldE (v := (AV.agg [(AV.int .i64 x42.From), (AV.int .i64 x42.To), (AV.str x42.Act), (AV.int .i64 x42.Module)])) rfl rfl rfl rfl rfl rfl ?_
     refine AOps.p rfl (rfl : _ = (AV.str x18)) ?_
     obtain ⟨y60, h61, h⟩ := obind h
     refine AOps.callP (g := 56) (args := [(AV.agg [(AV.sl z2 f3 e4)]), (AV.agg [(AV.int .i64 x42.From), (AV.int .i64 x42.To), (AV.str x42.Act), (AV.int .i64 x42.Module)]), (AV.str x18)]) (p := (rB) y60) rfl rfl rfl (impl_Program_matches_ok rec20_ok h5 h61 hWF) ?_
     intro _ o63 h62
     cases h62
     refine AOps.p rfl (rfl : _ = (AV.bool y60)) ?_
     refine AOps.resR [(1, (AV.int .i64 module6)), (2, (AV.int .u64 from15)), (4, (AV.eptr [(AV.sl z2 f3 e4)] 0)), (10, (AV.str x18)), (11, (AV.int .u64 to39)), (13, (AV.eptr [(AV.int .i64 x42.From), (AV.int .i64 x42.To), (AV.str x42.Act), (AV.int .i64 x42.Module)] 0)), (14, (AV.sl z9 f10 e11)), (15, (AV.int .i64 (list8.length : Int))), (16, (AV.int .i64 t16)), (25, (AV.sl z33 f34 e35)), (26, (AV.int .i64 (x23.Links.length : Int))), (27, (AV.int .i64 t40)), (42, (AV.bool b59))] [] ?_ ?_ _ ⟨_, _, rfl⟩
     ·exact ⟨rfl, rfl, rfl, rfl, rfl, rfl, rfl, rfl, rfl, rfl, rfl, rfl, congrArg AV.bool (Option.some.inj h), trivial⟩
     exact trivial
    ·refine AOps.know (d := 37) rfl hc58 ?_
     refine AOps.skipR rfl rfl ?_
     refine AOps.skipR rfl rfl ?_
     refine AOps.skipR rfl rfl ?_
     refine AOps.skipR rfl rfl ?_
     refine AOps.p rfl (rfl : _ = (AV.bool false)) ?_
     refine AOps.resR [(1, (AV.int .i64 module6)), (2, (AV.int .u64 from15)), (4, (AV.eptr [(AV.sl z2 f3 e4)] 0)), (10, (AV.str x18)), (11, (AV.int .u64 to39)), (13, (AV.eptr [(AV.int .i64 x42.From), (AV.int .i64 x42.To), (AV.str x42.Act), (AV.int .i64 x42.Module)] 0)), (14, (AV.sl z9 f10 e11)), (15, (AV.int .i64 (list8.length : Int))), (16, (AV.int .i64 t16)), (25, (AV.sl z33 f34 e35)), (26, (AV.int .i64 (x23.Links.length : Int))), (27, (AV.int .i64 t40)), (42, (AV.bool b59))] [] ?_ ?_ _ ⟨_, _, rfl⟩
     ·exact ⟨rfl, rfl, rfl, rfl, rfl, rfl, rfl, rfl, rfl, rfl, rfl, rfl, congrArg AV.bool (Option.some.inj hb), trivial⟩
     exact trivial
   rintro _ ⟨tm, os, rfl⟩
   refine AOps.nilR ?_
   refine AW.meet (σ := Int) (fun to64 tm os => ⟨updL tm [(1, (AV.int .i64 module6)), (2, (AV.int .u64 from15)), (4, (AV.eptr [(AV.sl z2 f3 e4)] 0)), (10, (AV.str x18)), (11, (AV.int .u64 to64)), (14, (AV.sl z9 f10 e11)), (15, (AV.int .i64 (list8.length : Int))), (16, (AV.int .i64 t16)), (25, (AV.sl z33 f34 e35)), (26, (AV.int .i64 (x23.Links.length : Int))), (27, (AV.int .i64 t40))], updL os [], { s with lo := s.n }⟩) (fun to64 => impl_Program_after_J3 t40 to64 = some ee2) ?_ ?_
   ·rintro to64 tm os h
    unfold impl_Program_after_J3 at h
    refine AW.inBlock ?_
    refine AW.region ?_
    refine AOps.p rfl (rfl : _ = (AV.int .i64 (IntKind.wrap .i64 (t40 + 1)))) ?_
    refine AOps.p rfl (rfl : _ = (AV.int .i64 (IntKind.wrap .i64 (t40 + 1)))) ?_
    refine AOps.nilR ?_
    cases h
    exact AW.res [(1, (AV.int .i64 module6)), (2, (AV.int .u64 from15)), (4, (AV.eptr [(AV.sl z2 f3 e4)] 0)), (10, (AV.str x18)), (11, (AV.int .u64 to64)), (14, (AV.sl z9 f10 e11)), (15, (AV.int .i64 (list8.length : Int))), (16, (AV.int .i64 t16)), (25, (AV.sl z33 f34 e35)), (26, (AV.int .i64 (x23.Links.length : Int))), (27, (AV.int .i64 (IntKind.wrap .i64 (t40 + 1))))] [] ⟨rfl, rfl, rfl, rfl, rfl, rfl, rfl, rfl, rfl, rfl, rfl, trivial⟩ trivial (hL2 _ rfl () _ _ trivial)
   intro KJ65
   rcases oite h with ⟨hc66, h⟩ | ⟨hc66, h⟩
   ·refine AW.condT (congrArg AV.bool hc66) ?_
    refine AW.region ?_
    refine AOps.p rfl (rfl : _ = (AV.int .u64 to39)) ?_
    refine AOps.p rfl (rfl : _ = (AV.eptr [(AV.int .i64 x42.From), (AV.int .i64 x42.To), (AV.str x42.Act), (AV.int .i64 x42.Module)] 1)) ?_
    refine AOps.ldE (v := (AV.int .i64 x42.To)) rfl rfl rfl rfl rfl rfl ?_
    obtain ⟨q67, h68, h⟩ := obind h
    refine AOps.pureR rfl rfl rfl (shl_ok h68) rfl (rfl : _ = (AV.int .u64 q67)) ?_
    refine AOps.p rfl (rfl : _ = (AV.int .u64 (orI .u64 to39 q67))) ?_
    refine AOps.assignR rfl rfl rfl (rfl : _ = (AV.int .u64 (orI .u64 to39 q67))) rfl ?_
    refine AOps.nilR ?_
    exact AW.res [(1, (AV.int .i64 module6)), (2, (AV.int .u64 from15)), (4, (AV.eptr [(AV.sl z2 f3 e4)] 0)), (10, (AV.str x18)), (11, (AV.int .u64 (orI .u64 to39 q67))), (14, (AV.sl z9 f10 e11)), (15, (AV.int .i64 (list8.length : Int))), (16, (AV.int .i64 t16)), (25, (AV.sl z33 f34 e35)), (26, (AV.int .i64 (x23.Links.length : Int))), (27, (AV.int .i64 t40))] [] ⟨rfl, rfl, rfl, rfl, rfl, rfl, rfl, rfl, rfl, rfl, rfl, trivial⟩ trivial (KJ65 (orI .u64 to39 q67) _ _ h)
   refine AW.condF (congrArg AV.bool hc66) ?_
   refine AW.skip ?_
   exact AW.res [(1, (AV.int .i64 module6)), (2, (AV.int .u64 from15)), (4, (AV.eptr [(AV.sl z2 f3 e4)] 0)), (10, (AV.str x18)), (11, (AV.int .u64 to39)), (14, (AV.sl z9 f10 e11)), (15, (AV.int .i64 (list8.length : Int))), (16, (AV.int .i64 t16)), (25, (AV.sl z33 f34 e35)), (26, (AV.int .i64 (x23.Links.length : Int))), (27, (AV.int .i64 t40))] [] ⟨rfl, rfl, rfl, rfl, rfl, rfl, rfl, rfl, rfl, rfl, rfl, trivial⟩ trivial (KJ65 (to39) _ _ h)
  refine AW.condF (congrArg AV.bool hc41) ?_
  refine AW.exit rfl ?_
  obtain ⟨r69, hm, hx⟩ := omap h
  clear h
  subst hx
  have hx := hR2 _ rfl
  rw [hx] at hm
  have h := hm
  exact AW.res [(1, (AV.int .i64 module6)), (4, (AV.eptr [(AV.sl z2 f3 e4)] 0)), (11, (AV.int .u64 to39)), (14, (AV.sl z9 f10 e11)), (15, (AV.int .i64 (list8.length : Int))), (16, (AV.int .i64 t16))] [] ⟨rfl, rfl, rfl, rfl, rfl, rfl, trivial⟩ trivial (KJ38 (to39) _ _ h)
 refine AW.condF (congrArg AV.bool hc17) ?_
 refine AW.exit rfl ?_
 obtain ⟨r70, hm, hx⟩ := omap h
 clear h
 subst hx
 have hx := hR1 _ rfl
 rw [hx] at hm
 have h := hm
 exact AW.res [(2, (AV.int .u64 from15))] [] ⟨rfl, trivial⟩ trivial (KJ14 (from15) _ _ h)
theorem impl_Program_exit_ok {p1 : ProgramT} {module6 : Int} {z2 : Nat} {f3 : Bool} {e4 : List AV} {s : St} (h5 : LR rModule 2 p1.Modules z2 e4) {r : Int} (h : impl_Program_exit p1 module6 = some r) (hs : WF s) : ACall Cf 42 [(AV.agg [(AV.sl z2 f3 e4)]), (AV.int .i64 module6)] s fun v _ s' => (rI .i64) r v ∧ s' = s := by
 refine ACall.pure rfl rfl rfl .I ?_
 have hWF := hs.lo'
 unfold impl_Program_exit at h
 refine AW.sr ?_
 refine AOps.makeR rfl rfl rfl rfl rfl rfl (rfl : _ = (AV.eptr [(AV.sl z2 f3 e4)] 0)) ?_
 refine AOps.p rfl (rfl : _ = (AV.int .i64 0)) ?_
 refine AOps.nilR ?_
 refine AW.sr ?_
 refine AOps.p rfl (rfl : _ = (AV.eptr [(AV.sl z2 f3 e4)] 0)) ?_
 refine AOps.ldE (v := (AV.sl z2 f3 e4)) rfl rfl rfl rfl rfl rfl ?_
 refine AOps.p rfl (rfl : _ = (AV.int .i64 module6)) ?_
 obtain ⟨x7, h8, h⟩ := obind h
 obtain ⟨v11, h9, h10⟩ := idx_sl h5 h8
 obtain ⟨_, rfl, h12⟩ := h9
 obtain ⟨_, _, rfl, h13, h14⟩ := Cs_cons h12
 cases h13
 obtain ⟨_, _, rfl, h15, h16⟩ := Cs_cons h14
 obtain ⟨z17, f18, e19, rfl, h20⟩ := h15
 cases Cs_nil h16
 refine AOps.pureR rfl rfl rfl h10 rfl (rfl : _ = (AV.eptr [(AV.int .i64 x7.Nodes), (AV.sl z17 f18 e19)] 0)) ?_
 refine AOps.p rfl (rfl : _ = (AV.eptr [(AV.int .i64 x7.Nodes), (AV.sl z17 f18 e19)] 0)) ?_
 refine AOps.ldE (v := (AV.int .i64 x7.Nodes)) rfl rfl rfl rfl rfl rfl ?_
 refine AOps.p rfl (rfl : _ = (AV.int .i64 (IntKind.wrap .i64 (x7.Nodes - 1)))) ?_
 refine AOps.assignR rfl rfl rfl (rfl : _ = (AV.int .i64 (IntKind.wrap .i64 (x7.Nodes - 1)))) rfl ?_
 refine AOps.nilR ?_
 cases h
 exact AW.ret ⟨rfl, _, _, rfl, rfl⟩
theorem impl_Program_can_B_ok {rec20 : ProgramT → Int → Int → (List (List UInt8)) → Option Bool} {p1 : ProgramT} {module6 : Int} {node7 : Int} {list8 : List (List UInt8)} {z2 : Nat} {f3 : Bool} {e4 : List AV} {z9 : Nat} {f10 : Bool} {e11 : List AV} {s : St} (rec20_ok : ∀ {a1 : ProgramT} {a6 : Int} {a7 : Int} {a8 : List (List UInt8)} {z2 : Nat} {f3 : Bool} {e4 : List AV} {z9 : Nat} {f10 : Bool} {e11 : List AV} {s : St} (h5 : LR rModule 2 a1.Modules z2 e4) (h12 : LR rS 1 a8 z9 e11) {r : Bool}, rec20 a1 a6 a7 a8 = some r → WF s → ACall Cf 20 [(AV.agg [(AV.sl z2 f3 e4)]), (AV.int .i64 a6), (AV.int .i64 a7), (AV.sl z9 f10 e11)] s fun v _ s' => (rB) r v ∧ s' = s) (h5 : LR rModule 2 p1.Modules z2 e4) (h12 : LR rS 1 list8 z9 e11) {r : Bool} (h : impl_Program_can_B rec20 p1 module6 node7 list8 = some r) (hs : WF s) : ACall Cf 20 [(AV.agg [(AV.sl z2 f3 e4)]), (AV.int .i64 module6), (AV.int .i64 node7), (AV.sl z9 f10 e11)] s fun v _ s' => (rB) r v ∧ s' = s := by
 refine ACall.pure rfl rfl rfl .B ?_
 have hWF := hs.lo'
 unfold impl_Program_can_B at h
 refine AW.sr ?_
 refine AOps.makeR rfl rfl rfl rfl rfl rfl (rfl : _ = (AV.eptr [(AV.sl z2 f3 e4)] 0)) ?_
 refine AOps.p rfl (rfl : _ = (AV.bool false)) ?_
 refine AOps.nilR ?_
 refine AW.sr ?_
 refine AOps.ldE (v := (AV.agg [(AV.sl z2 f3 e4)])) rfl rfl rfl rfl rfl rfl ?_
 refine AOps.p rfl (rfl : _ = (AV.int .i64 module6)) ?_
 refine AOps.p rfl (rfl : _ = (AV.int .i64 node7)) ?_
 obtain ⟨q13, h14, h⟩ := obind h
 refine AOps.pureR rfl rfl rfl (shl_ok h14) rfl (rfl : _ = (AV.int .u64 q13)) ?_
 refine AOps.p rfl (rfl : _ = (AV.sl z9 f10 e11)) ?_
 obtain ⟨y15, h16, h⟩ := obind h
 refine AOps.callDP (g := 41) (args := [(AV.agg [(AV.sl z2 f3 e4)]), (AV.int .i64 module6), (AV.int .u64 q13), (AV.sl z9 f10 e11)]) (p := (rI .u64) y15) rfl rfl rfl (impl_Program_after_ok rec20_ok h5 h12 h16 hWF.still) (fun v hv => Nice.pure (k := FINK) (p := (rI .u64) y15) .I _ v hv) ?_
 intro _ o18 h17
 cases h17
 refine AOps.ldE (v := (AV.agg [(AV.sl z2 f3 e4)])) rfl rfl rfl rfl rfl rfl ?_
 refine AOps.p rfl (rfl : _ = (AV.int .i64 module6)) ?_
 obtain ⟨y19, h20, h⟩ := obind h
 refine AOps.callDP (g := 42) (args := [(AV.agg [(AV.sl z2 f3 e4)]), (AV.int .i64 module6)]) (p := (rI .i64) y19) rfl rfl rfl (impl_Program_exit_ok h5 h20 hWF.still) (fun v hv => Nice.pure (k := FINK) (p := (rI .i64) y19) .I _ v hv) ?_
 intro _ o22 h21
 cases h21
 obtain ⟨q23, h24, h⟩ := obind h
 refine AOps.pureR rfl rfl rfl (shr_ok h24) rfl (rfl : _ = (AV.int .u64 q23)) ?_
 refine AOps.p rfl (rfl : _ = (AV.int .u64 (andI .u64 q23 1))) ?_
 refine AOps.p rfl (rfl : _ = (AV.bool ((andI .u64 q23 1) == 1))) ?_
 refine AOps.assignR rfl rfl rfl (rfl : _ = (AV.bool ((andI .u64 q23 1) == 1))) rfl ?_
 refine AOps.nilR ?_
 cases h
 exact AW.ret ⟨rfl, _, _, rfl, rfl⟩
theorem impl_Program_can_N_ok (n : Nat) : ∀ {a1 : ProgramT} {a6 : Int} {a7 : Int} {a8 : List (List UInt8)} {z2 : Nat} {f3 : Bool} {e4 : List AV} {z9 : Nat} {f10 : Bool} {e11 : List AV} {s : St} (h5 : LR rModule 2 a1.Modules z2 e4) (h12 : LR rS 1 a8 z9 e11) {r : Bool}, impl_Program_can_N n a1 a6 a7 a8 = some r → WF s → ACall Cf 20 [(AV.agg [(AV.sl z2 f3 e4)]), (AV.int .i64 a6), (AV.int .i64 a7), (AV.sl z9 f10 e11)] s fun v _ s' => (rB) r v ∧ s' = s := by
 induction n with
 | zero => intros; rename_i h _; cases h
 | succ n ih =>
  intros
  rename_i h hs
  exact impl_Program_can_B_ok ih ‹_› ‹_› h hs
theorem impl_Program_can_ok {a1 : ProgramT} {a6 : Int} {a7 : Int} {a8 : List (List UInt8)} {z2 : Nat} {f3 : Bool} {e4 : List AV} {z9 : Nat} {f10 : Bool} {e11 : List AV} {s : St} (h5 : LR rModule 2 a1.Modules z2 e4) (h12 : LR rS 1 a8 z9 e11) {r : Bool} (h : impl_Program_can a1 a6 a7 a8 = some r) (hs : WF s) : ACall Cf 20 [(AV.agg [(AV.sl z2 f3 e4)]), (AV.int .i64 a6), (AV.int .i64 a7), (AV.sl z9 f10 e11)] s fun v _ s' => (rB) r v ∧ s' = s := impl_Program_can_N_ok 1000 h5 h12 h hs
theorem impl_CountProgramWords_ok {p1 : ProgramT} {length6 : Int} {z2 : Nat} {f3 : Bool} {e4 : List AV} {s : St} (h5 : LR rModule 2 p1.Modules z2 e4) {r : Int × Int} (h : impl_CountProgramWords p1 length6 = some r) (hs : WF s) : ACall Cf 7 [(AV.agg [(AV.sl z2 f3 e4)]), (AV.int .i64 length6)] s fun v _ s' => (fun x => rT [(rI .i64) x.1, (rI .i64) x.2]) r v ∧ s' = s := by
 refine ACall.pure rfl rfl rfl (.T (.cons .I (.cons .I .nil))) ?_
 have hWF := hs.lo'
 unfold impl_CountProgramWords at h
 refine AW.sr ?_
 refine AOps.makeR rfl rfl rfl rfl rfl rfl (rfl : _ = (AV.eptr [(AV.sl z2 f3 e4)] 0)) ?_
 refine AOps.p rfl (rfl : _ = (AV.int .i64 0)) ?_
 refine AOps.p rfl (rfl : _ = (AV.int .i64 0)) ?_
 refine AOps.nilR ?_
 refine AW.seq ?_
 refine AW.block ?_
 refine AW.sr ?_
 refine AOps.ldE (v := (AV.agg [(AV.sl z2 f3 e4)])) rfl rfl rfl rfl rfl rfl ?_
 obtain ⟨y7, h8, h⟩ := obind h
 refine AOps.callP (g := 16) (args := [(AV.agg [(AV.sl z2 f3 e4)])]) (p := (rB) y7) rfl rfl rfl (impl_ValidProgram_ok h5 h8 hWF) ?_
 intro _ o10 h9
 cases h9
 refine AOps.p rfl (rfl : _ = (AV.bool (!y7))) ?_
 refine AOps.assignR rfl rfl rfl (rfl : _ = (AV.bool (!y7))) rfl ?_
 refine AOps.nilR ?_
 rcases oite h with ⟨hc11, h⟩ | ⟨hc11, h⟩
 ·refine AW.condT (congrArg AV.bool hc11) ?_
  refine AW.sr ?_
  refine AOps.p rfl (rfl : _ = (AV.int .i64 0)) ?_
  refine AOps.p rfl (rfl : _ = (AV.int .i64 1)) ?_
  refine AOps.nilR ?_
  cases h
  exact AW.ret ⟨rfl, _, _, rfl, ⟨_, rfl, (.cons rfl (.cons rfl .nil))⟩⟩
 refine AW.condF (congrArg AV.bool hc11) ?_
 refine AW.sr ?_
 refine AOps.p rfl (rfl : _ = (AV.int .i64 length6)) ?_
 obtain ⟨y12, h13, h⟩ := obind h
 refine AOps.callP (g := 17) (args := [(AV.int .i64 length6), (AV.int .i64 0), (AV.int .i64 5)]) (p := (rB) y12) rfl rfl rfl (impl_within_ok  h13 hWF) ?_
 intro _ o15 h14
 cases h14
 refine AOps.p rfl (rfl : _ = (AV.bool (!y12))) ?_
 refine AOps.assignR rfl rfl rfl (rfl : _ = (AV.bool (!y12))) rfl ?_
 refine AOps.nilR ?_
 rcases oite h with ⟨hc16, h⟩ | ⟨hc16, h⟩
 ·refine AW.condT (congrArg AV.bool hc16) ?_
  refine AW.sr ?_
  refine AOps.p rfl (rfl : _ = (AV.int .i64 0)) ?_
  refine AOps.p rfl (rfl : _ = (AV.int .i64 2)) ?_
  refine AOps.nilR ?_
  cases h
  exact AW.ret ⟨rfl, _, _, rfl, ⟨_, rfl, (.cons rfl (.cons rfl .nil))⟩⟩
 refine AW.condF (congrArg AV.bool hc16) ?_
 refine AW.skip ?_
 refine AW.inBlock ?_
 refine AW.sr ?_
 refine AOps.p rfl (rfl : _ = (AV.int .i64 length6)) ?_
 obtain ⟨y17, h18, h⟩ := obind h
 refine AOps.callP (g := 18) (args := [(AV.int .i64 length6)]) (p := (fun x => rT [(rI .i64) x.1, (rI .i64) x.2]) y17) rfl rfl rfl (impl_CountMatched_ok  h18 hWF) ?_
 intro _ o25 h19
 obtain ⟨_, rfl, h20⟩ := h19
 obtain ⟨_, _, rfl, h21, h22⟩ := Cs_cons h20
 cases h21
 obtain ⟨_, _, rfl, h23, h24⟩ := Cs_cons h22
 cases h23
 cases Cs_nil h24
 refine AOps.p rfl (rfl : _ = (AV.tup [(AV.int .i64 y17.1), (AV.int .i64 y17.2)])) ?_
 refine AOps.p rfl (rfl : _ = (AV.int .i64 y17.1)) ?_
 refine AOps.p rfl (rfl : _ = (AV.int .i64 y17.2)) ?_
 refine AOps.assignR rfl rfl rfl (rfl : _ = (AV.int .i64 y17.1)) rfl ?_
 refine AOps.assignR rfl rfl rfl (rfl : _ = (AV.int .i64 y17.2)) rfl ?_
 refine AOps.nilR ?_
 refine AW.sr ?_
 refine AOps.p rfl (rfl : _ = (AV.int .i64 0)) ?_
 refine AOps.nilR ?_
 refine AW.seq ?_
 refine AW.sr ?_
 refine AOps.p rfl (rfl : _ = (AV.int .i64 y17.1)) ?_
 refine AOps.p rfl (rfl : _ = (AV.int .i64 0)) ?_
 refine AOps.nilR ?_
 refine AW.meet (σ := Int) (fun out26 tm os => ⟨updL tm [(8, (AV.int .i64 out26))], updL os [], { s with lo := s.n }⟩) (fun out26 => impl_CountProgramWords_J1 out26 = some r) ?_ ?_
 ·rintro out26 tm os h
  unfold impl_CountProgramWords_J1 at h
  refine AW.sr ?_
  refine AOps.p rfl (rfl : _ = (AV.int .i64 out26)) ?_
  refine AOps.assignR rfl rfl rfl (rfl : _ = (AV.int .i64 out26)) rfl ?_
  refine AOps.p rfl (rfl : _ = (AV.int .i64 0)) ?_
  refine AOps.nilR ?_
  cases h
  exact AW.ret ⟨rfl, _, _, rfl, ⟨_, rfl, (.cons rfl (.cons rfl .nil))⟩⟩
 intro KJ27
 refine AW.block ?_
 refine AW.res [(1, (AV.int .i64 length6)), (2, (AV.eptr [(AV.sl z2 f3 e4)] 0)), (8, (AV.int .i64 0)), (25, (AV.int .i64 y17.1)), (26, (AV.int .i64 0))] [] ⟨rfl, rfl, rfl, rfl, rfl, trivial⟩ trivial ?_
 refine AW.loopF (σ := Int × Int) (τ := Unit) (fun (out28, t29) _ => True) (fun (out28, t29) _ tm os => ⟨updL tm [(1, (AV.int .i64 length6)), (2, (AV.eptr [(AV.sl z2 f3 e4)] 0)), (8, (AV.int .i64 out28)), (25, (AV.int .i64 y17.1)), (26, (AV.int .i64 t29))], updL os [], { s with lo := s.n }⟩) ?_ (x := (0, 0)) (y := ()) h trivial
 clear h
 rintro ⟨out28, t29⟩ _ tm os - ee1 h hL1 hR1
 unfold impl_CountProgramWords_S1 at h
 dsimp only at h
 refine AW.sr ?_
 refine AOps.p rfl (rfl : _ = (AV.bool (decide ((t29 : Int) < y17.1)))) ?_
 refine AOps.nilR ?_
 refine AW.seq ?_
 rcases oite h with ⟨hc30, h⟩ | ⟨hc30, h⟩
 ·refine AW.condT (congrArg AV.bool hc30) ?_
  refine AW.skip ?_
  refine AW.seq ?_
  refine AW.block ?_
  refine AW.sr ?_
  refine AOps.p rfl (rfl : _ = (AV.int .i64 t29)) ?_
  refine AOps.assignR rfl rfl rfl (rfl : _ = (AV.int .i64 t29)) rfl ?_
  refine AOps.nilR ?_
  refine AW.sr ?_
  refine AOps.p rfl (rfl : _ = (AV.int .i64 length6)) ?_
  refine AOps.p rfl (rfl : _ = (AV.int .i64 t29)) ?_
  obtain ⟨y31, h32, h⟩ := obind h
  refine AOps.callP (g := 19) (args := [(AV.int .i64 length6), (AV.int .i64 t29)]) (p := (fun x => rT [rS x.1, (rI .i64) x.2]) y31) rfl rfl rfl (impl_MatchedAt_ok  h32 hWF) ?_
  intro _ o39 h33
  obtain ⟨_, rfl, h34⟩ := h33
  obtain ⟨_, _, rfl, h35, h36⟩ := Cs_cons h34
  cases h35
  obtain ⟨_, _, rfl, h37, h38⟩ := Cs_cons h36
  cases h37
  cases Cs_nil h38
  refine AOps.p rfl (rfl : _ = (AV.tup [(AV.str y31.1), (AV.int .i64 y31.2)])) ?_
  refine AOps.p rfl (rfl : _ = (AV.str y31.1)) ?_
  refine AOps.p rfl (rfl : _ = (AV.int .i64 y31.2)) ?_
  refine AOps.assignR rfl rfl rfl (rfl : _ = (AV.str y31.1)) rfl ?_
  refine AOps.assignR rfl rfl rfl (rfl : _ = (AV.int .i64 y31.2)) rfl ?_
  refine AOps.nilR ?_
  refine AW.sr ?_
  refine AOps.ldE (v := (AV.agg [(AV.sl z2 f3 e4)])) rfl rfl rfl rfl rfl rfl ?_
  refine AOps.p rfl (rfl : _ = (AV.str y31.1)) ?_
  obtain ⟨y40, h41, h⟩ := obind h
  refine AOps.callDP (g := 21) (args := [(AV.str y31.1)]) (p := (rL rS 1) y40) rfl rfl rfl (impl_factors_ok  h41 hWF.still) (fun v hv => Nice.pure (k := FINK) (p := (rL rS 1) y40) (.L fun _ => .S) _ v hv) ?_
  intro _ o47 h42
  obtain ⟨z43, f44, e45, rfl, h46⟩ := h42
  obtain ⟨y48, h49, h⟩ := obind h
  refine AOps.callDP (g := 20) (args := [(AV.agg [(AV.sl z2 f3 e4)]), (AV.int .i64 0), (AV.int .i64 0), (AV.sl z43 f44 e45)]) (p := (rB) y48) rfl rfl rfl (impl_Program_can_ok h5 h46 h49 hWF.still) (fun v hv => Nice.pure (k := FINK) (p := (rB) y48) .B _ v hv) ?_
  intro _ o51 h50
  cases h50
  refine AOps.nilR ?_
  refine AW.meet (σ := Int) (fun out52 tm os => ⟨updL tm [(1, (AV.int .i64 length6)), (2, (AV.eptr [(AV.sl z2 f3 e4)] 0)), (8, (AV.int .i64 out52)), (25, (AV.int .i64 y17.1)), (26, (AV.int .i64 t29))], updL os [], { s with lo := s.n }⟩) (fun out52 => impl_CountProgramWords_J2 t29 out52 = some ee1) ?_ ?_
  ·rintro out52 tm os h
   unfold impl_CountProgramWords_J2 at h
   refine AW.inBlock ?_
   refine AW.region ?_
   refine AOps.p rfl (rfl : _ = (AV.int .i64 (IntKind.wrap .i64 (t29 + 1)))) ?_
   refine AOps.p rfl (rfl : _ = (AV.int .i64 (IntKind.wrap .i64 (t29 + 1)))) ?_
   refine AOps.nilR ?_
   cases h
   exact AW.res [(1, (AV.int .i64 length6)), (2, (AV.eptr [(AV.sl z2 f3 e4)] 0)), (8, (AV.int .i64 out52)), (25, (AV.int .i64 y17.1)), (26, (AV.int .i64 (IntKind.wrap .i64 (t29 + 1))))] [] ⟨rfl, rfl, rfl, rfl, rfl, trivial⟩ trivial (hL1 _ rfl () _ _ trivial)
  intro KJ53
  rcases oite h with ⟨hc54, h⟩ | ⟨hc54, h⟩
  ·refine AW.condT (congrArg AV.bool hc54) ?_
   refine AW.region ?_
   refine AOps.p rfl (rfl : _ = (AV.int .i64 out28)) ?_
   refine AOps.p rfl (rfl : _ = (AV.int .i64 (IntKind.wrap .i64 (out28 + 1)))) ?_
   refine AOps.assignR rfl rfl rfl (rfl : _ = (AV.int .i64 (IntKind.wrap .i64 (out28 + 1)))) rfl ?_
   refine AOps.nilR ?_
   exact AW.res [(1, (AV.int .i64 length6)), (2, (AV.eptr [(AV.sl z2 f3 e4)] 0)), (8, (AV.int .i64 (IntKind.wrap .i64 (out28 + 1)))), (25, (AV.int .i64 y17.1)), (26, (AV.int .i64 t29))] [] ⟨rfl, rfl, rfl, rfl, rfl, trivial⟩ trivial (KJ53 (IntKind.wrap .i64 (out28 + 1)) _ _ h)
  refine AW.condF (congrArg AV.bool hc54) ?_
  refine AW.skip ?_
  exact AW.res [(1, (AV.int .i64 length6)), (2, (AV.eptr [(AV.sl z2 f3 e4)] 0)), (8, (AV.int .i64 out28)), (25, (AV.int .i64 y17.1)), (26, (AV.int .i64 t29))] [] ⟨rfl, rfl, rfl, rfl, rfl, trivial⟩ trivial (KJ53 (out28) _ _ h)
 refine AW.condF (congrArg AV.bool hc30) ?_
 refine AW.exit rfl ?_
 obtain ⟨r55, hm, hx⟩ := omap h
 clear h
 subst hx
 have hx := hR1 _ rfl
 rw [hx] at hm
 have h := hm
 exact AW.res [(8, (AV.int .i64 out28))] [] ⟨rfl, trivial⟩ trivial (KJ27 (out28) _ _ h)
theorem laws_eqLink_ok {a1 : Link} {b2 : Link} {s : St} {r : Bool} (h : laws_eqLink a1 b2 = some r) (hs : WF s) : ACall Cf 66 [(AV.agg [(AV.int .i64 a1.From), (AV.int .i64 a1.To), (AV.str a1.Act), (AV.int .i64 a1.Module)]), (AV.agg [(AV.int .i64 b2.From), (AV.int .i64 b2.To), (AV.str b2.Act), (AV.int .i64 b2.Module)])] s fun v _ s' => (rB) r v ∧ s' = s := by
 refine ACall.pure rfl rfl rfl .B ?_
 have hWF := hs.lo'
 unfold laws_eqLink at h
 refine AW.sr ?_
 refine AOps.makeR rfl rfl rfl rfl rfl rfl (rfl : _ = (AV.eptr [(AV.int .i64 a1.From), (AV.int .i64 a1.To), (AV.str a1.Act), (AV.int .i64 a1.Module)] 0)) ?_
 refine AOps.makeR rfl rfl rfl rfl rfl rfl (rfl : _ = (AV.eptr [(AV.int .i64 b2.From), (AV.int .i64 b2.To), (AV.str b2.Act), (AV.int .i64 b2.Module)] 0)) ?_
 refine AOps.p rfl (rfl : _ = (AV.bool false)) ?_
 refine AOps.nilR ?_
 refine AW.seq ?_
 refine AW.sr ?_
 refine AOps.p rfl (rfl : _ = (AV.eptr [(AV.int .i64 a1.From), (AV.int .i64 a1.To), (AV.str a1.Act), (AV.int .i64 a1.Module)] 0)) ?_
 refine AOps.ldE (v := (AV.int .i64 a1.From)) rfl rfl rfl rfl rfl rfl ?_
 refine AOps.p rfl (rfl : _ = (AV.eptr [(AV.int .i64 b2.From), (AV.int .i64 b2.To), (AV.str b2.Act), (AV.int .i64 b2.Module)] 0)) ?_
 refine AOps.ldE (v := (AV.int .i64 b2.From)) rfl rfl rfl rfl rfl rfl ?_
 refine AOps.p rfl (rfl : _ = (AV.bool (a1.From != b2.From))) ?_
 refine AOps.nilR ?_
 rcases oite h with ⟨hc3, h⟩ | ⟨hc3, h⟩
 ·refine AW.condT (congrArg AV.bool hc3) ?_
  refine AW.sr ?_
  refine AOps.p rfl (rfl : _ = (AV.bool false)) ?_
  refine AOps.nilR ?_
  cases h
  exact AW.ret ⟨rfl, _, _, rfl, rfl⟩
 refine AW.condF (congrArg AV.bool hc3) ?_
 refine AW.skip ?_
 refine AW.seq ?_
 refine AW.sr ?_
 refine AOps.p rfl (rfl : _ = (AV.eptr [(AV.int .i64 a1.From), (AV.int .i64 a1.To), (AV.str a1.Act), (AV.int .i64 a1.Module)] 1)) ?_
 refine AOps.ldE (v := (AV.int .i64 a1.To)) rfl rfl rfl rfl rfl rfl ?_
 refine AOps.p rfl (rfl : _ = (AV.eptr [(AV.int .i64 b2.From), (AV.int .i64 b2.To), (AV.str b2.Act), (AV.int .i64 b2.Module)] 1)) ?_
 refine AOps.ldE (v := (AV.int .i64 b2.To)) rfl rfl rfl rfl rfl rfl ?_
 refine AOps.p rfl (rfl : _ = (AV.bool (a1.To != b2.To))) ?_
 refine AOps.nilR ?_
 rcases oite h with ⟨hc4, h⟩ | ⟨hc4, h⟩
 ·refine AW.condT (congrArg AV.bool hc4) ?_
  refine AW.sr ?_
  refine AOps.p rfl (rfl : _ = (AV.bool false)) ?_
  refine AOps.nilR ?_
  cases h
  exact AW.ret ⟨rfl, _, _, rfl, rfl⟩
 refine AW.condF (congrArg AV.bool hc4) ?_
 refine AW.skip ?_
 refine AW.seq ?_
 refine AW.sr ?_
 refine AOps.p rfl (rfl : _ = (AV.eptr [(AV.int .i64 a1.From), (AV.int .i64 a1.To), (AV.str a1.Act), (AV.int .i64 a1.Module)] 2)) ?_
 refine AOps.ldE (v := (AV.str a1.Act)) rfl rfl rfl rfl rfl rfl ?_
 refine AOps.p rfl (rfl : _ = (AV.eptr [(AV.int .i64 b2.From), (AV.int .i64 b2.To), (AV.str b2.Act), (AV.int .i64 b2.Module)] 2)) ?_
 refine AOps.ldE (v := (AV.str b2.Act)) rfl rfl rfl rfl rfl rfl ?_
 refine AOps.p rfl (rfl : _ = (AV.bool (!(a1.Act == b2.Act)))) ?_
 refine AOps.nilR ?_
 rcases oite h with ⟨hc5, h⟩ | ⟨hc5, h⟩
 ·refine AW.condT (congrArg AV.bool hc5) ?_
  refine AW.sr ?_
  refine AOps.p rfl (rfl : _ = (AV.bool false)) ?_
  refine AOps.nilR ?_
  cases h
  exact AW.ret ⟨rfl, _, _, rfl, rfl⟩
 refine AW.condF (congrArg AV.bool hc5) ?_
 refine AW.skip ?_
 refine AW.seq ?_
 refine AW.sr ?_
 refine AOps.p rfl (rfl : _ = (AV.eptr [(AV.int .i64 a1.From), (AV.int .i64 a1.To), (AV.str a1.Act), (AV.int .i64 a1.Module)] 3)) ?_
 refine AOps.ldE (v := (AV.int .i64 a1.Module)) rfl rfl rfl rfl rfl rfl ?_
 refine AOps.p rfl (rfl : _ = (AV.eptr [(AV.int .i64 b2.From), (AV.int .i64 b2.To), (AV.str b2.Act), (AV.int .i64 b2.Module)] 3)) ?_
 refine AOps.ldE (v := (AV.int .i64 b2.Module)) rfl rfl rfl rfl rfl rfl ?_
 refine AOps.p rfl (rfl : _ = (AV.bool (a1.Module != b2.Module))) ?_
 refine AOps.nilR ?_
 rcases oite h with ⟨hc6, h⟩ | ⟨hc6, h⟩
 ·refine AW.condT (congrArg AV.bool hc6) ?_
  refine AW.sr ?_
  refine AOps.p rfl (rfl : _ = (AV.bool false)) ?_
  refine AOps.nilR ?_
  cases h
  exact AW.ret ⟨rfl, _, _, rfl, rfl⟩
 refine AW.condF (congrArg AV.bool hc6) ?_
 refine AW.skip ?_
 refine AW.sr ?_
 refine AOps.p rfl (rfl : _ = (AV.bool true)) ?_
 refine AOps.nilR ?_
 cases h
 exact AW.ret ⟨rfl, _, _, rfl, rfl⟩
theorem laws_eqLinkS_ok {a1 : List Link} {b6 : List Link} {z2 : Nat} {f3 : Bool} {e4 : List AV} {z7 : Nat} {f8 : Bool} {e9 : List AV} {s : St} (h5 : LR rLink 4 a1 z2 e4) (h10 : LR rLink 4 b6 z7 e9) {r : Bool} (h : laws_eqLinkS a1 b6 = some r) (hs : WF s) : ACall Cf 58 [(AV.sl z2 f3 e4), (AV.sl z7 f8 e9)] s fun v _ s' => (rB) r v ∧ s' = s := by
 refine ACall.pure rfl rfl rfl .B ?_
 have hWF := hs.lo'
 unfold laws_eqLinkS at h
 refine AW.sr ?_
 refine AOps.p rfl (rfl : _ = (AV.bool false)) ?_
 refine AOps.nilR ?_
 refine AW.seq ?_
 refine AW.sr ?_
 refine AOps.p rfl (rfl : _ = (AV.sl z2 f3 e4)) ?_
 refine AOps.p rfl (len_eq h5) ?_
 refine AOps.p rfl (rfl : _ = (AV.sl z7 f8 e9)) ?_
 refine AOps.p rfl (len_eq h10) ?_
 refine AOps.p rfl (rfl : _ = (AV.bool ((a1.length : Int) != (b6.length : Int)))) ?_
 refine AOps.nilR ?_
 rcases oite h with ⟨hc11, h⟩ | ⟨hc11, h⟩
 ·refine AW.condT (congrArg AV.bool hc11) ?_
  refine AW.sr ?_
  refine AOps.p rfl (rfl : _ = (AV.bool false)) ?_
  refine AOps.nilR ?_
  cases h
  exact AW.ret ⟨rfl, _, _, rfl, rfl⟩
 refine AW.condF (congrArg AV.bool hc11) ?_
 refine AW.skip ?_
 refine AW.seq ?_
 refine AW.sr ?_
 refine AOps.p rfl (rfl : _ = (AV.int .i64 0)) ?_
 refine AOps.nilR ?_
 refine AW.meet (σ := Unit) (fun _ tm os => ⟨updL tm [], updL os [], { s with lo := s.n }⟩) (fun _ => laws_eqLinkS_J1 = some r) ?_ ?_
 ·rintro _ tm os h
  unfold laws_eqLinkS_J1 at h
  refine AW.sr ?_
  refine AOps.p rfl (rfl : _ = (AV.bool true)) ?_
  refine AOps.nilR ?_
  cases h
  exact AW.ret ⟨rfl, _, _, rfl, rfl⟩
 intro KJ12
 refine AW.block ?_
 refine AW.res [(0, (AV.sl z2 f3 e4)), (1, (AV.sl z7 f8 e9)), (5, (AV.int .i64 0))] [] ⟨rfl, rfl, rfl, trivial⟩ trivial ?_
 refine AW.loopF (σ := Int) (τ := Unit) (fun i13 _ => True) (fun i13 _ tm os => ⟨updL tm [(0, (AV.sl z2 f3 e4)), (1, (AV.sl z7 f8 e9)), (5, (AV.int .i64 i13))], updL os [], { s with lo := s.n }⟩) ?_ (x := (0)) (y := ()) h trivial
 clear h
 rintro i13 _ tm os - ee1 h hL1 hR1
 unfold laws_eqLinkS_S1 at h
 refine AW.seq ?_
 refine AW.sr ?_
 refine AOps.p rfl (rfl : _ = (AV.int .i64 i13)) ?_
 refine AOps.p rfl (rfl : _ = (AV.sl z2 f3 e4)) ?_
 refine AOps.p rfl (len_eq h5) ?_
 refine AOps.p rfl (rfl : _ = (AV.bool (decide ((i13 : Int) < (a1.length : Int))))) ?_
 refine AOps.nilR ?_
 rcases oite h with ⟨hc14, h⟩ | ⟨hc14, h⟩
 ·refine AW.condT (congrArg AV.bool hc14) ?_
  refine AW.skip ?_
  refine AW.seq ?_
  refine AW.block ?_
  refine AW.sr ?_
  refine AOps.p rfl (rfl : _ = (AV.sl z2 f3 e4)) ?_
  refine AOps.p rfl (rfl : _ = (AV.int .i64 i13)) ?_
  obtain ⟨x15, h16, h⟩ := obind h
  obtain ⟨v19, h17, h18⟩ := idx_sl h5 h16
  obtain ⟨_, rfl, h20⟩ := h17
  obtain ⟨_, _, rfl, h21, h22⟩ := Cs_cons h20
  cases h21
  obtain ⟨_, _, rfl, h23, h24⟩ := Cs_cons h22
  cases h23
  obtain ⟨_, _, rfl, h25, h26⟩ := Cs_cons h24
  cases h25
  obtain ⟨_, _, rfl, h27, h28⟩ := Cs_cons h26
  cases h27
  cases Cs_nil h28
  refine AOps.pureR rfl rfl rfl h18 rfl (rfl : _ = (AV.eptr [(AV.int .i64 x15.From), (AV.int .i64 x15.To), (AV.str x15.Act), (AV.int .i64 x15.Module)] 0)) ?_
  refine AOps.ldE (v := (AV.agg [(AV.int .i64 x15.From), (AV.int .i64 x15.To), (AV.str x15.Act), (AV.int .i64 x15.Module)])) rfl rfl rfl rfl rfl rfl ?_
  refine AOps.p rfl (rfl : _ = (AV.sl z7 f8 e9)) ?_
  refine AOps.p rfl (rfl : _ = (AV.int .i64 i13)) ?_
  obtain ⟨x29, h30, h⟩ := obind h
  obtain ⟨v33, h31, h32⟩ := idx_sl h10 h30
  obtain ⟨_, rfl, h34⟩ := h31
  obtain ⟨_, _, rfl, h35, h36⟩ := Cs_cons h34
  cases h35
  obtain ⟨_, _, rfl, h37, h38⟩ := Cs_cons h36
  cases h37
  obtain ⟨_, _, rfl, h39, h40⟩ := Cs_cons h38
  cases h39
  obtain ⟨_, _, rfl, h41, h42⟩ := Cs_cons h40
  cases h41
  cases Cs_nil h42
  refine AOps.pureR rfl rfl rfl h32 rfl (rfl : _ = (AV.eptr [(AV.int .i64 x29.From), (AV.int .i64 x29.To), (AV.str x29.Act), (AV.int .i64 x29.Module)] 0)) ?_
  refine AOps.ldE (v := (AV.agg [(AV.int .i64 x29.From), (AV.int .i64 x29.To), (AV.str x29.Act), (AV.int .i64 x29.Module)])) rfl rfl rfl rfl rfl rfl ?_
  obtain ⟨y43, h44, h⟩ := obind h
  refine AOps.callDP (g := 66) (args := [(AV.agg [(AV.int .i64 x15.From), (AV.int .i64 x15.To), (AV.str x15.Act), (AV.int .i64 x15.Module)]), (AV.agg [(AV.int .i64 x29.From), (AV.int .i64 x29.To), (AV.str x29.Act), (AV.int .i64 x29.Module)])]) (p := (rB) y43) rfl rfl rfl (laws_eqLink_ok  h44 hWF.still) (fun v hv => Nice.pure (k := FINK) (p := (rB) y43) .B _ v hv) ?_
  intro _ o46 h45
  cases h45
  refine AOps.p rfl (rfl : _ = (AV.bool (!y43))) ?_
  refine AOps.nilR ?_
  rcases oite h with ⟨hc47, h⟩ | ⟨hc47, h⟩
  ·refine AW.condT (congrArg AV.bool hc47) ?_
   refine AW.sr ?_
   refine AOps.p rfl (rfl : _ = (AV.bool false)) ?_
   refine AOps.nilR ?_
   cases h
   have hr := hR1 _ rfl
   subst hr
   exact AW.ret ⟨rfl, _, _, rfl, rfl⟩
  refine AW.condF (congrArg AV.bool hc47) ?_
  refine AW.skip ?_
  refine AW.inBlock ?_
  refine AW.region ?_
  refine AOps.p rfl (rfl : _ = (AV.int .i64 i13)) ?_
  refine AOps.p rfl (rfl : _ = (AV.int .i64 (IntKind.wrap .i64 (i13 + 1)))) ?_
  refine AOps.assignR rfl rfl rfl (rfl : _ = (AV.int .i64 (IntKind.wrap .i64 (i13 + 1)))) rfl ?_
  refine AOps.nilR ?_
  cases h
  exact AW.res [(0, (AV.sl z2 f3 e4)), (1, (AV.sl z7 f8 e9)), (5, (AV.int .i64 (IntKind.wrap .i64 (i13 + 1))))] [] ⟨rfl, rfl, rfl, trivial⟩ trivial (hL1 _ rfl () _ _ trivial)
 refine AW.condF (congrArg AV.bool hc14) ?_
 refine AW.exit rfl ?_
 obtain ⟨r48, hm, hx⟩ := omap h
 clear h
 subst hx
 have hx := hR1 _ rfl
 rw [hx] at hm
 have h := hm
 exact AW.res [] [] trivial trivial (KJ12 () _ _ h)
theorem laws_eqModule_ok {a1 : Module} {b6 : Module} {z2 : Nat} {f3 : Bool} {e4 : List AV} {z7 : Nat} {f8 : Bool} {e9 : List AV} {s : St} (h5 : LR rLink 4 a1.Links z2 e4) (h10 : LR rLink 4 b6.Links z7 e9) {r : Bool} (h : laws_eqModule a1 b6 = some r) (hs : WF s) : ACall Cf 44 [(AV.agg [(AV.int .i64 a1.Nodes), (AV.sl z2 f3 e4)]), (AV.agg [(AV.int .i64 b6.Nodes), (AV.sl z7 f8 e9)])] s fun v _ s' => (rB) r v ∧ s' = s := by
 refine ACall.pure rfl rfl rfl .B ?_
 have hWF := hs.lo'
 unfold laws_eqModule at h
 refine AW.sr ?_
 refine AOps.makeR rfl rfl rfl rfl rfl rfl (rfl : _ = (AV.eptr [(AV.int .i64 a1.Nodes), (AV.sl z2 f3 e4)] 0)) ?_
 refine AOps.makeR rfl rfl rfl rfl rfl rfl (rfl : _ = (AV.eptr [(AV.int .i64 b6.Nodes), (AV.sl z7 f8 e9)] 0)) ?_
 refine AOps.p rfl (rfl : _ = (AV.bool false)) ?_
 refine AOps.nilR ?_
 refine AW.seq ?_
 refine AW.sr ?_
 refine AOps.p rfl (rfl : _ = (AV.eptr [(AV.int .i64 a1.Nodes), (AV.sl z2 f3 e4)] 0)) ?_
 refine AOps.ldE (v := (AV.int .i64 a1.Nodes)) rfl rfl rfl rfl rfl rfl ?_
 refine AOps.p rfl (rfl : _ = (AV.eptr [(AV.int .i64 b6.Nodes), (AV.sl z7 f8 e9)] 0)) ?_
 refine AOps.ldE (v := (AV.int .i64 b6.Nodes)) rfl rfl rfl rfl rfl rfl ?_
 refine AOps.p rfl (rfl : _ = (AV.bool (a1.Nodes != b6.Nodes))) ?_
 refine AOps.nilR ?_
 rcases oite h with ⟨hc11, h⟩ | ⟨hc11, h⟩
 ·refine AW.condT (congrArg AV.bool hc11) ?_
  refine AW.sr ?_
  refine AOps.p rfl (rfl : _ = (AV.bool false)) ?_
  refine AOps.nilR ?_
  cases h
  exact AW.ret ⟨rfl, _, _, rfl, rfl⟩
 refine AW.condF (congrArg AV.bool hc11) ?_
 refine AW.skip ?_
 refine AW.seq ?_
 refine AW.sr ?_
 refine AOps.p rfl (rfl : _ = (AV.eptr [(AV.int .i64 a1.Nodes), (AV.sl z2 f3 e4)] 1)) ?_
 refine AOps.ldE (v := (AV.sl z2 f3 e4)) rfl rfl rfl rfl rfl rfl ?_
 refine AOps.p rfl (rfl : _ = (AV.eptr [(AV.int .i64 b6.Nodes), (AV.sl z7 f8 e9)] 1)) ?_
 refine AOps.ldE (v := (AV.sl z7 f8 e9)) rfl rfl rfl rfl rfl rfl ?_
 obtain ⟨y12, h13, h⟩ := obind h
 refine AOps.callP (g := 58) (args := [(AV.sl z2 f3 e4), (AV.sl z7 f8 e9)]) (p := (rB) y12) rfl rfl rfl (laws_eqLinkS_ok h5 h10 h13 hWF) ?_
 intro _ o15 h14
 cases h14
 refine AOps.p rfl (rfl : _ = (AV.bool (!y12))) ?_
 refine AOps.nilR ?_
 rcases oite h with ⟨hc16, h⟩ | ⟨hc16, h⟩
 ·refine AW.condT (congrArg AV.bool hc16) ?_
  refine AW.sr ?_
  refine AOps.p rfl (rfl : _ = (AV.bool false)) ?_
  refine AOps.nilR ?_
  cases h
  exact AW.ret ⟨rfl, _, _, rfl, rfl⟩
 refine AW.condF (congrArg AV.bool hc16) ?_
 refine AW.skip ?_
 refine AW.sr ?_
 refine AOps.p rfl (rfl : _ = (AV.bool true)) ?_
 refine AOps.nilR ?_
 cases h
 exact AW.ret ⟨rfl, _, _, rfl, rfl⟩
theorem laws_eqModuleS_ok {a1 : List Module} {b6 : List Module} {z2 : Nat} {f3 : Bool} {e4 : List AV} {z7 : Nat} {f8 : Bool} {e9 : List AV} {s : St} (h5 : LR rModule 2 a1 z2 e4) (h10 : LR rModule 2 b6 z7 e9) {r : Bool} (h : laws_eqModuleS a1 b6 = some r) (hs : WF s) : ACall Cf 22 [(AV.sl z2 f3 e4), (AV.sl z7 f8 e9)] s fun v _ s' => (rB) r v ∧ s' = s := by
 refine ACall.pure rfl rfl rfl .B ?_
 have hWF := hs.lo'
 unfold laws_eqModuleS at h
 refine AW.sr ?_
 refine AOps.p rfl (rfl : _ = (AV.bool false)) ?_
 refine AOps.nilR ?_
 refine AW.seq ?_
 refine AW.sr ?_
 refine AOps.p rfl (rfl : _ = (AV.sl z2 f3 e4)) ?_
 refine AOps.p rfl (len_eq h5) ?_
 refine AOps.p rfl (rfl : _ = (AV.sl z7 f8 e9)) ?_
 refine AOps.p rfl (len_eq h10) ?_
 refine AOps.p rfl (rfl : _ = (AV.bool ((a1.length : Int) != (b6.length : Int)))) ?_
 refine AOps.nilR ?_
 rcases oite h with ⟨hc11, h⟩ | ⟨hc11, h⟩
 ·refine AW.condT (congrArg AV.bool hc11) ?_
  refine AW.sr ?_
  refine AOps.p rfl (rfl : _ = (AV.bool false)) ?_
  refine AOps.nilR ?_
  cases h
  exact AW.ret ⟨rfl, _, _, rfl, rfl⟩
 refine AW.condF (congrArg AV.bool hc11) ?_
 refine AW.skip ?_
 refine AW.seq ?_
 refine AW.sr ?_
 refine AOps.p rfl (rfl : _ = (AV.int .i64 0)) ?_
 refine AOps.nilR ?_
 refine AW.meet (σ := Unit) (fun _ tm os => ⟨updL tm [], updL os [], { s with lo := s.n }⟩) (fun _ => laws_eqModuleS_J1 = some r) ?_ ?_
 ·rintro _ tm os h
  unfold laws_eqModuleS_J1 at h
  refine AW.sr ?_
  refine AOps.p rfl (rfl : _ = (AV.bool true)) ?_
  refine AOps.nilR ?_
  cases h
  exact AW.ret ⟨rfl, _, _, rfl, rfl⟩
 intro KJ12
 refine AW.block ?_
 refine AW.res [(0, (AV.sl z2 f3 e4)), (1, (AV.sl z7 f8 e9)), (5, (AV.int .i64 0))] [] ⟨rfl, rfl, rfl, trivial⟩ trivial ?_
 refine AW.loopF (σ := Int) (τ := Unit) (fun i13 _ => True) (fun i13 _ tm os => ⟨updL tm [(0, (AV.sl z2 f3 e4)), (1, (AV.sl z7 f8 e9)), (5, (AV.int .i64 i13))], updL os [], { s with lo := s.n }⟩) ?_ (x := (0)) (y := ()) h trivial
 clear h
 rintro i13 _ tm os - ee1 h hL1 hR1
 unfold laws_eqModuleS_S1 at h
 refine AW.seq ?_
 refine AW.sr ?_
 refine AOps.p rfl (rfl : _ = (AV.int .i64 i13)) ?_
 refine AOps.p rfl (rfl : _ = (AV.sl z2 f3 e4)) ?_
 refine AOps.p rfl (len_eq h5) ?_
 refine AOps.p rfl (rfl : _ = (AV.bool (decide ((i13 : Int) < (a1.length : Int))))) ?_
 refine AOps.nilR ?_
 rcases oite h with ⟨hc14, h⟩ | ⟨hc14, h⟩
 ·refine AW.condT (congrArg AV.bool hc14) ?_
  refine AW.skip ?_
  refine AW.seq ?_
  refine AW.block ?_
  refine AW.sr ?_
  refine AOps.p rfl (rfl : _ = (AV.sl z2 f3 e4)) ?_
  refine AOps.p rfl (rfl : _ = (AV.int .i64 i13)) ?_
  obtain ⟨x15, h16, h⟩ := obind h
  obtain ⟨v19, h17, h18⟩ := idx_sl h5 h16
  obtain ⟨_, rfl, h20⟩ := h17
  obtain ⟨_, _, rfl, h21, h22⟩ := Cs_cons h20
  cases h21
  obtain ⟨_, _, rfl, h23, h24⟩ := Cs_cons h22
  obtain ⟨z25, f26, e27, rfl, h28⟩ := h23
  cases Cs_nil h24
  refine AOps.pureR rfl rfl rfl h18 rfl (rfl : _ = (AV.eptr [(AV.int .i64 x15.Nodes), (AV.sl z25 f26 e27)] 0)) ?_
  refine AOps.ldE (v := (AV.agg [(AV.int .i64 x15.Nodes), (AV.sl z25 f26 e27)])) rfl rfl rfl rfl rfl rfl ?_
  refine AOps.p rfl (rfl : _ = (AV.sl z7 f8 e9)) ?_
  refine AOps.p rfl (rfl : _ = (AV.int .i64 i13)) ?_
  obtain ⟨x29, h30, h⟩ := obind h
  obtain ⟨v33, h31, h32⟩ := idx_sl h10 h30
  obtain ⟨_, rfl, h34⟩ := h31
  obtain ⟨_, _, rfl, h35, h36⟩ := Cs_cons h34
  cases h35
  obtain ⟨_, _, rfl, h37, h38⟩ := Cs_cons h36
  obtain ⟨z39, f40, e41, rfl, h42⟩ := h37
  cases Cs_nil h38
  refine AOps.pureR rfl rfl rfl h32 rfl (rfl : _ = (AV.eptr [(AV.int .i64 x29.Nodes), (AV.sl z39 f40 e41)] 0)) ?_
  refine AOps.ldE (v := (AV.agg [(AV.int .i64 x29.Nodes), (AV.sl z39 f40 e41)])) rfl rfl rfl rfl rfl rfl ?_
  obtain ⟨y43, h44, h⟩ := obind h
  refine AOps.callDP (g := 44) (args := [(AV.agg [(AV.int .i64 x15.Nodes), (AV.sl z25 f26 e27)]), (AV.agg [(AV.int .i64 x29.Nodes), (AV.sl z39 f40 e41)])]) (p := (rB) y43) rfl rfl rfl (laws_eqModule_ok h28 h42 h44 hWF.still) (fun v hv => Nice.pure (k := FINK) (p := (rB) y43) .B _ v hv) ?_
  intro _ o46 h45
  cases h45
  refine AOps.p rfl (rfl : _ = (AV.bool (!y43))) ?_
  refine AOps.nilR ?_
  rcases oite h with ⟨hc47, h⟩ | ⟨hc47, h⟩
  ·refine AW.condT (congrArg AV.bool hc47) ?_
   refine AW.sr ?_
   refine AOps.p rfl (rfl : _ = (AV.bool false)) ?_
   refine AOps.nilR ?_
   cases h
   have hr := hR1 _ rfl
   subst hr
   exact AW.ret ⟨rfl, _, _, rfl, rfl⟩
  refine AW.condF (congrArg AV.bool hc47) ?_
  refine AW.skip ?_
  refine AW.inBlock ?_
  refine AW.region ?_
  refine AOps.p rfl (rfl : _ = (AV.int .i64 i13)) ?_
  refine AOps.p rfl (rfl : _ = (AV.int .i64 (IntKind.wrap .i64 (i13 + 1)))) ?_
  refine AOps.assignR rfl rfl rfl (rfl : _ = (AV.int .i64 (IntKind.wrap .i64 (i13 + 1)))) rfl ?_
  refine AOps.nilR ?_
  cases h
  exact AW.res [(0, (AV.sl z2 f3 e4)), (1, (AV.sl z7 f8 e9)), (5, (AV.int .i64 (IntKind.wrap .i64 (i13 + 1))))] [] ⟨rfl, rfl, rfl, trivial⟩ trivial (hL1 _ rfl () _ _ trivial)
 refine AW.condF (congrArg AV.bool hc14) ?_
 refine AW.exit rfl ?_
 obtain ⟨r48, hm, hx⟩ := omap h
 clear h
 subst hx
 have hx := hR1 _ rfl
 rw [hx] at hm
 have h := hm
 exact AW.res [] [] trivial trivial (KJ12 () _ _ h)
theorem laws_eqProgram_ok {a1 : ProgramT} {b6 : ProgramT} {z2 : Nat} {f3 : Bool} {e4 : List AV} {z7 : Nat} {f8 : Bool} {e9 : List AV} {s : St} (h5 : LR rModule 2 a1.Modules z2 e4) (h10 : LR rModule 2 b6.Modules z7 e9) {r : Bool} (h : laws_eqProgram a1 b6 = some r) (hs : WF s) : ACall Cf 8 [(AV.agg [(AV.sl z2 f3 e4)]), (AV.agg [(AV.sl z7 f8 e9)])] s fun v _ s' => (rB) r v ∧ s' = s := by
 refine ACall.pure rfl rfl rfl .B ?_
 have hWF := hs.lo'
 unfold laws_eqProgram at h
 refine AW.sr ?_
 refine AOps.makeR rfl rfl rfl rfl rfl rfl (rfl : _ = (AV.eptr [(AV.sl z2 f3 e4)] 0)) ?_
 refine AOps.makeR rfl rfl rfl rfl rfl rfl (rfl : _ = (AV.eptr [(AV.sl z7 f8 e9)] 0)) ?_
 refine AOps.p rfl (rfl : _ = (AV.bool false)) ?_
 refine AOps.nilR ?_
 refine AW.seq ?_
 refine AW.sr ?_
 refine AOps.p rfl (rfl : _ = (AV.eptr [(AV.sl z2 f3 e4)] 0)) ?_
 refine AOps.ldE (v := (AV.sl z2 f3 e4)) rfl rfl rfl rfl rfl rfl ?_
 refine AOps.p rfl (rfl : _ = (AV.eptr [(AV.sl z7 f8 e9)] 0)) ?_
 refine AOps.ldE (v := (AV.sl z7 f8 e9)) rfl rfl rfl rfl rfl rfl ?_
 obtain ⟨y11, h12, h⟩ := obind h
 refine AOps.callP (g := 22) (args := [(AV.sl z2 f3 e4), (AV.sl z7 f8 e9)]) (p := (rB) y11) rfl rfl rfl (laws_eqModuleS_ok h5 h10 h12 hWF) ?_
 intro _ o14 h13
 cases h13
 refine AOps.p rfl (rfl : _ = (AV.bool (!y11))) ?_
 refine AOps.nilR ?_
 rcases oite h with ⟨hc15, h⟩ | ⟨hc15, h⟩
 ·refine AW.condT (congrArg AV.bool hc15) ?_
  refine AW.sr ?_
  refine AOps.p rfl (rfl : _ = (AV.bool false)) ?_
  refine AOps.nilR ?_
  cases h
  exact AW.ret ⟨rfl, _, _, rfl, rfl⟩
 refine AW.condF (congrArg AV.bool hc15) ?_
 refine AW.skip ?_
 refine AW.sr ?_
 refine AOps.p rfl (rfl : _ = (AV.bool true)) ?_
 refine AOps.nilR ?_
 cases h
 exact AW.ret ⟨rfl, _, _, rfl, rfl⟩
theorem laws_FnExactCountProgramWords_ok {aP1 : ProgramT} {aLength6 : Int} {z2 : Nat} {f3 : Bool} {e4 : List AV} {s : St} (h5 : LR rModule 2 aP1.Modules z2 e4) {r : Bool} (h : laws_FnExactCountProgramWords aP1 aLength6 = some r) (hs : WF s) : ACall Cf 3 [(AV.agg [(AV.sl z2 f3 e4)]), (AV.int .i64 aLength6)] s fun v _ s' => (rB) r v ∧ s' = s := by
 refine ACall.pure rfl rfl rfl .B ?_
 have hWF := hs.lo'
 unfold laws_FnExactCountProgramWords at h
 refine AW.sr ?_
 refine AOps.makeR rfl rfl rfl rfl rfl rfl (rfl : _ = (AV.eptr [(AV.sl z2 f3 e4)] 0)) ?_
 refine AOps.p rfl (rfl : _ = (AV.bool false)) ?_
 refine AOps.nilR ?_
 refine AW.sr ?_
 refine AOps.p rfl (rfl : _ = (AV.int .i64 1048576)) ?_
 refine AOps.nilR ?_
 refine AW.sr ?_
 refine AOps.ldE (v := (AV.agg [(AV.sl z2 f3 e4)])) rfl rfl rfl rfl rfl rfl ?_
 refine AOps.p rfl (rfl : _ = (AV.int .i64 1048576)) ?_
 obtain ⟨y7, h8, h⟩ := obind h
 refine AOps.callP (g := 4) (args := [(AV.agg [(AV.sl z2 f3 e4)]), (AV.int .i64 1048576)]) (p := (rI .i64) y7) rfl rfl rfl (laws_szProgram_ok h5 h8 hWF) ?_
 intro _ o10 h9
 cases h9
 refine AOps.assignR rfl rfl rfl (rfl : _ = (AV.int .i64 y7)) rfl ?_
 refine AOps.nilR ?_
 refine AW.seq ?_
 refine AW.sr ?_
 refine AOps.p rfl (rfl : _ = (AV.int .i64 y7)) ?_
 refine AOps.p rfl (rfl : _ = (AV.bool (decide ((y7 : Int) < 0)))) ?_
 refine AOps.nilR ?_
 rcases oite h with ⟨hc11, h⟩ | ⟨hc11, h⟩
 ·refine AW.condT (congrArg AV.bool hc11) ?_
  refine AW.sr ?_
  refine AOps.p rfl (rfl : _ = (AV.bool true)) ?_
  refine AOps.nilR ?_
  cases h
  exact AW.ret ⟨rfl, _, _, rfl, rfl⟩
 refine AW.condF (congrArg AV.bool hc11) ?_
 refine AW.skip ?_
 refine AW.sr ?_
 refine AOps.ldE (v := (AV.agg [(AV.sl z2 f3 e4)])) rfl rfl rfl rfl rfl rfl ?_
 obtain ⟨y12, h13, h⟩ := obind h
 refine AOps.callP (g := 6) (args := [(AV.agg [(AV.sl z2 f3 e4)])]) (p := (rProgramT) y12) rfl rfl rfl (laws_toProgram_ok h5 h13 hWF) ?_
 intro _ o22 h14
 obtain ⟨_, rfl, h15⟩ := h14
 obtain ⟨_, _, rfl, h16, h17⟩ := Cs_cons h15
 obtain ⟨z18, f19, e20, rfl, h21⟩ := h16
 cases Cs_nil h17
 refine AOps.p rfl (rfl : _ = (AV.int .i64 aLength6)) ?_
 obtain ⟨y23, h24, h⟩ := obind h
 refine AOps.callP (g := 5) (args := [(AV.agg [(AV.sl z18 f19 e20)]), (AV.int .i64 aLength6)]) (p := (fun x => rT [(rI .i64) x.1, (rI .i64) x.2]) y23) rfl rfl rfl (spec_CountProgramWords_ok h21 h24 hWF) ?_
 intro _ o31 h25
 obtain ⟨_, rfl, h26⟩ := h25
 obtain ⟨_, _, rfl, h27, h28⟩ := Cs_cons h26
 cases h27
 obtain ⟨_, _, rfl, h29, h30⟩ := Cs_cons h28
 cases h29
 cases Cs_nil h30
 refine AOps.p rfl (rfl : _ = (AV.tup [(AV.int .i64 y23.1), (AV.int .i64 y23.2)])) ?_
 refine AOps.p rfl (rfl : _ = (AV.int .i64 y23.1)) ?_
 refine AOps.p rfl (rfl : _ = (AV.int .i64 y23.2)) ?_
 refine AOps.assignR rfl rfl rfl (rfl : _ = (AV.int .i64 y23.1)) rfl ?_
 refine AOps.assignR rfl rfl rfl (rfl : _ = (AV.int .i64 y23.2)) rfl ?_
 refine AOps.nilR ?_
 refine AW.sr ?_
 refine AOps.ldE (v := (AV.agg [(AV.sl z2 f3 e4)])) rfl rfl rfl rfl rfl rfl ?_
 obtain ⟨y32, h33, h⟩ := obind h
 refine AOps.callP (g := 6) (args := [(AV.agg [(AV.sl z2 f3 e4)])]) (p := (rProgramT) y32) rfl rfl rfl (laws_toProgram_ok h5 h33 hWF) ?_
 intro _ o42 h34
 obtain ⟨_, rfl, h35⟩ := h34
 obtain ⟨_, _, rfl, h36, h37⟩ := Cs_cons h35
 obtain ⟨z38, f39, e40, rfl, h41⟩ := h36
 cases Cs_nil h37
 refine AOps.allocP rfl rfl rfl rfl ⟨rfl, rfl⟩ rfl ?_
 refine AOps.stP (v := (AV.agg [(AV.sl z38 f39 e40)])) rfl rfl rfl rfl rfl rfl rfl rfl rfl (lt_b rfl) rfl ?_
 refine AOps.nilR ?_
 refine AW.sr ?_
 refine AOps.ldE (v := (AV.agg [(AV.sl z38 f39 e40)])) rfl rfl rfl rfl rfl rfl ?_
 refine AOps.p rfl (rfl : _ = (AV.int .i64 aLength6)) ?_
 obtain ⟨y43, h44, h⟩ := obind h
 refine AOps.callP (g := 7) (args := [(AV.agg [(AV.sl z38 f39 e40)]), (AV.int .i64 aLength6)]) (p := (fun x => rT [(rI .i64) x.1, (rI .i64) x.2]) y43) rfl rfl rfl (impl_CountProgramWords_ok h41 h44 hWF) ?_
 intro _ o51 h45
 obtain ⟨_, rfl, h46⟩ := h45
 obtain ⟨_, _, rfl, h47, h48⟩ := Cs_cons h46
 cases h47
 obtain ⟨_, _, rfl, h49, h50⟩ := Cs_cons h48
 cases h49
 cases Cs_nil h50
 refine AOps.p rfl (rfl : _ = (AV.tup [(AV.int .i64 y43.1), (AV.int .i64 y43.2)])) ?_
 refine AOps.p rfl (rfl : _ = (AV.int .i64 y43.1)) ?_
 refine AOps.p rfl (rfl : _ = (AV.int .i64 y43.2)) ?_
 refine AOps.assignR rfl rfl rfl (rfl : _ = (AV.int .i64 y43.1)) rfl ?_
 refine AOps.assignR rfl rfl rfl (rfl : _ = (AV.int .i64 y43.2)) rfl ?_
 refine AOps.nilR ?_
 refine AW.seq ?_
 refine AW.sr ?_
 refine AOps.p rfl (rfl : _ = (AV.int .i64 y43.1)) ?_
 refine AOps.p rfl (rfl : _ = (AV.int .i64 y23.1)) ?_
 refine AOps.p rfl (rfl : _ = (AV.bool (y43.1 != y23.1))) ?_
 refine AOps.p rfl (rfl : _ = (AV.bool (y43.1 != y23.1))) ?_
 refine AOps.split 4 (fun f' => ∃ tm' os', f' = ⟨updL tm' [(2, (AV.eptr [(AV.sl z2 f3 e4)] 0)), (8, (AV.eptr [(AV.sl z38 f39 e40)] 0)), (38, (AV.bool ((y43.1 != y23.1) || (y43.2 != y23.2))))], updL os' [], { s with lo := s.n }⟩) ?_ ?_
 ·rcases Bool.eq_false_or_eq_true (y43.1 != y23.1) with hc52 | hc52
  ·refine AOps.know (d := 34) rfl hc52 ?_
   refine AOps.skipR rfl rfl ?_
   refine AOps.skipR rfl rfl ?_
   refine AOps.skipR rfl rfl ?_
   refine AOps.p rfl (rfl : _ = (AV.bool true)) ?_
   refine AOps.resR [(2, (AV.eptr [(AV.sl z2 f3 e4)] 0)), (8, (AV.eptr [(AV.sl z38 f39 e40)] 0)), (38, (AV.bool ((y43.1 != y23.1) || (y43.2 != y23.2))))] [] ?_ ?_ _ ⟨_, _, rfl⟩
   ·exact ⟨rfl, rfl, congrArg AV.bool (or_t hc52), trivial⟩
   exact trivial
  ·refine AOps.know (d := 34) rfl hc52 ?_
   refine AOps.p rfl (rfl : _ = (AV.int .i64 y43.2)) ?_
   refine AOps.p rfl (rfl : _ = (AV.int .i64 y23.2)) ?_
   refine AOps.p rfl (rfl : _ = (AV.bool (y43.2 != y23.2))) ?_
   refine AOps.p rfl (rfl : _ = (AV.bool (y43.2 != y23.2))) ?_
   refine AOps.resR [(2, (AV.eptr [(AV.sl z2 f3 e4)] 0)), (8, (AV.eptr [(AV.sl z38 f39 e40)] 0)), (38, (AV.bool ((y43.1 != y23.1) || (y43.2 != y23.2))))] [] ?_ ?_ _ ⟨_, _, rfl⟩
   ·exact ⟨rfl, rfl, congrArg AV.bool (or_f hc52), trivial⟩
   exact trivial
 rintro _ ⟨tm, os, rfl⟩
 refine AOps.nilR ?_
 rcases oite h with ⟨hc53, h⟩ | ⟨hc53, h⟩
 ·refine AW.condT (congrArg AV.bool hc53) ?_
  refine AW.sr ?_
  refine AOps.p rfl (rfl : _ = (AV.bool false)) ?_
  refine AOps.nilR ?_
  cases h
  exact AW.ret ⟨rfl, _, _, rfl, rfl⟩
 refine AW.condF (congrArg AV.bool hc53) ?_
 refine AW.skip ?_
 refine AW.seq ?_
 refine AW.sr ?_
 refine AOps.ldE (v := (AV.agg [(AV.sl z38 f39 e40)])) rfl rfl rfl rfl rfl rfl ?_
 refine AOps.ldE (v := (AV.agg [(AV.sl z2 f3 e4)])) rfl rfl rfl rfl rfl rfl ?_
 obtain ⟨y54, h55, h⟩ := obind h
 refine AOps.callDP (g := 6) (args := [(AV.agg [(AV.sl z2 f3 e4)])]) (p := (rProgramT) y54) rfl rfl rfl (laws_toProgram_ok h5 h55 hWF.still) (fun v hv => Nice.pure (k := FINK) (p := (rProgramT) y54) (.A (.cons (.L fun _ => (.A (.cons .I (.cons (.L fun _ => (.A (.cons .I (.cons .I (.cons .S (.cons .I .nil)))))) .nil)))) .nil)) _ v hv) ?_
 intro _ o64 h56
 obtain ⟨_, rfl, h57⟩ := h56
 obtain ⟨_, _, rfl, h58, h59⟩ := Cs_cons h57
 obtain ⟨z60, f61, e62, rfl, h63⟩ := h58
 cases Cs_nil h59
 obtain ⟨y65, h66, h⟩ := obind h
 refine AOps.callDP (g := 8) (args := [(AV.agg [(AV.sl z38 f39 e40)]), (AV.agg [(AV.sl z60 f61 e62)])]) (p := (rB) y65) rfl rfl rfl (laws_eqProgram_ok h41 h63 h66 hWF.still) (fun v hv => Nice.pure (k := FINK) (p := (rB) y65) .B _ v hv) ?_
 intro _ o68 h67
 cases h67
 refine AOps.p rfl (rfl : _ = (AV.bool (!y65))) ?_
 refine AOps.nilR ?_
 rcases oite h with ⟨hc69, h⟩ | ⟨hc69, h⟩
 ·refine AW.condT (congrArg AV.bool hc69) ?_
  refine AW.sr ?_
  refine AOps.p rfl (rfl : _ = (AV.bool false)) ?_
  refine AOps.nilR ?_
  cases h
  exact AW.ret ⟨rfl, _, _, rfl, rfl⟩
 refine AW.condF (congrArg AV.bool hc69) ?_
 refine AW.skip ?_
 refine AW.sr ?_
 refine AOps.p rfl (rfl : _ = (AV.bool true)) ?_
 refine AOps.nilR ?_
 cases h
 exact AW.ret ⟨rfl, _, _, rfl, rfl⟩
end Go.Proofs.Ytlkokeehbnmooaa.law
