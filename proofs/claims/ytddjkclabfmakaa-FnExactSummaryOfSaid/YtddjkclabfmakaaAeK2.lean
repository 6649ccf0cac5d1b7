import Derived.Test.YtddjkclabfmakaaAeD
import Derived.Test.YtddjkclabfmakaaAe4
import Derived.Test.YtddjkclabfmakaaAeK1
set_option linter.unusedVariables false
namespace Go.Proofs.Ytddjkclabfmakaa.law
open Go Go.Proofs Ae
set_option maxRecDepth 100000
set_option linter.unusedVariables false
theorem slices_IndexFunc_sint64_int64_ok {s1 : List Int} {f6 : Int → Option Bool} {z2 : Nat} {f3 : Bool} {e4 : List AV} {g7 : Nat} {cap8 : List AV} {s : St} (h5 : LR (rI .i64) 1 s1 z2 e4) (h9 : ∀ x vs y, Cs [(rI .i64) x] vs → f6 x = some y → ∀ s, WF s → ACall Cf g7 (vs ++ cap8) s fun v _ s' => (rB) y v ∧ s' = s) {r : Int} (h : slices_IndexFunc_sint64_int64 s1 f6 = some r) (hs : WF s) : ACall Cf 256 [(AV.sl z2 f3 e4), (AV.fn g7 cap8)] s fun v _ s' => (rI .i64) r v ∧ s' = s := by
  refine ACall.pure rfl rfl rfl .I ?_
  have hWF := hs.lo'
  unfold slices_IndexFunc_sint64_int64 at h
  refine AW.seq ?_
  refine AW.region ?_
  refine AOps.pureR rfl rfl rfl rfl rfl (rfl : _ = (AV.int .i64 0)) ?_
  refine AOps.nilR ?_
  refine AW.seq ?_
  refine AW.seq ?_
  refine AW.region ?_
  refine AOps.pureR rfl rfl rfl rfl rfl (rfl : _ = (AV.sl z2 f3 e4)) ?_
  refine AOps.pureR rfl rfl rfl rfl rfl (len_eq h5) ?_
  refine AOps.pureR rfl rfl rfl rfl rfl (rfl : _ = (AV.int .i64 0)) ?_
  refine AOps.nilR ?_
  refine AW.meet (σ := Unit) (fun _ tm os => ⟨updL tm [], updL os [], { s with lo := s.n }⟩) (fun _ => slices_IndexFunc_sint64_int64_J1 = some r) ?_ ?_
  · rintro _ tm os h
    unfold slices_IndexFunc_sint64_int64_J1 at h
    refine AW.seq ?_
    refine AW.region ?_
    refine AOps.pureR rfl rfl rfl rfl rfl (rfl : _ = (AV.int .i64 (-1))) ?_
    refine AOps.nilR ?_
    cases h
    exact AW.ret ⟨rfl, _, _, rfl, rfl⟩
  intro KJ10
  refine AW.block ?_
  refine AW.res [(0, (AV.sl z2 f3 e4)), (1, (AV.fn g7 cap8)), (7, (AV.int .i64 (s1.length : Int))), (8, (AV.int .i64 0))] [] ⟨rfl, rfl, rfl, rfl, trivial⟩ trivial ?_
  refine AW.loopF (σ := Int) (τ := Unit) (fun t11 _ => True) (fun t11 _ tm os => ⟨updL tm [(0, (AV.sl z2 f3 e4)), (1, (AV.fn g7 cap8)), (7, (AV.int .i64 (s1.length : Int))), (8, (AV.int .i64 t11))], updL os [], { s with lo := s.n }⟩) ?_ (x := (0)) (y := ()) h trivial
  clear h
  rintro t11 _ tm os - e1 h hL1 hR1
  unfold slices_IndexFunc_sint64_int64_S1 at h
  refine AW.seq ?_
  refine AW.region ?_
  refine AOps.pureR rfl rfl rfl rfl rfl (rfl : _ = (AV.bool (decide ((t11 : Int) < (s1.length : Int))))) ?_
  refine AOps.nilR ?_
  refine AW.seq ?_
  rcases oite h with ⟨hc12, h⟩ | ⟨hc12, h⟩
  · refine AW.condT (congrArg AV.bool hc12) ?_
    refine AW.skip ?_
    refine AW.seq ?_
    refine AW.block ?_
    refine AW.seq ?_
    refine AW.region ?_
    refine AOps.pureR rfl rfl rfl rfl rfl (rfl : _ = (AV.int .i64 t11)) ?_
    refine AOps.assignR rfl rfl rfl (rfl : _ = (AV.int .i64 t11)) rfl ?_
    refine AOps.nilR ?_
    refine AW.seq ?_
    refine AW.region ?_
    refine AOps.pureR rfl rfl rfl rfl rfl (rfl : _ = (AV.fn g7 cap8)) ?_
    refine AOps.pureR rfl rfl rfl rfl rfl (rfl : _ = (AV.sl z2 f3 e4)) ?_
    refine AOps.pureR rfl rfl rfl rfl rfl (rfl : _ = (AV.int .i64 t11)) ?_
    obtain ⟨x13, h14, h⟩ := obind h
    obtain ⟨v17, h15, h16⟩ := idx_sl h5 h14
    cases h15
    refine AOps.pureR rfl rfl rfl h16 rfl (rfl : _ = (AV.eptr [(AV.int .i64 x13)] 0)) ?_
    refine AOps.ldE (v := (AV.int .i64 x13)) rfl rfl rfl rfl rfl rfl ?_
    obtain ⟨y18, h19, h⟩ := obind h
    refine AOps.callP (g := g7) (args := ([(AV.int .i64 x13)] ++ cap8)) (p := (rB) y18) rfl rfl rfl (h9 x13 _ _ (.cons rfl .nil) h19 _ hWF) ?_
    intro _ o21 h20
    cases h20
    refine AOps.nilR ?_
    rcases oite h with ⟨hc22, h⟩ | ⟨hc22, h⟩
    · refine AW.condT (congrArg AV.bool hc22) ?_
      refine AW.seq ?_
      refine AW.region ?_
      refine AOps.pureR rfl rfl rfl rfl rfl (rfl : _ = (AV.int .i64 t11)) ?_
      refine AOps.assignR rfl rfl rfl (rfl : _ = (AV.int .i64 t11)) rfl ?_
      refine AOps.nilR ?_
      cases h
      have hr := hR1 _ rfl
      subst hr
      exact AW.ret ⟨rfl, _, _, rfl, rfl⟩
    refine AW.condF (congrArg AV.bool hc22) ?_
    refine AW.skip ?_
    refine AW.inBlock ?_
    refine AW.region ?_
    refine AOps.pureR rfl rfl rfl rfl rfl (rfl : _ = (AV.int .i64 (IntKind.wrap .i64 (t11 + 1)))) ?_
    refine AOps.pureR rfl rfl rfl rfl rfl (rfl : _ = (AV.int .i64 (IntKind.wrap .i64 (t11 + 1)))) ?_
    refine AOps.nilR ?_
    cases h
    exact AW.res [(0, (AV.sl z2 f3 e4)), (1, (AV.fn g7 cap8)), (7, (AV.int .i64 (s1.length : Int))), (8, (AV.int .i64 (IntKind.wrap .i64 (t11 + 1))))] [] ⟨rfl, rfl, rfl, rfl, trivial⟩ trivial (hL1 _ rfl () _ _ trivial)
  refine AW.condF (congrArg AV.bool hc12) ?_
  refine AW.exit rfl ?_
  obtain ⟨r23, hm, hx⟩ := omap h
  clear h
  subst hx
  have hx := hR1 _ rfl
  rw [hx] at hm
  have h := hm
  exact AW.res [] [] trivial trivial (KJ10 () _ _ h)
theorem slices_ContainsFunc_sint64_int64_ok {s1 : List Int} {f6 : Int → Option Bool} {z2 : Nat} {f3 : Bool} {e4 : List AV} {g7 : Nat} {cap8 : List AV} {s : St} (h5 : LR (rI .i64) 1 s1 z2 e4) (h9 : ∀ x vs y, Cs [(rI .i64) x] vs → f6 x = some y → ∀ s, WF s → ACall Cf g7 (vs ++ cap8) s fun v _ s' => (rB) y v ∧ s' = s) {r : Bool} (h : slices_ContainsFunc_sint64_int64 s1 f6 = some r) (hs : WF s) : ACall Cf 171 [(AV.sl z2 f3 e4), (AV.fn g7 cap8)] s fun v _ s' => (rB) r v ∧ s' = s := by
  refine ACall.pure rfl rfl rfl .B ?_
  have hWF := hs.lo'
  unfold slices_ContainsFunc_sint64_int64 at h
  refine AW.seq ?_
  refine AW.region ?_
  refine AOps.pureR rfl rfl rfl rfl rfl (rfl : _ = (AV.bool false)) ?_
  refine AOps.nilR ?_
  refine AW.seq ?_
  refine AW.region ?_
  refine AOps.pureR rfl rfl rfl rfl rfl (rfl : _ = (AV.sl z2 f3 e4)) ?_
  refine AOps.pureR rfl rfl rfl rfl rfl (rfl : _ = (AV.fn g7 cap8)) ?_
  obtain ⟨y10, h11, h⟩ := obind h
  refine AOps.callP (g := 256) (args := [(AV.sl z2 f3 e4), (AV.fn g7 cap8)]) (p := (rI .i64) y10) rfl rfl rfl (slices_IndexFunc_sint64_int64_ok h5 h9 h11 hWF) ?_
  intro _ o13 h12
  cases h12
  refine AOps.pureR rfl rfl rfl rfl rfl (rfl : _ = (AV.bool (decide ((y10 : Int) ≥ 0)))) ?_
  refine AOps.assignR rfl rfl rfl (rfl : _ = (AV.bool (decide ((y10 : Int) ≥ 0)))) rfl ?_
  refine AOps.nilR ?_
  cases h
  exact AW.ret ⟨rfl, _, _, rfl, rfl⟩
theorem impl_ValidChecker_1_1_ok {s1 : Int} {c2 : Checker} {z3 : Nat} {f4 : Bool} {e5 : List AV} {z7 : Nat} {f8 : Bool} {e9 : List AV} {z11 : Nat} {f12 : Bool} {e13 : List AV} {z15 : Nat} {f16 : Bool} {e17 : List AV} {s : St} (h6 : LR rB 1 c2.Accept z3 e5) (h10 : LR (rL rPush 2) 1 c2.Call z7 e9) (h14 : LR (rL (rL (rI .i64) 1) 1) 1 c2.Return z11 e13) (h18 : LR (rL (rI .i64) 1) 1 c2.Inner z15 e17) {r : Bool} (h : impl_ValidChecker_1_1 s1 c2 = some r) (hs : WF s) : ACall Cf 184 [(AV.int .i64 s1), (AV.eptr [(AV.int .i64 c2.Stack), (AV.int .i64 c2.Start), (AV.sl z3 f4 e5), (AV.sl z7 f8 e9), (AV.sl z11 f12 e13), (AV.sl z15 f16 e17)] 0)] s fun v _ s' => (rB) r v ∧ s' = s := by
  refine ACall.pure rfl rfl rfl .B ?_
  have hWF := hs.lo'
  unfold impl_ValidChecker_1_1 at h
  refine AW.seq ?_
  refine AW.region ?_
  refine AOps.pureR rfl rfl rfl rfl rfl (rfl : _ = (AV.bool false)) ?_
  refine AOps.nilR ?_
  refine AW.seq ?_
  refine AW.region ?_
  refine AOps.ldE (v := (AV.agg [(AV.int .i64 c2.Stack), (AV.int .i64 c2.Start), (AV.sl z3 f4 e5), (AV.sl z7 f8 e9), (AV.sl z11 f12 e13), (AV.sl z15 f16 e17)])) rfl rfl rfl rfl rfl rfl ?_
  refine AOps.pureR rfl rfl rfl rfl rfl (rfl : _ = (AV.int .i64 s1)) ?_
  obtain ⟨y19, h20, h⟩ := obind h
  refine AOps.callP (g := 133) (args := [(AV.agg [(AV.int .i64 c2.Stack), (AV.int .i64 c2.Start), (AV.sl z3 f4 e5), (AV.sl z7 f8 e9), (AV.sl z11 f12 e13), (AV.sl z15 f16 e17)]), (AV.int .i64 s1)]) (p := (rB) y19) rfl rfl rfl (impl_Checker_isState_ok h6 h10 h14 h18 h20 hWF) ?_
  intro _ o22 h21
  cases h21
  refine AOps.pureR rfl rfl rfl rfl rfl (rfl : _ = (AV.bool (!y19))) ?_
  refine AOps.assignR rfl rfl rfl (rfl : _ = (AV.bool (!y19))) rfl ?_
  refine AOps.nilR ?_
  cases h
  exact AW.ret ⟨rfl, _, _, rfl, rfl⟩
theorem impl_ValidChecker_1_ok {list1 : List Int} {many6 : Int} {c7 : Checker} {z2 : Nat} {f3 : Bool} {e4 : List AV} {z8 : Nat} {f9 : Bool} {e10 : List AV} {z12 : Nat} {f13 : Bool} {e14 : List AV} {z16 : Nat} {f17 : Bool} {e18 : List AV} {z20 : Nat} {f21 : Bool} {e22 : List AV} {s : St} (h5 : LR (rI .i64) 1 list1 z2 e4) (h11 : LR rB 1 c7.Accept z8 e10) (h15 : LR (rL rPush 2) 1 c7.Call z12 e14) (h19 : LR (rL (rL (rI .i64) 1) 1) 1 c7.Return z16 e18) (h23 : LR (rL (rI .i64) 1) 1 c7.Inner z20 e22) {r : Bool} (h : impl_ValidChecker_1 list1 many6 c7 = some r) (hs : WF s) : ACall Cf 182 [(AV.sl z2 f3 e4), (AV.int .i64 many6), (AV.eptr [(AV.int .i64 c7.Stack), (AV.int .i64 c7.Start), (AV.sl z8 f9 e10), (AV.sl z12 f13 e14), (AV.sl z16 f17 e18), (AV.sl z20 f21 e22)] 0)] s fun v _ s' => (rB) r v ∧ s' = s := by
  refine ACall.pure rfl rfl rfl .B ?_
  have hWF := hs.lo'
  unfold impl_ValidChecker_1 at h
  refine AW.seq ?_
  refine AW.region ?_
  refine AOps.pureR rfl rfl rfl rfl rfl (rfl : _ = (AV.bool false)) ?_
  refine AOps.nilR ?_
  refine AW.seq ?_
  refine AW.region ?_
  refine AOps.pureR rfl rfl rfl rfl rfl (rfl : _ = (AV.sl z2 f3 e4)) ?_
  obtain ⟨y24, h25, h⟩ := obind h
  refine AOps.callP (g := 183) (args := [(AV.sl z2 f3 e4)]) (p := (rI .i64) y24) rfl rfl rfl (impl_size_int64_ok h5 h25 hWF) ?_
  intro _ o27 h26
  cases h26
  refine AOps.pureR rfl rfl rfl rfl rfl (rfl : _ = (AV.int .i64 many6)) ?_
  refine AOps.pureR rfl rfl rfl rfl rfl (rfl : _ = (AV.bool (y24 == many6))) ?_
  refine AOps.pureR rfl rfl rfl rfl rfl (rfl : _ = (AV.bool (y24 == many6))) ?_
  obtain ⟨b29, hb, h⟩ := obind h
  refine AOps.split 5 (fun f' => ∃ tm' os', f' = ⟨updL tm' [(15, (AV.bool b29))], updL os' [], { s with lo := s.n }⟩) ?_ ?_
  · rcases oite hb with ⟨hc28, hb⟩ | ⟨hc28, hb⟩
    · have h := hb
      refine AOps.know (d := 10) rfl hc28 ?_
      refine AOps.pureR rfl rfl rfl rfl rfl (rfl : _ = (AV.sl z2 f3 e4)) ?_
      refine AOps.pureR rfl rfl rfl rfl rfl (rfl : _ = (AV.fn 184 [(AV.eptr [(AV.int .i64 c7.Stack), (AV.int .i64 c7.Start), (AV.sl z8 f9 e10), (AV.sl z12 f13 e14), (AV.sl z16 f17 e18), (AV.sl z20 f21 e22)] 0)])) ?_
      obtain ⟨y30, h31, h⟩ := obind h
      refine AOps.callP (g := 171) (args := [(AV.sl z2 f3 e4), (AV.fn 184 [(AV.eptr [(AV.int .i64 c7.Stack), (AV.int .i64 c7.Start), (AV.sl z8 f9 e10), (AV.sl z12 f13 e14), (AV.sl z16 f17 e18), (AV.sl z20 f21 e22)] 0)])]) (p := (rB) y30) rfl rfl rfl (slices_ContainsFunc_sint64_int64_ok h5 (by intro x vs y hc hx s hs; obtain ⟨_, _, rfl, hv0, hd0⟩ := Cs_cons hc; cases hv0; cases Cs_nil hd0; exact impl_ValidChecker_1_1_ok h11 h15 h19 h23 hx hs) h31 hWF) ?_
      intro _ o33 h32
      cases h32
      refine AOps.pureR rfl rfl rfl rfl rfl (rfl : _ = (AV.bool (!y30))) ?_
      refine AOps.pureR rfl rfl rfl rfl rfl (rfl : _ = (AV.bool (!y30))) ?_
      refine AOps.resR [(15, (AV.bool b29))] [] ?_ ?_ _ ⟨_, _, rfl⟩
      · exact ⟨congrArg AV.bool (Option.some.inj h), trivial⟩
      exact trivial
    · refine AOps.know (d := 10) rfl hc28 ?_
      refine AOps.skipR rfl rfl ?_
      refine AOps.skipR rfl rfl ?_
      refine AOps.skipR rfl rfl ?_
      refine AOps.skipR rfl rfl ?_
      refine AOps.pureR rfl rfl rfl rfl rfl (rfl : _ = (AV.bool false)) ?_
      refine AOps.resR [(15, (AV.bool b29))] [] ?_ ?_ _ ⟨_, _, rfl⟩
      · exact ⟨congrArg AV.bool (Option.some.inj hb), trivial⟩
      exact trivial
  rintro _ ⟨tm, os, rfl⟩
  refine AOps.assignR rfl rfl rfl (rfl : _ = (AV.bool b29)) rfl ?_
  refine AOps.nilR ?_
  cases h
  exact AW.ret ⟨rfl, _, _, rfl, rfl⟩
theorem impl_Checker_isMark_ok {c1 : Checker} {x18 : Int} {z2 : Nat} {f3 : Bool} {e4 : List AV} {z6 : Nat} {f7 : Bool} {e8 : List AV} {z10 : Nat} {f11 : Bool} {e12 : List AV} {z14 : Nat} {f15 : Bool} {e16 : List AV} {s : St} (h5 : LR rB 1 c1.Accept z2 e4) (h9 : LR (rL rPush 2) 1 c1.Call z6 e8) (h13 : LR (rL (rL (rI .i64) 1) 1) 1 c1.Return z10 e12) (h17 : LR (rL (rI .i64) 1) 1 c1.Inner z14 e16) {r : Bool} (h : impl_Checker_isMark c1 x18 = some r) (hs : WF s) : ACall Cf 185 [(AV.agg [(AV.int .i64 c1.Stack), (AV.int .i64 c1.Start), (AV.sl z2 f3 e4), (AV.sl z6 f7 e8), (AV.sl z10 f11 e12), (AV.sl z14 f15 e16)]), (AV.int .i64 x18)] s fun v _ s' => (rB) r v ∧ s' = s := by
  refine ACall.pure rfl rfl rfl .B ?_
  have hWF := hs.lo'
  unfold impl_Checker_isMark at h
  refine AW.seq ?_
  refine AW.region ?_
  refine AOps.makeR rfl rfl rfl rfl rfl rfl (rfl : _ = (AV.eptr [(AV.int .i64 c1.Stack), (AV.int .i64 c1.Start), (AV.sl z2 f3 e4), (AV.sl z6 f7 e8), (AV.sl z10 f11 e12), (AV.sl z14 f15 e16)] 0)) ?_
  refine AOps.pureR rfl rfl rfl rfl rfl (rfl : _ = (AV.bool false)) ?_
  refine AOps.nilR ?_
  refine AW.seq ?_
  refine AW.region ?_
  refine AOps.pureR rfl rfl rfl rfl rfl (rfl : _ = (AV.int .i64 x18)) ?_
  refine AOps.pureR rfl rfl rfl rfl rfl (rfl : _ = (AV.eptr [(AV.int .i64 c1.Stack), (AV.int .i64 c1.Start), (AV.sl z2 f3 e4), (AV.sl z6 f7 e8), (AV.sl z10 f11 e12), (AV.sl z14 f15 e16)] 0)) ?_
  refine AOps.ldE (v := (AV.int .i64 c1.Stack)) rfl rfl rfl rfl rfl rfl ?_
  refine AOps.pureR rfl rfl rfl rfl rfl (rfl : _ = (AV.int .i64 (IntKind.wrap .i64 (c1.Stack - 1)))) ?_
  obtain ⟨y19, h20, h⟩ := obind h
  refine AOps.callP (g := 106) (args := [(AV.int .i64 x18), (AV.int .i64 0), (AV.int .i64 (IntKind.wrap .i64 (c1.Stack - 1)))]) (p := (rB) y19) rfl rfl rfl (impl_within_ok  h20 hWF) ?_
  intro _ o22 h21
  cases h21
  refine AOps.assignR rfl rfl rfl (rfl : _ = (AV.bool y19)) rfl ?_
  refine AOps.nilR ?_
  cases h
  exact AW.ret ⟨rfl, _, _, rfl, rfl⟩
theorem impl_ValidChecker_ok {p1 : Checker} {z2 : Nat} {f3 : Bool} {e4 : List AV} {z6 : Nat} {f7 : Bool} {e8 : List AV} {z10 : Nat} {f11 : Bool} {e12 : List AV} {z14 : Nat} {f15 : Bool} {e16 : List AV} {s : St} (h5 : LR rB 1 p1.Accept z2 e4) (h9 : LR (rL rPush 2) 1 p1.Call z6 e8) (h13 : LR (rL (rL (rI .i64) 1) 1) 1 p1.Return z10 e12) (h17 : LR (rL (rI .i64) 1) 1 p1.Inner z14 e16) {r : Bool} (h : impl_ValidChecker p1 = some r) (hs : WF s) : ACall Cf 90 [(AV.agg [(AV.int .i64 p1.Stack), (AV.int .i64 p1.Start), (AV.sl z2 f3 e4), (AV.sl z6 f7 e8), (AV.sl z10 f11 e12), (AV.sl z14 f15 e16)])] s fun v _ s' => (rB) r v ∧ s' = s := by
  refine ACall.pure rfl rfl rfl .B ?_
  have hWF := hs.lo'
  unfold impl_ValidChecker at h
  refine AW.seq ?_
  refine AW.region ?_
  refine AOps.makeR rfl rfl rfl rfl rfl rfl (rfl : _ = (AV.eptr [(AV.int .i64 p1.Stack), (AV.int .i64 p1.Start), (AV.sl z2 f3 e4), (AV.sl z6 f7 e8), (AV.sl z10 f11 e12), (AV.sl z14 f15 e16)] 0)) ?_
  refine AOps.pureR rfl rfl rfl rfl rfl (rfl : _ = (AV.bool false)) ?_
  refine AOps.nilR ?_
  refine AW.seq ?_
  refine AW.region ?_
  refine AOps.pureR rfl rfl rfl rfl rfl (rfl : _ = (AV.eptr [(AV.int .i64 p1.Stack), (AV.int .i64 p1.Start), (AV.sl z2 f3 e4), (AV.sl z6 f7 e8), (AV.sl z10 f11 e12), (AV.sl z14 f15 e16)] 2)) ?_
  refine AOps.ldE (v := (AV.sl z2 f3 e4)) rfl rfl rfl rfl rfl rfl ?_
  obtain ⟨y18, h19, h⟩ := obind h
  refine AOps.callP (g := 143) (args := [(AV.sl z2 f3 e4)]) (p := (rI .i64) y18) rfl rfl rfl (impl_size_bool_ok h5 h19 hWF) ?_
  intro _ o21 h20
  cases h20
  refine AOps.assignR rfl rfl rfl (rfl : _ = (AV.int .i64 y18)) rfl ?_
  refine AOps.nilR ?_
  refine AW.seq ?_
  refine AW.seq ?_
  refine AW.region ?_
  refine AOps.pureR rfl rfl rfl rfl rfl (rfl : _ = (AV.int .i64 y18)) ?_
  obtain ⟨y22, h23, h⟩ := obind h
  refine AOps.callP (g := 106) (args := [(AV.int .i64 y18), (AV.int .i64 1), (AV.int .i64 40)]) (p := (rB) y22) rfl rfl rfl (impl_within_ok  h23 hWF) ?_
  intro _ o25 h24
  cases h24
  refine AOps.pureR rfl rfl rfl rfl rfl (rfl : _ = (AV.bool (!y22))) ?_
  refine AOps.pureR rfl rfl rfl rfl rfl (rfl : _ = (AV.bool (!y22))) ?_
  obtain ⟨b27, hb, h⟩ := obind h
  refine AOps.split 5 (fun f' => ∃ tm' os', f' = ⟨updL tm' [(1, (AV.eptr [(AV.int .i64 p1.Stack), (AV.int .i64 p1.Start), (AV.sl z2 f3 e4), (AV.sl z6 f7 e8), (AV.sl z10 f11 e12), (AV.sl z14 f15 e16)] 0)), (3, (AV.int .i64 y18)), (19, (AV.bool b27))], updL os' [], { s with lo := s.n }⟩) ?_ ?_
  · rcases oite hb with ⟨hc26, hb⟩ | ⟨hc26, hb⟩
    · refine AOps.know (d := 14) rfl hc26 ?_
      refine AOps.skipR rfl rfl ?_
      refine AOps.skipR rfl rfl ?_
      refine AOps.skipR rfl rfl ?_
      refine AOps.skipR rfl rfl ?_
      refine AOps.pureR rfl rfl rfl rfl rfl (rfl : _ = (AV.bool true)) ?_
      refine AOps.resR [(1, (AV.eptr [(AV.int .i64 p1.Stack), (AV.int .i64 p1.Start), (AV.sl z2 f3 e4), (AV.sl z6 f7 e8), (AV.sl z10 f11 e12), (AV.sl z14 f15 e16)] 0)), (3, (AV.int .i64 y18)), (19, (AV.bool b27))] [] ?_ ?_ _ ⟨_, _, rfl⟩
      · exact ⟨rfl, rfl, congrArg AV.bool (Option.some.inj hb), trivial⟩
      exact trivial
    · have h := hb
      refine AOps.know (d := 14) rfl hc26 ?_
      refine AOps.pureR rfl rfl rfl rfl rfl (rfl : _ = (AV.eptr [(AV.int .i64 p1.Stack), (AV.int .i64 p1.Start), (AV.sl z2 f3 e4), (AV.sl z6 f7 e8), (AV.sl z10 f11 e12), (AV.sl z14 f15 e16)] 0)) ?_
      refine AOps.ldE (v := (AV.int .i64 p1.Stack)) rfl rfl rfl rfl rfl rfl ?_
      obtain ⟨y28, h29, h⟩ := obind h
      refine AOps.callP (g := 106) (args := [(AV.int .i64 p1.Stack), (AV.int .i64 1), (AV.int .i64 80)]) (p := (rB) y28) rfl rfl rfl (impl_within_ok  h29 hWF) ?_
      intro _ o31 h30
      cases h30
      refine AOps.pureR rfl rfl rfl rfl rfl (rfl : _ = (AV.bool (!y28))) ?_
      refine AOps.pureR rfl rfl rfl rfl rfl (rfl : _ = (AV.bool (!y28))) ?_
      refine AOps.resR [(1, (AV.eptr [(AV.int .i64 p1.Stack), (AV.int .i64 p1.Start), (AV.sl z2 f3 e4), (AV.sl z6 f7 e8), (AV.sl z10 f11 e12), (AV.sl z14 f15 e16)] 0)), (3, (AV.int .i64 y18)), (19, (AV.bool b27))] [] ?_ ?_ _ ⟨_, _, rfl⟩
      · exact ⟨rfl, rfl, congrArg AV.bool (Option.some.inj h), trivial⟩
      exact trivial
  rintro _ ⟨tm, os, rfl⟩
  refine AOps.pureR rfl rfl rfl rfl rfl (rfl : _ = (AV.bool b27)) ?_
  obtain ⟨b33, hb, h⟩ := obind h
  refine AOps.split 6 (fun f' => ∃ tm' os', f' = ⟨updL tm' [(1, (AV.eptr [(AV.int .i64 p1.Stack), (AV.int .i64 p1.Start), (AV.sl z2 f3 e4), (AV.sl z6 f7 e8), (AV.sl z10 f11 e12), (AV.sl z14 f15 e16)] 0)), (3, (AV.int .i64 y18)), (26, (AV.bool b33))], updL os' [], { s with lo := s.n }⟩) ?_ ?_
  · rcases oite hb with ⟨hc32, hb⟩ | ⟨hc32, hb⟩
    · refine AOps.know (d := 20) rfl hc32 ?_
      refine AOps.skipR rfl rfl ?_
      refine AOps.skipR rfl rfl ?_
      refine AOps.skipR rfl rfl ?_
      refine AOps.skipR rfl rfl ?_
      refine AOps.skipR rfl rfl ?_
      refine AOps.pureR rfl rfl rfl rfl rfl (rfl : _ = (AV.bool true)) ?_
      refine AOps.resR [(1, (AV.eptr [(AV.int .i64 p1.Stack), (AV.int .i64 p1.Start), (AV.sl z2 f3 e4), (AV.sl z6 f7 e8), (AV.sl z10 f11 e12), (AV.sl z14 f15 e16)] 0)), (3, (AV.int .i64 y18)), (26, (AV.bool b33))] [] ?_ ?_ _ ⟨_, _, rfl⟩
      · exact ⟨rfl, rfl, congrArg AV.bool (Option.some.inj hb), trivial⟩
      exact trivial
    · have h := hb
      refine AOps.know (d := 20) rfl hc32 ?_
      refine AOps.ldE (v := (AV.agg [(AV.int .i64 p1.Stack), (AV.int .i64 p1.Start), (AV.sl z2 f3 e4), (AV.sl z6 f7 e8), (AV.sl z10 f11 e12), (AV.sl z14 f15 e16)])) rfl rfl rfl rfl rfl rfl ?_
      refine AOps.pureR rfl rfl rfl rfl rfl (rfl : _ = (AV.eptr [(AV.int .i64 p1.Stack), (AV.int .i64 p1.Start), (AV.sl z2 f3 e4), (AV.sl z6 f7 e8), (AV.sl z10 f11 e12), (AV.sl z14 f15 e16)] 1)) ?_
      refine AOps.ldE (v := (AV.int .i64 p1.Start)) rfl rfl rfl rfl rfl rfl ?_
      obtain ⟨y34, h35, h⟩ := obind h
      refine AOps.callP (g := 133) (args := [(AV.agg [(AV.int .i64 p1.Stack), (AV.int .i64 p1.Start), (AV.sl z2 f3 e4), (AV.sl z6 f7 e8), (AV.sl z10 f11 e12), (AV.sl z14 f15 e16)]), (AV.int .i64 p1.Start)]) (p := (rB) y34) rfl rfl rfl (impl_Checker_isState_ok h5 h9 h13 h17 h35 hWF) ?_
      intro _ o37 h36
      cases h36
      refine AOps.pureR rfl rfl rfl rfl rfl (rfl : _ = (AV.bool (!y34))) ?_
      refine AOps.pureR rfl rfl rfl rfl rfl (rfl : _ = (AV.bool (!y34))) ?_
      refine AOps.resR [(1, (AV.eptr [(AV.int .i64 p1.Stack), (AV.int .i64 p1.Start), (AV.sl z2 f3 e4), (AV.sl z6 f7 e8), (AV.sl z10 f11 e12), (AV.sl z14 f15 e16)] 0)), (3, (AV.int .i64 y18)), (26, (AV.bool b33))] [] ?_ ?_ _ ⟨_, _, rfl⟩
      · exact ⟨rfl, rfl, congrArg AV.bool (Option.some.inj h), trivial⟩
      exact trivial
  rintro _ ⟨tm, os, rfl⟩
  refine AOps.pureR rfl rfl rfl rfl rfl (rfl : _ = (AV.bool b33)) ?_
  obtain ⟨b39, hb, h⟩ := obind h
  refine AOps.split 6 (fun f' => ∃ tm' os', f' = ⟨updL tm' [(1, (AV.eptr [(AV.int .i64 p1.Stack), (AV.int .i64 p1.Start), (AV.sl z2 f3 e4), (AV.sl z6 f7 e8), (AV.sl z10 f11 e12), (AV.sl z14 f15 e16)] 0)), (3, (AV.int .i64 y18)), (33, (AV.bool b39))], updL os' [], { s with lo := s.n }⟩) ?_ ?_
  · rcases oite hb with ⟨hc38, hb⟩ | ⟨hc38, hb⟩
    · refine AOps.know (d := 27) rfl hc38 ?_
      refine AOps.skipR rfl rfl ?_
      refine AOps.skipR rfl rfl ?_
      refine AOps.skipR rfl rfl ?_
      refine AOps.skipR rfl rfl ?_
      refine AOps.skipR rfl rfl ?_
      refine AOps.pureR rfl rfl rfl rfl rfl (rfl : _ = (AV.bool true)) ?_
      refine AOps.resR [(1, (AV.eptr [(AV.int .i64 p1.Stack), (AV.int .i64 p1.Start), (AV.sl z2 f3 e4), (AV.sl z6 f7 e8), (AV.sl z10 f11 e12), (AV.sl z14 f15 e16)] 0)), (3, (AV.int .i64 y18)), (33, (AV.bool b39))] [] ?_ ?_ _ ⟨_, _, rfl⟩
      · exact ⟨rfl, rfl, congrArg AV.bool (Option.some.inj hb), trivial⟩
      exact trivial
    · have h := hb
      refine AOps.know (d := 27) rfl hc38 ?_
      refine AOps.pureR rfl rfl rfl rfl rfl (rfl : _ = (AV.eptr [(AV.int .i64 p1.Stack), (AV.int .i64 p1.Start), (AV.sl z2 f3 e4), (AV.sl z6 f7 e8), (AV.sl z10 f11 e12), (AV.sl z14 f15 e16)] 3)) ?_
      refine AOps.ldE (v := (AV.sl z6 f7 e8)) rfl rfl rfl rfl rfl rfl ?_
      obtain ⟨y40, h41, h⟩ := obind h
      refine AOps.callP (g := 179) (args := [(AV.sl z6 f7 e8)]) (p := (rI .i64) y40) rfl rfl rfl (impl_size_simpl_Push_ok h9 h41 hWF) ?_
      intro _ o43 h42
      cases h42
      refine AOps.pureR rfl rfl rfl rfl rfl (rfl : _ = (AV.int .i64 y18)) ?_
      refine AOps.pureR rfl rfl rfl rfl rfl (rfl : _ = (AV.bool (y40 != y18))) ?_
      refine AOps.pureR rfl rfl rfl rfl rfl (rfl : _ = (AV.bool (y40 != y18))) ?_
      refine AOps.resR [(1, (AV.eptr [(AV.int .i64 p1.Stack), (AV.int .i64 p1.Start), (AV.sl z2 f3 e4), (AV.sl z6 f7 e8), (AV.sl z10 f11 e12), (AV.sl z14 f15 e16)] 0)), (3, (AV.int .i64 y18)), (33, (AV.bool b39))] [] ?_ ?_ _ ⟨_, _, rfl⟩
      · exact ⟨rfl, rfl, congrArg AV.bool (Option.some.inj h), trivial⟩
      exact trivial
  rintro _ ⟨tm, os, rfl⟩
  refine AOps.pureR rfl rfl rfl rfl rfl (rfl : _ = (AV.bool b39)) ?_
  obtain ⟨b45, hb, h⟩ := obind h
  refine AOps.split 6 (fun f' => ∃ tm' os', f' = ⟨updL tm' [(1, (AV.eptr [(AV.int .i64 p1.Stack), (AV.int .i64 p1.Start), (AV.sl z2 f3 e4), (AV.sl z6 f7 e8), (AV.sl z10 f11 e12), (AV.sl z14 f15 e16)] 0)), (3, (AV.int .i64 y18)), (40, (AV.bool b45))], updL os' [], { s with lo := s.n }⟩) ?_ ?_
  · rcases oite hb with ⟨hc44, hb⟩ | ⟨hc44, hb⟩
    · refine AOps.know (d := 34) rfl hc44 ?_
      refine AOps.skipR rfl rfl ?_
      refine AOps.skipR rfl rfl ?_
      refine AOps.skipR rfl rfl ?_
      refine AOps.skipR rfl rfl ?_
      refine AOps.skipR rfl rfl ?_
      refine AOps.pureR rfl rfl rfl rfl rfl (rfl : _ = (AV.bool true)) ?_
      refine AOps.resR [(1, (AV.eptr [(AV.int .i64 p1.Stack), (AV.int .i64 p1.Start), (AV.sl z2 f3 e4), (AV.sl z6 f7 e8), (AV.sl z10 f11 e12), (AV.sl z14 f15 e16)] 0)), (3, (AV.int .i64 y18)), (40, (AV.bool b45))] [] ?_ ?_ _ ⟨_, _, rfl⟩
      · exact ⟨rfl, rfl, congrArg AV.bool (Option.some.inj hb), trivial⟩
      exact trivial
    · have h := hb
      refine AOps.know (d := 34) rfl hc44 ?_
      refine AOps.pureR rfl rfl rfl rfl rfl (rfl : _ = (AV.eptr [(AV.int .i64 p1.Stack), (AV.int .i64 p1.Start), (AV.sl z2 f3 e4), (AV.sl z6 f7 e8), (AV.sl z10 f11 e12), (AV.sl z14 f15 e16)] 4)) ?_
      refine AOps.ldE (v := (AV.sl z10 f11 e12)) rfl rfl rfl rfl rfl rfl ?_
      obtain ⟨y46, h47, h⟩ := obind h
      refine AOps.callP (g := 180) (args := [(AV.sl z10 f11 e12)]) (p := (rI .i64) y46) rfl rfl rfl (impl_size_s_int64_ok h13 h47 hWF) ?_
      intro _ o49 h48
      cases h48
      refine AOps.pureR rfl rfl rfl rfl rfl (rfl : _ = (AV.int .i64 y18)) ?_
      refine AOps.pureR rfl rfl rfl rfl rfl (rfl : _ = (AV.bool (y46 != y18))) ?_
      refine AOps.pureR rfl rfl rfl rfl rfl (rfl : _ = (AV.bool (y46 != y18))) ?_
      refine AOps.resR [(1, (AV.eptr [(AV.int .i64 p1.Stack), (AV.int .i64 p1.Start), (AV.sl z2 f3 e4), (AV.sl z6 f7 e8), (AV.sl z10 f11 e12), (AV.sl z14 f15 e16)] 0)), (3, (AV.int .i64 y18)), (40, (AV.bool b45))] [] ?_ ?_ _ ⟨_, _, rfl⟩
      · exact ⟨rfl, rfl, congrArg AV.bool (Option.some.inj h), trivial⟩
      exact trivial
  rintro _ ⟨tm, os, rfl⟩
  refine AOps.pureR rfl rfl rfl rfl rfl (rfl : _ = (AV.bool b45)) ?_
  obtain ⟨b51, hb, h⟩ := obind h
  refine AOps.split 6 (fun f' => ∃ tm' os', f' = ⟨updL tm' [(1, (AV.eptr [(AV.int .i64 p1.Stack), (AV.int .i64 p1.Start), (AV.sl z2 f3 e4), (AV.sl z6 f7 e8), (AV.sl z10 f11 e12), (AV.sl z14 f15 e16)] 0)), (3, (AV.int .i64 y18)), (47, (AV.bool b51))], updL os' [], { s with lo := s.n }⟩) ?_ ?_
  · rcases oite hb with ⟨hc50, hb⟩ | ⟨hc50, hb⟩
    · refine AOps.know (d := 41) rfl hc50 ?_
      refine AOps.skipR rfl rfl ?_
      refine AOps.skipR rfl rfl ?_
      refine AOps.skipR rfl rfl ?_
      refine AOps.skipR rfl rfl ?_
      refine AOps.skipR rfl rfl ?_
      refine AOps.pureR rfl rfl rfl rfl rfl (rfl : _ = (AV.bool true)) ?_
      refine AOps.resR [(1, (AV.eptr [(AV.int .i64 p1.Stack), (AV.int .i64 p1.Start), (AV.sl z2 f3 e4), (AV.sl z6 f7 e8), (AV.sl z10 f11 e12), (AV.sl z14 f15 e16)] 0)), (3, (AV.int .i64 y18)), (47, (AV.bool b51))] [] ?_ ?_ _ ⟨_, _, rfl⟩
      · exact ⟨rfl, rfl, congrArg AV.bool (Option.some.inj hb), trivial⟩
      exact trivial
    · have h := hb
      refine AOps.know (d := 41) rfl hc50 ?_
      refine AOps.pureR rfl rfl rfl rfl rfl (rfl : _ = (AV.eptr [(AV.int .i64 p1.Stack), (AV.int .i64 p1.Start), (AV.sl z2 f3 e4), (AV.sl z6 f7 e8), (AV.sl z10 f11 e12), (AV.sl z14 f15 e16)] 5)) ?_
      refine AOps.ldE (v := (AV.sl z14 f15 e16)) rfl rfl rfl rfl rfl rfl ?_
      obtain ⟨y52, h53, h⟩ := obind h
      refine AOps.callP (g := 181) (args := [(AV.sl z14 f15 e16)]) (p := (rI .i64) y52) rfl rfl rfl (impl_size_sint64_ok h17 h53 hWF) ?_
      intro _ o55 h54
      cases h54
      refine AOps.pureR rfl rfl rfl rfl rfl (rfl : _ = (AV.int .i64 y18)) ?_
      refine AOps.pureR rfl rfl rfl rfl rfl (rfl : _ = (AV.bool (y52 != y18))) ?_
      refine AOps.pureR rfl rfl rfl rfl rfl (rfl : _ = (AV.bool (y52 != y18))) ?_
      refine AOps.resR [(1, (AV.eptr [(AV.int .i64 p1.Stack), (AV.int .i64 p1.Start), (AV.sl z2 f3 e4), (AV.sl z6 f7 e8), (AV.sl z10 f11 e12), (AV.sl z14 f15 e16)] 0)), (3, (AV.int .i64 y18)), (47, (AV.bool b51))] [] ?_ ?_ _ ⟨_, _, rfl⟩
      · exact ⟨rfl, rfl, congrArg AV.bool (Option.some.inj h), trivial⟩
      exact trivial
  rintro _ ⟨tm, os, rfl⟩
  refine AOps.nilR ?_
  rcases oite h with ⟨hc56, h⟩ | ⟨hc56, h⟩
  · refine AW.condT (congrArg AV.bool hc56) ?_
    refine AW.seq ?_
    refine AW.region ?_
    refine AOps.pureR rfl rfl rfl rfl rfl (rfl : _ = (AV.bool false)) ?_
    refine AOps.nilR ?_
    cases h
    exact AW.ret ⟨rfl, _, _, rfl, rfl⟩
  refine AW.condF (congrArg AV.bool hc56) ?_
  refine AW.skip ?_
  refine AW.seq ?_
  refine AW.region ?_
  refine AOps.pureR rfl rfl rfl rfl rfl (rfl : _ = (AV.fn 182 [(AV.eptr [(AV.int .i64 p1.Stack), (AV.int .i64 p1.Start), (AV.sl z2 f3 e4), (AV.sl z6 f7 e8), (AV.sl z10 f11 e12), (AV.sl z14 f15 e16)] 0)])) ?_
  refine AOps.assignR rfl rfl rfl (rfl : _ = (AV.fn 182 [(AV.eptr [(AV.int .i64 p1.Stack), (AV.int .i64 p1.Start), (AV.sl z2 f3 e4), (AV.sl z6 f7 e8), (AV.sl z10 f11 e12), (AV.sl z14 f15 e16)] 0)])) rfl ?_
  refine AOps.nilR ?_
  refine AW.seq ?_
  refine AW.seq ?_
  refine AW.region ?_
  refine AOps.pureR rfl rfl rfl rfl rfl (rfl : _ = (AV.int .i64 y18)) ?_
  refine AOps.pureR rfl rfl rfl rfl rfl (rfl : _ = (AV.int .i64 0)) ?_
  refine AOps.nilR ?_
  refine AW.meet (σ := Unit) (fun _ tm os => ⟨updL tm [], updL os [], { s with lo := s.n }⟩) (fun _ => impl_ValidChecker_J1 = some r) ?_ ?_
  · rintro _ tm os h
    unfold impl_ValidChecker_J1 at h
    refine AW.seq ?_
    refine AW.region ?_
    refine AOps.pureR rfl rfl rfl rfl rfl (rfl : _ = (AV.bool true)) ?_
    refine AOps.nilR ?_
    cases h
    exact AW.ret ⟨rfl, _, _, rfl, rfl⟩
  intro KJ57
  refine AW.block ?_
  refine AW.res [(1, (AV.eptr [(AV.int .i64 p1.Stack), (AV.int .i64 p1.Start), (AV.sl z2 f3 e4), (AV.sl z6 f7 e8), (AV.sl z10 f11 e12), (AV.sl z14 f15 e16)] 0)), (4, (AV.fn 182 [(AV.eptr [(AV.int .i64 p1.Stack), (AV.int .i64 p1.Start), (AV.sl z2 f3 e4), (AV.sl z6 f7 e8), (AV.sl z10 f11 e12), (AV.sl z14 f15 e16)] 0)])), (49, (AV.int .i64 y18)), (50, (AV.int .i64 0))] [] ⟨rfl, rfl, rfl, rfl, trivial⟩ trivial ?_
  refine AW.loopF (σ := Int) (τ := Unit) (fun t58 _ => True) (fun t58 _ tm os => ⟨updL tm [(1, (AV.eptr [(AV.int .i64 p1.Stack), (AV.int .i64 p1.Start), (AV.sl z2 f3 e4), (AV.sl z6 f7 e8), (AV.sl z10 f11 e12), (AV.sl z14 f15 e16)] 0)), (4, (AV.fn 182 [(AV.eptr [(AV.int .i64 p1.Stack), (AV.int .i64 p1.Start), (AV.sl z2 f3 e4), (AV.sl z6 f7 e8), (AV.sl z10 f11 e12), (AV.sl z14 f15 e16)] 0)])), (49, (AV.int .i64 y18)), (50, (AV.int .i64 t58))], updL os [], { s with lo := s.n }⟩) ?_ (x := (0)) (y := ()) h trivial
  clear h
  rintro t58 _ tm os - e1 h hL1 hR1
  unfold impl_ValidChecker_S1 at h
  refine AW.seq ?_
  refine AW.region ?_
  refine AOps.pureR rfl rfl rfl rfl rfl (rfl : _ = (AV.bool (decide ((t58 : Int) < y18)))) ?_
  refine AOps.nilR ?_
  refine AW.seq ?_
  rcases oite h with ⟨hc59, h⟩ | ⟨hc59, h⟩
  · refine AW.condT (congrArg AV.bool hc59) ?_
    refine AW.skip ?_
    refine AW.seq ?_
    refine AW.block ?_
    refine AW.seq ?_
    refine AW.region ?_
    refine AOps.pureR rfl rfl rfl rfl rfl (rfl : _ = (AV.int .i64 t58)) ?_
    refine AOps.assignR rfl rfl rfl (rfl : _ = (AV.int .i64 t58)) rfl ?_
    refine AOps.nilR ?_
    refine AW.seq ?_
    refine AW.seq ?_
    refine AW.region ?_
    refine AOps.pureR rfl rfl rfl rfl rfl (rfl : _ = (AV.eptr [(AV.int .i64 p1.Stack), (AV.int .i64 p1.Start), (AV.sl z2 f3 e4), (AV.sl z6 f7 e8), (AV.sl z10 f11 e12), (AV.sl z14 f15 e16)] 3)) ?_
    refine AOps.ldE (v := (AV.sl z6 f7 e8)) rfl rfl rfl rfl rfl rfl ?_
    refine AOps.pureR rfl rfl rfl rfl rfl (rfl : _ = (AV.int .i64 t58)) ?_
    obtain ⟨x60, h61, h⟩ := obind h
    obtain ⟨v64, h62, h63⟩ := idx_sl h9 h61
    obtain ⟨z65, f66, e67, rfl, h68⟩ := h62
    refine AOps.pureR rfl rfl rfl h63 rfl (rfl : _ = (AV.eptr [(AV.sl z65 f66 e67)] 0)) ?_
    refine AOps.ldE (v := (AV.sl z65 f66 e67)) rfl rfl rfl rfl rfl rfl ?_
    refine AOps.pureR rfl rfl rfl rfl rfl (len_eq h68) ?_
    refine AOps.pureR rfl rfl rfl rfl rfl (rfl : _ = (AV.bool ((x60.length : Int) != 2))) ?_
    refine AOps.pureR rfl rfl rfl rfl rfl (rfl : _ = (AV.bool ((x60.length : Int) != 2))) ?_
    obtain ⟨b70, hb, h⟩ := obind h
    refine AOps.split 8 (fun f' => ∃ tm' os', f' = ⟨updL tm' [(1, (AV.eptr [(AV.int .i64 p1.Stack), (AV.int .i64 p1.Start), (AV.sl z2 f3 e4), (AV.sl z6 f7 e8), (AV.sl z10 f11 e12), (AV.sl z14 f15 e16)] 0)), (4, (AV.fn 182 [(AV.eptr [(AV.int .i64 p1.Stack), (AV.int .i64 p1.Start), (AV.sl z2 f3 e4), (AV.sl z6 f7 e8), (AV.sl z10 f11 e12), (AV.sl z14 f15 e16)] 0)])), (5, (AV.int .i64 t58)), (49, (AV.int .i64 y18)), (50, (AV.int .i64 t58)), (68, (AV.bool b70))], updL os' [], { s with lo := s.n }⟩) ?_ ?_
    · rcases oite hb with ⟨hc69, hb⟩ | ⟨hc69, hb⟩
      · refine AOps.know (d := 60) rfl hc69 ?_
        refine AOps.skipR rfl rfl ?_
        refine AOps.skipR rfl rfl ?_
        refine AOps.skipR rfl rfl ?_
        refine AOps.skipR rfl rfl ?_
        refine AOps.skipR rfl rfl ?_
        refine AOps.skipR rfl rfl ?_
        refine AOps.skipR rfl rfl ?_
        refine AOps.pureR rfl rfl rfl rfl rfl (rfl : _ = (AV.bool true)) ?_
        refine AOps.resR [(1, (AV.eptr [(AV.int .i64 p1.Stack), (AV.int .i64 p1.Start), (AV.sl z2 f3 e4), (AV.sl z6 f7 e8), (AV.sl z10 f11 e12), (AV.sl z14 f15 e16)] 0)), (4, (AV.fn 182 [(AV.eptr [(AV.int .i64 p1.Stack), (AV.int .i64 p1.Start), (AV.sl z2 f3 e4), (AV.sl z6 f7 e8), (AV.sl z10 f11 e12), (AV.sl z14 f15 e16)] 0)])), (5, (AV.int .i64 t58)), (49, (AV.int .i64 y18)), (50, (AV.int .i64 t58)), (68, (AV.bool b70))] [] ?_ ?_ _ ⟨_, _, rfl⟩
        · exact ⟨rfl, rfl, rfl, rfl, rfl, congrArg AV.bool (Option.some.inj hb), trivial⟩
        exact trivial
      · have h := hb
        refine AOps.know (d := 60) rfl hc69 ?_
        refine AOps.pureR rfl rfl rfl rfl rfl (rfl : _ = (AV.eptr [(AV.int .i64 p1.Stack), (AV.int .i64 p1.Start), (AV.sl z2 f3 e4), (AV.sl z6 f7 e8), (AV.sl z10 f11 e12), (AV.sl z14 f15 e16)] 4)) ?_
        refine AOps.ldE (v := (AV.sl z10 f11 e12)) rfl rfl rfl rfl rfl rfl ?_
        refine AOps.pureR rfl rfl rfl rfl rfl (rfl : _ = (AV.int .i64 t58)) ?_
        obtain ⟨x71, h72, h⟩ := obind h
        obtain ⟨v75, h73, h74⟩ := idx_sl h13 h72
        obtain ⟨z76, f77, e78, rfl, h79⟩ := h73
        refine AOps.pureR rfl rfl rfl h74 rfl (rfl : _ = (AV.eptr [(AV.sl z76 f77 e78)] 0)) ?_
        refine AOps.ldE (v := (AV.sl z76 f77 e78)) rfl rfl rfl rfl rfl rfl ?_
        refine AOps.pureR rfl rfl rfl rfl rfl (len_eq h79) ?_
        refine AOps.pureR rfl rfl rfl rfl rfl (rfl : _ = (AV.bool ((x71.length : Int) != 2))) ?_
        refine AOps.pureR rfl rfl rfl rfl rfl (rfl : _ = (AV.bool ((x71.length : Int) != 2))) ?_
        refine AOps.resR [(1, (AV.eptr [(AV.int .i64 p1.Stack), (AV.int .i64 p1.Start), (AV.sl z2 f3 e4), (AV.sl z6 f7 e8), (AV.sl z10 f11 e12), (AV.sl z14 f15 e16)] 0)), (4, (AV.fn 182 [(AV.eptr [(AV.int .i64 p1.Stack), (AV.int .i64 p1.Start), (AV.sl z2 f3 e4), (AV.sl z6 f7 e8), (AV.sl z10 f11 e12), (AV.sl z14 f15 e16)] 0)])), (5, (AV.int .i64 t58)), (49, (AV.int .i64 y18)), (50, (AV.int .i64 t58)), (68, (AV.bool b70))] [] ?_ ?_ _ ⟨_, _, rfl⟩
        · exact ⟨rfl, rfl, rfl, rfl, rfl, congrArg AV.bool (Option.some.inj h), trivial⟩
        exact trivial
    rintro _ ⟨tm, os, rfl⟩
    refine AOps.pureR rfl rfl rfl rfl rfl (rfl : _ = (AV.bool b70)) ?_
    obtain ⟨b81, hb, h⟩ := obind h
    refine AOps.split 9 (fun f' => ∃ tm' os', f' = ⟨updL tm' [(1, (AV.eptr [(AV.int .i64 p1.Stack), (AV.int .i64 p1.Start), (AV.sl z2 f3 e4), (AV.sl z6 f7 e8), (AV.sl z10 f11 e12), (AV.sl z14 f15 e16)] 0)), (4, (AV.fn 182 [(AV.eptr [(AV.int .i64 p1.Stack), (AV.int .i64 p1.Start), (AV.sl z2 f3 e4), (AV.sl z6 f7 e8), (AV.sl z10 f11 e12), (AV.sl z14 f15 e16)] 0)])), (5, (AV.int .i64 t58)), (49, (AV.int .i64 y18)), (50, (AV.int .i64 t58)), (78, (AV.bool b81))], updL os' [], { s with lo := s.n }⟩) ?_ ?_
    · rcases oite hb with ⟨hc80, hb⟩ | ⟨hc80, hb⟩
      · refine AOps.know (d := 69) rfl hc80 ?_
        refine AOps.skipR rfl rfl ?_
        refine AOps.skipR rfl rfl ?_
        refine AOps.skipR rfl rfl ?_
        refine AOps.skipR rfl rfl ?_
        refine AOps.skipR rfl rfl ?_
        refine AOps.skipR rfl rfl ?_
        refine AOps.skipR rfl rfl ?_
        refine AOps.skipR rfl rfl ?_
        refine AOps.pureR rfl rfl rfl rfl rfl (rfl : _ = (AV.bool true)) ?_
        refine AOps.resR [(1, (AV.eptr [(AV.int .i64 p1.Stack), (AV.int .i64 p1.Start), (AV.sl z2 f3 e4), (AV.sl z6 f7 e8), (AV.sl z10 f11 e12), (AV.sl z14 f15 e16)] 0)), (4, (AV.fn 182 [(AV.eptr [(AV.int .i64 p1.Stack), (AV.int .i64 p1.Start), (AV.sl z2 f3 e4), (AV.sl z6 f7 e8), (AV.sl z10 f11 e12), (AV.sl z14 f15 e16)] 0)])), (5, (AV.int .i64 t58)), (49, (AV.int .i64 y18)), (50, (AV.int .i64 t58)), (78, (AV.bool b81))] [] ?_ ?_ _ ⟨_, _, rfl⟩
        · exact ⟨rfl, rfl, rfl, rfl, rfl, congrArg AV.bool (Option.some.inj hb), trivial⟩
        exact trivial
      · have h := hb
        refine AOps.know (d := 69) rfl hc80 ?_
        refine AOps.pureR rfl rfl rfl rfl rfl (rfl : _ = (AV.fn 182 [(AV.eptr [(AV.int .i64 p1.Stack), (AV.int .i64 p1.Start), (AV.sl z2 f3 e4), (AV.sl z6 f7 e8), (AV.sl z10 f11 e12), (AV.sl z14 f15 e16)] 0)])) ?_
        refine AOps.pureR rfl rfl rfl rfl rfl (rfl : _ = (AV.eptr [(AV.int .i64 p1.Stack), (AV.int .i64 p1.Start), (AV.sl z2 f3 e4), (AV.sl z6 f7 e8), (AV.sl z10 f11 e12), (AV.sl z14 f15 e16)] 5)) ?_
        refine AOps.ldE (v := (AV.sl z14 f15 e16)) rfl rfl rfl rfl rfl rfl ?_
        refine AOps.pureR rfl rfl rfl rfl rfl (rfl : _ = (AV.int .i64 t58)) ?_
        obtain ⟨x82, h83, h⟩ := obind h
        obtain ⟨v86, h84, h85⟩ := idx_sl h17 h83
        obtain ⟨z87, f88, e89, rfl, h90⟩ := h84
        refine AOps.pureR rfl rfl rfl h85 rfl (rfl : _ = (AV.eptr [(AV.sl z87 f88 e89)] 0)) ?_
        refine AOps.ldE (v := (AV.sl z87 f88 e89)) rfl rfl rfl rfl rfl rfl ?_
        obtain ⟨y91, h92, h⟩ := obind h
        refine AOps.callP (g := 182) (args := [(AV.sl z87 f88 e89), (AV.int .i64 2), (AV.eptr [(AV.int .i64 p1.Stack), (AV.int .i64 p1.Start), (AV.sl z2 f3 e4), (AV.sl z6 f7 e8), (AV.sl z10 f11 e12), (AV.sl z14 f15 e16)] 0)]) (p := (rB) y91) rfl rfl rfl (impl_ValidChecker_1_ok h90 h5 h9 h13 h17 h92 hWF) ?_
        intro _ o94 h93
        cases h93
        refine AOps.pureR rfl rfl rfl rfl rfl (rfl : _ = (AV.bool (!y91))) ?_
        refine AOps.pureR rfl rfl rfl rfl rfl (rfl : _ = (AV.bool (!y91))) ?_
        refine AOps.resR [(1, (AV.eptr [(AV.int .i64 p1.Stack), (AV.int .i64 p1.Start), (AV.sl z2 f3 e4), (AV.sl z6 f7 e8), (AV.sl z10 f11 e12), (AV.sl z14 f15 e16)] 0)), (4, (AV.fn 182 [(AV.eptr [(AV.int .i64 p1.Stack), (AV.int .i64 p1.Start), (AV.sl z2 f3 e4), (AV.sl z6 f7 e8), (AV.sl z10 f11 e12), (AV.sl z14 f15 e16)] 0)])), (5, (AV.int .i64 t58)), (49, (AV.int .i64 y18)), (50, (AV.int .i64 t58)), (78, (AV.bool b81))] [] ?_ ?_ _ ⟨_, _, rfl⟩
        · exact ⟨rfl, rfl, rfl, rfl, rfl, congrArg AV.bool (Option.some.inj h), trivial⟩
        exact trivial
    rintro _ ⟨tm, os, rfl⟩
    refine AOps.nilR ?_
    rcases oite h with ⟨hc95, h⟩ | ⟨hc95, h⟩
    · refine AW.condT (congrArg AV.bool hc95) ?_
      refine AW.seq ?_
      refine AW.region ?_
      refine AOps.pureR rfl rfl rfl rfl rfl (rfl : _ = (AV.bool false)) ?_
      refine AOps.nilR ?_
      cases h
      have hr := hR1 _ rfl
      subst hr
      exact AW.ret ⟨rfl, _, _, rfl, rfl⟩
    refine AW.condF (congrArg AV.bool hc95) ?_
    refine AW.skip ?_
    refine AW.seq ?_
    refine AW.region ?_
    refine AOps.pureR rfl rfl rfl rfl rfl (rfl : _ = (AV.int .i64 0)) ?_
    refine AOps.nilR ?_
    refine AW.meet (σ := Unit) (fun _ tm os => ⟨updL tm [(1, (AV.eptr [(AV.int .i64 p1.Stack), (AV.int .i64 p1.Start), (AV.sl z2 f3 e4), (AV.sl z6 f7 e8), (AV.sl z10 f11 e12), (AV.sl z14 f15 e16)] 0)), (4, (AV.fn 182 [(AV.eptr [(AV.int .i64 p1.Stack), (AV.int .i64 p1.Start), (AV.sl z2 f3 e4), (AV.sl z6 f7 e8), (AV.sl z10 f11 e12), (AV.sl z14 f15 e16)] 0)])), (49, (AV.int .i64 y18)), (50, (AV.int .i64 t58))], updL os [], { s with lo := s.n }⟩) (fun _ => impl_ValidChecker_J2 t58 = some e1) ?_ ?_
    · rintro _ tm os h
      unfold impl_ValidChecker_J2 at h
      refine AW.inBlock ?_
      refine AW.region ?_
      refine AOps.pureR rfl rfl rfl rfl rfl (rfl : _ = (AV.int .i64 (IntKind.wrap .i64 (t58 + 1)))) ?_
      refine AOps.pureR rfl rfl rfl rfl rfl (rfl : _ = (AV.int .i64 (IntKind.wrap .i64 (t58 + 1)))) ?_
      refine AOps.nilR ?_
      cases h
      exact AW.res [(1, (AV.eptr [(AV.int .i64 p1.Stack), (AV.int .i64 p1.Start), (AV.sl z2 f3 e4), (AV.sl z6 f7 e8), (AV.sl z10 f11 e12), (AV.sl z14 f15 e16)] 0)), (4, (AV.fn 182 [(AV.eptr [(AV.int .i64 p1.Stack), (AV.int .i64 p1.Start), (AV.sl z2 f3 e4), (AV.sl z6 f7 e8), (AV.sl z10 f11 e12), (AV.sl z14 f15 e16)] 0)])), (49, (AV.int .i64 y18)), (50, (AV.int .i64 (IntKind.wrap .i64 (t58 + 1))))] [] ⟨rfl, rfl, rfl, rfl, trivial⟩ trivial (hL1 _ rfl () _ _ trivial)
    intro KJ96
    refine AW.block ?_
    refine AW.res [(1, (AV.eptr [(AV.int .i64 p1.Stack), (AV.int .i64 p1.Start), (AV.sl z2 f3 e4), (AV.sl z6 f7 e8), (AV.sl z10 f11 e12), (AV.sl z14 f15 e16)] 0)), (4, (AV.fn 182 [(AV.eptr [(AV.int .i64 p1.Stack), (AV.int .i64 p1.Start), (AV.sl z2 f3 e4), (AV.sl z6 f7 e8), (AV.sl z10 f11 e12), (AV.sl z14 f15 e16)] 0)])), (5, (AV.int .i64 t58)), (49, (AV.int .i64 y18)), (50, (AV.int .i64 t58)), (79, (AV.int .i64 0))] [] ⟨rfl, rfl, rfl, rfl, rfl, rfl, trivial⟩ trivial ?_
    refine AW.loopF (σ := Int) (τ := Unit) (fun t97 _ => True) (fun t97 _ tm os => ⟨updL tm [(1, (AV.eptr [(AV.int .i64 p1.Stack), (AV.int .i64 p1.Start), (AV.sl z2 f3 e4), (AV.sl z6 f7 e8), (AV.sl z10 f11 e12), (AV.sl z14 f15 e16)] 0)), (4, (AV.fn 182 [(AV.eptr [(AV.int .i64 p1.Stack), (AV.int .i64 p1.Start), (AV.sl z2 f3 e4), (AV.sl z6 f7 e8), (AV.sl z10 f11 e12), (AV.sl z14 f15 e16)] 0)])), (5, (AV.int .i64 t58)), (49, (AV.int .i64 y18)), (50, (AV.int .i64 t58)), (79, (AV.int .i64 t97))], updL os [], { s with lo := s.n }⟩) ?_ (x := (0)) (y := ()) h trivial
    clear h
    rintro t97 _ tm os - e2 h hL2 hR2
    unfold impl_ValidChecker_S2 at h
    refine AW.seq ?_
    refine AW.region ?_
    refine AOps.pureR rfl rfl rfl rfl rfl (rfl : _ = (AV.bool (decide ((t97 : Int) < 2)))) ?_
    refine AOps.nilR ?_
    refine AW.seq ?_
    rcases oite h with ⟨hc98, h⟩ | ⟨hc98, h⟩
    · refine AW.condT (congrArg AV.bool hc98) ?_
      refine AW.skip ?_
      refine AW.seq ?_
      refine AW.block ?_
      refine AW.seq ?_
      refine AW.region ?_
      refine AOps.pureR rfl rfl rfl rfl rfl (rfl : _ = (AV.int .i64 t97)) ?_
      refine AOps.assignR rfl rfl rfl (rfl : _ = (AV.int .i64 t97)) rfl ?_
      refine AOps.nilR ?_
      refine AW.seq ?_
      refine AW.region ?_
      refine AOps.pureR rfl rfl rfl rfl rfl (rfl : _ = (AV.eptr [(AV.int .i64 p1.Stack), (AV.int .i64 p1.Start), (AV.sl z2 f3 e4), (AV.sl z6 f7 e8), (AV.sl z10 f11 e12), (AV.sl z14 f15 e16)] 3)) ?_
      refine AOps.ldE (v := (AV.sl z6 f7 e8)) rfl rfl rfl rfl rfl rfl ?_
      refine AOps.pureR rfl rfl rfl rfl rfl (rfl : _ = (AV.int .i64 t58)) ?_
      obtain ⟨x99, h100, h⟩ := obind h
      obtain ⟨v103, h101, h102⟩ := idx_sl h9 h100
      obtain ⟨z104, f105, e106, rfl, h107⟩ := h101
      refine AOps.pureR rfl rfl rfl h102 rfl (rfl : _ = (AV.eptr [(AV.sl z104 f105 e106)] 0)) ?_
      refine AOps.ldE (v := (AV.sl z104 f105 e106)) rfl rfl rfl rfl rfl rfl ?_
      refine AOps.pureR rfl rfl rfl rfl rfl (rfl : _ = (AV.int .i64 t97)) ?_
      obtain ⟨x108, h109, h⟩ := obind h
      obtain ⟨v112, h110, h111⟩ := idx_sl h107 h109
      obtain ⟨_, rfl, h113⟩ := h110
      obtain ⟨_, _, rfl, h114, h115⟩ := Cs_cons h113
      cases h114
      obtain ⟨_, _, rfl, h116, h117⟩ := Cs_cons h115
      cases h116
      cases Cs_nil h117
      refine AOps.pureR rfl rfl rfl h111 rfl (rfl : _ = (AV.eptr [(AV.int .i64 x108.To), (AV.int .i64 x108.Put)] 0)) ?_
      refine AOps.ldE (v := (AV.agg [(AV.int .i64 x108.To), (AV.int .i64 x108.Put)])) rfl rfl rfl rfl rfl rfl ?_
      refine AOps.allocP rfl rfl rfl rfl ⟨rfl, rfl⟩ rfl ?_
      refine AOps.stP (v := (AV.agg [(AV.int .i64 x108.To), (AV.int .i64 x108.Put)])) rfl rfl rfl rfl rfl rfl rfl rfl rfl (lt_b rfl) rfl ?_
      refine AOps.nilR ?_
      refine AW.seq ?_
      refine AW.region ?_
      refine AOps.ldE (v := (AV.agg [(AV.int .i64 p1.Stack), (AV.int .i64 p1.Start), (AV.sl z2 f3 e4), (AV.sl z6 f7 e8), (AV.sl z10 f11 e12), (AV.sl z14 f15 e16)])) rfl rfl rfl rfl rfl rfl ?_
      refine AOps.pureR rfl rfl rfl rfl rfl (rfl : _ = (AV.eptr [(AV.int .i64 x108.To), (AV.int .i64 x108.Put)] 0)) ?_
      refine AOps.ldE (v := (AV.int .i64 x108.To)) rfl rfl rfl rfl rfl rfl ?_
      obtain ⟨y118, h119, h⟩ := obind h
      refine AOps.callDP (g := 133) (args := [(AV.agg [(AV.int .i64 p1.Stack), (AV.int .i64 p1.Start), (AV.sl z2 f3 e4), (AV.sl z6 f7 e8), (AV.sl z10 f11 e12), (AV.sl z14 f15 e16)]), (AV.int .i64 x108.To)]) (p := (rB) y118) rfl rfl rfl (impl_Checker_isState_ok h5 h9 h13 h17 h119 hWF.still) (fun v hv => Nice.pure (k := FINK) (p := (rB) y118) .B _ v hv) ?_
      intro _ o121 h120
      cases h120
      refine AOps.pureR rfl rfl rfl rfl rfl (rfl : _ = (AV.bool (!y118))) ?_
      refine AOps.pureR rfl rfl rfl rfl rfl (rfl : _ = (AV.bool (!y118))) ?_
      obtain ⟨b123, hb, h⟩ := obind h
      refine AOps.split 6 (fun f' => ∃ tm' os', f' = ⟨updL tm' [(1, (AV.eptr [(AV.int .i64 p1.Stack), (AV.int .i64 p1.Start), (AV.sl z2 f3 e4), (AV.sl z6 f7 e8), (AV.sl z10 f11 e12), (AV.sl z14 f15 e16)] 0)), (4, (AV.fn 182 [(AV.eptr [(AV.int .i64 p1.Stack), (AV.int .i64 p1.Start), (AV.sl z2 f3 e4), (AV.sl z6 f7 e8), (AV.sl z10 f11 e12), (AV.sl z14 f15 e16)] 0)])), (5, (AV.int .i64 t58)), (6, (AV.int .i64 t97)), (49, (AV.int .i64 y18)), (50, (AV.int .i64 t58)), (79, (AV.int .i64 t97)), (101, (AV.bool b123))], updL os' [], { s with lo := s.n }⟩) ?_ ?_
      · rcases oite hb with ⟨hc122, hb⟩ | ⟨hc122, hb⟩
        · refine AOps.know (d := 95) rfl hc122 ?_
          refine AOps.skipR rfl rfl ?_
          refine AOps.skipR rfl rfl ?_
          refine AOps.skipR rfl rfl ?_
          refine AOps.skipR rfl rfl ?_
          refine AOps.skipR rfl rfl ?_
          refine AOps.pureR rfl rfl rfl rfl rfl (rfl : _ = (AV.bool true)) ?_
          refine AOps.resR [(1, (AV.eptr [(AV.int .i64 p1.Stack), (AV.int .i64 p1.Start), (AV.sl z2 f3 e4), (AV.sl z6 f7 e8), (AV.sl z10 f11 e12), (AV.sl z14 f15 e16)] 0)), (4, (AV.fn 182 [(AV.eptr [(AV.int .i64 p1.Stack), (AV.int .i64 p1.Start), (AV.sl z2 f3 e4), (AV.sl z6 f7 e8), (AV.sl z10 f11 e12), (AV.sl z14 f15 e16)] 0)])), (5, (AV.int .i64 t58)), (6, (AV.int .i64 t97)), (49, (AV.int .i64 y18)), (50, (AV.int .i64 t58)), (79, (AV.int .i64 t97)), (101, (AV.bool b123))] [] ?_ ?_ _ ⟨_, _, rfl⟩
          · exact ⟨rfl, rfl, rfl, rfl, rfl, rfl, rfl, congrArg AV.bool (Option.some.inj hb), trivial⟩
          exact trivial
        · have h := hb
          refine AOps.know (d := 95) rfl hc122 ?_
          refine AOps.ldE (v := (AV.agg [(AV.int .i64 p1.Stack), (AV.int .i64 p1.Start), (AV.sl z2 f3 e4), (AV.sl z6 f7 e8), (AV.sl z10 f11 e12), (AV.sl z14 f15 e16)])) rfl rfl rfl rfl rfl rfl ?_
          refine AOps.pureR rfl rfl rfl rfl rfl (rfl : _ = (AV.eptr [(AV.int .i64 x108.To), (AV.int .i64 x108.Put)] 1)) ?_
          refine AOps.ldE (v := (AV.int .i64 x108.Put)) rfl rfl rfl rfl rfl rfl ?_
          obtain ⟨y124, h125, h⟩ := obind h
          refine AOps.callDP (g := 185) (args := [(AV.agg [(AV.int .i64 p1.Stack), (AV.int .i64 p1.Start), (AV.sl z2 f3 e4), (AV.sl z6 f7 e8), (AV.sl z10 f11 e12), (AV.sl z14 f15 e16)]), (AV.int .i64 x108.Put)]) (p := (rB) y124) rfl rfl rfl (impl_Checker_isMark_ok h5 h9 h13 h17 h125 hWF.still) (fun v hv => Nice.pure (k := FINK) (p := (rB) y124) .B _ v hv) ?_
          intro _ o127 h126
          cases h126
          refine AOps.pureR rfl rfl rfl rfl rfl (rfl : _ = (AV.bool (!y124))) ?_
          refine AOps.pureR rfl rfl rfl rfl rfl (rfl : _ = (AV.bool (!y124))) ?_
          refine AOps.resR [(1, (AV.eptr [(AV.int .i64 p1.Stack), (AV.int .i64 p1.Start), (AV.sl z2 f3 e4), (AV.sl z6 f7 e8), (AV.sl z10 f11 e12), (AV.sl z14 f15 e16)] 0)), (4, (AV.fn 182 [(AV.eptr [(AV.int .i64 p1.Stack), (AV.int .i64 p1.Start), (AV.sl z2 f3 e4), (AV.sl z6 f7 e8), (AV.sl z10 f11 e12), (AV.sl z14 f15 e16)] 0)])), (5, (AV.int .i64 t58)), (6, (AV.int .i64 t97)), (49, (AV.int .i64 y18)), (50, (AV.int .i64 t58)), (79, (AV.int .i64 t97)), (101, (AV.bool b123))] [] ?_ ?_ _ ⟨_, _, rfl⟩
          · exact ⟨rfl, rfl, rfl, rfl, rfl, rfl, rfl, congrArg AV.bool (Option.some.inj h), trivial⟩
          exact trivial
      rintro _ ⟨tm, os, rfl⟩
      refine AOps.pureR rfl rfl rfl rfl rfl (rfl : _ = (AV.bool b123)) ?_
      obtain ⟨b129, hb, h⟩ := obind h
      refine AOps.split 15 (fun f' => ∃ tm' os', f' = ⟨updL tm' [(1, (AV.eptr [(AV.int .i64 p1.Stack), (AV.int .i64 p1.Start), (AV.sl z2 f3 e4), (AV.sl z6 f7 e8), (AV.sl z10 f11 e12), (AV.sl z14 f15 e16)] 0)), (4, (AV.fn 182 [(AV.eptr [(AV.int .i64 p1.Stack), (AV.int .i64 p1.Start), (AV.sl z2 f3 e4), (AV.sl z6 f7 e8), (AV.sl z10 f11 e12), (AV.sl z14 f15 e16)] 0)])), (5, (AV.int .i64 t58)), (49, (AV.int .i64 y18)), (50, (AV.int .i64 t58)), (79, (AV.int .i64 t97)), (117, (AV.bool b129))], updL os' [], { s with lo := s.n }⟩) ?_ ?_
      · rcases oite hb with ⟨hc128, hb⟩ | ⟨hc128, hb⟩
        · refine AOps.know (d := 102) rfl hc128 ?_
          refine AOps.skipR rfl rfl ?_
          refine AOps.skipR rfl rfl ?_
          refine AOps.skipR rfl rfl ?_
          refine AOps.skipR rfl rfl ?_
          refine AOps.skipR rfl rfl ?_
          refine AOps.skipR rfl rfl ?_
          refine AOps.skipR rfl rfl ?_
          refine AOps.skipR rfl rfl ?_
          refine AOps.skipR rfl rfl ?_
          refine AOps.skipR rfl rfl ?_
          refine AOps.skipR rfl rfl ?_
          refine AOps.skipR rfl rfl ?_
          refine AOps.skipR rfl rfl ?_
          refine AOps.skipR rfl rfl ?_
          refine AOps.pureR rfl rfl rfl rfl rfl (rfl : _ = (AV.bool true)) ?_
          refine AOps.resR [(1, (AV.eptr [(AV.int .i64 p1.Stack), (AV.int .i64 p1.Start), (AV.sl z2 f3 e4), (AV.sl z6 f7 e8), (AV.sl z10 f11 e12), (AV.sl z14 f15 e16)] 0)), (4, (AV.fn 182 [(AV.eptr [(AV.int .i64 p1.Stack), (AV.int .i64 p1.Start), (AV.sl z2 f3 e4), (AV.sl z6 f7 e8), (AV.sl z10 f11 e12), (AV.sl z14 f15 e16)] 0)])), (5, (AV.int .i64 t58)), (49, (AV.int .i64 y18)), (50, (AV.int .i64 t58)), (79, (AV.int .i64 t97)), (117, (AV.bool b129))] [] ?_ ?_ _ ⟨_, _, rfl⟩
          · exact ⟨rfl, rfl, rfl, rfl, rfl, rfl, congrArg AV.bool (Option.some.inj hb), trivial⟩
          exact trivial
        · have h := hb
          refine AOps.know (d := 102) rfl hc128 ?_
          refine AOps.pureR rfl rfl rfl rfl rfl (rfl : _ = (AV.fn 182 [(AV.eptr [(AV.int .i64 p1.Stack), (AV.int .i64 p1.Start), (AV.sl z2 f3 e4), (AV.sl z6 f7 e8), (AV.sl z10 f11 e12), (AV.sl z14 f15 e16)] 0)])) ?_
          refine AOps.pureR rfl rfl rfl rfl rfl (rfl : _ = (AV.eptr [(AV.int .i64 p1.Stack), (AV.int .i64 p1.Start), (AV.sl z2 f3 e4), (AV.sl z6 f7 e8), (AV.sl z10 f11 e12), (AV.sl z14 f15 e16)] 4)) ?_
          refine AOps.ldE (v := (AV.sl z10 f11 e12)) rfl rfl rfl rfl rfl rfl ?_
          refine AOps.pureR rfl rfl rfl rfl rfl (rfl : _ = (AV.int .i64 t58)) ?_
          obtain ⟨x130, h131, h⟩ := obind h
          obtain ⟨v134, h132, h133⟩ := idx_sl h13 h131
          obtain ⟨z135, f136, e137, rfl, h138⟩ := h132
          refine AOps.pureR rfl rfl rfl h133 rfl (rfl : _ = (AV.eptr [(AV.sl z135 f136 e137)] 0)) ?_
          refine AOps.ldE (v := (AV.sl z135 f136 e137)) rfl rfl rfl rfl rfl rfl ?_
          refine AOps.pureR rfl rfl rfl rfl rfl (rfl : _ = (AV.int .i64 t97)) ?_
          obtain ⟨x139, h140, h⟩ := obind h
          obtain ⟨v143, h141, h142⟩ := idx_sl h138 h140
          obtain ⟨z144, f145, e146, rfl, h147⟩ := h141
          refine AOps.pureR rfl rfl rfl h142 rfl (rfl : _ = (AV.eptr [(AV.sl z144 f145 e146)] 0)) ?_
          refine AOps.ldE (v := (AV.sl z144 f145 e146)) rfl rfl rfl rfl rfl rfl ?_
          refine AOps.pureR rfl rfl rfl rfl rfl (rfl : _ = (AV.eptr [(AV.int .i64 p1.Stack), (AV.int .i64 p1.Start), (AV.sl z2 f3 e4), (AV.sl z6 f7 e8), (AV.sl z10 f11 e12), (AV.sl z14 f15 e16)] 0)) ?_
          refine AOps.ldE (v := (AV.int .i64 p1.Stack)) rfl rfl rfl rfl rfl rfl ?_
          refine AOps.pureR rfl rfl rfl rfl rfl (rfl : _ = (AV.int .i64 (IntKind.wrap .i64 (p1.Stack + 1)))) ?_
          obtain ⟨y148, h149, h⟩ := obind h
          refine AOps.callDP (g := 182) (args := [(AV.sl z144 f145 e146), (AV.int .i64 (IntKind.wrap .i64 (p1.Stack + 1))), (AV.eptr [(AV.int .i64 p1.Stack), (AV.int .i64 p1.Start), (AV.sl z2 f3 e4), (AV.sl z6 f7 e8), (AV.sl z10 f11 e12), (AV.sl z14 f15 e16)] 0)]) (p := (rB) y148) rfl rfl rfl (impl_ValidChecker_1_ok h147 h5 h9 h13 h17 h149 hWF.still) (fun v hv => Nice.pure (k := FINK) (p := (rB) y148) .B _ v hv) ?_
          intro _ o151 h150
          cases h150
          refine AOps.pureR rfl rfl rfl rfl rfl (rfl : _ = (AV.bool (!y148))) ?_
          refine AOps.pureR rfl rfl rfl rfl rfl (rfl : _ = (AV.bool (!y148))) ?_
          refine AOps.resR [(1, (AV.eptr [(AV.int .i64 p1.Stack), (AV.int .i64 p1.Start), (AV.sl z2 f3 e4), (AV.sl z6 f7 e8), (AV.sl z10 f11 e12), (AV.sl z14 f15 e16)] 0)), (4, (AV.fn 182 [(AV.eptr [(AV.int .i64 p1.Stack), (AV.int .i64 p1.Start), (AV.sl z2 f3 e4), (AV.sl z6 f7 e8), (AV.sl z10 f11 e12), (AV.sl z14 f15 e16)] 0)])), (5, (AV.int .i64 t58)), (49, (AV.int .i64 y18)), (50, (AV.int .i64 t58)), (79, (AV.int .i64 t97)), (117, (AV.bool b129))] [] ?_ ?_ _ ⟨_, _, rfl⟩
          · exact ⟨rfl, rfl, rfl, rfl, rfl, rfl, congrArg AV.bool (Option.some.inj h), trivial⟩
          exact trivial
      rintro _ ⟨tm, os, rfl⟩
      refine AOps.nilR ?_
      rcases oite h with ⟨hc152, h⟩ | ⟨hc152, h⟩
      · refine AW.condT (congrArg AV.bool hc152) ?_
        refine AW.seq ?_
        refine AW.region ?_
        refine AOps.pureR rfl rfl rfl rfl rfl (rfl : _ = (AV.bool false)) ?_
        refine AOps.nilR ?_
        cases h
        have hr := hR2 _ rfl
        cases hr
        have hr := hR1 _ rfl
        subst hr
        exact AW.ret ⟨rfl, _, _, rfl, rfl⟩
      refine AW.condF (congrArg AV.bool hc152) ?_
      refine AW.skip ?_
      refine AW.inBlock ?_
      refine AW.region ?_
      refine AOps.pureR rfl rfl rfl rfl rfl (rfl : _ = (AV.int .i64 (IntKind.wrap .i64 (t97 + 1)))) ?_
      refine AOps.pureR rfl rfl rfl rfl rfl (rfl : _ = (AV.int .i64 (IntKind.wrap .i64 (t97 + 1)))) ?_
      refine AOps.nilR ?_
      cases h
      exact AW.res [(1, (AV.eptr [(AV.int .i64 p1.Stack), (AV.int .i64 p1.Start), (AV.sl z2 f3 e4), (AV.sl z6 f7 e8), (AV.sl z10 f11 e12), (AV.sl z14 f15 e16)] 0)), (4, (AV.fn 182 [(AV.eptr [(AV.int .i64 p1.Stack), (AV.int .i64 p1.Start), (AV.sl z2 f3 e4), (AV.sl z6 f7 e8), (AV.sl z10 f11 e12), (AV.sl z14 f15 e16)] 0)])), (5, (AV.int .i64 t58)), (49, (AV.int .i64 y18)), (50, (AV.int .i64 t58)), (79, (AV.int .i64 (IntKind.wrap .i64 (t97 + 1))))] [] ⟨rfl, rfl, rfl, rfl, rfl, rfl, trivial⟩ trivial (hL2 _ rfl () _ _ trivial)
    refine AW.condF (congrArg AV.bool hc98) ?_
    refine AW.exit rfl ?_
    obtain ⟨r153, hm, hx⟩ := omap h
    clear h
    subst hx
    have hx := hR2 _ rfl
    rw [hx] at hm
    have h := hm
    exact AW.res [(1, (AV.eptr [(AV.int .i64 p1.Stack), (AV.int .i64 p1.Start), (AV.sl z2 f3 e4), (AV.sl z6 f7 e8), (AV.sl z10 f11 e12), (AV.sl z14 f15 e16)] 0)), (4, (AV.fn 182 [(AV.eptr [(AV.int .i64 p1.Stack), (AV.int .i64 p1.Start), (AV.sl z2 f3 e4), (AV.sl z6 f7 e8), (AV.sl z10 f11 e12), (AV.sl z14 f15 e16)] 0)])), (49, (AV.int .i64 y18)), (50, (AV.int .i64 t58))] [] ⟨rfl, rfl, rfl, rfl, trivial⟩ trivial (KJ96 () _ _ h)
  refine AW.condF (congrArg AV.bool hc59) ?_
  refine AW.exit rfl ?_
  obtain ⟨r154, hm, hx⟩ := omap h
  clear h
  subst hx
  have hx := hR1 _ rfl
  rw [hx] at hm
  have h := hm
  exact AW.res [] [] trivial trivial (KJ57 () _ _ h)
theorem internal_stringslite_IndexByte_ok {s1 : List UInt8} {c2 : Int} {s : St} {r : Int} (h : internal_stringslite_IndexByte s1 c2 = some r) (hs : WF s) : ACall Cf 259 [(AV.str s1), (AV.int .u8 c2)] s fun v _ s' => (rI .i64) r v ∧ s' = s := by
  refine ACall.pure rfl rfl rfl .I ?_
  have hWF := hs.lo'
  unfold internal_stringslite_IndexByte at h
  refine AW.seq ?_
  refine AW.region ?_
  refine AOps.pureR rfl rfl rfl rfl rfl (rfl : _ = (AV.int .i64 0)) ?_
  refine AOps.nilR ?_
  refine AW.seq ?_
  refine AW.region ?_
  refine AOps.pureR rfl rfl rfl rfl rfl (rfl : _ = (AV.str s1)) ?_
  refine AOps.pureR rfl rfl rfl rfl rfl (rfl : _ = (AV.int .u8 c2)) ?_
  obtain ⟨y3, h4, h⟩ := obind h
  refine AOps.callP (g := 289) (args := [(AV.str s1), (AV.int .u8 c2)]) (p := (rI .i64) y3) rfl rfl rfl (ext_byte_ok h4 hWF) ?_
  intro _ o6 h5
  cases h5
  refine AOps.assignR rfl rfl rfl (rfl : _ = (AV.int .i64 y3)) rfl ?_
  refine AOps.nilR ?_
  cases h
  exact AW.ret ⟨rfl, _, _, rfl, rfl⟩
theorem strings_IndexByte_ok {s1 : List UInt8} {c2 : Int} {s : St} {r : Int} (h : strings_IndexByte s1 c2 = some r) (hs : WF s) : ACall Cf 186 [(AV.str s1), (AV.int .u8 c2)] s fun v _ s' => (rI .i64) r v ∧ s' = s := by
  refine ACall.pure rfl rfl rfl .I ?_
  have hWF := hs.lo'
  unfold strings_IndexByte at h
  refine AW.seq ?_
  refine AW.region ?_
  refine AOps.pureR rfl rfl rfl rfl rfl (rfl : _ = (AV.int .i64 0)) ?_
  refine AOps.nilR ?_
  refine AW.seq ?_
  refine AW.region ?_
  refine AOps.pureR rfl rfl rfl rfl rfl (rfl : _ = (AV.str s1)) ?_
  refine AOps.pureR rfl rfl rfl rfl rfl (rfl : _ = (AV.int .u8 c2)) ?_
  obtain ⟨y3, h4, h⟩ := obind h
  refine AOps.callP (g := 259) (args := [(AV.str s1), (AV.int .u8 c2)]) (p := (rI .i64) y3) rfl rfl rfl (internal_stringslite_IndexByte_ok  h4 hWF) ?_
  intro _ o6 h5
  cases h5
  refine AOps.assignR rfl rfl rfl (rfl : _ = (AV.int .i64 y3)) rfl ?_
  refine AOps.nilR ?_
  cases h
  exact AW.ret ⟨rfl, _, _, rfl, rfl⟩
theorem impl_ValidWord_ok {w1 : List UInt8} {s : St} {r : Bool} (h : impl_ValidWord w1 = some r) (hs : WF s) : ACall Cf 91 [(AV.str w1)] s fun v _ s' => (rB) r v ∧ s' = s := by
  refine ACall.pure rfl rfl rfl .B ?_
  have hWF := hs.lo'
  unfold impl_ValidWord at h
  refine AW.seq ?_
  refine AW.region ?_
  refine AOps.pureR rfl rfl rfl rfl rfl (rfl : _ = (AV.bool false)) ?_
  refine AOps.nilR ?_
  refine AW.seq ?_
  refine AW.seq ?_
  refine AW.region ?_
  refine AOps.pureR rfl rfl rfl rfl rfl (rfl : _ = (AV.str w1)) ?_
  refine AOps.pureR rfl rfl rfl rfl rfl (rfl : _ = (AV.int .i64 (w1.length : Int))) ?_
  refine AOps.pureR rfl rfl rfl rfl rfl (rfl : _ = (AV.int .i64 0)) ?_
  refine AOps.nilR ?_
  refine AW.meet (σ := Unit) (fun _ tm os => ⟨updL tm [(0, (AV.str w1))], updL os [], { s with lo := s.n }⟩) (fun _ => impl_ValidWord_J1 w1 = some r) ?_ ?_
  · rintro _ tm os h
    unfold impl_ValidWord_J1 at h
    refine AW.seq ?_
    refine AW.region ?_
    refine AOps.pureR rfl rfl rfl rfl rfl (rfl : _ = (AV.str w1)) ?_
    refine AOps.pureR rfl rfl rfl rfl rfl (rfl : _ = (AV.int .i64 (w1.length : Int))) ?_
    refine AOps.pureR rfl rfl rfl rfl rfl (rfl : _ = (AV.bool (decide (((w1.length : Int) : Int) ≤ 60)))) ?_
    refine AOps.assignR rfl rfl rfl (rfl : _ = (AV.bool (decide (((w1.length : Int) : Int) ≤ 60)))) rfl ?_
    refine AOps.nilR ?_
    cases h
    exact AW.ret ⟨rfl, _, _, rfl, rfl⟩
  intro KJ2
  refine AW.block ?_
  refine AW.res [(0, (AV.str w1)), (5, (AV.int .i64 (w1.length : Int))), (6, (AV.int .i64 0))] [] ⟨rfl, rfl, rfl, trivial⟩ trivial ?_
  refine AW.loopF (σ := Int) (τ := Unit) (fun t3 _ => True) (fun t3 _ tm os => ⟨updL tm [(0, (AV.str w1)), (5, (AV.int .i64 (w1.length : Int))), (6, (AV.int .i64 t3))], updL os [], { s with lo := s.n }⟩) ?_ (x := (0)) (y := ()) h trivial
  clear h
  rintro t3 _ tm os - e1 h hL1 hR1
  unfold impl_ValidWord_S1 at h
  refine AW.seq ?_
  refine AW.region ?_
  refine AOps.pureR rfl rfl rfl rfl rfl (rfl : _ = (AV.bool (decide ((t3 : Int) < (w1.length : Int))))) ?_
  refine AOps.nilR ?_
  refine AW.seq ?_
  rcases oite h with ⟨hc4, h⟩ | ⟨hc4, h⟩
  · refine AW.condT (congrArg AV.bool hc4) ?_
    refine AW.skip ?_
    refine AW.seq ?_
    refine AW.block ?_
    refine AW.seq ?_
    refine AW.region ?_
    refine AOps.pureR rfl rfl rfl rfl rfl (rfl : _ = (AV.int .i64 t3)) ?_
    refine AOps.assignR rfl rfl rfl (rfl : _ = (AV.int .i64 t3)) rfl ?_
    refine AOps.nilR ?_
    refine AW.seq ?_
    refine AW.region ?_
    refine AOps.pureR rfl rfl rfl rfl rfl (rfl : _ = (AV.str w1)) ?_
    refine AOps.pureR rfl rfl rfl rfl rfl (rfl : _ = (AV.int .i64 t3)) ?_
    obtain ⟨c5, h6, h⟩ := obind h
    refine AOps.pureR rfl rfl rfl (chr_str h6) rfl (rfl : _ = (AV.int .u8 c5)) ?_
    obtain ⟨y7, h8, h⟩ := obind h
    refine AOps.callP (g := 186) (args := [(AV.str ([40, 91, 41, 93, 97, 98] : List UInt8)), (AV.int .u8 c5)]) (p := (rI .i64) y7) rfl rfl rfl (strings_IndexByte_ok  h8 hWF) ?_
    intro _ o10 h9
    cases h9
    refine AOps.pureR rfl rfl rfl rfl rfl (rfl : _ = (AV.bool (decide ((y7 : Int) < 0)))) ?_
    refine AOps.nilR ?_
    rcases oite h with ⟨hc11, h⟩ | ⟨hc11, h⟩
    · refine AW.condT (congrArg AV.bool hc11) ?_
      refine AW.seq ?_
      refine AW.region ?_
      refine AOps.pureR rfl rfl rfl rfl rfl (rfl : _ = (AV.bool false)) ?_
      refine AOps.nilR ?_
      cases h
      have hr := hR1 _ rfl
      subst hr
      exact AW.ret ⟨rfl, _, _, rfl, rfl⟩
    refine AW.condF (congrArg AV.bool hc11) ?_
    refine AW.skip ?_
    refine AW.inBlock ?_
    refine AW.region ?_
    refine AOps.pureR rfl rfl rfl rfl rfl (rfl : _ = (AV.int .i64 (IntKind.wrap .i64 (t3 + 1)))) ?_
    refine AOps.pureR rfl rfl rfl rfl rfl (rfl : _ = (AV.int .i64 (IntKind.wrap .i64 (t3 + 1)))) ?_
    refine AOps.nilR ?_
    cases h
    exact AW.res [(0, (AV.str w1)), (5, (AV.int .i64 (w1.length : Int))), (6, (AV.int .i64 (IntKind.wrap .i64 (t3 + 1))))] [] ⟨rfl, rfl, rfl, trivial⟩ trivial (hL1 _ rfl () _ _ trivial)
  refine AW.condF (congrArg AV.bool hc4) ?_
  refine AW.exit rfl ?_
  obtain ⟨r12, hm, hx⟩ := omap h
  clear h
  subst hx
  have hx := hR1 _ rfl
  rw [hx] at hm
  have h := hm
  exact AW.res [(0, (AV.str w1))] [] ⟨rfl, trivial⟩ trivial (KJ2 () _ _ h)
theorem impl_isReturn_ok {c1 : Int} {s : St} {r : Bool} (h : impl_isReturn c1 = some r) (hs : WF s) : ACall Cf 209 [(AV.int .u8 c1)] s fun v _ s' => (rB) r v ∧ s' = s := by
  refine ACall.pure rfl rfl rfl .B ?_
  have hWF := hs.lo'
  unfold impl_isReturn at h
  refine AW.seq ?_
  refine AW.region ?_
  refine AOps.pureR rfl rfl rfl rfl rfl (rfl : _ = (AV.bool false)) ?_
  refine AOps.nilR ?_
  refine AW.seq ?_
  refine AW.region ?_
  refine AOps.pureR rfl rfl rfl rfl rfl (rfl : _ = (AV.int .u8 c1)) ?_
  refine AOps.pureR rfl rfl rfl rfl rfl (rfl : _ = (AV.bool (c1 == 41))) ?_
  refine AOps.pureR rfl rfl rfl rfl rfl (rfl : _ = (AV.bool (c1 == 41))) ?_
  refine AOps.split 3 (fun f' => ∃ tm' os', f' = ⟨updL tm' [(8, (AV.bool ((c1 == 41) || (c1 == 93))))], updL os' [], { s with lo := s.n }⟩) ?_ ?_
  · rcases Bool.eq_false_or_eq_true (c1 == 41) with hc2 | hc2
    · refine AOps.know (d := 5) rfl hc2 ?_
      refine AOps.skipR rfl rfl ?_
      refine AOps.skipR rfl rfl ?_
      refine AOps.pureR rfl rfl rfl rfl rfl (rfl : _ = (AV.bool true)) ?_
      refine AOps.resR [(8, (AV.bool ((c1 == 41) || (c1 == 93))))] [] ?_ ?_ _ ⟨_, _, rfl⟩
      · exact ⟨congrArg AV.bool (or_t hc2), trivial⟩
      exact trivial
    · refine AOps.know (d := 5) rfl hc2 ?_
      refine AOps.pureR rfl rfl rfl rfl rfl (rfl : _ = (AV.int .u8 c1)) ?_
      refine AOps.pureR rfl rfl rfl rfl rfl (rfl : _ = (AV.bool (c1 == 93))) ?_
      refine AOps.pureR rfl rfl rfl rfl rfl (rfl : _ = (AV.bool (c1 == 93))) ?_
      refine AOps.resR [(8, (AV.bool ((c1 == 41) || (c1 == 93))))] [] ?_ ?_ _ ⟨_, _, rfl⟩
      · exact ⟨congrArg AV.bool (or_f hc2), trivial⟩
      exact trivial
  rintro _ ⟨tm, os, rfl⟩
  refine AOps.assignR rfl rfl rfl (rfl : _ = (AV.bool ((c1 == 41) || (c1 == 93)))) rfl ?_
  refine AOps.nilR ?_
  cases h
  exact AW.ret ⟨rfl, _, _, rfl, rfl⟩
theorem impl_isCall_ok {c1 : Int} {s : St} {r : Bool} (h : impl_isCall c1 = some r) (hs : WF s) : ACall Cf 207 [(AV.int .u8 c1)] s fun v _ s' => (rB) r v ∧ s' = s := by
  refine ACall.pure rfl rfl rfl .B ?_
  have hWF := hs.lo'
  unfold impl_isCall at h
  refine AW.seq ?_
  refine AW.region ?_
  refine AOps.pureR rfl rfl rfl rfl rfl (rfl : _ = (AV.bool false)) ?_
  refine AOps.nilR ?_
  refine AW.seq ?_
  refine AW.region ?_
  refine AOps.pureR rfl rfl rfl rfl rfl (rfl : _ = (AV.int .u8 c1)) ?_
  refine AOps.pureR rfl rfl rfl rfl rfl (rfl : _ = (AV.bool (c1 == 40))) ?_
  refine AOps.pureR rfl rfl rfl rfl rfl (rfl : _ = (AV.bool (c1 == 40))) ?_
  refine AOps.split 3 (fun f' => ∃ tm' os', f' = ⟨updL tm' [(8, (AV.bool ((c1 == 40) || (c1 == 91))))], updL os' [], { s with lo := s.n }⟩) ?_ ?_
  · rcases Bool.eq_false_or_eq_true (c1 == 40) with hc2 | hc2
    · refine AOps.know (d := 5) rfl hc2 ?_
      refine AOps.skipR rfl rfl ?_
      refine AOps.skipR rfl rfl ?_
      refine AOps.pureR rfl rfl rfl rfl rfl (rfl : _ = (AV.bool true)) ?_
      refine AOps.resR [(8, (AV.bool ((c1 == 40) || (c1 == 91))))] [] ?_ ?_ _ ⟨_, _, rfl⟩
      · exact ⟨congrArg AV.bool (or_t hc2), trivial⟩
      exact trivial
    · refine AOps.know (d := 5) rfl hc2 ?_
      refine AOps.pureR rfl rfl rfl rfl rfl (rfl : _ = (AV.int .u8 c1)) ?_
      refine AOps.pureR rfl rfl rfl rfl rfl (rfl : _ = (AV.bool (c1 == 91))) ?_
      refine AOps.pureR rfl rfl rfl rfl rfl (rfl : _ = (AV.bool (c1 == 91))) ?_
      refine AOps.resR [(8, (AV.bool ((c1 == 40) || (c1 == 91))))] [] ?_ ?_ _ ⟨_, _, rfl⟩
      · exact ⟨congrArg AV.bool (or_f hc2), trivial⟩
      exact trivial
  rintro _ ⟨tm, os, rfl⟩
  refine AOps.assignR rfl rfl rfl (rfl : _ = (AV.bool ((c1 == 40) || (c1 == 91)))) rfl ?_
  refine AOps.nilR ?_
  cases h
  exact AW.ret ⟨rfl, _, _, rfl, rfl⟩
theorem impl_size_int64_d_ok {list1 : List Int} {v2 : AV} {x3 : BX} {s : St} (h4 : DY (rI .i64) false 1 list1 v2 x3) (h5 : ∀ b, x3.b = some b → s.h b = some x3.cs) {r : Int} (h : impl_size_int64_d list1 = some r) (hs : WF s) : ACall Cf 183 [v2] s fun v _ s' => (rI .i64) r v ∧ s' = s := by
  refine ACall.pure rfl rfl rfl .I ?_
  have hWF := hs.lo'
  unfold impl_size_int64_d at h
  refine AW.seq ?_
  refine AW.region ?_
  refine AOps.pureR rfl rfl rfl rfl rfl (rfl : _ = (AV.int .i64 0)) ?_
  refine AOps.nilR ?_
  refine AW.seq ?_
  refine AW.region ?_
  refine AOps.pureR rfl rfl rfl rfl rfl (rfl : _ = v2) ?_
  refine AOps.pureR rfl rfl rfl (DY.len h4 rfl rfl rfl) rfl (rfl : _ = (AV.int .i64 (list1.length : Int))) ?_
  refine AOps.assignR rfl rfl rfl (rfl : _ = (AV.int .i64 (list1.length : Int))) rfl ?_
  refine AOps.nilR ?_
  cases h
  exact AW.ret ⟨rfl, _, _, rfl, rfl⟩
theorem impl_match_ok {p1 : List UInt8} {s : St} {r : Matching} (h : impl_match p1 = some r) (hs : WF s) : ACall Cf 124 [(AV.str p1)] s fun v _ s' => (rMatching) r v ∧ s' = s := by
  refine ACall.boxes rfl rfl rfl ?_
  have hH0 := HS.init hs
  unfold impl_match at h
  refine AW.seq ?_
  refine AW.region ?_
  refine AOps.allocP rfl rfl rfl rfl ⟨rfl, rfl⟩ rfl ?_
  refine AOps.nilR ?_
  refine AW.seq ?_
  refine AW.region ?_
  refine AOps.makeR rfl rfl rfl rfl rfl rfl (rfl : _ = (AV.sl 1 true [(AV.int .i64 0)])) ?_
  refine AOps.pureR rfl rfl rfl rfl rfl (rfl : _ = (AV.agg [(AV.sl 0 true []), (AV.sl 0 true []), (AV.sl 0 true []), (AV.sl 1 true [(AV.int .i64 0)]), (AV.sl 0 true [])])) ?_
  refine AOps.alloc1 hH0 rfl rfl rfl rfl rfl rfl ?_
  intro b2 s3 hH4
  change HS [] false s s3 [⟨some b2, [(AV.sl 0 true []), (AV.sl 0 true []), (AV.sl 0 true []), (AV.sl 0 true []), (AV.sl 0 true [])], (fun _ => false)⟩] at hH4
  refine AOps.stB (i := 0) (v := (AV.agg [(AV.sl 0 true []), (AV.sl 0 true []), (AV.sl 0 true []), (AV.sl 1 true [(AV.int .i64 0)]), (AV.sl 0 true [])])) hH4 rfl rfl rfl rfl rfl rfl rfl rfl rfl (lt_b rfl) (le_b rfl) rfl ?_
  intro w5 s6 h7 h8 hH9
  change HS [] false s s6 [⟨some b2, [(AV.sl 0 true []), (AV.sl 0 true []), (AV.sl 0 true []), (AV.sl 1 true [(AV.int .i64 0)]), (AV.sl 0 true [])], w5⟩] at hH9
  refine AOps.nilR ?_
  refine AW.seq ?_
  refine AW.seq ?_
  refine AW.region ?_
  refine AOps.pureR rfl rfl rfl rfl rfl (rfl : _ = (AV.str p1)) ?_
  refine AOps.pureR rfl rfl rfl rfl rfl (rfl : _ = (AV.int .i64 (p1.length : Int))) ?_
  refine AOps.pureR rfl rfl rfl rfl rfl (rfl : _ = (AV.int .i64 0)) ?_
  refine AOps.nilR ?_
  refine AW.meet (σ := (List Int) × (List Int) × (List Int) × (List Int) × (List Int) × (Nat → Bool) × BX × AV × Nat × Bool × (List AV) × BX × AV × Nat × Bool × (List AV) × Nat × Bool × (List AV) × St) (fun (m11, m15, m21, m25, m31, w10, x12, v13, z16, f17, e18, x22, v23, z26, f27, e28, z32, f33, e34, s37) tm os => ⟨updL tm [(2, (AV.pend 5)), (3, (AV.ptr b2 0))], updL os [(2, true)], s37⟩) (fun (m11, m15, m21, m25, m31, w10, x12, v13, z16, f17, e18, x22, v23, z26, f27, e28, z32, f33, e34, s37) => (DY (rI .i64) false 1 m11 v13 x12) ∧ (LR (rI .i64) 1 m15 z16 e18) ∧ (f17 = true ∨ w10 1 = true) ∧ (DY (rI .i64) false 1 m21 v23 x22) ∧ (LR (rI .i64) 1 m25 z26 e28) ∧ (f27 = true ∨ w10 3 = true) ∧ (LR (rI .i64) 1 m31 z32 e34) ∧ (f33 = true ∨ w10 4 = true) ∧ (HS [] false s s37 [⟨some b2, [v13, (AV.sl z16 f17 e18), v23, (AV.sl z26 f27 e28), (AV.sl z32 f33 e34)], w10⟩, x12, x22]) ∧ impl_match_J1 m11 m15 m21 m25 m31 = some r) ?_ ?_
  · rintro ⟨m11, m15, m21, m25, m31, w10, x12, v13, z16, f17, e18, x22, v23, z26, f27, e28, z32, f33, e34, s37⟩ tm os ⟨h14, h19, h20, h24, h29, h30, h35, h36, hH38, h⟩
    unfold impl_match_J1 at h
    refine AW.seq ?_
    refine AW.region ?_
    refine AOps.ldB (i := 0) (v := (AV.agg [v13, (AV.sl z16 f17 e18), v23, (AV.sl z26 f27 e28), (AV.sl z32 f33 e34)])) hH38 rfl rfl rfl rfl rfl rfl rfl rfl rfl ?_
    refine AOps.stP (v := (AV.agg [v13, (AV.sl z16 f17 e18), v23, (AV.sl z26 f27 e28), (AV.sl z32 f33 e34)])) rfl rfl rfl rfl rfl rfl rfl (lay_cons (DY.one h14) (lay_cons rfl (lay_cons (DY.one h24) (lay_cons rfl (lay_cons rfl lay_nil))))) rfl (lt_b rfl) rfl ?_
    refine AOps.nilR ?_
    cases h
    exact AW.ret ⟨⟨_, hH38⟩, _, _, rfl, (Fin.A (.cons (Fin.dy (r := rI .i64) hH38 (i := 1) rfl h14 (fun _ => .I) (fun _ => rfl)) (.cons (Fin.of (p := (rL (rI .i64) 1) m15) (.L fun _ => .I) (⟨_, _, _, rfl, h19⟩)) (.cons (Fin.dy (r := rI .i64) hH38 (i := 2) rfl h24 (fun _ => .I) (fun _ => rfl)) (.cons (Fin.of (p := (rL (rI .i64) 1) m25) (.L fun _ => .I) (⟨_, _, _, rfl, h29⟩)) (.cons (Fin.of (p := (rL (rI .i64) 1) m31) (.L fun _ => .I) (⟨_, _, _, rfl, h35⟩)) .nil)))))).2⟩
  intro KJ39
  refine AW.block ?_
  refine AW.res [(0, (AV.str p1)), (2, (AV.pend 5)), (3, (AV.ptr b2 0)), (13, (AV.int .i64 (p1.length : Int))), (14, (AV.int .i64 0))] [(2, true)] ⟨rfl, rfl, rfl, rfl, rfl, trivial⟩ ⟨rfl, trivial⟩ ?_
  refine AW.loopF (σ := (List Int) × (List Int) × (List Int) × (List Int) × (List Int) × Int) (τ := (Nat → Bool) × BX × AV × Nat × Bool × (List AV) × BX × AV × Nat × Bool × (List AV) × Nat × Bool × (List AV) × St) (fun (m41, m45, m51, m55, m61, t67) (w40, x42, v43, z46, f47, e48, x52, v53, z56, f57, e58, z62, f63, e64, s68) => (DY (rI .i64) false 1 m41 v43 x42) ∧ (LR (rI .i64) 1 m45 z46 e48) ∧ (f47 = true ∨ w40 1 = true) ∧ (DY (rI .i64) false 1 m51 v53 x52) ∧ (LR (rI .i64) 1 m55 z56 e58) ∧ (f57 = true ∨ w40 3 = true) ∧ (LR (rI .i64) 1 m61 z62 e64) ∧ (f63 = true ∨ w40 4 = true) ∧ (HS [] false s s68 [⟨some b2, [v43, (AV.sl z46 f47 e48), v53, (AV.sl z56 f57 e58), (AV.sl z62 f63 e64)], w40⟩, x42, x52])) (fun (m41, m45, m51, m55, m61, t67) (w40, x42, v43, z46, f47, e48, x52, v53, z56, f57, e58, z62, f63, e64, s68) tm os => ⟨updL tm [(0, (AV.str p1)), (2, (AV.pend 5)), (3, (AV.ptr b2 0)), (13, (AV.int .i64 (p1.length : Int))), (14, (AV.int .i64 t67))], updL os [(2, true)], s68⟩) ?_ (x := (([] : List Int), ([] : List Int), ([] : List Int), ([0] : List Int), ([] : List Int), 0)) (y := (w5, noBX, (AV.sl 0 true []), 0, true, [], noBX, (AV.sl 0 true []), 1, true, [(AV.int .i64 0)], 0, true, [], s6)) h ⟨DY.nil, ⟨.inr ⟨rfl, rfl⟩, .nil⟩, (Or.inl rfl), DY.nil, LR.lit (r := rI .i64) (sz := 1) (.cons rfl .nil), (Or.inl rfl), ⟨.inr ⟨rfl, rfl⟩, .nil⟩, (Or.inl rfl), (HS.sel hH9 [some 0, none, none] (by decide))⟩
  clear h
  rintro ⟨m41, m45, m51, m55, m61, t67⟩ ⟨w40, x42, v43, z46, f47, e48, x52, v53, z56, f57, e58, z62, f63, e64, s68⟩ tm os ⟨h44, h49, h50, h54, h59, h60, h65, h66, hH69⟩ e1 h hL1 hR1
  unfold impl_match_S1 at h
  dsimp only at h
  refine AW.seq ?_
  refine AW.region ?_
  refine AOps.pureR rfl rfl rfl rfl rfl (rfl : _ = (AV.bool (decide ((t67 : Int) < (p1.length : Int))))) ?_
  refine AOps.nilR ?_
  refine AW.seq ?_
  rcases oite h with ⟨hc70, h⟩ | ⟨hc70, h⟩
  · refine AW.condT (congrArg AV.bool hc70) ?_
    refine AW.skip ?_
    refine AW.seq ?_
    refine AW.block ?_
    refine AW.seq ?_
    refine AW.region ?_
    refine AOps.pureR rfl rfl rfl rfl rfl (rfl : _ = (AV.int .i64 t67)) ?_
    refine AOps.assignR rfl rfl rfl (rfl : _ = (AV.int .i64 t67)) rfl ?_
    refine AOps.nilR ?_
    refine AW.seq ?_
    refine AW.region ?_
    refine AOps.pureR rfl rfl rfl rfl rfl (rfl : _ = (AV.int .i64 t67)) ?_
    refine AOps.assignR rfl rfl rfl (rfl : _ = (AV.int .i64 t67)) rfl ?_
    refine AOps.pureR rfl rfl rfl rfl rfl (rfl : _ = (AV.int .i64 (-1))) ?_
    refine AOps.nilR ?_
    refine AW.seq ?_
    refine AW.region ?_
    refine AOps.pureR rfl rfl rfl rfl rfl (rfl : _ = (AV.ptr b2 2)) ?_
    refine AOps.ldB (i := 0) (v := v53) hH69 rfl rfl rfl rfl rfl rfl rfl rfl rfl ?_
    refine AOps.pureR rfl rfl rfl (DY.len h54 rfl rfl rfl) rfl (rfl : _ = (AV.int .i64 (m51.length : Int))) ?_
    refine AOps.assignR rfl rfl rfl (rfl : _ = (AV.int .i64 (m51.length : Int))) rfl ?_
    refine AOps.nilR ?_
    refine AW.seq ?_
    refine AW.block ?_
    refine AW.seq ?_
    refine AW.region ?_
    refine AOps.pureR rfl rfl rfl rfl rfl (rfl : _ = (AV.str p1)) ?_
    refine AOps.pureR rfl rfl rfl rfl rfl (rfl : _ = (AV.int .i64 t67)) ?_
    obtain ⟨c71, h72, h⟩ := obind h
    refine AOps.pureR rfl rfl rfl (chr_str h72) rfl (rfl : _ = (AV.int .u8 c71)) ?_
    obtain ⟨y73, h74, h⟩ := obind h
    refine AOps.callP (g := 209) (args := [(AV.int .u8 c71)]) (p := (rB) y73) rfl rfl rfl (impl_isReturn_ok  h74 (HS.wf' hH69)) ?_
    intro _ o76 h75
    cases h75
    refine AOps.pureR rfl rfl rfl rfl rfl (rfl : _ = (AV.bool y73)) ?_
    refine AOps.split 3 (fun f' => ∃ tm' os', f' = ⟨updL tm' [(0, (AV.str p1)), (2, (AV.pend 5)), (3, (AV.ptr b2 0)), (4, (AV.int .i64 t67)), (5, (AV.int .i64 t67)), (6, (AV.int .i64 (-1))), (7, (AV.int .i64 (m51.length : Int))), (13, (AV.int .i64 (p1.length : Int))), (14, (AV.int .i64 t67)), (29, (AV.bool (y73 && ((m51.length : Int) == 0))))], updL os' [(2, true)], s68⟩) ?_ ?_
    · rcases Bool.eq_false_or_eq_true y73 with hc77 | hc77
      · refine AOps.know (d := 26) rfl hc77 ?_
        refine AOps.pureR rfl rfl rfl rfl rfl (rfl : _ = (AV.int .i64 (m51.length : Int))) ?_
        refine AOps.pureR rfl rfl rfl rfl rfl (rfl : _ = (AV.bool ((m51.length : Int) == 0))) ?_
        refine AOps.pureR rfl rfl rfl rfl rfl (rfl : _ = (AV.bool ((m51.length : Int) == 0))) ?_
        refine AOps.resR [(0, (AV.str p1)), (2, (AV.pend 5)), (3, (AV.ptr b2 0)), (4, (AV.int .i64 t67)), (5, (AV.int .i64 t67)), (6, (AV.int .i64 (-1))), (7, (AV.int .i64 (m51.length : Int))), (13, (AV.int .i64 (p1.length : Int))), (14, (AV.int .i64 t67)), (29, (AV.bool (y73 && ((m51.length : Int) == 0))))] [(2, true)] ?_ ?_ _ ⟨_, _, rfl⟩
        · exact ⟨rfl, rfl, rfl, rfl, rfl, rfl, rfl, rfl, rfl, congrArg AV.bool (and_t hc77), trivial⟩
        exact ⟨rfl, trivial⟩
      · refine AOps.know (d := 26) rfl hc77 ?_
        refine AOps.skipR rfl rfl ?_
        refine AOps.skipR rfl rfl ?_
        refine AOps.pureR rfl rfl rfl rfl rfl (rfl : _ = (AV.bool false)) ?_
        refine AOps.resR [(0, (AV.str p1)), (2, (AV.pend 5)), (3, (AV.ptr b2 0)), (4, (AV.int .i64 t67)), (5, (AV.int .i64 t67)), (6, (AV.int .i64 (-1))), (7, (AV.int .i64 (m51.length : Int))), (13, (AV.int .i64 (p1.length : Int))), (14, (AV.int .i64 t67)), (29, (AV.bool (y73 && ((m51.length : Int) == 0))))] [(2, true)] ?_ ?_ _ ⟨_, _, rfl⟩
        · exact ⟨rfl, rfl, rfl, rfl, rfl, rfl, rfl, rfl, rfl, congrArg AV.bool (and_f hc77), trivial⟩
        exact ⟨rfl, trivial⟩
    rintro _ ⟨tm, os, rfl⟩
    refine AOps.assignR rfl rfl rfl (rfl : _ = (AV.bool (y73 && ((m51.length : Int) == 0)))) rfl ?_
    refine AOps.nilR ?_
    refine AW.meet (σ := (List Int) × (List Int) × (List Int) × Int × (Nat → Bool) × BX × AV × Nat × Bool × (List AV) × BX × AV × St) (fun (m79, m83, m89, t95, w78, x80, v81, z84, f85, e86, x90, v91, s96) tm os => ⟨updL tm [(0, (AV.str p1)), (2, (AV.pend 5)), (3, (AV.ptr b2 0)), (4, (AV.int .i64 t67)), (5, (AV.int .i64 t67)), (6, (AV.int .i64 t95)), (13, (AV.int .i64 (p1.length : Int))), (14, (AV.int .i64 t67))], updL os [(2, true)], s96⟩) (fun (m79, m83, m89, t95, w78, x80, v81, z84, f85, e86, x90, v91, s96) => (DY (rI .i64) false 1 m79 v81 x80) ∧ (LR (rI .i64) 1 m83 z84 e86) ∧ (f85 = true ∨ w78 1 = true) ∧ (DY (rI .i64) false 1 m89 v91 x90) ∧ (f57 = true ∨ w78 3 = true) ∧ (f63 = true ∨ w78 4 = true) ∧ (HS [] false s s96 [⟨some b2, [v81, (AV.sl z84 f85 e86), v91, (AV.sl z56 f57 e58), (AV.sl z62 f63 e64)], w78⟩, x80, x90]) ∧ impl_match_J2 p1 m55 m61 t67 m79 m83 m89 t95 = some e1) ?_ ?_
    · rintro ⟨m79, m83, m89, t95, w78, x80, v81, z84, f85, e86, x90, v91, s96⟩ tm os ⟨h82, h87, h88, h92, h93, h94, hH97, h⟩
      unfold impl_match_J2 at h
      refine AW.inBlock ?_
      refine AW.seq ?_
      refine AW.region ?_
      refine AOps.pureR rfl rfl rfl rfl rfl (rfl : _ = (AV.int .i64 (-1))) ?_
      refine AOps.nilR ?_
      refine AW.seq ?_
      refine AW.seq ?_
      refine AW.region ?_
      refine AOps.pureR rfl rfl rfl rfl rfl (rfl : _ = (AV.ptr b2 2)) ?_
      refine AOps.ldB (i := 0) (v := v91) hH97 rfl rfl rfl rfl rfl rfl rfl rfl rfl ?_
      refine AOps.pureR rfl rfl rfl (DY.len h92 rfl rfl rfl) rfl (rfl : _ = (AV.int .i64 (m89.length : Int))) ?_
      refine AOps.assignR rfl rfl rfl (rfl : _ = (AV.int .i64 (m89.length : Int))) rfl ?_
      refine AOps.nilR ?_
      refine AW.seq ?_
      refine AW.region ?_
      refine AOps.pureR rfl rfl rfl rfl rfl (rfl : _ = (AV.int .i64 (m89.length : Int))) ?_
      refine AOps.pureR rfl rfl rfl rfl rfl (rfl : _ = (AV.bool (decide (((m89.length : Int) : Int) > 0)))) ?_
      refine AOps.nilR ?_
      refine AW.meet (σ := Int × BX × AV × St) (fun (t102, x99, v100, s103) tm os => ⟨updL tm [(0, (AV.str p1)), (2, (AV.pend 5)), (3, (AV.ptr b2 0)), (4, (AV.int .i64 t67)), (5, (AV.int .i64 t67)), (6, (AV.int .i64 t95)), (8, (AV.int .i64 t102)), (13, (AV.int .i64 (p1.length : Int))), (14, (AV.int .i64 t67))], updL os [(2, true)], s103⟩) (fun (t102, x99, v100, s103) => (DY (rI .i64) false 1 m89 v100 x99) ∧ (HS [] false s s103 [⟨some b2, [v81, (AV.sl z84 f85 e86), v100, (AV.sl z56 f57 e58), (AV.sl z62 f63 e64)], w78⟩, x80, x99]) ∧ impl_match_J3 p1 m55 m61 t67 m79 m83 m89 t95 t102 = some e1) ?_ ?_
      · rintro ⟨t102, x99, v100, s103⟩ tm os ⟨h101, hH104, h⟩
        unfold impl_match_J3 at h
        refine AW.seq ?_
        refine AW.seq ?_
        refine AW.region ?_
        refine AOps.pureR rfl rfl rfl rfl rfl (rfl : _ = (AV.str p1)) ?_
        refine AOps.pureR rfl rfl rfl rfl rfl (rfl : _ = (AV.int .i64 t67)) ?_
        obtain ⟨c106, h107, h⟩ := obind h
        refine AOps.pureR rfl rfl rfl (chr_str h107) rfl (rfl : _ = (AV.int .u8 c106)) ?_
        obtain ⟨y108, h109, h⟩ := obind h
        refine AOps.callP (g := 207) (args := [(AV.int .u8 c106)]) (p := (rB) y108) rfl rfl rfl (impl_isCall_ok  h109 (HS.wf' hH104)) ?_
        intro _ o111 h110
        cases h110
        refine AOps.nilR ?_
        refine AW.meet (σ := (List Int) × Int × (Nat → Bool) × BX × AV × St) (fun (m114, t120, w112, x115, v116, s121) tm os => ⟨updL tm [(0, (AV.str p1)), (2, (AV.pend 5)), (3, (AV.ptr b2 0)), (6, (AV.int .i64 t120)), (8, (AV.int .i64 t102)), (13, (AV.int .i64 (p1.length : Int))), (14, (AV.int .i64 t67))], updL os [(2, true)], s121⟩) (fun (m114, t120, w112, x115, v116, s121) => (f85 = true ∨ w112 1 = true) ∧ (DY (rI .i64) false 1 m114 v116 x115) ∧ (f57 = true ∨ w112 3 = true) ∧ (f63 = true ∨ w112 4 = true) ∧ (HS [] false s s121 [⟨some b2, [v81, (AV.sl z84 f85 e86), v116, (AV.sl z56 f57 e58), (AV.sl z62 f63 e64)], w112⟩, x80, x115]) ∧ impl_match_J4 m55 m61 t67 m79 m83 t102 m114 t120 = some e1) ?_ ?_
        · rintro ⟨m114, t120, w112, x115, v116, s121⟩ tm os ⟨h113, h117, h118, h119, hH122, h⟩
          unfold impl_match_J4 at h
          refine AW.seq ?_
          refine AW.region ?_
          refine AOps.pureR rfl rfl rfl rfl rfl (rfl : _ = (AV.ptr b2 0)) ?_
          refine AOps.ldB (i := 0) (v := v81) hH122 rfl rfl rfl rfl rfl rfl rfl rfl rfl ?_
          refine AOps.pureR rfl rfl rfl rfl rfl (rfl : _ = (AV.int .i64 t120)) ?_
          refine AOps.makeR rfl rfl rfl rfl rfl rfl (rfl : _ = (AV.sl 1 true [(AV.int .i64 t120)])) ?_
          obtain ⟨l124, h125, h⟩ := obind h
          refine AOps.appD (i := 1) (r := rI .i64) (ei := ty2) (z' := 1) (f' := true) (e' := [(AV.int .i64 t120)]) hH122 rfl h82 Sh.I rfl rfl rfl rfl rfl rfl rfl (appSrc_sl (LR.z (LR.lit (r := rI .i64) (sz := 1) (.cons rfl .nil))) rfl) (LR.el (LR.lit (r := rI .i64) (sz := 1) (.cons rfl .nil))) rfl ⟨by decide, by decide, rfl, rfl⟩ rfl rfl h125 ?_
          intro b126 n127 cs128 s129 h130 hH131
          change HS [] false s s129 [⟨some b2, [v81, (AV.sl z84 f85 e86), v116, (AV.sl z56 f57 e58), (AV.sl z62 f63 e64)], w112⟩, ⟨some b126, cs128, fun _ => false⟩, x115] at hH131
          refine AOps.pureR rfl rfl rfl rfl rfl (rfl : _ = (AV.ptr b2 4)) ?_
          refine AOps.ldMv (i := 0) (v := (AV.sl z62 f63 e64)) hH131 rfl rfl rfl rfl rfl rfl rfl rfl rfl rfl h119 ?_
          intro o132 w133 s137 h134 h135 hH136
          change HS [] false s s137 [⟨some b2, [v81, (AV.sl z84 f85 e86), v116, (AV.sl z56 f57 e58), (AV.sl z62 f63 e64)], w133⟩, ⟨some b126, cs128, fun _ => false⟩, x115] at hH136
          refine AOps.pureR rfl rfl rfl rfl rfl (rfl : _ = (AV.int .i64 t102)) ?_
          refine AOps.makeR rfl rfl rfl rfl rfl rfl (rfl : _ = (AV.sl 1 true [(AV.int .i64 t102)])) ?_
          obtain ⟨l138, h139, h⟩ := obind h
          obtain ⟨h140, h141⟩ := app_LR h65 (LR.lit (r := rI .i64) (sz := 1) (.cons rfl .nil)) h139
          refine AOps.appL (z := z62) (f := f63) (e := e64) (z' := 1) (f' := true) (e' := [(AV.int .i64 t102)]) rfl rfl rfl rfl rfl rfl rfl (appSrc_sl (LR.z (LR.lit (r := rI .i64) (sz := 1) (.cons rfl .nil))) rfl) (LR.z h65) ⟨by decide, by decide, rfl, rfl⟩ rfl rfl h141 (own_tmp h134 rfl rfl) ?_
          refine AOps.pureR rfl rfl rfl rfl rfl (rfl : _ = (AV.ptr b2 0)) ?_
          refine AOps.stB (i := 0) (v := (AV.ms false 1 b126 0 n127)) hH136 rfl rfl rfl rfl rfl rfl rfl rfl rfl (lt_b rfl) (le_b rfl) rfl ?_
          intro w142 s143 h144 h145 hH146
          change HS [] false s s143 [⟨some b2, [(AV.ms false 1 b126 0 n127), (AV.sl z84 f85 e86), v116, (AV.sl z56 f57 e58), (AV.sl z62 f63 e64)], w142⟩, ⟨some b126, cs128, fun _ => false⟩, x115] at hH146
          refine AOps.pureR rfl rfl rfl rfl rfl (rfl : _ = (AV.ptr b2 4)) ?_
          refine AOps.stB (i := 0) (v := (AV.sl 1 false (e64 ++ [(AV.int .i64 t102)]))) hH146 rfl rfl rfl rfl rfl rfl rfl rfl rfl (lt_b rfl) (le_b rfl) rfl ?_
          intro w147 s148 h149 h150 hH151
          change HS [] false s s148 [⟨some b2, [(AV.ms false 1 b126 0 n127), (AV.sl z84 f85 e86), v116, (AV.sl z56 f57 e58), (AV.sl 1 false (e64 ++ [(AV.int .i64 t102)]))], w147⟩, ⟨some b126, cs128, fun _ => false⟩, x115] at hH151
          refine AOps.nilR ?_
          refine AW.region ?_
          refine AOps.pureR rfl rfl rfl rfl rfl (rfl : _ = (AV.ptr b2 3)) ?_
          refine AOps.ldMv (i := 0) (v := (AV.sl z56 f57 e58)) hH151 rfl rfl rfl rfl rfl rfl rfl rfl rfl rfl (own_keep (own_keep (own_keep h118 (h135 _ (by decide))) (h144 _ (by decide))) (h149 _ (by decide))) ?_
          intro o152 w153 s157 h154 h155 hH156
          change HS [] false s s157 [⟨some b2, [(AV.ms false 1 b126 0 n127), (AV.sl z84 f85 e86), v116, (AV.sl z56 f57 e58), (AV.sl 1 false (e64 ++ [(AV.int .i64 t102)]))], w153⟩, ⟨some b126, cs128, fun _ => false⟩, x115] at hH156
          refine AOps.pureR rfl rfl rfl rfl rfl (rfl : _ = (AV.ptr b2 2)) ?_
          refine AOps.ldB (i := 0) (v := v116) hH156 rfl rfl rfl rfl rfl rfl rfl rfl rfl ?_
          obtain ⟨y158, h159, h⟩ := obind h
          refine AOps.callDP (g := 183) (args := [v116]) (p := (rI .i64) y158) rfl rfl rfl (impl_size_int64_d_ok (s := St.still s157) h117 (HS.fr hH156 (i := 2) rfl) h159 ((HS.wf' hH156).still)) (fun v hv => Nice.pure (k := FINK) (p := (rI .i64) y158) .I _ v hv) ?_
          intro _ o161 h160
          cases h160
          refine AOps.makeR rfl rfl rfl rfl rfl rfl (rfl : _ = (AV.sl 1 true [(AV.int .i64 y158)])) ?_
          obtain ⟨l162, h163, h⟩ := obind h
          obtain ⟨h164, h165⟩ := app_LR h59 (LR.lit (r := rI .i64) (sz := 1) (.cons rfl .nil)) h163
          refine AOps.appL (z := z56) (f := f57) (e := e58) (z' := 1) (f' := true) (e' := [(AV.int .i64 y158)]) rfl rfl rfl rfl rfl rfl rfl (appSrc_sl (LR.z (LR.lit (r := rI .i64) (sz := 1) (.cons rfl .nil))) rfl) (LR.z h59) ⟨by decide, by decide, rfl, rfl⟩ rfl rfl h165 (own_tmp h154 rfl rfl) ?_
          refine AOps.pureR rfl rfl rfl rfl rfl (rfl : _ = (AV.ptr b2 3)) ?_
          refine AOps.stB (i := 0) (v := (AV.sl 1 false (e58 ++ [(AV.int .i64 y158)]))) hH156 rfl rfl rfl rfl rfl rfl rfl rfl rfl (lt_b rfl) (le_b rfl) rfl ?_
          intro w166 s167 h168 h169 hH170
          change HS [] false s s167 [⟨some b2, [(AV.ms false 1 b126 0 n127), (AV.sl z84 f85 e86), v116, (AV.sl 1 false (e58 ++ [(AV.int .i64 y158)])), (AV.sl 1 false (e64 ++ [(AV.int .i64 t102)]))], w166⟩, ⟨some b126, cs128, fun _ => false⟩, x115] at hH170
          refine AOps.nilR ?_
          refine AW.inBlock ?_
          refine AW.region ?_
          refine AOps.pureR rfl rfl rfl rfl rfl (rfl : _ = (AV.int .i64 (IntKind.wrap .i64 (t67 + 1)))) ?_
          refine AOps.pureR rfl rfl rfl rfl rfl (rfl : _ = (AV.int .i64 (IntKind.wrap .i64 (t67 + 1)))) ?_
          refine AOps.nilR ?_
          cases h
          exact AW.res [(0, (AV.str p1)), (2, (AV.pend 5)), (3, (AV.ptr b2 0)), (13, (AV.int .i64 (p1.length : Int))), (14, (AV.int .i64 (IntKind.wrap .i64 (t67 + 1))))] [(2, true)] ⟨rfl, rfl, rfl, rfl, rfl, trivial⟩ ⟨rfl, trivial⟩ (hL1 _ rfl (w166, ⟨some b126, cs128, fun _ => false⟩, (AV.ms false 1 b126 0 n127), z84, f85, e86, x115, v116, 1, false, (e58 ++ [(AV.int .i64 y158)]), 1, false, (e64 ++ [(AV.int .i64 t102)]), s167) _ _ ⟨(DY.ms rfl h130), h87, (own_keep (own_keep (own_keep (own_keep (own_keep h113 (h135 _ (by decide))) (h144 _ (by decide))) (h149 _ (by decide))) (h155 _ (by decide))) (h168 _ (by decide))), h117, h164, (own_st (Or.inr rfl) h169 rfl rfl rfl), h140, (own_keep (own_keep (own_st (Or.inr rfl) h150 rfl rfl rfl) (h155 _ (by decide))) (h168 _ (by decide))), (HS.sel hH170 [some 0, some 1, some 2] (by decide))⟩)
        intro KJ123
        rcases oite h with ⟨hc171, h⟩ | ⟨hc171, h⟩
        · refine AW.condT (congrArg AV.bool hc171) ?_
          refine AW.seq ?_
          refine AW.region ?_
          refine AOps.pureR rfl rfl rfl rfl rfl (rfl : _ = (AV.int .i64 (-2))) ?_
          refine AOps.nilR ?_
          refine AW.region ?_
          refine AOps.pureR rfl rfl rfl rfl rfl (rfl : _ = (AV.ptr b2 2)) ?_
          refine AOps.ldB (i := 0) (v := v100) hH104 rfl rfl rfl rfl rfl rfl rfl rfl rfl ?_
          refine AOps.pureR rfl rfl rfl rfl rfl (rfl : _ = (AV.int .i64 t67)) ?_
          refine AOps.makeR rfl rfl rfl rfl rfl rfl (rfl : _ = (AV.sl 1 true [(AV.int .i64 t67)])) ?_
          obtain ⟨l172, h173, h⟩ := obind h
          refine AOps.appD (i := 2) (r := rI .i64) (ei := ty2) (z' := 1) (f' := true) (e' := [(AV.int .i64 t67)]) hH104 rfl h101 Sh.I rfl rfl rfl rfl rfl rfl rfl (appSrc_sl (LR.z (LR.lit (r := rI .i64) (sz := 1) (.cons rfl .nil))) rfl) (LR.el (LR.lit (r := rI .i64) (sz := 1) (.cons rfl .nil))) rfl ⟨by decide, by decide, rfl, rfl⟩ rfl rfl h173 ?_
          intro b174 n175 cs176 s177 h178 hH179
          change HS [] false s s177 [⟨some b2, [v81, (AV.sl z84 f85 e86), v100, (AV.sl z56 f57 e58), (AV.sl z62 f63 e64)], w78⟩, x80, ⟨some b174, cs176, fun _ => false⟩] at hH179
          refine AOps.pureR rfl rfl rfl rfl rfl (rfl : _ = (AV.ptr b2 2)) ?_
          refine AOps.stB (i := 0) (v := (AV.ms false 1 b174 0 n175)) hH179 rfl rfl rfl rfl rfl rfl rfl rfl rfl (lt_b rfl) (le_b rfl) rfl ?_
          intro w180 s181 h182 h183 hH184
          change HS [] false s s181 [⟨some b2, [v81, (AV.sl z84 f85 e86), (AV.ms false 1 b174 0 n175), (AV.sl z56 f57 e58), (AV.sl z62 f63 e64)], w180⟩, x80, ⟨some b174, cs176, fun _ => false⟩] at hH184
          refine AOps.nilR ?_
          exact AW.res [(0, (AV.str p1)), (2, (AV.pend 5)), (3, (AV.ptr b2 0)), (6, (AV.int .i64 (-2))), (8, (AV.int .i64 t102)), (13, (AV.int .i64 (p1.length : Int))), (14, (AV.int .i64 t67))] [(2, true)] ⟨rfl, rfl, rfl, rfl, rfl, rfl, rfl, trivial⟩ ⟨rfl, trivial⟩ (KJ123 (l172, (-2), w180, ⟨some b174, cs176, fun _ => false⟩, (AV.ms false 1 b174 0 n175), s181) _ _ ⟨(own_keep h88 (h182 _ (by decide))), (DY.ms rfl h178), (own_keep h93 (h182 _ (by decide))), (own_keep h94 (h182 _ (by decide))), (HS.sel hH184 [some 0, some 1, some 2] (by decide)), h⟩)
        refine AW.condF (congrArg AV.bool hc171) ?_
        refine AW.skip ?_
        exact AW.res [(0, (AV.str p1)), (2, (AV.pend 5)), (3, (AV.ptr b2 0)), (6, (AV.int .i64 t95)), (8, (AV.int .i64 t102)), (13, (AV.int .i64 (p1.length : Int))), (14, (AV.int .i64 t67))] [(2, true)] ⟨rfl, rfl, rfl, rfl, rfl, rfl, rfl, trivial⟩ ⟨rfl, trivial⟩ (KJ123 (m89, t95, w78, x99, v100, s103) _ _ ⟨h88, h101, h93, h94, (HS.sel hH104 [some 0, some 1, some 2] (by decide)), h⟩)
      intro KJ105
      rcases oite h with ⟨hc185, h⟩ | ⟨hc185, h⟩
      · refine AW.condT (congrArg AV.bool hc185) ?_
        refine AW.region ?_
        refine AOps.pureR rfl rfl rfl rfl rfl (rfl : _ = (AV.ptr b2 2)) ?_
        refine AOps.ldB (i := 0) (v := v91) hH97 rfl rfl rfl rfl rfl rfl rfl rfl rfl ?_
        refine AOps.pureR rfl rfl rfl rfl rfl (rfl : _ = (AV.int .i64 (m89.length : Int))) ?_
        refine AOps.pureR rfl rfl rfl rfl rfl (rfl : _ = (AV.int .i64 (IntKind.wrap .i64 ((m89.length : Int) - 1)))) ?_
        obtain ⟨x186, h187, h⟩ := obind h
        obtain ⟨b188, n189, h190, h192, h191⟩ := DY.has h92 h187
        subst h192
        refine AOps.pureR rfl rfl rfl (idx_ms h191 h187) rfl (rfl : _ = (AV.ptr b188 (0 + Int.toNat (IntKind.wrap .i64 ((m89.length : Int) - 1)) * 1))) ?_
        refine AOps.ldM (i := 2) (r := rI .i64) (off := 0) hH97 rfl h190 h191 h187 rfl rfl rfl rfl rfl (lt_b rfl) (le_b rfl) rfl rfl ?_ (fun c hr hs => by cases hr; exact ⟨_, rfl⟩)
        intro c193 h194 h195 v196 h197
        cases h194
        cases h197
        refine AOps.assignR rfl rfl rfl (rfl : _ = (AV.int .i64 x186)) rfl ?_
        refine AOps.nilR ?_
        exact AW.res [(0, (AV.str p1)), (2, (AV.pend 5)), (3, (AV.ptr b2 0)), (4, (AV.int .i64 t67)), (5, (AV.int .i64 t67)), (6, (AV.int .i64 t95)), (8, (AV.int .i64 x186)), (13, (AV.int .i64 (p1.length : Int))), (14, (AV.int .i64 t67))] [(2, true)] ⟨rfl, rfl, rfl, rfl, rfl, rfl, rfl, rfl, rfl, trivial⟩ ⟨rfl, trivial⟩ (KJ105 (x186, x90, (AV.ms false 1 b188 0 n189), s96) _ _ ⟨(DY.ms h190 h191), (HS.sel hH97 [some 0, some 1, some 2] (by decide)), h⟩)
      refine AW.condF (congrArg AV.bool hc185) ?_
      refine AW.skip ?_
      exact AW.res [(0, (AV.str p1)), (2, (AV.pend 5)), (3, (AV.ptr b2 0)), (4, (AV.int .i64 t67)), (5, (AV.int .i64 t67)), (6, (AV.int .i64 t95)), (8, (AV.int .i64 (-1))), (13, (AV.int .i64 (p1.length : Int))), (14, (AV.int .i64 t67))] [(2, true)] ⟨rfl, rfl, rfl, rfl, rfl, rfl, rfl, rfl, rfl, trivial⟩ ⟨rfl, trivial⟩ (KJ105 ((-1), x90, v91, s96) _ _ ⟨h92, (HS.sel hH97 [some 0, some 1, some 2] (by decide)), h⟩)
    intro KJ98
    rcases oite h with ⟨hc198, h⟩ | ⟨hc198, h⟩
    · refine AW.condT (congrArg AV.bool hc198) ?_
      refine AW.seq ?_
      refine AW.region ?_
      refine AOps.pureR rfl rfl rfl rfl rfl (rfl : _ = (AV.int .i64 (-2))) ?_
      refine AOps.nilR ?_
      refine AW.region ?_
      refine AOps.pureR rfl rfl rfl rfl rfl (rfl : _ = (AV.ptr b2 1)) ?_
      refine AOps.ldMv (i := 0) (v := (AV.sl z46 f47 e48)) hH69 rfl rfl rfl rfl rfl rfl rfl rfl rfl rfl h50 ?_
      intro o199 w200 s204 h201 h202 hH203
      change HS [] false s s204 [⟨some b2, [v43, (AV.sl z46 f47 e48), v53, (AV.sl z56 f57 e58), (AV.sl z62 f63 e64)], w200⟩, x42, x52] at hH203
      refine AOps.pureR rfl rfl rfl rfl rfl (rfl : _ = (AV.int .i64 t67)) ?_
      refine AOps.makeR rfl rfl rfl rfl rfl rfl (rfl : _ = (AV.sl 1 true [(AV.int .i64 t67)])) ?_
      obtain ⟨l205, h206, h⟩ := obind h
      obtain ⟨h207, h208⟩ := app_LR h49 (LR.lit (r := rI .i64) (sz := 1) (.cons rfl .nil)) h206
      refine AOps.appL (z := z46) (f := f47) (e := e48) (z' := 1) (f' := true) (e' := [(AV.int .i64 t67)]) rfl rfl rfl rfl rfl rfl rfl (appSrc_sl (LR.z (LR.lit (r := rI .i64) (sz := 1) (.cons rfl .nil))) rfl) (LR.z h49) ⟨by decide, by decide, rfl, rfl⟩ rfl rfl h208 (own_tmp h201 rfl rfl) ?_
      refine AOps.pureR rfl rfl rfl rfl rfl (rfl : _ = (AV.ptr b2 1)) ?_
      refine AOps.stB (i := 0) (v := (AV.sl 1 false (e48 ++ [(AV.int .i64 t67)]))) hH203 rfl rfl rfl rfl rfl rfl rfl rfl rfl (lt_b rfl) (le_b rfl) rfl ?_
      intro w209 s210 h211 h212 hH213
      change HS [] false s s210 [⟨some b2, [v43, (AV.sl 1 false (e48 ++ [(AV.int .i64 t67)])), v53, (AV.sl z56 f57 e58), (AV.sl z62 f63 e64)], w209⟩, x42, x52] at hH213
      refine AOps.nilR ?_
      exact AW.res [(0, (AV.str p1)), (2, (AV.pend 5)), (3, (AV.ptr b2 0)), (4, (AV.int .i64 t67)), (5, (AV.int .i64 t67)), (6, (AV.int .i64 (-2))), (13, (AV.int .i64 (p1.length : Int))), (14, (AV.int .i64 t67))] [(2, true)] ⟨rfl, rfl, rfl, rfl, rfl, rfl, rfl, rfl, trivial⟩ ⟨rfl, trivial⟩ (KJ98 (m41, l205, m51, (-2), w209, x42, v43, 1, false, (e48 ++ [(AV.int .i64 t67)]), x52, v53, s210) _ _ ⟨h44, h207, (own_st (Or.inr rfl) h212 rfl rfl rfl), h54, (own_keep (own_keep h60 (h202 _ (by decide))) (h211 _ (by decide))), (own_keep (own_keep h66 (h202 _ (by decide))) (h211 _ (by decide))), (HS.sel hH213 [some 0, some 1, some 2] (by decide)), h⟩)
    refine AW.condF (congrArg AV.bool hc198) ?_
    refine AW.seq ?_
    refine AW.region ?_
    refine AOps.pureR rfl rfl rfl rfl rfl (rfl : _ = (AV.str p1)) ?_
    refine AOps.pureR rfl rfl rfl rfl rfl (rfl : _ = (AV.int .i64 t67)) ?_
    obtain ⟨c214, h215, h⟩ := obind h
    refine AOps.pureR rfl rfl rfl (chr_str h215) rfl (rfl : _ = (AV.int .u8 c214)) ?_
    obtain ⟨y216, h217, h⟩ := obind h
    refine AOps.callP (g := 209) (args := [(AV.int .u8 c214)]) (p := (rB) y216) rfl rfl rfl (impl_isReturn_ok  h217 (HS.wf' hH69)) ?_
    intro _ o219 h218
    cases h218
    refine AOps.assignR rfl rfl rfl (rfl : _ = (AV.bool y216)) rfl ?_
    refine AOps.nilR ?_
    rcases oite h with ⟨hc220, h⟩ | ⟨hc220, h⟩
    · refine AW.condT (congrArg AV.bool hc220) ?_
      refine AW.seq ?_
      refine AW.region ?_
      refine AOps.pureR rfl rfl rfl rfl rfl (rfl : _ = (AV.ptr b2 2)) ?_
      refine AOps.ldB (i := 0) (v := v53) hH69 rfl rfl rfl rfl rfl rfl rfl rfl rfl ?_
      refine AOps.pureR rfl rfl rfl rfl rfl (rfl : _ = (AV.int .i64 (m51.length : Int))) ?_
      refine AOps.pureR rfl rfl rfl rfl rfl (rfl : _ = (AV.int .i64 (IntKind.wrap .i64 ((m51.length : Int) - 1)))) ?_
      obtain ⟨x221, h222, h⟩ := obind h
      obtain ⟨b223, n224, h225, h227, h226⟩ := DY.has h54 h222
      subst h227
      refine AOps.pureR rfl rfl rfl (idx_ms h226 h222) rfl (rfl : _ = (AV.ptr b223 (0 + Int.toNat (IntKind.wrap .i64 ((m51.length : Int) - 1)) * 1))) ?_
      refine AOps.ldM (i := 2) (r := rI .i64) (off := 0) hH69 rfl h225 h226 h222 rfl rfl rfl rfl rfl (lt_b rfl) (le_b rfl) rfl rfl ?_ (fun c hr hs => by cases hr; exact ⟨_, rfl⟩)
      intro c228 h229 h230 v231 h232
      cases h229
      cases h232
      refine AOps.assignR rfl rfl rfl (rfl : _ = (AV.int .i64 x221)) rfl ?_
      refine AOps.nilR ?_
      refine AW.seq ?_
      refine AW.region ?_
      refine AOps.pureR rfl rfl rfl rfl rfl (rfl : _ = (AV.ptr b2 0)) ?_
      refine AOps.ldB (i := 0) (v := v43) hH69 rfl rfl rfl rfl rfl rfl rfl rfl rfl ?_
      refine AOps.pureR rfl rfl rfl rfl rfl (rfl : _ = (AV.int .i64 x221)) ?_
      refine AOps.pureR rfl rfl rfl rfl rfl (rfl : _ = (AV.int .i64 t67)) ?_
      obtain ⟨x233, h234, h⟩ := obind h
      obtain ⟨b235, n236, h237, h239, h238⟩ := DY.has h44 h234
      subst h239
      refine AOps.pureR rfl rfl rfl (idx_ms h238 h234) rfl (rfl : _ = (AV.ptr b235 (0 + Int.toNat x221 * 1))) ?_
      refine AOps.stM (i := 1) (r := rI .i64) (v := (AV.int .i64 t67)) (y := t67) hH69 rfl h237 h238 h234 rfl rfl rfl rfl rfl rfl (Sh.I t67 _ rfl) rfl rfl (lt_b rfl) rfl rfl ?_
      intro cs240 w241 s242 h243 hH244
      change HS [] false s s242 [⟨some b2, [(AV.ms false 1 b235 0 n236), (AV.sl z46 f47 e48), (AV.ms false 1 b223 0 n224), (AV.sl z56 f57 e58), (AV.sl z62 f63 e64)], w40⟩, ⟨some b235, cs240, w241⟩, x52] at hH244
      refine AOps.nilR ?_
      refine AW.region ?_
      refine AOps.pureR rfl rfl rfl rfl rfl (rfl : _ = (AV.ptr b2 2)) ?_
      refine AOps.ldB (i := 0) (v := (AV.ms false 1 b223 0 n224)) hH244 rfl rfl rfl rfl rfl rfl rfl rfl rfl ?_
      refine AOps.pureR rfl rfl rfl rfl rfl (rfl : _ = (AV.int .i64 (m51.length : Int))) ?_
      refine AOps.pureR rfl rfl rfl rfl rfl (rfl : _ = (AV.int .i64 (IntKind.wrap .i64 ((m51.length : Int) - 1)))) ?_
      obtain ⟨l245, h246, h⟩ := obind h
      obtain ⟨h247, h248⟩ := MS.cut (b := b223) (k := .i64) h226 h246
      refine AOps.pureR rfl rfl rfl h248 rfl (rfl : _ = (AV.ms false 1 b223 0 (Int.toNat (IntKind.wrap .i64 ((m51.length : Int) - 1))))) ?_
      refine AOps.pureR rfl rfl rfl rfl rfl (rfl : _ = (AV.ptr b2 2)) ?_
      refine AOps.stB (i := 0) (v := (AV.ms false 1 b223 0 (Int.toNat (IntKind.wrap .i64 ((m51.length : Int) - 1))))) hH244 rfl rfl rfl rfl rfl rfl rfl rfl rfl (lt_b rfl) (le_b rfl) rfl ?_
      intro w249 s250 h251 h252 hH253
      change HS [] false s s250 [⟨some b2, [(AV.ms false 1 b235 0 n236), (AV.sl z46 f47 e48), (AV.ms false 1 b223 0 (Int.toNat (IntKind.wrap .i64 ((m51.length : Int) - 1)))), (AV.sl z56 f57 e58), (AV.sl z62 f63 e64)], w249⟩, ⟨some b235, cs240, w241⟩, x52] at hH253
      refine AOps.nilR ?_
      exact AW.res [(0, (AV.str p1)), (2, (AV.pend 5)), (3, (AV.ptr b2 0)), (4, (AV.int .i64 t67)), (5, (AV.int .i64 t67)), (6, (AV.int .i64 x221)), (13, (AV.int .i64 (p1.length : Int))), (14, (AV.int .i64 t67))] [(2, true)] ⟨rfl, rfl, rfl, rfl, rfl, rfl, rfl, rfl, trivial⟩ ⟨rfl, trivial⟩ (KJ98 ((m41.set (Int.toNat x221) t67), m45, l245, x221, w249, ⟨some b235, cs240, w241⟩, (AV.ms false 1 b235 0 n236), z46, f47, e48, x52, (AV.ms false 1 b223 0 (Int.toNat (IntKind.wrap .i64 ((m51.length : Int) - 1)))), s250) _ _ ⟨(DY.ms rfl h243), h49, (own_keep h50 (h251 _ (by decide))), (DY.ms h225 h247), (own_keep h60 (h251 _ (by decide))), (own_keep h66 (h251 _ (by decide))), (HS.sel hH253 [some 0, some 1, some 2] (by decide)), h⟩)
    refine AW.condF (congrArg AV.bool hc220) ?_
    refine AW.skip ?_
    exact AW.res [(0, (AV.str p1)), (2, (AV.pend 5)), (3, (AV.ptr b2 0)), (4, (AV.int .i64 t67)), (5, (AV.int .i64 t67)), (6, (AV.int .i64 (-1))), (13, (AV.int .i64 (p1.length : Int))), (14, (AV.int .i64 t67))] [(2, true)] ⟨rfl, rfl, rfl, rfl, rfl, rfl, rfl, rfl, trivial⟩ ⟨rfl, trivial⟩ (KJ98 (m41, m45, m51, (-1), w40, x42, v43, z46, f47, e48, x52, v53, s68) _ _ ⟨h44, h49, h50, h54, h60, h66, (HS.sel hH69 [some 0, some 1, some 2] (by decide)), h⟩)
  refine AW.condF (congrArg AV.bool hc70) ?_
  refine AW.exit rfl ?_
  obtain ⟨r254, hm, hx⟩ := omap h
  clear h
  subst hx
  have hx := hR1 _ rfl
  rw [hx] at hm
  have h := hm
  exact AW.res [(2, (AV.pend 5)), (3, (AV.ptr b2 0))] [(2, true)] ⟨rfl, rfl, trivial⟩ ⟨rfl, trivial⟩ (KJ39 (m41, m45, m51, m55, m61, w40, x42, v43, z46, f47, e48, x52, v53, z56, f57, e58, z62, f63, e64, s68) _ _ ⟨h44, h49, h50, h54, h59, h60, h65, h66, (HS.sel hH69 [some 0, some 1, some 2] (by decide)), h⟩)
theorem impl_isMatched_ok {w1 : List UInt8} {s : St} {r : Bool} (h : impl_isMatched w1 = some r) (hs : WF s) : ACall Cf 92 [(AV.str w1)] s fun v _ s' => (rB) r v ∧ s' = s := by
  refine ACall.pure rfl rfl rfl .B ?_
  have hWF := hs.lo'
  unfold impl_isMatched at h
  refine AW.seq ?_
  refine AW.region ?_
  refine AOps.pureR rfl rfl rfl rfl rfl (rfl : _ = (AV.bool false)) ?_
  refine AOps.nilR ?_
  refine AW.seq ?_
  refine AW.region ?_
  refine AOps.pureR rfl rfl rfl rfl rfl (rfl : _ = (AV.str w1)) ?_
  obtain ⟨y2, h3, h⟩ := obind h
  refine AOps.callP (g := 124) (args := [(AV.str w1)]) (p := (rMatching) y2) rfl rfl rfl (impl_match_ok  h3 hWF) ?_
  intro _ o36 h4
  obtain ⟨_, rfl, h5⟩ := h4
  obtain ⟨_, _, rfl, h6, h7⟩ := Cs_cons h5
  obtain ⟨z8, f9, e10, rfl, h11⟩ := h6
  obtain ⟨_, _, rfl, h12, h13⟩ := Cs_cons h7
  obtain ⟨z14, f15, e16, rfl, h17⟩ := h12
  obtain ⟨_, _, rfl, h18, h19⟩ := Cs_cons h13
  obtain ⟨z20, f21, e22, rfl, h23⟩ := h18
  obtain ⟨_, _, rfl, h24, h25⟩ := Cs_cons h19
  obtain ⟨z26, f27, e28, rfl, h29⟩ := h24
  obtain ⟨_, _, rfl, h30, h31⟩ := Cs_cons h25
  obtain ⟨z32, f33, e34, rfl, h35⟩ := h30
  cases Cs_nil h31
  refine AOps.allocP rfl rfl rfl rfl ⟨rfl, rfl⟩ rfl ?_
  refine AOps.stP (v := (AV.agg [(AV.sl z8 f9 e10), (AV.sl z14 f15 e16), (AV.sl z20 f21 e22), (AV.sl z26 f27 e28), (AV.sl z32 f33 e34)])) rfl rfl rfl rfl rfl rfl rfl rfl rfl (lt_b rfl) rfl ?_
  refine AOps.nilR ?_
  refine AW.seq ?_
  refine AW.region ?_
  refine AOps.pureR rfl rfl rfl rfl rfl (rfl : _ = (AV.eptr [(AV.sl z8 f9 e10), (AV.sl z14 f15 e16), (AV.sl z20 f21 e22), (AV.sl z26 f27 e28), (AV.sl z32 f33 e34)] 1)) ?_
  refine AOps.ldE (v := (AV.sl z14 f15 e16)) rfl rfl rfl rfl rfl rfl ?_
  refine AOps.pureR rfl rfl rfl rfl rfl (len_eq h17) ?_
  refine AOps.pureR rfl rfl rfl rfl rfl (rfl : _ = (AV.eptr [(AV.sl z8 f9 e10), (AV.sl z14 f15 e16), (AV.sl z20 f21 e22), (AV.sl z26 f27 e28), (AV.sl z32 f33 e34)] 2)) ?_
  refine AOps.ldE (v := (AV.sl z20 f21 e22)) rfl rfl rfl rfl rfl rfl ?_
  refine AOps.pureR rfl rfl rfl rfl rfl (len_eq h23) ?_
  refine AOps.pureR rfl rfl rfl rfl rfl (rfl : _ = (AV.int .i64 (IntKind.wrap .i64 ((y2.returns.length : Int) + (y2.calls.length : Int))))) ?_
  refine AOps.pureR rfl rfl rfl rfl rfl (rfl : _ = (AV.bool ((IntKind.wrap .i64 ((y2.returns.length : Int) + (y2.calls.length : Int))) == 0))) ?_
  refine AOps.assignR rfl rfl rfl (rfl : _ = (AV.bool ((IntKind.wrap .i64 ((y2.returns.length : Int) + (y2.calls.length : Int))) == 0))) rfl ?_
  refine AOps.nilR ?_
  cases h
  exact AW.ret ⟨rfl, _, _, rfl, rfl⟩
theorem impl_Checker_end_1_F1_ok {s1 : Int} {rest2 : List Int} {c710 : Int} {c1114 : List Int} {z3 : Nat} {f4 : Bool} {e5 : List AV} {b8 : Nat} {w9 : Nat → Bool} {b12 : Nat} {w13 : Nat → Bool} {z15 : Nat} {f16 : Bool} {e17 : List AV} {s : St} (h6 : LR (rI .i64) 1 rest2 z3 e5) (h18 : LR (rI .i64) 1 c1114 z15 e17) (hE : HS [b8, b12] false s { s with lo := s.n } [⟨some b8, [(AV.int .i64 c710)], w9⟩, ⟨some b12, [(AV.sl z15 f16 e17)], w13⟩]) {r : Unit × Int × (List Int)} (h : impl_Checker_end_1_F1 s1 rest2 c710 c1114 = some r) (hs : WF s) : ACall Cf 188 [(AV.int .i64 s1), (AV.sl z3 f4 e5), (AV.ptr b8 0), (AV.ptr b12 0)] s fun v _ s' => (fun (_ : Unit) => rT []) r.1 v ∧ ∃ (w0' : Nat → Bool) (w1' : Nat → Bool) (z1' : Nat) (f1' : Bool) (e1' : List AV), Fx [b8, b12] s s' [⟨some b8, [(AV.int .i64 r.2.1)], w0'⟩, ⟨some b12, [(AV.sl z1' f1' e1')], w1'⟩] ∧ LR (rI .i64) 1 r.2.2 z1' e1' := by
  refine ACall.foreign rfl rfl rfl ?_
  unfold impl_Checker_end_1_F1 at h
  refine AW.region ?_
  refine AOps.pureR rfl rfl rfl rfl rfl (rfl : _ = (AV.int .i64 s1)) ?_
  refine AOps.pureR rfl rfl rfl rfl rfl (rfl : _ = (AV.sl z3 f4 e5)) ?_
  refine AOps.stX (i := 0) (v := (AV.int .i64 s1)) hE rfl rfl rfl rfl rfl rfl rfl rfl rfl (lt_b rfl) (le_b rfl) rfl rfl ?_
  intro w19 s20 h21 h22 hH23
  change HS [b8, b12] false s s20 [⟨some b8, [(AV.int .i64 s1)], w19⟩, ⟨some b12, [(AV.sl z15 f16 e17)], w13⟩] at hH23
  refine AOps.stX (i := 1) (v := (AV.sl z3 f4 e5)) hH23 rfl rfl rfl rfl rfl rfl rfl rfl rfl (lt_b rfl) (le_b rfl) rfl (Nice.pure (k := FINK) (p := (rL (rI .i64) 1) rest2) (.L fun _ => .I) 0 _ ⟨_, _, _, rfl, h6⟩) ?_
  intro w24 s25 h26 h27 hH28
  change HS [b8, b12] false s s25 [⟨some b8, [(AV.int .i64 s1)], w19⟩, ⟨some b12, [(AV.sl z3 f4 e5)], w24⟩] at hH28
  refine AOps.nilR ?_
  cases h
  exact AW.nil ⟨_, _, rfl, finF (p := (fun (_ : Unit) => rT []) ()) (Fin.T .nil) ⟨w19, w24, z3, f4, e5, HS.leaveP hH28 [0, 1] rfl, h6⟩⟩
theorem impl_kindOf_ok {c1 : Int} {s : St} {r : Int} (h : impl_kindOf c1 = some r) (hs : WF s) : ACall Cf 241 [(AV.int .u8 c1)] s fun v _ s' => (rI .i64) r v ∧ s' = s := by
  refine ACall.pure rfl rfl rfl .I ?_
  have hWF := hs.lo'
  unfold impl_kindOf at h
  refine AW.seq ?_
  refine AW.region ?_
  refine AOps.pureR rfl rfl rfl rfl rfl (rfl : _ = (AV.int .i64 0)) ?_
  refine AOps.nilR ?_
  refine AW.seq ?_
  refine AW.region ?_
  refine AOps.pureR rfl rfl rfl rfl rfl (rfl : _ = (AV.int .u8 c1)) ?_
  obtain ⟨y2, h3, h⟩ := obind h
  refine AOps.callP (g := 186) (args := [(AV.str ([40, 91, 41, 93, 97, 98] : List UInt8)), (AV.int .u8 c1)]) (p := (rI .i64) y2) rfl rfl rfl (strings_IndexByte_ok  h3 hWF) ?_
  intro _ o5 h4
  cases h4
  obtain ⟨q6, h7, h⟩ := obind h
  refine AOps.pureR rfl rfl rfl (rem_ok h7) rfl (rfl : _ = (AV.int .i64 q6)) ?_
  refine AOps.assignR rfl rfl rfl (rfl : _ = (AV.int .i64 q6)) rfl ?_
  refine AOps.nilR ?_
  cases h
  exact AW.ret ⟨rfl, _, _, rfl, rfl⟩
theorem impl_isInner_ok {c1 : Int} {s : St} {r : Bool} (h : impl_isInner c1 = some r) (hs : WF s) : ACall Cf 290 [(AV.int .u8 c1)] s fun v _ s' => (rB) r v ∧ s' = s := by
  refine ACall.pure rfl rfl rfl .B ?_
  have hWF := hs.lo'
  unfold impl_isInner at h
  refine AW.seq ?_
  refine AW.region ?_
  refine AOps.pureR rfl rfl rfl rfl rfl (rfl : _ = (AV.bool false)) ?_
  refine AOps.nilR ?_
  refine AW.seq ?_
  refine AW.region ?_
  refine AOps.pureR rfl rfl rfl rfl rfl (rfl : _ = (AV.int .u8 c1)) ?_
  refine AOps.pureR rfl rfl rfl rfl rfl (rfl : _ = (AV.bool (c1 == 97))) ?_
  refine AOps.pureR rfl rfl rfl rfl rfl (rfl : _ = (AV.bool (c1 == 97))) ?_
  refine AOps.split 3 (fun f' => ∃ tm' os', f' = ⟨updL tm' [(8, (AV.bool ((c1 == 97) || (c1 == 98))))], updL os' [], { s with lo := s.n }⟩) ?_ ?_
  · rcases Bool.eq_false_or_eq_true (c1 == 97) with hc2 | hc2
    · refine AOps.know (d := 5) rfl hc2 ?_
      refine AOps.skipR rfl rfl ?_
      refine AOps.skipR rfl rfl ?_
      refine AOps.pureR rfl rfl rfl rfl rfl (rfl : _ = (AV.bool true)) ?_
      refine AOps.resR [(8, (AV.bool ((c1 == 97) || (c1 == 98))))] [] ?_ ?_ _ ⟨_, _, rfl⟩
      · exact ⟨congrArg AV.bool (or_t hc2), trivial⟩
      exact trivial
    · refine AOps.know (d := 5) rfl hc2 ?_
      refine AOps.pureR rfl rfl rfl rfl rfl (rfl : _ = (AV.int .u8 c1)) ?_
      refine AOps.pureR rfl rfl rfl rfl rfl (rfl : _ = (AV.bool (c1 == 98))) ?_
      refine AOps.pureR rfl rfl rfl rfl rfl (rfl : _ = (AV.bool (c1 == 98))) ?_
      refine AOps.resR [(8, (AV.bool ((c1 == 97) || (c1 == 98))))] [] ?_ ?_ _ ⟨_, _, rfl⟩
      · exact ⟨congrArg AV.bool (or_f hc2), trivial⟩
      exact trivial
  rintro _ ⟨tm, os, rfl⟩
  refine AOps.assignR rfl rfl rfl (rfl : _ = (AV.bool ((c1 == 97) || (c1 == 98)))) rfl ?_
  refine AOps.nilR ?_
  cases h
  exact AW.ret ⟨rfl, _, _, rfl, rfl⟩
theorem impl_Checker_step_ok {p1 : Checker} {p1_18 : Int} {p2_19 : List Int} {p3_24 : Int} {z2 : Nat} {f3 : Bool} {e4 : List AV} {z6 : Nat} {f7 : Bool} {e8 : List AV} {z10 : Nat} {f11 : Bool} {e12 : List AV} {z14 : Nat} {f15 : Bool} {e16 : List AV} {z20 : Nat} {f21 : Bool} {e22 : List AV} {s : St} (h5 : LR rB 1 p1.Accept z2 e4) (h9 : LR (rL rPush 2) 1 p1.Call z6 e8) (h13 : LR (rL (rL (rI .i64) 1) 1) 1 p1.Return z10 e12) (h17 : LR (rL (rI .i64) 1) 1 p1.Inner z14 e16) (h23 : LR (rI .i64) 1 p2_19 z20 e22) {r : Int × (List Int)} (h : impl_Checker_step p1 p1_18 p2_19 p3_24 = some r) (hs : WF s) : ACall Cf 260 [(AV.agg [(AV.int .i64 p1.Stack), (AV.int .i64 p1.Start), (AV.sl z2 f3 e4), (AV.sl z6 f7 e8), (AV.sl z10 f11 e12), (AV.sl z14 f15 e16)]), (AV.int .i64 p1_18), (AV.sl z20 f21 e22), (AV.int .u8 p3_24)] s fun v _ s' => (fun x => rT [(rI .i64) x.1, (rL (rI .i64) 1) x.2]) r v ∧ s' = s := by
  refine ACall.pure rfl rfl rfl (.T (.cons .I (.cons (.L fun _ => .I) .nil))) ?_
  have hWF := hs.lo'
  unfold impl_Checker_step at h
  refine AW.seq ?_
  refine AW.region ?_
  refine AOps.makeR rfl rfl rfl rfl rfl rfl (rfl : _ = (AV.eptr [(AV.int .i64 p1.Stack), (AV.int .i64 p1.Start), (AV.sl z2 f3 e4), (AV.sl z6 f7 e8), (AV.sl z10 f11 e12), (AV.sl z14 f15 e16)] 0)) ?_
  refine AOps.pureR rfl rfl rfl rfl rfl (rfl : _ = (AV.int .i64 0)) ?_
  refine AOps.pureR rfl rfl rfl rfl rfl (rfl : _ = (AV.sl 0 true [])) ?_
  refine AOps.nilR ?_
  refine AW.seq ?_
  refine AW.region ?_
  refine AOps.pureR rfl rfl rfl rfl rfl (rfl : _ = (AV.int .u8 p3_24)) ?_
  obtain ⟨y25, h26, h⟩ := obind h
  refine AOps.callP (g := 241) (args := [(AV.int .u8 p3_24)]) (p := (rI .i64) y25) rfl rfl rfl (impl_kindOf_ok  h26 hWF) ?_
  intro _ o28 h27
  cases h27
  refine AOps.assignR rfl rfl rfl (rfl : _ = (AV.int .i64 y25)) rfl ?_
  refine AOps.nilR ?_
  refine AW.seq ?_
  refine AW.block ?_
  refine AW.seq ?_
  refine AW.region ?_
  refine AOps.pureR rfl rfl rfl rfl rfl (rfl : _ = (AV.int .u8 p3_24)) ?_
  obtain ⟨y29, h30, h⟩ := obind h
  refine AOps.callP (g := 207) (args := [(AV.int .u8 p3_24)]) (p := (rB) y29) rfl rfl rfl (impl_isCall_ok  h30 hWF) ?_
  intro _ o32 h31
  cases h31
  refine AOps.assignR rfl rfl rfl (rfl : _ = (AV.bool y29)) rfl ?_
  refine AOps.nilR ?_
  rcases oite h with ⟨hc33, h⟩ | ⟨hc33, h⟩
  · refine AW.condT (congrArg AV.bool hc33) ?_
    refine AW.seq ?_
    refine AW.region ?_
    refine AOps.pureR rfl rfl rfl rfl rfl (rfl : _ = (AV.eptr [(AV.int .i64 p1.Stack), (AV.int .i64 p1.Start), (AV.sl z2 f3 e4), (AV.sl z6 f7 e8), (AV.sl z10 f11 e12), (AV.sl z14 f15 e16)] 3)) ?_
    refine AOps.ldE (v := (AV.sl z6 f7 e8)) rfl rfl rfl rfl rfl rfl ?_
    refine AOps.pureR rfl rfl rfl rfl rfl (rfl : _ = (AV.int .i64 p1_18)) ?_
    obtain ⟨x34, h35, h⟩ := obind h
    obtain ⟨v38, h36, h37⟩ := idx_sl h9 h35
    obtain ⟨z39, f40, e41, rfl, h42⟩ := h36
    refine AOps.pureR rfl rfl rfl h37 rfl (rfl : _ = (AV.eptr [(AV.sl z39 f40 e41)] 0)) ?_
    refine AOps.ldE (v := (AV.sl z39 f40 e41)) rfl rfl rfl rfl rfl rfl ?_
    refine AOps.pureR rfl rfl rfl rfl rfl (rfl : _ = (AV.int .i64 y25)) ?_
    obtain ⟨x43, h44, h⟩ := obind h
    obtain ⟨v47, h45, h46⟩ := idx_sl h42 h44
    obtain ⟨_, rfl, h48⟩ := h45
    obtain ⟨_, _, rfl, h49, h50⟩ := Cs_cons h48
    cases h49
    obtain ⟨_, _, rfl, h51, h52⟩ := Cs_cons h50
    cases h51
    cases Cs_nil h52
    refine AOps.pureR rfl rfl rfl h46 rfl (rfl : _ = (AV.eptr [(AV.int .i64 x43.To), (AV.int .i64 x43.Put)] 0)) ?_
    refine AOps.ldE (v := (AV.agg [(AV.int .i64 x43.To), (AV.int .i64 x43.Put)])) rfl rfl rfl rfl rfl rfl ?_
    refine AOps.allocP rfl rfl rfl rfl ⟨rfl, rfl⟩ rfl ?_
    refine AOps.stP (v := (AV.agg [(AV.int .i64 x43.To), (AV.int .i64 x43.Put)])) rfl rfl rfl rfl rfl rfl rfl rfl rfl (lt_b rfl) rfl ?_
    refine AOps.nilR ?_
    refine AW.seq ?_
    refine AW.region ?_
    refine AOps.pureR rfl rfl rfl rfl rfl (rfl : _ = (AV.eptr [(AV.int .i64 x43.To), (AV.int .i64 x43.Put)] 0)) ?_
    refine AOps.ldE (v := (AV.int .i64 x43.To)) rfl rfl rfl rfl rfl rfl ?_
    refine AOps.pureR rfl rfl rfl rfl rfl (rfl : _ = (AV.sl z20 f21 e22)) ?_
    obtain ⟨y53, h54, h⟩ := obind h
    refine AOps.callDPO (g := 205) (args := [(AV.sl z20 f21 e22)]) (p := (rL (rI .i64) 1) y53) rfl rfl rfl (ext_clone205_ok h23 h54 hWF.still) (fun v hv => Nice.pure (k := FINK) (p := (rL (rI .i64) 1) y53) (.L fun _ => .I) _ v hv) ?_
    intro _ h55
    obtain ⟨z56, f57, e58, rfl, h59⟩ := h55
    refine AOps.pureR rfl rfl rfl rfl rfl (rfl : _ = (AV.eptr [(AV.int .i64 x43.To), (AV.int .i64 x43.Put)] 1)) ?_
    refine AOps.ldE (v := (AV.int .i64 x43.Put)) rfl rfl rfl rfl rfl rfl ?_
    refine AOps.makeR rfl rfl rfl rfl rfl rfl (rfl : _ = (AV.sl 1 true [(AV.int .i64 x43.Put)])) ?_
    obtain ⟨l61, h62, h⟩ := obind h
    obtain ⟨h63, h64⟩ := app_LR h59 (LR.lit (r := rI .i64) (sz := 1) (.cons rfl .nil)) h62
    refine AOps.appL (z := z56) (f := f57) (e := e58) (z' := 1) (f' := true) (e' := [(AV.int .i64 x43.Put)]) rfl rfl rfl rfl rfl rfl rfl (appSrc_sl (LR.z (LR.lit (r := rI .i64) (sz := 1) (.cons rfl .nil))) rfl) (LR.z h59) ⟨by decide, by decide, rfl, rfl⟩ rfl rfl h64 (Or.inr ⟨30, rfl, rfl⟩) ?_
    refine AOps.assignR rfl rfl rfl (rfl : _ = (AV.int .i64 x43.To)) rfl ?_
    refine AOps.assignR rfl rfl rfl (rfl : _ = (AV.sl 1 false (e58 ++ [(AV.int .i64 x43.Put)]))) rfl ?_
    refine AOps.nilR ?_
    cases h
    exact AW.ret ⟨rfl, _, _, rfl, ⟨_, rfl, (.cons rfl (.cons ⟨_, _, _, rfl, h63⟩ .nil))⟩⟩
  refine AW.condF (congrArg AV.bool hc33) ?_
  refine AW.seq ?_
  refine AW.region ?_
  refine AOps.pureR rfl rfl rfl rfl rfl (rfl : _ = (AV.int .u8 p3_24)) ?_
  obtain ⟨y65, h66, h⟩ := obind h
  refine AOps.callP (g := 290) (args := [(AV.int .u8 p3_24)]) (p := (rB) y65) rfl rfl rfl (impl_isInner_ok  h66 hWF) ?_
  intro _ o68 h67
  cases h67
  refine AOps.assignR rfl rfl rfl (rfl : _ = (AV.bool y65)) rfl ?_
  refine AOps.nilR ?_
  rcases oite h with ⟨hc69, h⟩ | ⟨hc69, h⟩
  · refine AW.condT (congrArg AV.bool hc69) ?_
    refine AW.seq ?_
    refine AW.region ?_
    refine AOps.pureR rfl rfl rfl rfl rfl (rfl : _ = (AV.eptr [(AV.int .i64 p1.Stack), (AV.int .i64 p1.Start), (AV.sl z2 f3 e4), (AV.sl z6 f7 e8), (AV.sl z10 f11 e12), (AV.sl z14 f15 e16)] 5)) ?_
    refine AOps.ldE (v := (AV.sl z14 f15 e16)) rfl rfl rfl rfl rfl rfl ?_
    refine AOps.pureR rfl rfl rfl rfl rfl (rfl : _ = (AV.int .i64 p1_18)) ?_
    obtain ⟨x70, h71, h⟩ := obind h
    obtain ⟨v74, h72, h73⟩ := idx_sl h17 h71
    obtain ⟨z75, f76, e77, rfl, h78⟩ := h72
    refine AOps.pureR rfl rfl rfl h73 rfl (rfl : _ = (AV.eptr [(AV.sl z75 f76 e77)] 0)) ?_
    refine AOps.ldE (v := (AV.sl z75 f76 e77)) rfl rfl rfl rfl rfl rfl ?_
    refine AOps.pureR rfl rfl rfl rfl rfl (rfl : _ = (AV.int .i64 y25)) ?_
    obtain ⟨x79, h80, h⟩ := obind h
    obtain ⟨v83, h81, h82⟩ := idx_sl h78 h80
    cases h81
    refine AOps.pureR rfl rfl rfl h82 rfl (rfl : _ = (AV.eptr [(AV.int .i64 x79)] 0)) ?_
    refine AOps.ldE (v := (AV.int .i64 x79)) rfl rfl rfl rfl rfl rfl ?_
    refine AOps.pureR rfl rfl rfl rfl rfl (rfl : _ = (AV.sl z20 f21 e22)) ?_
    refine AOps.assignR rfl rfl rfl (rfl : _ = (AV.int .i64 x79)) rfl ?_
    refine AOps.assignR rfl rfl rfl (rfl : _ = (AV.sl z20 f21 e22)) rfl ?_
    refine AOps.nilR ?_
    cases h
    exact AW.ret ⟨rfl, _, _, rfl, ⟨_, rfl, (.cons rfl (.cons ⟨_, _, _, rfl, h23⟩ .nil))⟩⟩
  refine AW.condF (congrArg AV.bool hc69) ?_
  refine AW.skip ?_
  refine AW.inBlock ?_
  refine AW.seq ?_
  refine AW.region ?_
  refine AOps.pureR rfl rfl rfl rfl rfl (rfl : _ = (AV.eptr [(AV.int .i64 p1.Stack), (AV.int .i64 p1.Start), (AV.sl z2 f3 e4), (AV.sl z6 f7 e8), (AV.sl z10 f11 e12), (AV.sl z14 f15 e16)] 0)) ?_
  refine AOps.ldE (v := (AV.int .i64 p1.Stack)) rfl rfl rfl rfl rfl rfl ?_
  refine AOps.assignR rfl rfl rfl (rfl : _ = (AV.int .i64 p1.Stack)) rfl ?_
  refine AOps.nilR ?_
  refine AW.seq ?_
  refine AW.seq ?_
  refine AW.region ?_
  refine AOps.pureR rfl rfl rfl rfl rfl (rfl : _ = (AV.sl z20 f21 e22)) ?_
  refine AOps.pureR rfl rfl rfl rfl rfl (len_eq h23) ?_
  refine AOps.assignR rfl rfl rfl (rfl : _ = (AV.int .i64 (p2_19.length : Int))) rfl ?_
  refine AOps.nilR ?_
  refine AW.seq ?_
  refine AW.region ?_
  refine AOps.pureR rfl rfl rfl rfl rfl (rfl : _ = (AV.int .i64 (p2_19.length : Int))) ?_
  refine AOps.pureR rfl rfl rfl rfl rfl (rfl : _ = (AV.bool (decide (((p2_19.length : Int) : Int) > 0)))) ?_
  refine AOps.nilR ?_
  refine AW.meet (σ := (List Int) × Int × Nat × Bool × (List AV)) (fun (t84, t89, z85, f86, e87) tm os => ⟨updL tm [(1, (AV.int .i64 p1_18)), (2, (AV.sl z85 f86 e87)), (4, (AV.eptr [(AV.int .i64 p1.Stack), (AV.int .i64 p1.Start), (AV.sl z2 f3 e4), (AV.sl z6 f7 e8), (AV.sl z10 f11 e12), (AV.sl z14 f15 e16)] 0)), (10, (AV.int .i64 y25)), (12, (AV.int .i64 t89))], updL os [], { s with lo := s.n }⟩) (fun (t84, t89, z85, f86, e87) => (LR (rI .i64) 1 t84 z85 e87) ∧ impl_Checker_step_J1 p1 p1_18 y25 t84 t89 = some r) ?_ ?_
  · rintro ⟨t84, t89, z85, f86, e87⟩ tm os ⟨h88, h⟩
    unfold impl_Checker_step_J1 at h
    refine AW.seq ?_
    refine AW.region ?_
    refine AOps.pureR rfl rfl rfl rfl rfl (rfl : _ = (AV.eptr [(AV.int .i64 p1.Stack), (AV.int .i64 p1.Start), (AV.sl z2 f3 e4), (AV.sl z6 f7 e8), (AV.sl z10 f11 e12), (AV.sl z14 f15 e16)] 4)) ?_
    refine AOps.ldE (v := (AV.sl z10 f11 e12)) rfl rfl rfl rfl rfl rfl ?_
    refine AOps.pureR rfl rfl rfl rfl rfl (rfl : _ = (AV.int .i64 p1_18)) ?_
    obtain ⟨x91, h92, h⟩ := obind h
    obtain ⟨v95, h93, h94⟩ := idx_sl h13 h92
    obtain ⟨z96, f97, e98, rfl, h99⟩ := h93
    refine AOps.pureR rfl rfl rfl h94 rfl (rfl : _ = (AV.eptr [(AV.sl z96 f97 e98)] 0)) ?_
    refine AOps.ldE (v := (AV.sl z96 f97 e98)) rfl rfl rfl rfl rfl rfl ?_
    refine AOps.pureR rfl rfl rfl rfl rfl (rfl : _ = (AV.int .i64 y25)) ?_
    obtain ⟨x100, h101, h⟩ := obind h
    obtain ⟨v104, h102, h103⟩ := idx_sl h99 h101
    obtain ⟨z105, f106, e107, rfl, h108⟩ := h102
    refine AOps.pureR rfl rfl rfl h103 rfl (rfl : _ = (AV.eptr [(AV.sl z105 f106 e107)] 0)) ?_
    refine AOps.ldE (v := (AV.sl z105 f106 e107)) rfl rfl rfl rfl rfl rfl ?_
    refine AOps.pureR rfl rfl rfl rfl rfl (rfl : _ = (AV.int .i64 t89)) ?_
    obtain ⟨x109, h110, h⟩ := obind h
    obtain ⟨v113, h111, h112⟩ := idx_sl h108 h110
    cases h111
    refine AOps.pureR rfl rfl rfl h112 rfl (rfl : _ = (AV.eptr [(AV.int .i64 x109)] 0)) ?_
    refine AOps.ldE (v := (AV.int .i64 x109)) rfl rfl rfl rfl rfl rfl ?_
    refine AOps.pureR rfl rfl rfl rfl rfl (rfl : _ = (AV.sl z85 f86 e87)) ?_
    refine AOps.assignR rfl rfl rfl (rfl : _ = (AV.int .i64 x109)) rfl ?_
    refine AOps.assignR rfl rfl rfl (rfl : _ = (AV.sl z85 f86 e87)) rfl ?_
    refine AOps.nilR ?_
    cases h
    exact AW.ret ⟨rfl, _, _, rfl, ⟨_, rfl, (.cons rfl (.cons ⟨_, _, _, rfl, h88⟩ .nil))⟩⟩
  intro KJ90
  rcases oite h with ⟨hc114, h⟩ | ⟨hc114, h⟩
  · refine AW.condT (congrArg AV.bool hc114) ?_
    refine AW.region ?_
    refine AOps.pureR rfl rfl rfl rfl rfl (rfl : _ = (AV.sl z20 f21 e22)) ?_
    refine AOps.pureR rfl rfl rfl rfl rfl (rfl : _ = (AV.int .i64 (p2_19.length : Int))) ?_
    refine AOps.pureR rfl rfl rfl rfl rfl (rfl : _ = (AV.int .i64 (IntKind.wrap .i64 ((p2_19.length : Int) - 1)))) ?_
    obtain ⟨x115, h116, h⟩ := obind h
    obtain ⟨v119, h117, h118⟩ := idx_sl h23 h116
    cases h117
    refine AOps.pureR rfl rfl rfl h118 rfl (rfl : _ = (AV.eptr [(AV.int .i64 x115)] 0)) ?_
    refine AOps.ldE (v := (AV.int .i64 x115)) rfl rfl rfl rfl rfl rfl ?_
    refine AOps.pureR rfl rfl rfl rfl rfl (rfl : _ = (AV.sl z20 f21 e22)) ?_
    refine AOps.pureR rfl rfl rfl rfl rfl (rfl : _ = (AV.int .i64 (p2_19.length : Int))) ?_
    refine AOps.pureR rfl rfl rfl rfl rfl (rfl : _ = (AV.int .i64 (IntKind.wrap .i64 ((p2_19.length : Int) - 1)))) ?_
    obtain ⟨l120, h121, h⟩ := obind h
    obtain ⟨f122, e123, h124, h125⟩ := cut_slH f21 h23 h121
    refine AOps.pureR rfl rfl rfl h125 rfl (rfl : _ = (AV.sl z20 f122 e123)) ?_
    refine AOps.assignR rfl rfl rfl (rfl : _ = (AV.int .i64 x115)) rfl ?_
    refine AOps.assignR rfl rfl rfl (rfl : _ = (AV.sl z20 f122 e123)) rfl ?_
    refine AOps.nilR ?_
    exact AW.res [(1, (AV.int .i64 p1_18)), (2, (AV.sl z20 f122 e123)), (4, (AV.eptr [(AV.int .i64 p1.Stack), (AV.int .i64 p1.Start), (AV.sl z2 f3 e4), (AV.sl z6 f7 e8), (AV.sl z10 f11 e12), (AV.sl z14 f15 e16)] 0)), (10, (AV.int .i64 y25)), (12, (AV.int .i64 x115))] [] ⟨rfl, rfl, rfl, rfl, rfl, trivial⟩ trivial (KJ90 (l120, x115, z20, f122, e123) _ _ ⟨h124, h⟩)
  refine AW.condF (congrArg AV.bool hc114) ?_
  refine AW.skip ?_
  exact AW.res [(1, (AV.int .i64 p1_18)), (2, (AV.sl z20 f21 e22)), (4, (AV.eptr [(AV.int .i64 p1.Stack), (AV.int .i64 p1.Start), (AV.sl z2 f3 e4), (AV.sl z6 f7 e8), (AV.sl z10 f11 e12), (AV.sl z14 f15 e16)] 0)), (10, (AV.int .i64 y25)), (12, (AV.int .i64 p1.Stack))] [] ⟨rfl, rfl, rfl, rfl, rfl, trivial⟩ trivial (KJ90 (p2_19, p1.Stack, z20, f21, e22) _ _ ⟨h23, h⟩)
theorem impl_Checker_run_F1_ok {c1 : Checker} {state18 : Int} {stack19 : List Int} {w24 : List UInt8} {c2629 : Int} {c3033 : List Int} {z2 : Nat} {f3 : Bool} {e4 : List AV} {z6 : Nat} {f7 : Bool} {e8 : List AV} {z10 : Nat} {f11 : Bool} {e12 : List AV} {z14 : Nat} {f15 : Bool} {e16 : List AV} {z20 : Nat} {f21 : Bool} {e22 : List AV} {b27 : Nat} {w28 : Nat → Bool} {b31 : Nat} {w32 : Nat → Bool} {z34 : Nat} {f35 : Bool} {e36 : List AV} {s : St} (h5 : LR rB 1 c1.Accept z2 e4) (h9 : LR (rL rPush 2) 1 c1.Call z6 e8) (h13 : LR (rL (rL (rI .i64) 1) 1) 1 c1.Return z10 e12) (h17 : LR (rL (rI .i64) 1) 1 c1.Inner z14 e16) (h23 : LR (rI .i64) 1 stack19 z20 e22) (h37 : LR (rI .i64) 1 c3033 z34 e36) (hE : HS [b27, b31] false s { s with lo := s.n } [⟨some b27, [(AV.int .i64 c2629)], w28⟩, ⟨some b31, [(AV.sl z34 f35 e36)], w32⟩]) {r : Unit × Int × (List Int)} (h : impl_Checker_run_F1 c1 state18 stack19 w24 c2629 c3033 = some r) (hs : WF s) : ACall Cf 187 [(AV.agg [(AV.int .i64 c1.Stack), (AV.int .i64 c1.Start), (AV.sl z2 f3 e4), (AV.sl z6 f7 e8), (AV.sl z10 f11 e12), (AV.sl z14 f15 e16)]), (AV.int .i64 state18), (AV.sl z20 f21 e22), (AV.str w24), (AV.fn 188 [(AV.ptr b27 0), (AV.ptr b31 0)])] s fun v _ s' => (fun (_ : Unit) => rT []) r.1 v ∧ ∃ (w0' : Nat → Bool) (w1' : Nat → Bool) (z1' : Nat) (f1' : Bool) (e1' : List AV), Fx [b27, b31] s s' [⟨some b27, [(AV.int .i64 r.2.1)], w0'⟩, ⟨some b31, [(AV.sl z1' f1' e1')], w1'⟩] ∧ LR (rI .i64) 1 r.2.2 z1' e1' := by
  refine ACall.foreign rfl rfl rfl ?_
  unfold impl_Checker_run_F1 at h
  refine AW.seq ?_
  refine AW.region ?_
  refine AOps.makeR rfl rfl rfl rfl rfl rfl (rfl : _ = (AV.eptr [(AV.int .i64 c1.Stack), (AV.int .i64 c1.Start), (AV.sl z2 f3 e4), (AV.sl z6 f7 e8), (AV.sl z10 f11 e12), (AV.sl z14 f15 e16)] 0)) ?_
  refine AOps.nilR ?_
  refine AW.seq ?_
  refine AW.region ?_
  refine AOps.pureR rfl rfl rfl rfl rfl (rfl : _ = (AV.fn 188 [(AV.ptr b27 0), (AV.ptr b31 0)])) ?_
  refine AOps.pureR rfl rfl rfl rfl rfl (rfl : _ = (AV.int .i64 state18)) ?_
  refine AOps.pureR rfl rfl rfl rfl rfl (rfl : _ = (AV.sl z20 f21 e22)) ?_
  obtain ⟨y38, h39, h⟩ := obind h
  refine AOps.callF (g := 188) (args := [(AV.int .i64 state18), (AV.sl z20 f21 e22), (AV.ptr b27 0), (AV.ptr b31 0)]) rfl rfl rfl (impl_Checker_end_1_F1_ok h23 h37 (HS.enterP hE [0, 1] [b27, b31] rfl (by decide)) h39 (HS.wf' hE)) ?_
  intro _ o45 s42 h44
  obtain ⟨h40, w46, w47, z48, f49, e50, h41, h51⟩ := h44
  have hH43 := HS.callP hE [0, 1] h41 rfl rfl
  change HS [b27, b31] false s s42 [⟨some b27, [(AV.int .i64 y38.2.1)], w46⟩, ⟨some b31, [(AV.sl z48 f49 e50)], w47⟩] at hH43
  cases h40
  refine AOps.nilR ?_
  refine AW.seq ?_
  refine AW.region ?_
  refine AOps.pureR rfl rfl rfl rfl rfl (rfl : _ = (AV.str w24)) ?_
  refine AOps.pureR rfl rfl rfl rfl rfl (rfl : _ = (AV.int .i64 (w24.length : Int))) ?_
  refine AOps.pureR rfl rfl rfl rfl rfl (rfl : _ = (AV.int .i64 0)) ?_
  refine AOps.nilR ?_
  refine AW.meet (σ := Int × (List Int) × (Nat → Bool) × (Nat → Bool) × Nat × Bool × (List AV) × St) (fun (m53, m55, w52, w54, z56, f57, e58, s60) tm os => ⟨updL tm [], updL os [], s60⟩) (fun (m53, m55, w52, w54, z56, f57, e58, s60) => (LR (rI .i64) 1 m55 z56 e58) ∧ (HS [b27, b31] false s s60 [⟨some b27, [(AV.int .i64 m53)], w52⟩, ⟨some b31, [(AV.sl z56 f57 e58)], w54⟩]) ∧ impl_Checker_run_F1_J1 m53 m55 = some r) ?_ ?_
  · rintro ⟨m53, m55, w52, w54, z56, f57, e58, s60⟩ tm os ⟨h59, hH61, h⟩
    unfold impl_Checker_run_F1_J1 at h
    cases h
    exact AW.nil ⟨_, _, rfl, finF (p := (fun (_ : Unit) => rT []) ()) (Fin.T .nil) ⟨w52, w54, z56, f57, e58, HS.leaveP hH61 [0, 1] rfl, h59⟩⟩
  intro KJ62
  refine AW.block ?_
  refine AW.res [(1, (AV.int .i64 state18)), (2, (AV.sl z20 f21 e22)), (3, (AV.str w24)), (4, (AV.fn 188 [(AV.ptr b27 0), (AV.ptr b31 0)])), (5, (AV.eptr [(AV.int .i64 c1.Stack), (AV.int .i64 c1.Start), (AV.sl z2 f3 e4), (AV.sl z6 f7 e8), (AV.sl z10 f11 e12), (AV.sl z14 f15 e16)] 0)), (16, (AV.int .i64 (w24.length : Int))), (17, (AV.int .i64 0))] [] ⟨rfl, rfl, rfl, rfl, rfl, rfl, rfl, trivial⟩ trivial ?_
  refine AW.loopF (σ := Int × (List Int) × Int × (List Int) × Int) (τ := Nat × Bool × (List AV) × (Nat → Bool) × (Nat → Bool) × Nat × Bool × (List AV) × St) (fun (state63, stack64, m70, m72, t77) (z65, f66, e67, w69, w71, z73, f74, e75, s78) => (LR (rI .i64) 1 stack64 z65 e67) ∧ (LR (rI .i64) 1 m72 z73 e75) ∧ (HS [b27, b31] false s s78 [⟨some b27, [(AV.int .i64 m70)], w69⟩, ⟨some b31, [(AV.sl z73 f74 e75)], w71⟩])) (fun (state63, stack64, m70, m72, t77) (z65, f66, e67, w69, w71, z73, f74, e75, s78) tm os => ⟨updL tm [(1, (AV.int .i64 state63)), (2, (AV.sl z65 f66 e67)), (3, (AV.str w24)), (4, (AV.fn 188 [(AV.ptr b27 0), (AV.ptr b31 0)])), (5, (AV.eptr [(AV.int .i64 c1.Stack), (AV.int .i64 c1.Start), (AV.sl z2 f3 e4), (AV.sl z6 f7 e8), (AV.sl z10 f11 e12), (AV.sl z14 f15 e16)] 0)), (16, (AV.int .i64 (w24.length : Int))), (17, (AV.int .i64 t77))], updL os [], s78⟩) ?_ (x := (state18, stack19, y38.2.1, y38.2.2, 0)) (y := (z20, f21, e22, w46, w47, z48, f49, e50, s42)) h ⟨h23, h51, (HS.sel hH43 [some 0, some 1] (by decide))⟩
  clear h
  rintro ⟨state63, stack64, m70, m72, t77⟩ ⟨z65, f66, e67, w69, w71, z73, f74, e75, s78⟩ tm os ⟨h68, h76, hH79⟩ e1 h hL1 hR1
  unfold impl_Checker_run_F1_S1 at h
  dsimp only at h
  refine AW.seq ?_
  refine AW.region ?_
  refine AOps.pureR rfl rfl rfl rfl rfl (rfl : _ = (AV.bool (decide ((t77 : Int) < (w24.length : Int))))) ?_
  refine AOps.nilR ?_
  refine AW.seq ?_
  rcases oite h with ⟨hc80, h⟩ | ⟨hc80, h⟩
  · refine AW.condT (congrArg AV.bool hc80) ?_
    refine AW.skip ?_
    refine AW.seq ?_
    refine AW.block ?_
    refine AW.seq ?_
    refine AW.region ?_
    refine AOps.pureR rfl rfl rfl rfl rfl (rfl : _ = (AV.int .i64 t77)) ?_
    refine AOps.assignR rfl rfl rfl (rfl : _ = (AV.int .i64 t77)) rfl ?_
    refine AOps.nilR ?_
    refine AW.seq ?_
    refine AW.region ?_
    refine AOps.ldE (v := (AV.agg [(AV.int .i64 c1.Stack), (AV.int .i64 c1.Start), (AV.sl z2 f3 e4), (AV.sl z6 f7 e8), (AV.sl z10 f11 e12), (AV.sl z14 f15 e16)])) rfl rfl rfl rfl rfl rfl ?_
    refine AOps.pureR rfl rfl rfl rfl rfl (rfl : _ = (AV.int .i64 state63)) ?_
    refine AOps.pureR rfl rfl rfl rfl rfl (rfl : _ = (AV.sl z65 f66 e67)) ?_
    refine AOps.pureR rfl rfl rfl rfl rfl (rfl : _ = (AV.str w24)) ?_
    refine AOps.pureR rfl rfl rfl rfl rfl (rfl : _ = (AV.int .i64 t77)) ?_
    obtain ⟨c81, h82, h⟩ := obind h
    refine AOps.pureR rfl rfl rfl (chr_str h82) rfl (rfl : _ = (AV.int .u8 c81)) ?_
    obtain ⟨y83, h84, h⟩ := obind h
    refine AOps.callDP (g := 260) (args := [(AV.agg [(AV.int .i64 c1.Stack), (AV.int .i64 c1.Start), (AV.sl z2 f3 e4), (AV.sl z6 f7 e8), (AV.sl z10 f11 e12), (AV.sl z14 f15 e16)]), (AV.int .i64 state63), (AV.sl z65 f66 e67), (AV.int .u8 c81)]) (p := (fun x => rT [(rI .i64) x.1, (rL (rI .i64) 1) x.2]) y83) rfl rfl rfl (impl_Checker_step_ok h5 h9 h13 h17 h68 h84 ((HS.wf' hH79).still)) (fun v hv => Nice.pure (k := FINK) (p := (fun x => rT [(rI .i64) x.1, (rL (rI .i64) 1) x.2]) y83) (.T (.cons .I (.cons (.L fun _ => .I) .nil))) _ v hv) ?_
    intro _ o95 h85
    obtain ⟨_, rfl, h86⟩ := h85
    obtain ⟨_, _, rfl, h87, h88⟩ := Cs_cons h86
    cases h87
    obtain ⟨_, _, rfl, h89, h90⟩ := Cs_cons h88
    obtain ⟨z91, f92, e93, rfl, h94⟩ := h89
    cases Cs_nil h90
    refine AOps.pureR rfl rfl rfl rfl rfl (rfl : _ = (AV.tup [(AV.int .i64 y83.1), (AV.sl z91 f92 e93)])) ?_
    refine AOps.pureR rfl rfl rfl rfl rfl (rfl : _ = (AV.int .i64 y83.1)) ?_
    refine AOps.pureR rfl rfl rfl rfl rfl (rfl : _ = (AV.sl z91 f92 e93)) ?_
    refine AOps.assignR rfl rfl rfl (rfl : _ = (AV.int .i64 y83.1)) rfl ?_
    refine AOps.assignR rfl rfl rfl (rfl : _ = (AV.sl z91 f92 e93)) rfl ?_
    refine AOps.nilR ?_
    refine AW.region ?_
    refine AOps.pureR rfl rfl rfl rfl rfl (rfl : _ = (AV.fn 188 [(AV.ptr b27 0), (AV.ptr b31 0)])) ?_
    refine AOps.pureR rfl rfl rfl rfl rfl (rfl : _ = (AV.int .i64 y83.1)) ?_
    refine AOps.pureR rfl rfl rfl rfl rfl (rfl : _ = (AV.sl z91 f92 e93)) ?_
    obtain ⟨y96, h97, h⟩ := obind h
    refine AOps.callF (g := 188) (args := [(AV.int .i64 y83.1), (AV.sl z91 f92 e93), (AV.ptr b27 0), (AV.ptr b31 0)]) rfl rfl rfl (impl_Checker_end_1_F1_ok h94 h76 (HS.enterP hH79 [0, 1] [b27, b31] rfl (by decide)) h97 (HS.wf' hH79)) ?_
    intro _ o103 s100 h102
    obtain ⟨h98, w104, w105, z106, f107, e108, h99, h109⟩ := h102
    have hH101 := HS.callP hH79 [0, 1] h99 rfl rfl
    change HS [b27, b31] false s s100 [⟨some b27, [(AV.int .i64 y96.2.1)], w104⟩, ⟨some b31, [(AV.sl z106 f107 e108)], w105⟩] at hH101
    cases h98
    refine AOps.nilR ?_
    refine AW.inBlock ?_
    refine AW.region ?_
    refine AOps.pureR rfl rfl rfl rfl rfl (rfl : _ = (AV.int .i64 (IntKind.wrap .i64 (t77 + 1)))) ?_
    refine AOps.pureR rfl rfl rfl rfl rfl (rfl : _ = (AV.int .i64 (IntKind.wrap .i64 (t77 + 1)))) ?_
    refine AOps.nilR ?_
    cases h
    exact AW.res [(1, (AV.int .i64 y83.1)), (2, (AV.sl z91 f92 e93)), (3, (AV.str w24)), (4, (AV.fn 188 [(AV.ptr b27 0), (AV.ptr b31 0)])), (5, (AV.eptr [(AV.int .i64 c1.Stack), (AV.int .i64 c1.Start), (AV.sl z2 f3 e4), (AV.sl z6 f7 e8), (AV.sl z10 f11 e12), (AV.sl z14 f15 e16)] 0)), (16, (AV.int .i64 (w24.length : Int))), (17, (AV.int .i64 (IntKind.wrap .i64 (t77 + 1))))] [] ⟨rfl, rfl, rfl, rfl, rfl, rfl, rfl, trivial⟩ trivial (hL1 _ rfl (z91, f92, e93, w104, w105, z106, f107, e108, s100) _ _ ⟨h94, h109, (HS.sel hH101 [some 0, some 1] (by decide))⟩)
  refine AW.condF (congrArg AV.bool hc80) ?_
  refine AW.exit rfl ?_
  obtain ⟨r110, hm, hx⟩ := omap h
  clear h
  subst hx
  have hx := hR1 _ rfl
  rw [hx] at hm
  have h := hm
  exact AW.res [] [] trivial trivial (KJ62 (m70, m72, w69, w71, z73, f74, e75, s78) _ _ ⟨h76, (HS.sel hH79 [some 0, some 1] (by decide)), h⟩)
theorem impl_Checker_end_ok {c1 : Checker} {state18 : Int} {stack19 : List Int} {w24 : List UInt8} {z2 : Nat} {f3 : Bool} {e4 : List AV} {z6 : Nat} {f7 : Bool} {e8 : List AV} {z10 : Nat} {f11 : Bool} {e12 : List AV} {z14 : Nat} {f15 : Bool} {e16 : List AV} {z20 : Nat} {f21 : Bool} {e22 : List AV} {s : St} (h5 : LR rB 1 c1.Accept z2 e4) (h9 : LR (rL rPush 2) 1 c1.Call z6 e8) (h13 : LR (rL (rL (rI .i64) 1) 1) 1 c1.Return z10 e12) (h17 : LR (rL (rI .i64) 1) 1 c1.Inner z14 e16) (h23 : LR (rI .i64) 1 stack19 z20 e22) {r : Int × (List Int)} (h : impl_Checker_end c1 state18 stack19 w24 = some r) (hs : WF s) : ACall Cf 93 [(AV.agg [(AV.int .i64 c1.Stack), (AV.int .i64 c1.Start), (AV.sl z2 f3 e4), (AV.sl z6 f7 e8), (AV.sl z10 f11 e12), (AV.sl z14 f15 e16)]), (AV.int .i64 state18), (AV.sl z20 f21 e22), (AV.str w24)] s fun v _ s' => (fun x => rT [(rI .i64) x.1, (rL (rI .i64) 1) x.2]) r v ∧ s' = s := by
  refine ACall.boxes rfl rfl rfl ?_
  have hH0 := HS.init hs
  unfold impl_Checker_end at h
  refine AW.seq ?_
  refine AW.region ?_
  refine AOps.makeR rfl rfl rfl rfl rfl rfl (rfl : _ = (AV.eptr [(AV.int .i64 c1.Stack), (AV.int .i64 c1.Start), (AV.sl z2 f3 e4), (AV.sl z6 f7 e8), (AV.sl z10 f11 e12), (AV.sl z14 f15 e16)] 0)) ?_
  refine AOps.box1 (v := (AV.int .i64 state18)) hH0 rfl rfl rfl rfl rfl rfl rfl rfl ?_
  intro b25 s26 hH27
  change HS [] false s s26 [⟨some b25, [(AV.int .i64 state18)], (fun _ => false)⟩] at hH27
  refine AOps.box1 (v := (AV.sl z20 f21 e22)) hH27 rfl rfl rfl rfl rfl rfl rfl rfl ?_
  intro b28 s29 hH30
  change HS [] false s s29 [⟨some b28, [(AV.sl z20 f21 e22)], (fun _ => false)⟩, ⟨some b25, [(AV.int .i64 state18)], (fun _ => false)⟩] at hH30
  refine AOps.pureR rfl rfl rfl rfl rfl (rfl : _ = (AV.int .i64 0)) ?_
  refine AOps.pureR rfl rfl rfl rfl rfl (rfl : _ = (AV.sl 0 true [])) ?_
  refine AOps.nilR ?_
  refine AW.seq ?_
  refine AW.region ?_
  refine AOps.ldE (v := (AV.agg [(AV.int .i64 c1.Stack), (AV.int .i64 c1.Start), (AV.sl z2 f3 e4), (AV.sl z6 f7 e8), (AV.sl z10 f11 e12), (AV.sl z14 f15 e16)])) rfl rfl rfl rfl rfl rfl ?_
  refine AOps.ldB (i := 1) (v := (AV.int .i64 state18)) hH30 rfl rfl rfl rfl rfl rfl rfl rfl rfl ?_
  refine AOps.ldB (i := 0) (v := (AV.sl z20 f21 e22)) hH30 rfl rfl rfl rfl rfl rfl rfl rfl rfl ?_
  refine AOps.pureR rfl rfl rfl rfl rfl (rfl : _ = (AV.str w24)) ?_
  refine AOps.pureR rfl rfl rfl rfl rfl (rfl : _ = (AV.fn 188 [(AV.ptr b25 0), (AV.ptr b28 0)])) ?_
  obtain ⟨y31, h32, h⟩ := obind h
  refine AOps.callF (g := 187) (args := [(AV.agg [(AV.int .i64 c1.Stack), (AV.int .i64 c1.Start), (AV.sl z2 f3 e4), (AV.sl z6 f7 e8), (AV.sl z10 f11 e12), (AV.sl z14 f15 e16)]), (AV.int .i64 state18), (AV.sl z20 f21 e22), (AV.str w24), (AV.fn 188 [(AV.ptr b25 0), (AV.ptr b28 0)])]) rfl rfl rfl (impl_Checker_run_F1_ok h5 h9 h13 h17 h23 h23 (HS.enterP hH30 [1, 0] [b25, b28] rfl (by decide)) h32 (HS.wf' hH30)) ?_
  intro _ o38 s35 h37
  obtain ⟨h33, w39, w40, z41, f42, e43, h34, h44⟩ := h37
  have hH36 := HS.callP hH30 [1, 0] h34 rfl rfl
  change HS [] false s s35 [⟨some b28, [(AV.sl z41 f42 e43)], w40⟩, ⟨some b25, [(AV.int .i64 y31.2.1)], w39⟩] at hH36
  cases h33
  refine AOps.nilR ?_
  refine AW.seq ?_
  refine AW.region ?_
  refine AOps.ldB (i := 1) (v := (AV.int .i64 y31.2.1)) hH36 rfl rfl rfl rfl rfl rfl rfl rfl rfl ?_
  refine AOps.ldB (i := 0) (v := (AV.sl z41 f42 e43)) hH36 rfl rfl rfl rfl rfl rfl rfl rfl rfl ?_
  refine AOps.assignR rfl rfl rfl (rfl : _ = (AV.int .i64 y31.2.1)) rfl ?_
  refine AOps.assignR rfl rfl rfl (rfl : _ = (AV.sl z41 f42 e43)) rfl ?_
  refine AOps.nilR ?_
  cases h
  exact AW.ret ⟨⟨_, hH36⟩, _, _, rfl, (Fin.T (.cons (Fin.of (p := (rI .i64) y31.2.1) .I rfl) (.cons (Fin.of (p := (rL (rI .i64) 1) y31.2.2) (.L fun _ => .I) (⟨_, _, _, rfl, h44⟩)) .nil))).2⟩
theorem impl_SummaryOf_K00_okN {c1 : Checker} {u18 : List UInt8} {z2 : Nat} {f3 : Bool} {e4 : List AV} {z6 : Nat} {f7 : Bool} {e8 : List AV} {z10 : Nat} {f11 : Bool} {e12 : List AV} {z14 : Nat} {f15 : Bool} {e16 : List AV} {s : St} (h5 : LR rB 1 c1.Accept z2 e4) (h9 : LR (rL rPush 2) 1 c1.Call z6 e8) (h13 : LR (rL (rL (rI .i64) 1) 1) 1 c1.Return z10 e12) (h17 : LR (rL (rI .i64) 1) 1 c1.Inner z14 e16) {r : (List Int) × Int} (h : impl_SummaryOf_K00 c1 u18 = some r) (hs : WF s) : ACallN Cf 27 [(AV.agg [(AV.int .i64 c1.Stack), (AV.int .i64 c1.Start), (AV.sl z2 f3 e4), (AV.sl z6 f7 e8), (AV.sl z10 f11 e12), (AV.sl z14 f15 e16)]), (AV.str u18)] s (fun v _ s' => ∃ (h1' : AV) (k2' : KT) (Ls' : List (List BX)), v = (AV.tup [h1', (AV.int .i64 r.2)]) ∧ HS [] true s s' (([] : List BX) ++ List.flatten Ls') ∧ AllG [OS oE2 h1' k2' r.1] Ls' ∧ h1'.one = true) true := by
  refine ACallN.keepR rfl rfl rfl ?_
  have hH0 := HS.g0 (HS.initK hs)
  have hG0 := AllG.nil
  have hl : LoOK [] true s := LoOK.nil
  unfold impl_SummaryOf_K00 at h
  refine AW.seq ?_
  refine AW.region ?_
  refine AOps.makeR rfl rfl rfl rfl rfl rfl (rfl : _ = (AV.eptr [(AV.int .i64 c1.Stack), (AV.int .i64 c1.Start), (AV.sl z2 f3 e4), (AV.sl z6 f7 e8), (AV.sl z10 f11 e12), (AV.sl z14 f15 e16)] 0)) ?_
  refine AOps.pureR rfl rfl rfl rfl rfl (rfl : _ = (AV.sl 0 true [])) ?_
  refine AOps.pureR rfl rfl rfl rfl rfl (rfl : _ = (AV.int .i64 0)) ?_
  refine AOps.nilR ?_
  refine AW.seq ?_
  refine AW.block ?_
  refine AW.seq ?_
  refine AW.region ?_
  refine AOps.ldE (v := (AV.agg [(AV.int .i64 c1.Stack), (AV.int .i64 c1.Start), (AV.sl z2 f3 e4), (AV.sl z6 f7 e8), (AV.sl z10 f11 e12), (AV.sl z14 f15 e16)])) rfl rfl rfl rfl rfl rfl ?_
  obtain ⟨y19, h20, h⟩ := obind h
  refine AOps.callP (g := 90) (args := [(AV.agg [(AV.int .i64 c1.Stack), (AV.int .i64 c1.Start), (AV.sl z2 f3 e4), (AV.sl z6 f7 e8), (AV.sl z10 f11 e12), (AV.sl z14 f15 e16)])]) (p := (rB) y19) rfl rfl rfl (impl_ValidChecker_ok h5 h9 h13 h17 h20 (HS.wf' hH0)) ?_
  intro _ o22 h21
  cases h21
  refine AOps.pureR rfl rfl rfl rfl rfl (rfl : _ = (AV.bool (!y19))) ?_
  refine AOps.pureR rfl rfl rfl rfl rfl (rfl : _ = (AV.bool (!y19))) ?_
  obtain ⟨b24, hb, h⟩ := obind h
  refine AOps.split 4 (fun f' => ∃ tm' os', f' = ⟨updL tm' [(1, (AV.str u18)), (2, (AV.eptr [(AV.int .i64 c1.Stack), (AV.int .i64 c1.Start), (AV.sl z2 f3 e4), (AV.sl z6 f7 e8), (AV.sl z10 f11 e12), (AV.sl z14 f15 e16)] 0)), (18, (AV.bool b24))], updL os' [], s⟩) ?_ ?_
  · rcases oite hb with ⟨hc23, hb⟩ | ⟨hc23, hb⟩
    · refine AOps.know (d := 14) rfl hc23 ?_
      refine AOps.skipR rfl rfl ?_
      refine AOps.skipR rfl rfl ?_
      refine AOps.skipR rfl rfl ?_
      refine AOps.pureR rfl rfl rfl rfl rfl (rfl : _ = (AV.bool true)) ?_
      refine AOps.resR [(1, (AV.str u18)), (2, (AV.eptr [(AV.int .i64 c1.Stack), (AV.int .i64 c1.Start), (AV.sl z2 f3 e4), (AV.sl z6 f7 e8), (AV.sl z10 f11 e12), (AV.sl z14 f15 e16)] 0)), (18, (AV.bool b24))] [] ?_ ?_ _ ⟨_, _, rfl⟩
      · exact ⟨rfl, rfl, congrArg AV.bool (Option.some.inj hb), trivial⟩
      exact trivial
    · have h := hb
      refine AOps.know (d := 14) rfl hc23 ?_
      refine AOps.pureR rfl rfl rfl rfl rfl (rfl : _ = (AV.str u18)) ?_
      obtain ⟨y25, h26, h⟩ := obind h
      refine AOps.callP (g := 91) (args := [(AV.str u18)]) (p := (rB) y25) rfl rfl rfl (impl_ValidWord_ok  h26 (HS.wf' hH0)) ?_
      intro _ o28 h27
      cases h27
      refine AOps.pureR rfl rfl rfl rfl rfl (rfl : _ = (AV.bool (!y25))) ?_
      refine AOps.pureR rfl rfl rfl rfl rfl (rfl : _ = (AV.bool (!y25))) ?_
      refine AOps.resR [(1, (AV.str u18)), (2, (AV.eptr [(AV.int .i64 c1.Stack), (AV.int .i64 c1.Start), (AV.sl z2 f3 e4), (AV.sl z6 f7 e8), (AV.sl z10 f11 e12), (AV.sl z14 f15 e16)] 0)), (18, (AV.bool b24))] [] ?_ ?_ _ ⟨_, _, rfl⟩
      · exact ⟨rfl, rfl, congrArg AV.bool (Option.some.inj h), trivial⟩
      exact trivial
  rintro _ ⟨tm, os, rfl⟩
  refine AOps.assignR rfl rfl rfl (rfl : _ = (AV.bool b24)) rfl ?_
  refine AOps.nilR ?_
  rcases oite h with ⟨hc29, h⟩ | ⟨hc29, h⟩
  · refine AW.condT (congrArg AV.bool hc29) ?_
    refine AW.seq ?_
    refine AW.region ?_
    refine AOps.pureR rfl rfl rfl rfl rfl (rfl : _ = (AV.sl 0 true [])) ?_
    refine AOps.pureR rfl rfl rfl rfl rfl (rfl : _ = (AV.int .i64 1)) ?_
    refine AOps.nilR ?_
    cases h
    have hG30 := AllG.cons (OS.nil (e := oE2) (k := fun _ => AV.undef) (z := 0) (Or.inr rfl)) hG0
    have hH31 := HS.addNil hH0
    change HS [] true s s (([] : List BX) ++ List.flatten ([] :: ([] : List (List BX)))) at hH31
    change AllG [OS oE2 (AV.sl 0 true []) (fun _ => AV.undef) ([] : List Int)] ([] :: ([] : List (List BX))) at hG30
    exact AW.ret ⟨_, _, rfl, ⟨(AV.sl 0 true []), (fun _ => AV.undef), ([] :: ([] : List (List BX))), rfl, hH31, hG30, rfl⟩⟩
  refine AW.condF (congrArg AV.bool hc29) ?_
  refine AW.seq ?_
  refine AW.region ?_
  refine AOps.pureR rfl rfl rfl rfl rfl (rfl : _ = (AV.str u18)) ?_
  obtain ⟨y32, h33, h⟩ := obind h
  refine AOps.callP (g := 92) (args := [(AV.str u18)]) (p := (rB) y32) rfl rfl rfl (impl_isMatched_ok  h33 (HS.wf' hH0)) ?_
  intro _ o35 h34
  cases h34
  refine AOps.pureR rfl rfl rfl rfl rfl (rfl : _ = (AV.bool (!y32))) ?_
  refine AOps.assignR rfl rfl rfl (rfl : _ = (AV.bool (!y32))) rfl ?_
  refine AOps.nilR ?_
  rcases oite h with ⟨hc36, h⟩ | ⟨hc36, h⟩
  · refine AW.condT (congrArg AV.bool hc36) ?_
    refine AW.seq ?_
    refine AW.region ?_
    refine AOps.pureR rfl rfl rfl rfl rfl (rfl : _ = (AV.sl 0 true [])) ?_
    refine AOps.pureR rfl rfl rfl rfl rfl (rfl : _ = (AV.int .i64 4)) ?_
    refine AOps.nilR ?_
    cases h
    have hG37 := AllG.cons (OS.nil (e := oE2) (k := fun _ => AV.undef) (z := 0) (Or.inr rfl)) hG0
    have hH38 := HS.addNil hH0
    change HS [] true s s (([] : List BX) ++ List.flatten ([] :: ([] : List (List BX)))) at hH38
    change AllG [OS oE2 (AV.sl 0 true []) (fun _ => AV.undef) ([] : List Int)] ([] :: ([] : List (List BX))) at hG37
    exact AW.ret ⟨_, _, rfl, ⟨(AV.sl 0 true []), (fun _ => AV.undef), ([] :: ([] : List (List BX))), rfl, hH38, hG37, rfl⟩⟩
  refine AW.condF (congrArg AV.bool hc36) ?_
  refine AW.skip ?_
  refine AW.inBlock ?_
  refine AW.seq ?_
  refine AW.region ?_
  refine AOps.makeR rfl rfl rfl rfl rfl rfl (rfl : _ = (AV.sl 1 true [])) ?_
  refine AOps.assignR rfl rfl rfl (rfl : _ = (AV.sl 1 true [])) rfl ?_
  refine AOps.nilR ?_
  refine AW.seq ?_
  refine AW.seq ?_
  refine AW.region ?_
  refine AOps.pureR rfl rfl rfl rfl rfl (rfl : _ = (AV.eptr [(AV.int .i64 c1.Stack), (AV.int .i64 c1.Start), (AV.sl z2 f3 e4), (AV.sl z6 f7 e8), (AV.sl z10 f11 e12), (AV.sl z14 f15 e16)] 2)) ?_
  refine AOps.ldE (v := (AV.sl z2 f3 e4)) rfl rfl rfl rfl rfl rfl ?_
  refine AOps.pureR rfl rfl rfl rfl rfl (len_eq h5) ?_
  refine AOps.pureR rfl rfl rfl rfl rfl (rfl : _ = (AV.int .i64 0)) ?_
  refine AOps.nilR ?_
  refine AW.meet (σ := (List Int) × AV × KT × St × (List (List BX))) (fun (out39, h40, k41, s43, Ls44) tm os => ⟨updL tm [(6, h40)], updL os [], s43⟩) (fun (out39, h40, k41, s43, Ls44) => (h40.one = true) ∧ (HS [] true s s43 (([] : List BX) ++ List.flatten Ls44)) ∧ (AllG [OS oE2 h40 k41 out39] Ls44) ∧ impl_SummaryOf_K00_J1 out39 = some r) ?_ ?_
  · rintro ⟨out39, h40, k41, s43, Ls44⟩ tm os ⟨ho42, hH45, hG46, h⟩
    unfold impl_SummaryOf_K00_J1 at h
    refine AW.seq ?_
    refine AW.region ?_
    refine AOps.pureR rfl rfl rfl rfl rfl (rfl : _ = h40) ?_
    refine AOps.assignR rfl rfl rfl (rfl : _ = h40) rfl ?_
    refine AOps.pureR rfl rfl rfl rfl rfl (rfl : _ = (AV.int .i64 0)) ?_
    refine AOps.nilR ?_
    cases h
    exact AW.ret ⟨_, _, rfl, ⟨h40, k41, Ls44, rfl, hH45, hG46, ho42⟩⟩
  intro KJ47
  refine AW.block ?_
  obtain ⟨Ls81, hG82, hH83⟩ := HS.selEG hH0 hG0 [] [none]
  change HS [] true s s (([] : List BX) ++ List.flatten Ls81) at hH83
  change AllG [Non] Ls81 at hG82
  have hG84 := AllG.imp hG82 0 rfl (P' := OS oE2 (AV.sl 1 true []) (fun _ => AV.undef) []) (fun L hL => by cases hL; exact OS.nil (Or.inl rfl))
  change AllG [OS oE2 (AV.sl 1 true []) (fun _ => AV.undef) ([] : List Int)] Ls81 at hG84
  refine AW.res [(1, (AV.str u18)), (2, (AV.eptr [(AV.int .i64 c1.Stack), (AV.int .i64 c1.Start), (AV.sl z2 f3 e4), (AV.sl z6 f7 e8), (AV.sl z10 f11 e12), (AV.sl z14 f15 e16)] 0)), (6, (AV.sl 1 true [])), (26, (AV.int .i64 (c1.Accept.length : Int))), (27, (AV.int .i64 0))] [] ⟨rfl, rfl, rfl, rfl, rfl, trivial⟩ trivial ?_
  refine AW.loopF (σ := (List Int) × Int) (τ := AV × KT × St × (List (List BX))) (fun (out48, t52) (h49, k50, s53, Ls54) => (h49.one = true) ∧ (HS [] true s s53 (([] : List BX) ++ List.flatten Ls54)) ∧ (AllG [OS oE2 h49 k50 out48] Ls54)) (fun (out48, t52) (h49, k50, s53, Ls54) tm os => ⟨updL tm [(1, (AV.str u18)), (2, (AV.eptr [(AV.int .i64 c1.Stack), (AV.int .i64 c1.Start), (AV.sl z2 f3 e4), (AV.sl z6 f7 e8), (AV.sl z10 f11 e12), (AV.sl z14 f15 e16)] 0)), (6, h49), (26, (AV.int .i64 (c1.Accept.length : Int))), (27, (AV.int .i64 t52))], updL os [], s53⟩) ?_ (x := (([] : List Int), 0)) (y := ((AV.sl 1 true []), (fun _ => AV.undef), s, Ls81)) h ⟨rfl, hH83, hG84⟩
  clear h
  rintro ⟨out48, t52⟩ ⟨h49, k50, s53, Ls54⟩ tm os ⟨ho51, hH55, hG56⟩ e1 h hL1 hR1
  unfold impl_SummaryOf_K00_S1 at h
  dsimp only at h
  refine AW.seq ?_
  refine AW.region ?_
  refine AOps.pureR rfl rfl rfl rfl rfl (rfl : _ = (AV.bool (decide ((t52 : Int) < (c1.Accept.length : Int))))) ?_
  refine AOps.nilR ?_
  refine AW.seq ?_
  rcases oite h with ⟨hc57, h⟩ | ⟨hc57, h⟩
  · refine AW.condT (congrArg AV.bool hc57) ?_
    refine AW.skip ?_
    refine AW.seq ?_
    refine AW.block ?_
    refine AW.seq ?_
    refine AW.region ?_
    refine AOps.pureR rfl rfl rfl rfl rfl (rfl : _ = (AV.int .i64 t52)) ?_
    refine AOps.assignR rfl rfl rfl (rfl : _ = (AV.int .i64 t52)) rfl ?_
    refine AOps.nilR ?_
    refine AW.seq ?_
    refine AW.region ?_
    refine AOps.ldE (v := (AV.agg [(AV.int .i64 c1.Stack), (AV.int .i64 c1.Start), (AV.sl z2 f3 e4), (AV.sl z6 f7 e8), (AV.sl z10 f11 e12), (AV.sl z14 f15 e16)])) rfl rfl rfl rfl rfl rfl ?_
    refine AOps.pureR rfl rfl rfl rfl rfl (rfl : _ = (AV.int .i64 t52)) ?_
    refine AOps.pureR rfl rfl rfl rfl rfl (rfl : _ = (AV.str u18)) ?_
    obtain ⟨y58, h59, h⟩ := obind h
    refine AOps.callP (g := 93) (args := [(AV.agg [(AV.int .i64 c1.Stack), (AV.int .i64 c1.Start), (AV.sl z2 f3 e4), (AV.sl z6 f7 e8), (AV.sl z10 f11 e12), (AV.sl z14 f15 e16)]), (AV.int .i64 t52), (AV.sl 0 true []), (AV.str u18)]) (p := (fun x => rT [(rI .i64) x.1, (rL (rI .i64) 1) x.2]) y58) rfl rfl rfl (impl_Checker_end_ok h5 h9 h13 h17 (⟨.inr ⟨rfl, rfl⟩, .nil⟩) h59 (HS.wf' hH55)) ?_
    intro _ o70 h60
    obtain ⟨_, rfl, h61⟩ := h60
    obtain ⟨_, _, rfl, h62, h63⟩ := Cs_cons h61
    cases h62
    obtain ⟨_, _, rfl, h64, h65⟩ := Cs_cons h63
    obtain ⟨z66, f67, e68, rfl, h69⟩ := h64
    cases Cs_nil h65
    refine AOps.pureR rfl rfl rfl rfl rfl (rfl : _ = (AV.tup [(AV.int .i64 y58.1), (AV.sl z66 f67 e68)])) ?_
    refine AOps.pureR rfl rfl rfl rfl rfl (rfl : _ = (AV.int .i64 y58.1)) ?_
    refine AOps.pureR rfl rfl rfl rfl rfl (rfl : _ = (AV.sl z66 f67 e68)) ?_
    refine AOps.assignR rfl rfl rfl (rfl : _ = (AV.int .i64 y58.1)) rfl ?_
    refine AOps.assignR rfl rfl rfl (rfl : _ = (AV.sl z66 f67 e68)) rfl ?_
    refine AOps.nilR ?_
    refine AW.region ?_
    refine AOps.pureR rfl rfl rfl rfl rfl (rfl : _ = h49) ?_
    refine AOps.pureR rfl rfl rfl rfl rfl (rfl : _ = (AV.int .i64 y58.1)) ?_
    refine AOps.makeR rfl rfl rfl rfl rfl rfl (rfl : _ = (AV.sl 1 true [(AV.int .i64 y58.1)])) ?_
    obtain ⟨l71, h72, h⟩ := obind h
    refine AOps.appLf (j := 0) (z' := 1) (f' := true) (e' := [(AV.int .i64 y58.1)]) hH55 hG56 rfl rfl rfl rfl rfl rfl rfl rfl (appSrc_sl (LR.z (LR.lit (r := rI .i64) (sz := 1) (.cons rfl .nil))) rfl) ⟨by decide, by decide, rfl, rfl⟩ ⟨rfl, rfl⟩ rfl rfl h72 rfl (LR.el (LR.lit (r := rI .i64) (sz := 1) (.cons rfl .nil))).len (fun i => OL.leaf (LR.el (LR.lit (r := rI .i64) (sz := 1) (.cons rfl .nil))) i) ?_
    intro h73 k75 Ls76 s77 ho74 hG78 hH79
    change HS [] true s s77 (([] : List BX) ++ List.flatten Ls76) at hH79
    change AllG [OS oE2 h73 k75 l71] Ls76 at hG78
    refine AOps.assignR rfl rfl rfl (rfl : _ = h73) rfl ?_
    refine AOps.nilR ?_
    refine AW.inBlock ?_
    refine AW.region ?_
    refine AOps.pureR rfl rfl rfl rfl rfl (rfl : _ = (AV.int .i64 (IntKind.wrap .i64 (t52 + 1)))) ?_
    refine AOps.pureR rfl rfl rfl rfl rfl (rfl : _ = (AV.int .i64 (IntKind.wrap .i64 (t52 + 1)))) ?_
    refine AOps.nilR ?_
    cases h
    exact AW.res [(1, (AV.str u18)), (2, (AV.eptr [(AV.int .i64 c1.Stack), (AV.int .i64 c1.Start), (AV.sl z2 f3 e4), (AV.sl z6 f7 e8), (AV.sl z10 f11 e12), (AV.sl z14 f15 e16)] 0)), (6, h73), (26, (AV.int .i64 (c1.Accept.length : Int))), (27, (AV.int .i64 (IntKind.wrap .i64 (t52 + 1))))] [] ⟨rfl, rfl, rfl, rfl, rfl, trivial⟩ trivial (hL1 _ rfl (h73, k75, s77, Ls76) _ _ ⟨ho74, hH79, hG78⟩)
  refine AW.condF (congrArg AV.bool hc57) ?_
  refine AW.exit rfl ?_
  obtain ⟨r80, hm, hx⟩ := omap h
  clear h
  subst hx
  have hx := hR1 _ rfl
  rw [hx] at hm
  have h := hm
  exact AW.res [(6, h49)] [] ⟨rfl, trivial⟩ trivial (KJ47 (out48, h49, k50, s53, Ls54) _ _ ⟨ho51, hH55, hG56, h⟩)
theorem laws_eqInt64S_okN {a1 : List Int} {b6 : List Int} {z2 : Nat} {f3 : Bool} {e4 : List AV} {z7 : Nat} {f8 : Bool} {e9 : List AV} {s : St} (h5 : LR (rI .i64) 1 a1 z2 e4) (h10 : LR (rI .i64) 1 b6 z7 e9) {r : Bool} (h : laws_eqInt64S a1 b6 = some r) (hs : WF s) : ACallN Cf 17 [(AV.sl z2 f3 e4), (AV.sl z7 f8 e9)] s fun v _ s' => (rB) r v ∧ s' = s := by
  refine ACallN.pure rfl rfl rfl .B ?_
  have hWF := hs.lo'
  unfold laws_eqInt64S at h
  refine AW.seq ?_
  refine AW.region ?_
  refine AOps.pureR rfl rfl rfl rfl rfl (rfl : _ = (AV.bool false)) ?_
  refine AOps.nilR ?_
  refine AW.seq ?_
  refine AW.seq ?_
  refine AW.region ?_
  refine AOps.pureR rfl rfl rfl rfl rfl (rfl : _ = (AV.sl z2 f3 e4)) ?_
  refine AOps.pureR rfl rfl rfl rfl rfl (len_eq h5) ?_
  refine AOps.pureR rfl rfl rfl rfl rfl (rfl : _ = (AV.sl z7 f8 e9)) ?_
  refine AOps.pureR rfl rfl rfl rfl rfl (len_eq h10) ?_
  refine AOps.pureR rfl rfl rfl rfl rfl (rfl : _ = (AV.bool ((a1.length : Int) != (b6.length : Int)))) ?_
  refine AOps.nilR ?_
  rcases oite h with ⟨hc11, h⟩ | ⟨hc11, h⟩
  · refine AW.condT (congrArg AV.bool hc11) ?_
    refine AW.seq ?_
    refine AW.region ?_
    refine AOps.pureR rfl rfl rfl rfl rfl (rfl : _ = (AV.bool false)) ?_
    refine AOps.nilR ?_
    cases h
    exact AW.ret ⟨rfl, _, _, rfl, rfl⟩
  refine AW.condF (congrArg AV.bool hc11) ?_
  refine AW.skip ?_
  refine AW.seq ?_
  refine AW.seq ?_
  refine AW.region ?_
  refine AOps.pureR rfl rfl rfl rfl rfl (rfl : _ = (AV.int .i64 0)) ?_
  refine AOps.nilR ?_
  refine AW.meet (σ := Unit) (fun _ tm os => ⟨updL tm [], updL os [], { s with lo := s.n }⟩) (fun _ => laws_eqInt64S_J1 = some r) ?_ ?_
  · rintro _ tm os h
    unfold laws_eqInt64S_J1 at h
    refine AW.seq ?_
    refine AW.region ?_
    refine AOps.pureR rfl rfl rfl rfl rfl (rfl : _ = (AV.bool true)) ?_
    refine AOps.nilR ?_
    cases h
    exact AW.ret ⟨rfl, _, _, rfl, rfl⟩
  intro KJ12
  refine AW.block ?_
  refine AW.res [(0, (AV.sl z2 f3 e4)), (1, (AV.sl z7 f8 e9)), (5, (AV.int .i64 0))] [] ⟨rfl, rfl, rfl, trivial⟩ trivial ?_
  refine AW.loopF (σ := Int) (τ := Unit) (fun i13 _ => True) (fun i13 _ tm os => ⟨updL tm [(0, (AV.sl z2 f3 e4)), (1, (AV.sl z7 f8 e9)), (5, (AV.int .i64 i13))], updL os [], { s with lo := s.n }⟩) ?_ (x := (0)) (y := ()) h trivial
  clear h
  rintro i13 _ tm os - e1 h hL1 hR1
  unfold laws_eqInt64S_S1 at h
  refine AW.seq ?_
  refine AW.seq ?_
  refine AW.region ?_
  refine AOps.pureR rfl rfl rfl rfl rfl (rfl : _ = (AV.int .i64 i13)) ?_
  refine AOps.pureR rfl rfl rfl rfl rfl (rfl : _ = (AV.sl z2 f3 e4)) ?_
  refine AOps.pureR rfl rfl rfl rfl rfl (len_eq h5) ?_
  refine AOps.pureR rfl rfl rfl rfl rfl (rfl : _ = (AV.bool (decide ((i13 : Int) < (a1.length : Int))))) ?_
  refine AOps.nilR ?_
  rcases oite h with ⟨hc14, h⟩ | ⟨hc14, h⟩
  · refine AW.condT (congrArg AV.bool hc14) ?_
    refine AW.skip ?_
    refine AW.seq ?_
    refine AW.block ?_
    refine AW.seq ?_
    refine AW.region ?_
    refine AOps.pureR rfl rfl rfl rfl rfl (rfl : _ = (AV.sl z2 f3 e4)) ?_
    refine AOps.pureR rfl rfl rfl rfl rfl (rfl : _ = (AV.int .i64 i13)) ?_
    obtain ⟨x15, h16, h⟩ := obind h
    obtain ⟨v19, h17, h18⟩ := idx_sl h5 h16
    cases h17
    refine AOps.pureR rfl rfl rfl h18 rfl (rfl : _ = (AV.eptr [(AV.int .i64 x15)] 0)) ?_
    refine AOps.ldE (v := (AV.int .i64 x15)) rfl rfl rfl rfl rfl rfl ?_
    refine AOps.pureR rfl rfl rfl rfl rfl (rfl : _ = (AV.sl z7 f8 e9)) ?_
    refine AOps.pureR rfl rfl rfl rfl rfl (rfl : _ = (AV.int .i64 i13)) ?_
    obtain ⟨x20, h21, h⟩ := obind h
    obtain ⟨v24, h22, h23⟩ := idx_sl h10 h21
    cases h22
    refine AOps.pureR rfl rfl rfl h23 rfl (rfl : _ = (AV.eptr [(AV.int .i64 x20)] 0)) ?_
    refine AOps.ldE (v := (AV.int .i64 x20)) rfl rfl rfl rfl rfl rfl ?_
    refine AOps.pureR rfl rfl rfl rfl rfl (rfl : _ = (AV.bool (x15 != x20))) ?_
    refine AOps.nilR ?_
    rcases oite h with ⟨hc25, h⟩ | ⟨hc25, h⟩
    · refine AW.condT (congrArg AV.bool hc25) ?_
      refine AW.seq ?_
      refine AW.region ?_
      refine AOps.pureR rfl rfl rfl rfl rfl (rfl : _ = (AV.bool false)) ?_
      refine AOps.nilR ?_
      cases h
      have hr := hR1 _ rfl
      subst hr
      exact AW.ret ⟨rfl, _, _, rfl, rfl⟩
    refine AW.condF (congrArg AV.bool hc25) ?_
    refine AW.skip ?_
    refine AW.inBlock ?_
    refine AW.region ?_
    refine AOps.pureR rfl rfl rfl rfl rfl (rfl : _ = (AV.int .i64 i13)) ?_
    refine AOps.pureR rfl rfl rfl rfl rfl (rfl : _ = (AV.int .i64 (IntKind.wrap .i64 (i13 + 1)))) ?_
    refine AOps.assignR rfl rfl rfl (rfl : _ = (AV.int .i64 (IntKind.wrap .i64 (i13 + 1)))) rfl ?_
    refine AOps.nilR ?_
    cases h
    exact AW.res [(0, (AV.sl z2 f3 e4)), (1, (AV.sl z7 f8 e9)), (5, (AV.int .i64 (IntKind.wrap .i64 (i13 + 1))))] [] ⟨rfl, rfl, rfl, trivial⟩ trivial (hL1 _ rfl () _ _ trivial)
  refine AW.condF (congrArg AV.bool hc14) ?_
  refine AW.exit rfl ?_
  obtain ⟨r26, hm, hx⟩ := omap h
  clear h
  subst hx
  have hx := hR1 _ rfl
  rw [hx] at hm
  have h := hm
  exact AW.res [] [] trivial trivial (KJ12 () _ _ h)
theorem laws_eqBoolS_okN {a1 : List Bool} {b6 : List Bool} {z2 : Nat} {f3 : Bool} {e4 : List AV} {z7 : Nat} {f8 : Bool} {e9 : List AV} {s : St} (h5 : LR rB 1 a1 z2 e4) (h10 : LR rB 1 b6 z7 e9) {r : Bool} (h : laws_eqBoolS a1 b6 = some r) (hs : WF s) : ACallN Cf 94 [(AV.sl z2 f3 e4), (AV.sl z7 f8 e9)] s fun v _ s' => (rB) r v ∧ s' = s := by
  refine ACallN.pure rfl rfl rfl .B ?_
  have hWF := hs.lo'
  unfold laws_eqBoolS at h
  refine AW.seq ?_
  refine AW.region ?_
  refine AOps.pureR rfl rfl rfl rfl rfl (rfl : _ = (AV.bool false)) ?_
  refine AOps.nilR ?_
  refine AW.seq ?_
  refine AW.seq ?_
  refine AW.region ?_
  refine AOps.pureR rfl rfl rfl rfl rfl (rfl : _ = (AV.sl z2 f3 e4)) ?_
  refine AOps.pureR rfl rfl rfl rfl rfl (len_eq h5) ?_
  refine AOps.pureR rfl rfl rfl rfl rfl (rfl : _ = (AV.sl z7 f8 e9)) ?_
  refine AOps.pureR rfl rfl rfl rfl rfl (len_eq h10) ?_
  refine AOps.pureR rfl rfl rfl rfl rfl (rfl : _ = (AV.bool ((a1.length : Int) != (b6.length : Int)))) ?_
  refine AOps.nilR ?_
  rcases oite h with ⟨hc11, h⟩ | ⟨hc11, h⟩
  · refine AW.condT (congrArg AV.bool hc11) ?_
    refine AW.seq ?_
    refine AW.region ?_
    refine AOps.pureR rfl rfl rfl rfl rfl (rfl : _ = (AV.bool false)) ?_
    refine AOps.nilR ?_
    cases h
    exact AW.ret ⟨rfl, _, _, rfl, rfl⟩
  refine AW.condF (congrArg AV.bool hc11) ?_
  refine AW.skip ?_
  refine AW.seq ?_
  refine AW.seq ?_
  refine AW.region ?_
  refine AOps.pureR rfl rfl rfl rfl rfl (rfl : _ = (AV.int .i64 0)) ?_
  refine AOps.nilR ?_
  refine AW.meet (σ := Unit) (fun _ tm os => ⟨updL tm [], updL os [], { s with lo := s.n }⟩) (fun _ => laws_eqBoolS_J1 = some r) ?_ ?_
  · rintro _ tm os h
    unfold laws_eqBoolS_J1 at h
    refine AW.seq ?_
    refine AW.region ?_
    refine AOps.pureR rfl rfl rfl rfl rfl (rfl : _ = (AV.bool true)) ?_
    refine AOps.nilR ?_
    cases h
    exact AW.ret ⟨rfl, _, _, rfl, rfl⟩
  intro KJ12
  refine AW.block ?_
  refine AW.res [(0, (AV.sl z2 f3 e4)), (1, (AV.sl z7 f8 e9)), (5, (AV.int .i64 0))] [] ⟨rfl, rfl, rfl, trivial⟩ trivial ?_
  refine AW.loopF (σ := Int) (τ := Unit) (fun i13 _ => True) (fun i13 _ tm os => ⟨updL tm [(0, (AV.sl z2 f3 e4)), (1, (AV.sl z7 f8 e9)), (5, (AV.int .i64 i13))], updL os [], { s with lo := s.n }⟩) ?_ (x := (0)) (y := ()) h trivial
  clear h
  rintro i13 _ tm os - e1 h hL1 hR1
  unfold laws_eqBoolS_S1 at h
  refine AW.seq ?_
  refine AW.seq ?_
  refine AW.region ?_
  refine AOps.pureR rfl rfl rfl rfl rfl (rfl : _ = (AV.int .i64 i13)) ?_
  refine AOps.pureR rfl rfl rfl rfl rfl (rfl : _ = (AV.sl z2 f3 e4)) ?_
  refine AOps.pureR rfl rfl rfl rfl rfl (len_eq h5) ?_
  refine AOps.pureR rfl rfl rfl rfl rfl (rfl : _ = (AV.bool (decide ((i13 : Int) < (a1.length : Int))))) ?_
  refine AOps.nilR ?_
  rcases oite h with ⟨hc14, h⟩ | ⟨hc14, h⟩
  · refine AW.condT (congrArg AV.bool hc14) ?_
    refine AW.skip ?_
    refine AW.seq ?_
    refine AW.block ?_
    refine AW.seq ?_
    refine AW.region ?_
    refine AOps.pureR rfl rfl rfl rfl rfl (rfl : _ = (AV.sl z2 f3 e4)) ?_
    refine AOps.pureR rfl rfl rfl rfl rfl (rfl : _ = (AV.int .i64 i13)) ?_
    obtain ⟨x15, h16, h⟩ := obind h
    obtain ⟨v19, h17, h18⟩ := idx_sl h5 h16
    cases h17
    refine AOps.pureR rfl rfl rfl h18 rfl (rfl : _ = (AV.eptr [(AV.bool x15)] 0)) ?_
    refine AOps.ldE (v := (AV.bool x15)) rfl rfl rfl rfl rfl rfl ?_
    refine AOps.pureR rfl rfl rfl rfl rfl (rfl : _ = (AV.sl z7 f8 e9)) ?_
    refine AOps.pureR rfl rfl rfl rfl rfl (rfl : _ = (AV.int .i64 i13)) ?_
    obtain ⟨x20, h21, h⟩ := obind h
    obtain ⟨v24, h22, h23⟩ := idx_sl h10 h21
    cases h22
    refine AOps.pureR rfl rfl rfl h23 rfl (rfl : _ = (AV.eptr [(AV.bool x20)] 0)) ?_
    refine AOps.ldE (v := (AV.bool x20)) rfl rfl rfl rfl rfl rfl ?_
    refine AOps.pureR rfl rfl rfl rfl rfl (rfl : _ = (AV.bool (!(x15 == x20)))) ?_
    refine AOps.nilR ?_
    rcases oite h with ⟨hc25, h⟩ | ⟨hc25, h⟩
    · refine AW.condT (congrArg AV.bool hc25) ?_
      refine AW.seq ?_
      refine AW.region ?_
      refine AOps.pureR rfl rfl rfl rfl rfl (rfl : _ = (AV.bool false)) ?_
      refine AOps.nilR ?_
      cases h
      have hr := hR1 _ rfl
      subst hr
      exact AW.ret ⟨rfl, _, _, rfl, rfl⟩
    refine AW.condF (congrArg AV.bool hc25) ?_
    refine AW.skip ?_
    refine AW.inBlock ?_
    refine AW.region ?_
    refine AOps.pureR rfl rfl rfl rfl rfl (rfl : _ = (AV.int .i64 i13)) ?_
    refine AOps.pureR rfl rfl rfl rfl rfl (rfl : _ = (AV.int .i64 (IntKind.wrap .i64 (i13 + 1)))) ?_
    refine AOps.assignR rfl rfl rfl (rfl : _ = (AV.int .i64 (IntKind.wrap .i64 (i13 + 1)))) rfl ?_
    refine AOps.nilR ?_
    cases h
    exact AW.res [(0, (AV.sl z2 f3 e4)), (1, (AV.sl z7 f8 e9)), (5, (AV.int .i64 (IntKind.wrap .i64 (i13 + 1))))] [] ⟨rfl, rfl, rfl, trivial⟩ trivial (hL1 _ rfl () _ _ trivial)
  refine AW.condF (congrArg AV.bool hc14) ?_
  refine AW.exit rfl ?_
  obtain ⟨r26, hm, hx⟩ := omap h
  clear h
  subst hx
  have hx := hR1 _ rfl
  rw [hx] at hm
  have h := hm
  exact AW.res [] [] trivial trivial (KJ12 () _ _ h)
theorem laws_eqPush_ok {a1 : Push} {b2 : Push} {s : St} {r : Bool} (h : laws_eqPush a1 b2 = some r) (hs : WF s) : ACall Cf 261 [(AV.agg [(AV.int .i64 a1.To), (AV.int .i64 a1.Put)]), (AV.agg [(AV.int .i64 b2.To), (AV.int .i64 b2.Put)])] s fun v _ s' => (rB) r v ∧ s' = s := by
  refine ACall.pure rfl rfl rfl .B ?_
  have hWF := hs.lo'
  unfold laws_eqPush at h
  refine AW.seq ?_
  refine AW.region ?_
  refine AOps.makeR rfl rfl rfl rfl rfl rfl (rfl : _ = (AV.eptr [(AV.int .i64 a1.To), (AV.int .i64 a1.Put)] 0)) ?_
  refine AOps.makeR rfl rfl rfl rfl rfl rfl (rfl : _ = (AV.eptr [(AV.int .i64 b2.To), (AV.int .i64 b2.Put)] 0)) ?_
  refine AOps.pureR rfl rfl rfl rfl rfl (rfl : _ = (AV.bool false)) ?_
  refine AOps.nilR ?_
  refine AW.seq ?_
  refine AW.seq ?_
  refine AW.region ?_
  refine AOps.pureR rfl rfl rfl rfl rfl (rfl : _ = (AV.eptr [(AV.int .i64 a1.To), (AV.int .i64 a1.Put)] 0)) ?_
  refine AOps.ldE (v := (AV.int .i64 a1.To)) rfl rfl rfl rfl rfl rfl ?_
  refine AOps.pureR rfl rfl rfl rfl rfl (rfl : _ = (AV.eptr [(AV.int .i64 b2.To), (AV.int .i64 b2.Put)] 0)) ?_
  refine AOps.ldE (v := (AV.int .i64 b2.To)) rfl rfl rfl rfl rfl rfl ?_
  refine AOps.pureR rfl rfl rfl rfl rfl (rfl : _ = (AV.bool (a1.To != b2.To))) ?_
  refine AOps.nilR ?_
  rcases oite h with ⟨hc3, h⟩ | ⟨hc3, h⟩
  · refine AW.condT (congrArg AV.bool hc3) ?_
    refine AW.seq ?_
    refine AW.region ?_
    refine AOps.pureR rfl rfl rfl rfl rfl (rfl : _ = (AV.bool false)) ?_
    refine AOps.nilR ?_
    cases h
    exact AW.ret ⟨rfl, _, _, rfl, rfl⟩
  refine AW.condF (congrArg AV.bool hc3) ?_
  refine AW.skip ?_
  refine AW.seq ?_
  refine AW.seq ?_
  refine AW.region ?_
  refine AOps.pureR rfl rfl rfl rfl rfl (rfl : _ = (AV.eptr [(AV.int .i64 a1.To), (AV.int .i64 a1.Put)] 1)) ?_
  refine AOps.ldE (v := (AV.int .i64 a1.Put)) rfl rfl rfl rfl rfl rfl ?_
  refine AOps.pureR rfl rfl rfl rfl rfl (rfl : _ = (AV.eptr [(AV.int .i64 b2.To), (AV.int .i64 b2.Put)] 1)) ?_
  refine AOps.ldE (v := (AV.int .i64 b2.Put)) rfl rfl rfl rfl rfl rfl ?_
  refine AOps.pureR rfl rfl rfl rfl rfl (rfl : _ = (AV.bool (a1.Put != b2.Put))) ?_
  refine AOps.nilR ?_
  rcases oite h with ⟨hc4, h⟩ | ⟨hc4, h⟩
  · refine AW.condT (congrArg AV.bool hc4) ?_
    refine AW.seq ?_
    refine AW.region ?_
    refine AOps.pureR rfl rfl rfl rfl rfl (rfl : _ = (AV.bool false)) ?_
    refine AOps.nilR ?_
    cases h
    exact AW.ret ⟨rfl, _, _, rfl, rfl⟩
  refine AW.condF (congrArg AV.bool hc4) ?_
  refine AW.skip ?_
  refine AW.seq ?_
  refine AW.region ?_
  refine AOps.pureR rfl rfl rfl rfl rfl (rfl : _ = (AV.bool true)) ?_
  refine AOps.nilR ?_
  cases h
  exact AW.ret ⟨rfl, _, _, rfl, rfl⟩
theorem laws_eqPushS_okN {a1 : List Push} {b6 : List Push} {z2 : Nat} {f3 : Bool} {e4 : List AV} {z7 : Nat} {f8 : Bool} {e9 : List AV} {s : St} (h5 : LR rPush 2 a1 z2 e4) (h10 : LR rPush 2 b6 z7 e9) {r : Bool} (h : laws_eqPushS a1 b6 = some r) (hs : WF s) : ACallN Cf 189 [(AV.sl z2 f3 e4), (AV.sl z7 f8 e9)] s fun v _ s' => (rB) r v ∧ s' = s := by
  refine ACallN.pure rfl rfl rfl .B ?_
  have hWF := hs.lo'
  unfold laws_eqPushS at h
  refine AW.seq ?_
  refine AW.region ?_
  refine AOps.pureR rfl rfl rfl rfl rfl (rfl : _ = (AV.bool false)) ?_
  refine AOps.nilR ?_
  refine AW.seq ?_
  refine AW.seq ?_
  refine AW.region ?_
  refine AOps.pureR rfl rfl rfl rfl rfl (rfl : _ = (AV.sl z2 f3 e4)) ?_
  refine AOps.pureR rfl rfl rfl rfl rfl (len_eq h5) ?_
  refine AOps.pureR rfl rfl rfl rfl rfl (rfl : _ = (AV.sl z7 f8 e9)) ?_
  refine AOps.pureR rfl rfl rfl rfl rfl (len_eq h10) ?_
  refine AOps.pureR rfl rfl rfl rfl rfl (rfl : _ = (AV.bool ((a1.length : Int) != (b6.length : Int)))) ?_
  refine AOps.nilR ?_
  rcases oite h with ⟨hc11, h⟩ | ⟨hc11, h⟩
  · refine AW.condT (congrArg AV.bool hc11) ?_
    refine AW.seq ?_
    refine AW.region ?_
    refine AOps.pureR rfl rfl rfl rfl rfl (rfl : _ = (AV.bool false)) ?_
    refine AOps.nilR ?_
    cases h
    exact AW.ret ⟨rfl, _, _, rfl, rfl⟩
  refine AW.condF (congrArg AV.bool hc11) ?_
  refine AW.skip ?_
  refine AW.seq ?_
  refine AW.seq ?_
  refine AW.region ?_
  refine AOps.pureR rfl rfl rfl rfl rfl (rfl : _ = (AV.int .i64 0)) ?_
  refine AOps.nilR ?_
  refine AW.meet (σ := Unit) (fun _ tm os => ⟨updL tm [], updL os [], { s with lo := s.n }⟩) (fun _ => laws_eqPushS_J1 = some r) ?_ ?_
  · rintro _ tm os h
    unfold laws_eqPushS_J1 at h
    refine AW.seq ?_
    refine AW.region ?_
    refine AOps.pureR rfl rfl rfl rfl rfl (rfl : _ = (AV.bool true)) ?_
    refine AOps.nilR ?_
    cases h
    exact AW.ret ⟨rfl, _, _, rfl, rfl⟩
  intro KJ12
  refine AW.block ?_
  refine AW.res [(0, (AV.sl z2 f3 e4)), (1, (AV.sl z7 f8 e9)), (5, (AV.int .i64 0))] [] ⟨rfl, rfl, rfl, trivial⟩ trivial ?_
  refine AW.loopF (σ := Int) (τ := Unit) (fun i13 _ => True) (fun i13 _ tm os => ⟨updL tm [(0, (AV.sl z2 f3 e4)), (1, (AV.sl z7 f8 e9)), (5, (AV.int .i64 i13))], updL os [], { s with lo := s.n }⟩) ?_ (x := (0)) (y := ()) h trivial
  clear h
  rintro i13 _ tm os - e1 h hL1 hR1
  unfold laws_eqPushS_S1 at h
  refine AW.seq ?_
  refine AW.seq ?_
  refine AW.region ?_
  refine AOps.pureR rfl rfl rfl rfl rfl (rfl : _ = (AV.int .i64 i13)) ?_
  refine AOps.pureR rfl rfl rfl rfl rfl (rfl : _ = (AV.sl z2 f3 e4)) ?_
  refine AOps.pureR rfl rfl rfl rfl rfl (len_eq h5) ?_
  refine AOps.pureR rfl rfl rfl rfl rfl (rfl : _ = (AV.bool (decide ((i13 : Int) < (a1.length : Int))))) ?_
  refine AOps.nilR ?_
  rcases oite h with ⟨hc14, h⟩ | ⟨hc14, h⟩
  · refine AW.condT (congrArg AV.bool hc14) ?_
    refine AW.skip ?_
    refine AW.seq ?_
    refine AW.block ?_
    refine AW.seq ?_
    refine AW.region ?_
    refine AOps.pureR rfl rfl rfl rfl rfl (rfl : _ = (AV.sl z2 f3 e4)) ?_
    refine AOps.pureR rfl rfl rfl rfl rfl (rfl : _ = (AV.int .i64 i13)) ?_
    obtain ⟨x15, h16, h⟩ := obind h
    obtain ⟨v19, h17, h18⟩ := idx_sl h5 h16
    obtain ⟨_, rfl, h20⟩ := h17
    obtain ⟨_, _, rfl, h21, h22⟩ := Cs_cons h20
    cases h21
    obtain ⟨_, _, rfl, h23, h24⟩ := Cs_cons h22
    cases h23
    cases Cs_nil h24
    refine AOps.pureR rfl rfl rfl h18 rfl (rfl : _ = (AV.eptr [(AV.int .i64 x15.To), (AV.int .i64 x15.Put)] 0)) ?_
    refine AOps.ldE (v := (AV.agg [(AV.int .i64 x15.To), (AV.int .i64 x15.Put)])) rfl rfl rfl rfl rfl rfl ?_
    refine AOps.pureR rfl rfl rfl rfl rfl (rfl : _ = (AV.sl z7 f8 e9)) ?_
    refine AOps.pureR rfl rfl rfl rfl rfl (rfl : _ = (AV.int .i64 i13)) ?_
    obtain ⟨x25, h26, h⟩ := obind h
    obtain ⟨v29, h27, h28⟩ := idx_sl h10 h26
    obtain ⟨_, rfl, h30⟩ := h27
    obtain ⟨_, _, rfl, h31, h32⟩ := Cs_cons h30
    cases h31
    obtain ⟨_, _, rfl, h33, h34⟩ := Cs_cons h32
    cases h33
    cases Cs_nil h34
    refine AOps.pureR rfl rfl rfl h28 rfl (rfl : _ = (AV.eptr [(AV.int .i64 x25.To), (AV.int .i64 x25.Put)] 0)) ?_
    refine AOps.ldE (v := (AV.agg [(AV.int .i64 x25.To), (AV.int .i64 x25.Put)])) rfl rfl rfl rfl rfl rfl ?_
    obtain ⟨y35, h36, h⟩ := obind h
    refine AOps.callDP (g := 261) (args := [(AV.agg [(AV.int .i64 x15.To), (AV.int .i64 x15.Put)]), (AV.agg [(AV.int .i64 x25.To), (AV.int .i64 x25.Put)])]) (p := (rB) y35) rfl rfl rfl (laws_eqPush_ok  h36 hWF.still) (fun v hv => Nice.pure (k := FINK) (p := (rB) y35) .B _ v hv) ?_
    intro _ o38 h37
    cases h37
    refine AOps.pureR rfl rfl rfl rfl rfl (rfl : _ = (AV.bool (!y35))) ?_
    refine AOps.nilR ?_
    rcases oite h with ⟨hc39, h⟩ | ⟨hc39, h⟩
    · refine AW.condT (congrArg AV.bool hc39) ?_
      refine AW.seq ?_
      refine AW.region ?_
      refine AOps.pureR rfl rfl rfl rfl rfl (rfl : _ = (AV.bool false)) ?_
      refine AOps.nilR ?_
      cases h
      have hr := hR1 _ rfl
      subst hr
      exact AW.ret ⟨rfl, _, _, rfl, rfl⟩
    refine AW.condF (congrArg AV.bool hc39) ?_
    refine AW.skip ?_
    refine AW.inBlock ?_
    refine AW.region ?_
    refine AOps.pureR rfl rfl rfl rfl rfl (rfl : _ = (AV.int .i64 i13)) ?_
    refine AOps.pureR rfl rfl rfl rfl rfl (rfl : _ = (AV.int .i64 (IntKind.wrap .i64 (i13 + 1)))) ?_
    refine AOps.assignR rfl rfl rfl (rfl : _ = (AV.int .i64 (IntKind.wrap .i64 (i13 + 1)))) rfl ?_
    refine AOps.nilR ?_
    cases h
    exact AW.res [(0, (AV.sl z2 f3 e4)), (1, (AV.sl z7 f8 e9)), (5, (AV.int .i64 (IntKind.wrap .i64 (i13 + 1))))] [] ⟨rfl, rfl, rfl, trivial⟩ trivial (hL1 _ rfl () _ _ trivial)
  refine AW.condF (congrArg AV.bool hc14) ?_
  refine AW.exit rfl ?_
  obtain ⟨r40, hm, hx⟩ := omap h
  clear h
  subst hx
  have hx := hR1 _ rfl
  rw [hx] at hm
  have h := hm
  exact AW.res [] [] trivial trivial (KJ12 () _ _ h)
theorem laws_eqPushSS_okN {a1 : List (List Push)} {b6 : List (List Push)} {z2 : Nat} {f3 : Bool} {e4 : List AV} {z7 : Nat} {f8 : Bool} {e9 : List AV} {s : St} (h5 : LR (rL rPush 2) 1 a1 z2 e4) (h10 : LR (rL rPush 2) 1 b6 z7 e9) {r : Bool} (h : laws_eqPushSS a1 b6 = some r) (hs : WF s) : ACallN Cf 95 [(AV.sl z2 f3 e4), (AV.sl z7 f8 e9)] s fun v _ s' => (rB) r v ∧ s' = s := by
  refine ACallN.pure rfl rfl rfl .B ?_
  have hWF := hs.lo'
  unfold laws_eqPushSS at h
  refine AW.seq ?_
  refine AW.region ?_
  refine AOps.pureR rfl rfl rfl rfl rfl (rfl : _ = (AV.bool false)) ?_
  refine AOps.nilR ?_
  refine AW.seq ?_
  refine AW.seq ?_
  refine AW.region ?_
  refine AOps.pureR rfl rfl rfl rfl rfl (rfl : _ = (AV.sl z2 f3 e4)) ?_
  refine AOps.pureR rfl rfl rfl rfl rfl (len_eq h5) ?_
  refine AOps.pureR rfl rfl rfl rfl rfl (rfl : _ = (AV.sl z7 f8 e9)) ?_
  refine AOps.pureR rfl rfl rfl rfl rfl (len_eq h10) ?_
  refine AOps.pureR rfl rfl rfl rfl rfl (rfl : _ = (AV.bool ((a1.length : Int) != (b6.length : Int)))) ?_
  refine AOps.nilR ?_
  rcases oite h with ⟨hc11, h⟩ | ⟨hc11, h⟩
  · refine AW.condT (congrArg AV.bool hc11) ?_
    refine AW.seq ?_
    refine AW.region ?_
    refine AOps.pureR rfl rfl rfl rfl rfl (rfl : _ = (AV.bool false)) ?_
    refine AOps.nilR ?_
    cases h
    exact AW.ret ⟨rfl, _, _, rfl, rfl⟩
  refine AW.condF (congrArg AV.bool hc11) ?_
  refine AW.skip ?_
  refine AW.seq ?_
  refine AW.seq ?_
  refine AW.region ?_
  refine AOps.pureR rfl rfl rfl rfl rfl (rfl : _ = (AV.int .i64 0)) ?_
  refine AOps.nilR ?_
  refine AW.meet (σ := Unit) (fun _ tm os => ⟨updL tm [], updL os [], { s with lo := s.n }⟩) (fun _ => laws_eqPushSS_J1 = some r) ?_ ?_
  · rintro _ tm os h
    unfold laws_eqPushSS_J1 at h
    refine AW.seq ?_
    refine AW.region ?_
    refine AOps.pureR rfl rfl rfl rfl rfl (rfl : _ = (AV.bool true)) ?_
    refine AOps.nilR ?_
    cases h
    exact AW.ret ⟨rfl, _, _, rfl, rfl⟩
  intro KJ12
  refine AW.block ?_
  refine AW.res [(0, (AV.sl z2 f3 e4)), (1, (AV.sl z7 f8 e9)), (5, (AV.int .i64 0))] [] ⟨rfl, rfl, rfl, trivial⟩ trivial ?_
  refine AW.loopF (σ := Int) (τ := Unit) (fun i13 _ => True) (fun i13 _ tm os => ⟨updL tm [(0, (AV.sl z2 f3 e4)), (1, (AV.sl z7 f8 e9)), (5, (AV.int .i64 i13))], updL os [], { s with lo := s.n }⟩) ?_ (x := (0)) (y := ()) h trivial
  clear h
  rintro i13 _ tm os - e1 h hL1 hR1
  unfold laws_eqPushSS_S1 at h
  refine AW.seq ?_
  refine AW.seq ?_
  refine AW.region ?_
  refine AOps.pureR rfl rfl rfl rfl rfl (rfl : _ = (AV.int .i64 i13)) ?_
  refine AOps.pureR rfl rfl rfl rfl rfl (rfl : _ = (AV.sl z2 f3 e4)) ?_
  refine AOps.pureR rfl rfl rfl rfl rfl (len_eq h5) ?_
  refine AOps.pureR rfl rfl rfl rfl rfl (rfl : _ = (AV.bool (decide ((i13 : Int) < (a1.length : Int))))) ?_
  refine AOps.nilR ?_
  rcases oite h with ⟨hc14, h⟩ | ⟨hc14, h⟩
  · refine AW.condT (congrArg AV.bool hc14) ?_
    refine AW.skip ?_
    refine AW.seq ?_
    refine AW.block ?_
    refine AW.seq ?_
    refine AW.region ?_
    refine AOps.pureR rfl rfl rfl rfl rfl (rfl : _ = (AV.sl z2 f3 e4)) ?_
    refine AOps.pureR rfl rfl rfl rfl rfl (rfl : _ = (AV.int .i64 i13)) ?_
    obtain ⟨x15, h16, h⟩ := obind h
    obtain ⟨v19, h17, h18⟩ := idx_sl h5 h16
    obtain ⟨z20, f21, e22, rfl, h23⟩ := h17
    refine AOps.pureR rfl rfl rfl h18 rfl (rfl : _ = (AV.eptr [(AV.sl z20 f21 e22)] 0)) ?_
    refine AOps.ldE (v := (AV.sl z20 f21 e22)) rfl rfl rfl rfl rfl rfl ?_
    refine AOps.pureR rfl rfl rfl rfl rfl (rfl : _ = (AV.sl z7 f8 e9)) ?_
    refine AOps.pureR rfl rfl rfl rfl rfl (rfl : _ = (AV.int .i64 i13)) ?_
    obtain ⟨x24, h25, h⟩ := obind h
    obtain ⟨v28, h26, h27⟩ := idx_sl h10 h25
    obtain ⟨z29, f30, e31, rfl, h32⟩ := h26
    refine AOps.pureR rfl rfl rfl h27 rfl (rfl : _ = (AV.eptr [(AV.sl z29 f30 e31)] 0)) ?_
    refine AOps.ldE (v := (AV.sl z29 f30 e31)) rfl rfl rfl rfl rfl rfl ?_
    obtain ⟨y33, h34, h⟩ := obind h
    refine AOps.lendD (g := 189) (args := [(AV.sl z20 f21 e22), (AV.sl z29 f30 e31)]) (ps := [(rL rPush 2) x15, (rL rPush 2) x24]) (p := (rB) y33) rfl rfl rfl rfl rfl rfl rfl (.cons (Fin.of (p := (rL rPush 2) x15) (.L fun _ => (.A (.cons .I (.cons .I .nil)))) (⟨_, _, _, rfl, h23⟩)) (.cons (Fin.of (p := (rL rPush 2) x24) (.L fun _ => (.A (.cons .I (.cons .I .nil)))) (⟨_, _, _, rfl, h32⟩)) .nil)) (fun args' hc => by obtain ⟨_, _, rfl, hv0, hd0⟩ := Cs_cons hc; obtain ⟨z35, f36, e37, rfl, h38⟩ := hv0; obtain ⟨_, _, rfl, hv1, hd1⟩ := Cs_cons hd0; obtain ⟨z39, f40, e41, rfl, h42⟩ := hv1; cases Cs_nil hd1; exact laws_eqPushS_okN h38 h42 h34 WF.blind) (fun v n hv => by cases hv; rfl) (fun v hv => Nice.pure (k := FINK) (p := (rB) y33) .B _ v hv) ?_
    intro _ h43
    cases h43
    refine AOps.pureR rfl rfl rfl rfl rfl (rfl : _ = (AV.bool (!y33))) ?_
    refine AOps.nilR ?_
    rcases oite h with ⟨hc44, h⟩ | ⟨hc44, h⟩
    · refine AW.condT (congrArg AV.bool hc44) ?_
      refine AW.seq ?_
      refine AW.region ?_
      refine AOps.pureR rfl rfl rfl rfl rfl (rfl : _ = (AV.bool false)) ?_
      refine AOps.nilR ?_
      cases h
      have hr := hR1 _ rfl
      subst hr
      exact AW.ret ⟨rfl, _, _, rfl, rfl⟩
    refine AW.condF (congrArg AV.bool hc44) ?_
    refine AW.skip ?_
    refine AW.inBlock ?_
    refine AW.region ?_
    refine AOps.pureR rfl rfl rfl rfl rfl (rfl : _ = (AV.int .i64 i13)) ?_
    refine AOps.pureR rfl rfl rfl rfl rfl (rfl : _ = (AV.int .i64 (IntKind.wrap .i64 (i13 + 1)))) ?_
    refine AOps.assignR rfl rfl rfl (rfl : _ = (AV.int .i64 (IntKind.wrap .i64 (i13 + 1)))) rfl ?_
    refine AOps.nilR ?_
    cases h
    exact AW.res [(0, (AV.sl z2 f3 e4)), (1, (AV.sl z7 f8 e9)), (5, (AV.int .i64 (IntKind.wrap .i64 (i13 + 1))))] [] ⟨rfl, rfl, rfl, trivial⟩ trivial (hL1 _ rfl () _ _ trivial)
  refine AW.condF (congrArg AV.bool hc14) ?_
  refine AW.exit rfl ?_
  obtain ⟨r45, hm, hx⟩ := omap h
  clear h
  subst hx
  have hx := hR1 _ rfl
  rw [hx] at hm
  have h := hm
  exact AW.res [] [] trivial trivial (KJ12 () _ _ h)
theorem laws_eqInt64SS_okN {a1 : List (List Int)} {b6 : List (List Int)} {z2 : Nat} {f3 : Bool} {e4 : List AV} {z7 : Nat} {f8 : Bool} {e9 : List AV} {s : St} (h5 : LR (rL (rI .i64) 1) 1 a1 z2 e4) (h10 : LR (rL (rI .i64) 1) 1 b6 z7 e9) {r : Bool} (h : laws_eqInt64SS a1 b6 = some r) (hs : WF s) : ACallN Cf 49 [(AV.sl z2 f3 e4), (AV.sl z7 f8 e9)] s fun v _ s' => (rB) r v ∧ s' = s := by
  refine ACallN.pure rfl rfl rfl .B ?_
  have hWF := hs.lo'
  unfold laws_eqInt64SS at h
  refine AW.seq ?_
  refine AW.region ?_
  refine AOps.pureR rfl rfl rfl rfl rfl (rfl : _ = (AV.bool false)) ?_
  refine AOps.nilR ?_
  refine AW.seq ?_
  refine AW.seq ?_
  refine AW.region ?_
  refine AOps.pureR rfl rfl rfl rfl rfl (rfl : _ = (AV.sl z2 f3 e4)) ?_
  refine AOps.pureR rfl rfl rfl rfl rfl (len_eq h5) ?_
  refine AOps.pureR rfl rfl rfl rfl rfl (rfl : _ = (AV.sl z7 f8 e9)) ?_
  refine AOps.pureR rfl rfl rfl rfl rfl (len_eq h10) ?_
  refine AOps.pureR rfl rfl rfl rfl rfl (rfl : _ = (AV.bool ((a1.length : Int) != (b6.length : Int)))) ?_
  refine AOps.nilR ?_
  rcases oite h with ⟨hc11, h⟩ | ⟨hc11, h⟩
  · refine AW.condT (congrArg AV.bool hc11) ?_
    refine AW.seq ?_
    refine AW.region ?_
    refine AOps.pureR rfl rfl rfl rfl rfl (rfl : _ = (AV.bool false)) ?_
    refine AOps.nilR ?_
    cases h
    exact AW.ret ⟨rfl, _, _, rfl, rfl⟩
  refine AW.condF (congrArg AV.bool hc11) ?_
  refine AW.skip ?_
  refine AW.seq ?_
  refine AW.seq ?_
  refine AW.region ?_
  refine AOps.pureR rfl rfl rfl rfl rfl (rfl : _ = (AV.int .i64 0)) ?_
  refine AOps.nilR ?_
  refine AW.meet (σ := Unit) (fun _ tm os => ⟨updL tm [], updL os [], { s with lo := s.n }⟩) (fun _ => laws_eqInt64SS_J1 = some r) ?_ ?_
  · rintro _ tm os h
    unfold laws_eqInt64SS_J1 at h
    refine AW.seq ?_
    refine AW.region ?_
    refine AOps.pureR rfl rfl rfl rfl rfl (rfl : _ = (AV.bool true)) ?_
    refine AOps.nilR ?_
    cases h
    exact AW.ret ⟨rfl, _, _, rfl, rfl⟩
  intro KJ12
  refine AW.block ?_
  refine AW.res [(0, (AV.sl z2 f3 e4)), (1, (AV.sl z7 f8 e9)), (5, (AV.int .i64 0))] [] ⟨rfl, rfl, rfl, trivial⟩ trivial ?_
  refine AW.loopF (σ := Int) (τ := Unit) (fun i13 _ => True) (fun i13 _ tm os => ⟨updL tm [(0, (AV.sl z2 f3 e4)), (1, (AV.sl z7 f8 e9)), (5, (AV.int .i64 i13))], updL os [], { s with lo := s.n }⟩) ?_ (x := (0)) (y := ()) h trivial
  clear h
  rintro i13 _ tm os - e1 h hL1 hR1
  unfold laws_eqInt64SS_S1 at h
  refine AW.seq ?_
  refine AW.seq ?_
  refine AW.region ?_
  refine AOps.pureR rfl rfl rfl rfl rfl (rfl : _ = (AV.int .i64 i13)) ?_
  refine AOps.pureR rfl rfl rfl rfl rfl (rfl : _ = (AV.sl z2 f3 e4)) ?_
  refine AOps.pureR rfl rfl rfl rfl rfl (len_eq h5) ?_
  refine AOps.pureR rfl rfl rfl rfl rfl (rfl : _ = (AV.bool (decide ((i13 : Int) < (a1.length : Int))))) ?_
  refine AOps.nilR ?_
  rcases oite h with ⟨hc14, h⟩ | ⟨hc14, h⟩
  · refine AW.condT (congrArg AV.bool hc14) ?_
    refine AW.skip ?_
    refine AW.seq ?_
    refine AW.block ?_
    refine AW.seq ?_
    refine AW.region ?_
    refine AOps.pureR rfl rfl rfl rfl rfl (rfl : _ = (AV.sl z2 f3 e4)) ?_
    refine AOps.pureR rfl rfl rfl rfl rfl (rfl : _ = (AV.int .i64 i13)) ?_
    obtain ⟨x15, h16, h⟩ := obind h
    obtain ⟨v19, h17, h18⟩ := idx_sl h5 h16
    obtain ⟨z20, f21, e22, rfl, h23⟩ := h17
    refine AOps.pureR rfl rfl rfl h18 rfl (rfl : _ = (AV.eptr [(AV.sl z20 f21 e22)] 0)) ?_
    refine AOps.ldE (v := (AV.sl z20 f21 e22)) rfl rfl rfl rfl rfl rfl ?_
    refine AOps.pureR rfl rfl rfl rfl rfl (rfl : _ = (AV.sl z7 f8 e9)) ?_
    refine AOps.pureR rfl rfl rfl rfl rfl (rfl : _ = (AV.int .i64 i13)) ?_
    obtain ⟨x24, h25, h⟩ := obind h
    obtain ⟨v28, h26, h27⟩ := idx_sl h10 h25
    obtain ⟨z29, f30, e31, rfl, h32⟩ := h26
    refine AOps.pureR rfl rfl rfl h27 rfl (rfl : _ = (AV.eptr [(AV.sl z29 f30 e31)] 0)) ?_
    refine AOps.ldE (v := (AV.sl z29 f30 e31)) rfl rfl rfl rfl rfl rfl ?_
    obtain ⟨y33, h34, h⟩ := obind h
    refine AOps.lendD (g := 17) (args := [(AV.sl z20 f21 e22), (AV.sl z29 f30 e31)]) (ps := [(rL (rI .i64) 1) x15, (rL (rI .i64) 1) x24]) (p := (rB) y33) rfl rfl rfl rfl rfl rfl rfl (.cons (Fin.of (p := (rL (rI .i64) 1) x15) (.L fun _ => .I) (⟨_, _, _, rfl, h23⟩)) (.cons (Fin.of (p := (rL (rI .i64) 1) x24) (.L fun _ => .I) (⟨_, _, _, rfl, h32⟩)) .nil)) (fun args' hc => by obtain ⟨_, _, rfl, hv0, hd0⟩ := Cs_cons hc; obtain ⟨z35, f36, e37, rfl, h38⟩ := hv0; obtain ⟨_, _, rfl, hv1, hd1⟩ := Cs_cons hd0; obtain ⟨z39, f40, e41, rfl, h42⟩ := hv1; cases Cs_nil hd1; exact laws_eqInt64S_okN h38 h42 h34 WF.blind) (fun v n hv => by cases hv; rfl) (fun v hv => Nice.pure (k := FINK) (p := (rB) y33) .B _ v hv) ?_
    intro _ h43
    cases h43
    refine AOps.pureR rfl rfl rfl rfl rfl (rfl : _ = (AV.bool (!y33))) ?_
    refine AOps.nilR ?_
    rcases oite h with ⟨hc44, h⟩ | ⟨hc44, h⟩
    · refine AW.condT (congrArg AV.bool hc44) ?_
      refine AW.seq ?_
      refine AW.region ?_
      refine AOps.pureR rfl rfl rfl rfl rfl (rfl : _ = (AV.bool false)) ?_
      refine AOps.nilR ?_
      cases h
      have hr := hR1 _ rfl
      subst hr
      exact AW.ret ⟨rfl, _, _, rfl, rfl⟩
    refine AW.condF (congrArg AV.bool hc44) ?_
    refine AW.skip ?_
    refine AW.inBlock ?_
    refine AW.region ?_
    refine AOps.pureR rfl rfl rfl rfl rfl (rfl : _ = (AV.int .i64 i13)) ?_
    refine AOps.pureR rfl rfl rfl rfl rfl (rfl : _ = (AV.int .i64 (IntKind.wrap .i64 (i13 + 1)))) ?_
    refine AOps.assignR rfl rfl rfl (rfl : _ = (AV.int .i64 (IntKind.wrap .i64 (i13 + 1)))) rfl ?_
    refine AOps.nilR ?_
    cases h
    exact AW.res [(0, (AV.sl z2 f3 e4)), (1, (AV.sl z7 f8 e9)), (5, (AV.int .i64 (IntKind.wrap .i64 (i13 + 1))))] [] ⟨rfl, rfl, rfl, trivial⟩ trivial (hL1 _ rfl () _ _ trivial)
  refine AW.condF (congrArg AV.bool hc14) ?_
  refine AW.exit rfl ?_
  obtain ⟨r45, hm, hx⟩ := omap h
  clear h
  subst hx
  have hx := hR1 _ rfl
  rw [hx] at hm
  have h := hm
  exact AW.res [] [] trivial trivial (KJ12 () _ _ h)
theorem laws_eqInt64SSS_okN {a1 : List (List (List Int))} {b6 : List (List (List Int))} {z2 : Nat} {f3 : Bool} {e4 : List AV} {z7 : Nat} {f8 : Bool} {e9 : List AV} {s : St} (h5 : LR (rL (rL (rI .i64) 1) 1) 1 a1 z2 e4) (h10 : LR (rL (rL (rI .i64) 1) 1) 1 b6 z7 e9) {r : Bool} (h : laws_eqInt64SSS a1 b6 = some r) (hs : WF s) : ACallN Cf 96 [(AV.sl z2 f3 e4), (AV.sl z7 f8 e9)] s fun v _ s' => (rB) r v ∧ s' = s := by
  refine ACallN.pure rfl rfl rfl .B ?_
  have hWF := hs.lo'
  unfold laws_eqInt64SSS at h
  refine AW.seq ?_
  refine AW.region ?_
  refine AOps.pureR rfl rfl rfl rfl rfl (rfl : _ = (AV.bool false)) ?_
  refine AOps.nilR ?_
  refine AW.seq ?_
  refine AW.seq ?_
  refine AW.region ?_
  refine AOps.pureR rfl rfl rfl rfl rfl (rfl : _ = (AV.sl z2 f3 e4)) ?_
  refine AOps.pureR rfl rfl rfl rfl rfl (len_eq h5) ?_
  refine AOps.pureR rfl rfl rfl rfl rfl (rfl : _ = (AV.sl z7 f8 e9)) ?_
  refine AOps.pureR rfl rfl rfl rfl rfl (len_eq h10) ?_
  refine AOps.pureR rfl rfl rfl rfl rfl (rfl : _ = (AV.bool ((a1.length : Int) != (b6.length : Int)))) ?_
  refine AOps.nilR ?_
  rcases oite h with ⟨hc11, h⟩ | ⟨hc11, h⟩
  · refine AW.condT (congrArg AV.bool hc11) ?_
    refine AW.seq ?_
    refine AW.region ?_
    refine AOps.pureR rfl rfl rfl rfl rfl (rfl : _ = (AV.bool false)) ?_
    refine AOps.nilR ?_
    cases h
    exact AW.ret ⟨rfl, _, _, rfl, rfl⟩
  refine AW.condF (congrArg AV.bool hc11) ?_
  refine AW.skip ?_
  refine AW.seq ?_
  refine AW.seq ?_
  refine AW.region ?_
  refine AOps.pureR rfl rfl rfl rfl rfl (rfl : _ = (AV.int .i64 0)) ?_
  refine AOps.nilR ?_
  refine AW.meet (σ := Unit) (fun _ tm os => ⟨updL tm [], updL os [], { s with lo := s.n }⟩) (fun _ => laws_eqInt64SSS_J1 = some r) ?_ ?_
  · rintro _ tm os h
    unfold laws_eqInt64SSS_J1 at h
    refine AW.seq ?_
    refine AW.region ?_
    refine AOps.pureR rfl rfl rfl rfl rfl (rfl : _ = (AV.bool true)) ?_
    refine AOps.nilR ?_
    cases h
    exact AW.ret ⟨rfl, _, _, rfl, rfl⟩
  intro KJ12
  refine AW.block ?_
  refine AW.res [(0, (AV.sl z2 f3 e4)), (1, (AV.sl z7 f8 e9)), (5, (AV.int .i64 0))] [] ⟨rfl, rfl, rfl, trivial⟩ trivial ?_
  refine AW.loopF (σ := Int) (τ := Unit) (fun i13 _ => True) (fun i13 _ tm os => ⟨updL tm [(0, (AV.sl z2 f3 e4)), (1, (AV.sl z7 f8 e9)), (5, (AV.int .i64 i13))], updL os [], { s with lo := s.n }⟩) ?_ (x := (0)) (y := ()) h trivial
  clear h
  rintro i13 _ tm os - e1 h hL1 hR1
  unfold laws_eqInt64SSS_S1 at h
  refine AW.seq ?_
  refine AW.seq ?_
  refine AW.region ?_
  refine AOps.pureR rfl rfl rfl rfl rfl (rfl : _ = (AV.int .i64 i13)) ?_
  refine AOps.pureR rfl rfl rfl rfl rfl (rfl : _ = (AV.sl z2 f3 e4)) ?_
  refine AOps.pureR rfl rfl rfl rfl rfl (len_eq h5) ?_
  refine AOps.pureR rfl rfl rfl rfl rfl (rfl : _ = (AV.bool (decide ((i13 : Int) < (a1.length : Int))))) ?_
  refine AOps.nilR ?_
  rcases oite h with ⟨hc14, h⟩ | ⟨hc14, h⟩
  · refine AW.condT (congrArg AV.bool hc14) ?_
    refine AW.skip ?_
    refine AW.seq ?_
    refine AW.block ?_
    refine AW.seq ?_
    refine AW.region ?_
    refine AOps.pureR rfl rfl rfl rfl rfl (rfl : _ = (AV.sl z2 f3 e4)) ?_
    refine AOps.pureR rfl rfl rfl rfl rfl (rfl : _ = (AV.int .i64 i13)) ?_
    obtain ⟨x15, h16, h⟩ := obind h
    obtain ⟨v19, h17, h18⟩ := idx_sl h5 h16
    obtain ⟨z20, f21, e22, rfl, h23⟩ := h17
    refine AOps.pureR rfl rfl rfl h18 rfl (rfl : _ = (AV.eptr [(AV.sl z20 f21 e22)] 0)) ?_
    refine AOps.ldE (v := (AV.sl z20 f21 e22)) rfl rfl rfl rfl rfl rfl ?_
    refine AOps.pureR rfl rfl rfl rfl rfl (rfl : _ = (AV.sl z7 f8 e9)) ?_
    refine AOps.pureR rfl rfl rfl rfl rfl (rfl : _ = (AV.int .i64 i13)) ?_
    obtain ⟨x24, h25, h⟩ := obind h
    obtain ⟨v28, h26, h27⟩ := idx_sl h10 h25
    obtain ⟨z29, f30, e31, rfl, h32⟩ := h26
    refine AOps.pureR rfl rfl rfl h27 rfl (rfl : _ = (AV.eptr [(AV.sl z29 f30 e31)] 0)) ?_
    refine AOps.ldE (v := (AV.sl z29 f30 e31)) rfl rfl rfl rfl rfl rfl ?_
    obtain ⟨y33, h34, h⟩ := obind h
    refine AOps.lendD (g := 49) (args := [(AV.sl z20 f21 e22), (AV.sl z29 f30 e31)]) (ps := [(rL (rL (rI .i64) 1) 1) x15, (rL (rL (rI .i64) 1) 1) x24]) (p := (rB) y33) rfl rfl rfl rfl rfl rfl rfl (.cons (Fin.of (p := (rL (rL (rI .i64) 1) 1) x15) (.L fun _ => (.L fun _ => .I)) (⟨_, _, _, rfl, h23⟩)) (.cons (Fin.of (p := (rL (rL (rI .i64) 1) 1) x24) (.L fun _ => (.L fun _ => .I)) (⟨_, _, _, rfl, h32⟩)) .nil)) (fun args' hc => by obtain ⟨_, _, rfl, hv0, hd0⟩ := Cs_cons hc; obtain ⟨z35, f36, e37, rfl, h38⟩ := hv0; obtain ⟨_, _, rfl, hv1, hd1⟩ := Cs_cons hd0; obtain ⟨z39, f40, e41, rfl, h42⟩ := hv1; cases Cs_nil hd1; exact laws_eqInt64SS_okN h38 h42 h34 WF.blind) (fun v n hv => by cases hv; rfl) (fun v hv => Nice.pure (k := FINK) (p := (rB) y33) .B _ v hv) ?_
    intro _ h43
    cases h43
    refine AOps.pureR rfl rfl rfl rfl rfl (rfl : _ = (AV.bool (!y33))) ?_
    refine AOps.nilR ?_
    rcases oite h with ⟨hc44, h⟩ | ⟨hc44, h⟩
    · refine AW.condT (congrArg AV.bool hc44) ?_
      refine AW.seq ?_
      refine AW.region ?_
      refine AOps.pureR rfl rfl rfl rfl rfl (rfl : _ = (AV.bool false)) ?_
      refine AOps.nilR ?_
      cases h
      have hr := hR1 _ rfl
      subst hr
      exact AW.ret ⟨rfl, _, _, rfl, rfl⟩
    refine AW.condF (congrArg AV.bool hc44) ?_
    refine AW.skip ?_
    refine AW.inBlock ?_
    refine AW.region ?_
    refine AOps.pureR rfl rfl rfl rfl rfl (rfl : _ = (AV.int .i64 i13)) ?_
    refine AOps.pureR rfl rfl rfl rfl rfl (rfl : _ = (AV.int .i64 (IntKind.wrap .i64 (i13 + 1)))) ?_
    refine AOps.assignR rfl rfl rfl (rfl : _ = (AV.int .i64 (IntKind.wrap .i64 (i13 + 1)))) rfl ?_
    refine AOps.nilR ?_
    cases h
    exact AW.res [(0, (AV.sl z2 f3 e4)), (1, (AV.sl z7 f8 e9)), (5, (AV.int .i64 (IntKind.wrap .i64 (i13 + 1))))] [] ⟨rfl, rfl, rfl, trivial⟩ trivial (hL1 _ rfl () _ _ trivial)
  refine AW.condF (congrArg AV.bool hc14) ?_
  refine AW.exit rfl ?_
  obtain ⟨r45, hm, hx⟩ := omap h
  clear h
  subst hx
  have hx := hR1 _ rfl
  rw [hx] at hm
  have h := hm
  exact AW.res [] [] trivial trivial (KJ12 () _ _ h)
theorem laws_eqChecker_okN {a1 : Checker} {b18 : Checker} {z2 : Nat} {f3 : Bool} {e4 : List AV} {z6 : Nat} {f7 : Bool} {e8 : List AV} {z10 : Nat} {f11 : Bool} {e12 : List AV} {z14 : Nat} {f15 : Bool} {e16 : List AV} {z19 : Nat} {f20 : Bool} {e21 : List AV} {z23 : Nat} {f24 : Bool} {e25 : List AV} {z27 : Nat} {f28 : Bool} {e29 : List AV} {z31 : Nat} {f32 : Bool} {e33 : List AV} {s : St} (h5 : LR rB 1 a1.Accept z2 e4) (h9 : LR (rL rPush 2) 1 a1.Call z6 e8) (h13 : LR (rL (rL (rI .i64) 1) 1) 1 a1.Return z10 e12) (h17 : LR (rL (rI .i64) 1) 1 a1.Inner z14 e16) (h22 : LR rB 1 b18.Accept z19 e21) (h26 : LR (rL rPush 2) 1 b18.Call z23 e25) (h30 : LR (rL (rL (rI .i64) 1) 1) 1 b18.Return z27 e29) (h34 : LR (rL (rI .i64) 1) 1 b18.Inner z31 e33) {r : Bool} (h : laws_eqChecker a1 b18 = some r) (hs : WF s) : ACallN Cf 28 [(AV.agg [(AV.int .i64 a1.Stack), (AV.int .i64 a1.Start), (AV.sl z2 f3 e4), (AV.sl z6 f7 e8), (AV.sl z10 f11 e12), (AV.sl z14 f15 e16)]), (AV.agg [(AV.int .i64 b18.Stack), (AV.int .i64 b18.Start), (AV.sl z19 f20 e21), (AV.sl z23 f24 e25), (AV.sl z27 f28 e29), (AV.sl z31 f32 e33)])] s fun v _ s' => (rB) r v ∧ s' = s := by
  refine ACallN.pure rfl rfl rfl .B ?_
  have hWF := hs.lo'
  unfold laws_eqChecker at h
  refine AW.seq ?_
  refine AW.region ?_
  refine AOps.makeR rfl rfl rfl rfl rfl rfl (rfl : _ = (AV.eptr [(AV.int .i64 a1.Stack), (AV.int .i64 a1.Start), (AV.sl z2 f3 e4), (AV.sl z6 f7 e8), (AV.sl z10 f11 e12), (AV.sl z14 f15 e16)] 0)) ?_
  refine AOps.makeR rfl rfl rfl rfl rfl rfl (rfl : _ = (AV.eptr [(AV.int .i64 b18.Stack), (AV.int .i64 b18.Start), (AV.sl z19 f20 e21), (AV.sl z23 f24 e25), (AV.sl z27 f28 e29), (AV.sl z31 f32 e33)] 0)) ?_
  refine AOps.pureR rfl rfl rfl rfl rfl (rfl : _ = (AV.bool false)) ?_
  refine AOps.nilR ?_
  refine AW.seq ?_
  refine AW.seq ?_
  refine AW.region ?_
  refine AOps.pureR rfl rfl rfl rfl rfl (rfl : _ = (AV.eptr [(AV.int .i64 a1.Stack), (AV.int .i64 a1.Start), (AV.sl z2 f3 e4), (AV.sl z6 f7 e8), (AV.sl z10 f11 e12), (AV.sl z14 f15 e16)] 0)) ?_
  refine AOps.ldE (v := (AV.int .i64 a1.Stack)) rfl rfl rfl rfl rfl rfl ?_
  refine AOps.pureR rfl rfl rfl rfl rfl (rfl : _ = (AV.eptr [(AV.int .i64 b18.Stack), (AV.int .i64 b18.Start), (AV.sl z19 f20 e21), (AV.sl z23 f24 e25), (AV.sl z27 f28 e29), (AV.sl z31 f32 e33)] 0)) ?_
  refine AOps.ldE (v := (AV.int .i64 b18.Stack)) rfl rfl rfl rfl rfl rfl ?_
  refine AOps.pureR rfl rfl rfl rfl rfl (rfl : _ = (AV.bool (a1.Stack != b18.Stack))) ?_
  refine AOps.nilR ?_
  rcases oite h with ⟨hc35, h⟩ | ⟨hc35, h⟩
  · refine AW.condT (congrArg AV.bool hc35) ?_
    refine AW.seq ?_
    refine AW.region ?_
    refine AOps.pureR rfl rfl rfl rfl rfl (rfl : _ = (AV.bool false)) ?_
    refine AOps.nilR ?_
    cases h
    exact AW.ret ⟨rfl, _, _, rfl, rfl⟩
  refine AW.condF (congrArg AV.bool hc35) ?_
  refine AW.skip ?_
  refine AW.seq ?_
  refine AW.seq ?_
  refine AW.region ?_
  refine AOps.pureR rfl rfl rfl rfl rfl (rfl : _ = (AV.eptr [(AV.int .i64 a1.Stack), (AV.int .i64 a1.Start), (AV.sl z2 f3 e4), (AV.sl z6 f7 e8), (AV.sl z10 f11 e12), (AV.sl z14 f15 e16)] 1)) ?_
  refine AOps.ldE (v := (AV.int .i64 a1.Start)) rfl rfl rfl rfl rfl rfl ?_
  refine AOps.pureR rfl rfl rfl rfl rfl (rfl : _ = (AV.eptr [(AV.int .i64 b18.Stack), (AV.int .i64 b18.Start), (AV.sl z19 f20 e21), (AV.sl z23 f24 e25), (AV.sl z27 f28 e29), (AV.sl z31 f32 e33)] 1)) ?_
  refine AOps.ldE (v := (AV.int .i64 b18.Start)) rfl rfl rfl rfl rfl rfl ?_
  refine AOps.pureR rfl rfl rfl rfl rfl (rfl : _ = (AV.bool (a1.Start != b18.Start))) ?_
  refine AOps.nilR ?_
  rcases oite h with ⟨hc36, h⟩ | ⟨hc36, h⟩
  · refine AW.condT (congrArg AV.bool hc36) ?_
    refine AW.seq ?_
    refine AW.region ?_
    refine AOps.pureR rfl rfl rfl rfl rfl (rfl : _ = (AV.bool false)) ?_
    refine AOps.nilR ?_
    cases h
    exact AW.ret ⟨rfl, _, _, rfl, rfl⟩
  refine AW.condF (congrArg AV.bool hc36) ?_
  refine AW.skip ?_
  refine AW.seq ?_
  refine AW.seq ?_
  refine AW.region ?_
  refine AOps.pureR rfl rfl rfl rfl rfl (rfl : _ = (AV.eptr [(AV.int .i64 a1.Stack), (AV.int .i64 a1.Start), (AV.sl z2 f3 e4), (AV.sl z6 f7 e8), (AV.sl z10 f11 e12), (AV.sl z14 f15 e16)] 2)) ?_
  refine AOps.ldE (v := (AV.sl z2 f3 e4)) rfl rfl rfl rfl rfl rfl ?_
  refine AOps.pureR rfl rfl rfl rfl rfl (rfl : _ = (AV.eptr [(AV.int .i64 b18.Stack), (AV.int .i64 b18.Start), (AV.sl z19 f20 e21), (AV.sl z23 f24 e25), (AV.sl z27 f28 e29), (AV.sl z31 f32 e33)] 2)) ?_
  refine AOps.ldE (v := (AV.sl z19 f20 e21)) rfl rfl rfl rfl rfl rfl ?_
  obtain ⟨y37, h38, h⟩ := obind h
  refine AOps.lendP (g := 94) (args := [(AV.sl z2 f3 e4), (AV.sl z19 f20 e21)]) (ps := [(rL rB 1) a1.Accept, (rL rB 1) b18.Accept]) (p := (rB) y37) rfl rfl rfl rfl rfl rfl rfl (.cons (Fin.of (p := (rL rB 1) a1.Accept) (.L fun _ => .B) (⟨_, _, _, rfl, h5⟩)) (.cons (Fin.of (p := (rL rB 1) b18.Accept) (.L fun _ => .B) (⟨_, _, _, rfl, h22⟩)) .nil)) (fun args' hc => by obtain ⟨_, _, rfl, hv0, hd0⟩ := Cs_cons hc; obtain ⟨z39, f40, e41, rfl, h42⟩ := hv0; obtain ⟨_, _, rfl, hv1, hd1⟩ := Cs_cons hd0; obtain ⟨z43, f44, e45, rfl, h46⟩ := hv1; cases Cs_nil hd1; exact laws_eqBoolS_okN h42 h46 h38 WF.blind) (fun v n hv => by cases hv; rfl) ?_
  intro _ h47
  cases h47
  refine AOps.pureR rfl rfl rfl rfl rfl (rfl : _ = (AV.bool (!y37))) ?_
  refine AOps.nilR ?_
  rcases oite h with ⟨hc48, h⟩ | ⟨hc48, h⟩
  · refine AW.condT (congrArg AV.bool hc48) ?_
    refine AW.seq ?_
    refine AW.region ?_
    refine AOps.pureR rfl rfl rfl rfl rfl (rfl : _ = (AV.bool false)) ?_
    refine AOps.nilR ?_
    cases h
    exact AW.ret ⟨rfl, _, _, rfl, rfl⟩
  refine AW.condF (congrArg AV.bool hc48) ?_
  refine AW.skip ?_
  refine AW.seq ?_
  refine AW.seq ?_
  refine AW.region ?_
  refine AOps.pureR rfl rfl rfl rfl rfl (rfl : _ = (AV.eptr [(AV.int .i64 a1.Stack), (AV.int .i64 a1.Start), (AV.sl z2 f3 e4), (AV.sl z6 f7 e8), (AV.sl z10 f11 e12), (AV.sl z14 f15 e16)] 3)) ?_
  refine AOps.ldE (v := (AV.sl z6 f7 e8)) rfl rfl rfl rfl rfl rfl ?_
  refine AOps.pureR rfl rfl rfl rfl rfl (rfl : _ = (AV.eptr [(AV.int .i64 b18.Stack), (AV.int .i64 b18.Start), (AV.sl z19 f20 e21), (AV.sl z23 f24 e25), (AV.sl z27 f28 e29), (AV.sl z31 f32 e33)] 3)) ?_
  refine AOps.ldE (v := (AV.sl z23 f24 e25)) rfl rfl rfl rfl rfl rfl ?_
  obtain ⟨y49, h50, h⟩ := obind h
  refine AOps.lendP (g := 95) (args := [(AV.sl z6 f7 e8), (AV.sl z23 f24 e25)]) (ps := [(rL (rL rPush 2) 1) a1.Call, (rL (rL rPush 2) 1) b18.Call]) (p := (rB) y49) rfl rfl rfl rfl rfl rfl rfl (.cons (Fin.of (p := (rL (rL rPush 2) 1) a1.Call) (.L fun _ => (.L fun _ => (.A (.cons .I (.cons .I .nil))))) (⟨_, _, _, rfl, h9⟩)) (.cons (Fin.of (p := (rL (rL rPush 2) 1) b18.Call) (.L fun _ => (.L fun _ => (.A (.cons .I (.cons .I .nil))))) (⟨_, _, _, rfl, h26⟩)) .nil)) (fun args' hc => by obtain ⟨_, _, rfl, hv0, hd0⟩ := Cs_cons hc; obtain ⟨z51, f52, e53, rfl, h54⟩ := hv0; obtain ⟨_, _, rfl, hv1, hd1⟩ := Cs_cons hd0; obtain ⟨z55, f56, e57, rfl, h58⟩ := hv1; cases Cs_nil hd1; exact laws_eqPushSS_okN h54 h58 h50 WF.blind) (fun v n hv => by cases hv; rfl) ?_
  intro _ h59
  cases h59
  refine AOps.pureR rfl rfl rfl rfl rfl (rfl : _ = (AV.bool (!y49))) ?_
  refine AOps.nilR ?_
  rcases oite h with ⟨hc60, h⟩ | ⟨hc60, h⟩
  · refine AW.condT (congrArg AV.bool hc60) ?_
    refine AW.seq ?_
    refine AW.region ?_
    refine AOps.pureR rfl rfl rfl rfl rfl (rfl : _ = (AV.bool false)) ?_
    refine AOps.nilR ?_
    cases h
    exact AW.ret ⟨rfl, _, _, rfl, rfl⟩
  refine AW.condF (congrArg AV.bool hc60) ?_
  refine AW.skip ?_
  refine AW.seq ?_
  refine AW.seq ?_
  refine AW.region ?_
  refine AOps.pureR rfl rfl rfl rfl rfl (rfl : _ = (AV.eptr [(AV.int .i64 a1.Stack), (AV.int .i64 a1.Start), (AV.sl z2 f3 e4), (AV.sl z6 f7 e8), (AV.sl z10 f11 e12), (AV.sl z14 f15 e16)] 4)) ?_
  refine AOps.ldE (v := (AV.sl z10 f11 e12)) rfl rfl rfl rfl rfl rfl ?_
  refine AOps.pureR rfl rfl rfl rfl rfl (rfl : _ = (AV.eptr [(AV.int .i64 b18.Stack), (AV.int .i64 b18.Start), (AV.sl z19 f20 e21), (AV.sl z23 f24 e25), (AV.sl z27 f28 e29), (AV.sl z31 f32 e33)] 4)) ?_
  refine AOps.ldE (v := (AV.sl z27 f28 e29)) rfl rfl rfl rfl rfl rfl ?_
  obtain ⟨y61, h62, h⟩ := obind h
  refine AOps.lendP (g := 96) (args := [(AV.sl z10 f11 e12), (AV.sl z27 f28 e29)]) (ps := [(rL (rL (rL (rI .i64) 1) 1) 1) a1.Return, (rL (rL (rL (rI .i64) 1) 1) 1) b18.Return]) (p := (rB) y61) rfl rfl rfl rfl rfl rfl rfl (.cons (Fin.of (p := (rL (rL (rL (rI .i64) 1) 1) 1) a1.Return) (.L fun _ => (.L fun _ => (.L fun _ => .I))) (⟨_, _, _, rfl, h13⟩)) (.cons (Fin.of (p := (rL (rL (rL (rI .i64) 1) 1) 1) b18.Return) (.L fun _ => (.L fun _ => (.L fun _ => .I))) (⟨_, _, _, rfl, h30⟩)) .nil)) (fun args' hc => by obtain ⟨_, _, rfl, hv0, hd0⟩ := Cs_cons hc; obtain ⟨z63, f64, e65, rfl, h66⟩ := hv0; obtain ⟨_, _, rfl, hv1, hd1⟩ := Cs_cons hd0; obtain ⟨z67, f68, e69, rfl, h70⟩ := hv1; cases Cs_nil hd1; exact laws_eqInt64SSS_okN h66 h70 h62 WF.blind) (fun v n hv => by cases hv; rfl) ?_
  intro _ h71
  cases h71
  refine AOps.pureR rfl rfl rfl rfl rfl (rfl : _ = (AV.bool (!y61))) ?_
  refine AOps.nilR ?_
  rcases oite h with ⟨hc72, h⟩ | ⟨hc72, h⟩
  · refine AW.condT (congrArg AV.bool hc72) ?_
    refine AW.seq ?_
    refine AW.region ?_
    refine AOps.pureR rfl rfl rfl rfl rfl (rfl : _ = (AV.bool false)) ?_
    refine AOps.nilR ?_
    cases h
    exact AW.ret ⟨rfl, _, _, rfl, rfl⟩
  refine AW.condF (congrArg AV.bool hc72) ?_
  refine AW.skip ?_
  refine AW.seq ?_
  refine AW.seq ?_
  refine AW.region ?_
  refine AOps.pureR rfl rfl rfl rfl rfl (rfl : _ = (AV.eptr [(AV.int .i64 a1.Stack), (AV.int .i64 a1.Start), (AV.sl z2 f3 e4), (AV.sl z6 f7 e8), (AV.sl z10 f11 e12), (AV.sl z14 f15 e16)] 5)) ?_
  refine AOps.ldE (v := (AV.sl z14 f15 e16)) rfl rfl rfl rfl rfl rfl ?_
  refine AOps.pureR rfl rfl rfl rfl rfl (rfl : _ = (AV.eptr [(AV.int .i64 b18.Stack), (AV.int .i64 b18.Start), (AV.sl z19 f20 e21), (AV.sl z23 f24 e25), (AV.sl z27 f28 e29), (AV.sl z31 f32 e33)] 5)) ?_
  refine AOps.ldE (v := (AV.sl z31 f32 e33)) rfl rfl rfl rfl rfl rfl ?_
  obtain ⟨y73, h74, h⟩ := obind h
  refine AOps.lendP (g := 49) (args := [(AV.sl z14 f15 e16), (AV.sl z31 f32 e33)]) (ps := [(rL (rL (rI .i64) 1) 1) a1.Inner, (rL (rL (rI .i64) 1) 1) b18.Inner]) (p := (rB) y73) rfl rfl rfl rfl rfl rfl rfl (.cons (Fin.of (p := (rL (rL (rI .i64) 1) 1) a1.Inner) (.L fun _ => (.L fun _ => .I)) (⟨_, _, _, rfl, h17⟩)) (.cons (Fin.of (p := (rL (rL (rI .i64) 1) 1) b18.Inner) (.L fun _ => (.L fun _ => .I)) (⟨_, _, _, rfl, h34⟩)) .nil)) (fun args' hc => by obtain ⟨_, _, rfl, hv0, hd0⟩ := Cs_cons hc; obtain ⟨z75, f76, e77, rfl, h78⟩ := hv0; obtain ⟨_, _, rfl, hv1, hd1⟩ := Cs_cons hd0; obtain ⟨z79, f80, e81, rfl, h82⟩ := hv1; cases Cs_nil hd1; exact laws_eqInt64SS_okN h78 h82 h74 WF.blind) (fun v n hv => by cases hv; rfl) ?_
  intro _ h83
  cases h83
  refine AOps.pureR rfl rfl rfl rfl rfl (rfl : _ = (AV.bool (!y73))) ?_
  refine AOps.nilR ?_
  rcases oite h with ⟨hc84, h⟩ | ⟨hc84, h⟩
  · refine AW.condT (congrArg AV.bool hc84) ?_
    refine AW.seq ?_
    refine AW.region ?_
    refine AOps.pureR rfl rfl rfl rfl rfl (rfl : _ = (AV.bool false)) ?_
    refine AOps.nilR ?_
    cases h
    exact AW.ret ⟨rfl, _, _, rfl, rfl⟩
  refine AW.condF (congrArg AV.bool hc84) ?_
  refine AW.skip ?_
  refine AW.seq ?_
  refine AW.region ?_
  refine AOps.pureR rfl rfl rfl rfl rfl (rfl : _ = (AV.bool true)) ?_
  refine AOps.nilR ?_
  cases h
  exact AW.ret ⟨rfl, _, _, rfl, rfl⟩
theorem laws_markBoolS_K10_ok {a4 : List Bool} {k5 : Int} {h1 : AV} {k2 : KT} {s : St} (ho3 : h1.one = true) {ex : List Nat} {Ls0 : List (List BX)} (hH0 : HS ex true s s (([] : List BX) ++ List.flatten Ls0)) (hG0 : AllG [OS oE4 h1 k2 a4] Ls0) (hl : LoOK ex true s) {r : Int × (List Bool)} (h : laws_markBoolS_K10 a4 k5 = some r) (hs : WF s) : ACall Cf 97 [h1, (AV.int .i64 k5)] s (fun v _ s' => ∃ (Ls' : List (List BX)), v = (AV.int .i64 r.1) ∧ HS ex true s s' (([] : List BX) ++ List.flatten Ls') ∧ AllG [OS oE4 h1 k2 r.2] Ls') true := by
  refine ACall.keepR rfl rfl rfl ?_
  unfold laws_markBoolS_K10 at h
  refine AW.seq ?_
  refine AW.region ?_
  refine AOps.pureR rfl rfl rfl rfl rfl (rfl : _ = (AV.int .i64 0)) ?_
  refine AOps.nilR ?_
  refine AW.seq ?_
  refine AW.seq ?_
  refine AW.region ?_
  refine AOps.pureR rfl rfl rfl rfl rfl (rfl : _ = (AV.int .i64 0)) ?_
  refine AOps.nilR ?_
  refine AW.meet (σ := (List Bool) × Int × St × (List (List BX))) (fun (m6, k7, s8, Ls9) tm os => ⟨updL tm [(1, (AV.int .i64 k7))], updL os [], s8⟩) (fun (m6, k7, s8, Ls9) => (HS ex true s s8 (([] : List BX) ++ List.flatten Ls9)) ∧ (AllG [OS oE4 h1 k2 m6] Ls9) ∧ laws_markBoolS_K10_J1 m6 k7 = some r) ?_ ?_
  · rintro ⟨m6, k7, s8, Ls9⟩ tm os ⟨hH10, hG11, h⟩
    unfold laws_markBoolS_K10_J1 at h
    refine AW.seq ?_
    refine AW.region ?_
    refine AOps.pureR rfl rfl rfl rfl rfl (rfl : _ = (AV.int .i64 k7)) ?_
    refine AOps.assignR rfl rfl rfl (rfl : _ = (AV.int .i64 k7)) rfl ?_
    refine AOps.nilR ?_
    cases h
    exact AW.ret ⟨_, _, rfl, ⟨Ls9, rfl, hH10, hG11⟩⟩
  intro KJ12
  refine AW.block ?_
  refine AW.res [(0, h1), (1, (AV.int .i64 k5)), (5, (AV.int .i64 0))] [] ⟨rfl, rfl, rfl, trivial⟩ trivial ?_
  refine AW.loopF (σ := (List Bool) × Int × Int) (τ := St × (List (List BX))) (fun (m13, k14, i15) (s16, Ls17) => (HS ex true s s16 (([] : List BX) ++ List.flatten Ls17)) ∧ (AllG [OS oE4 h1 k2 m13] Ls17)) (fun (m13, k14, i15) (s16, Ls17) tm os => ⟨updL tm [(0, h1), (1, (AV.int .i64 k14)), (5, (AV.int .i64 i15))], updL os [], s16⟩) ?_ (x := (a4, k5, 0)) (y := (s, Ls0)) h ⟨hH0, hG0⟩
  clear h
  rintro ⟨m13, k14, i15⟩ ⟨s16, Ls17⟩ tm os ⟨hH18, hG19⟩ e1 h hL1 hR1
  unfold laws_markBoolS_K10_S1 at h
  dsimp only at h
  refine AW.seq ?_
  refine AW.seq ?_
  refine AW.region ?_
  refine AOps.pureR rfl rfl rfl rfl rfl (rfl : _ = (AV.int .i64 i15)) ?_
  refine AOps.pureR rfl rfl rfl rfl rfl (rfl : _ = h1) ?_
  refine AOps.lenO (j := 0) hG19 rfl Sub.here rfl rfl rfl rfl rfl ?_
  refine AOps.pureR rfl rfl rfl rfl rfl (rfl : _ = (AV.bool (decide ((i15 : Int) < (m13.length : Int))))) ?_
  refine AOps.nilR ?_
  rcases oite h with ⟨hc20, h⟩ | ⟨hc20, h⟩
  · refine AW.condT (congrArg AV.bool hc20) ?_
    refine AW.skip ?_
    refine AW.seq ?_
    refine AW.block ?_
    refine AW.seq ?_
    refine AW.region ?_
    refine AOps.pureR rfl rfl rfl rfl rfl (rfl : _ = h1) ?_
    refine AOps.pureR rfl rfl rfl rfl rfl (rfl : _ = (AV.int .i64 i15)) ?_
    refine AOps.pureR rfl rfl rfl rfl rfl (rfl : _ = (AV.int .i64 k14)) ?_
    obtain ⟨q21, h22, h⟩ := obind h
    refine AOps.pureR rfl rfl rfl (rem_ok h22) rfl (rfl : _ = (AV.int .i64 q21)) ?_
    refine AOps.pureR rfl rfl rfl rfl rfl (rfl : _ = (AV.bool (q21 == 0))) ?_
    obtain ⟨x25, h26, h⟩ := obind h
    refine AOps.idxO (j := 0) hG19 rfl Sub.here h26 rfl rfl rfl rfl rfl rfl rfl rfl rfl ?_
    intro b23 hb24
    refine AOps.stO (j := 0) (q := 0) (v := (AV.bool (q21 == 0))) (y' := (q21 == 0)) hH18 hG19 hl rfl Sub.here h26 hb24 rfl rfl rfl rfl rfl rfl rfl rfl (lt_b rfl) (le_b rfl) rfl (fun c B hc => oLeaf_set hc rfl) ?_
    intro Ls27 s28 hG29 hH30
    change HS ex true s s28 (([] : List BX) ++ List.flatten Ls27) at hH30
    change AllG [OS oE4 h1 k2 (m13.set (Int.toNat i15) (q21 == 0))] Ls27 at hG29
    refine AOps.nilR ?_
    refine AW.region ?_
    refine AOps.pureR rfl rfl rfl rfl rfl (rfl : _ = (AV.int .i64 k14)) ?_
    refine AOps.pureR rfl rfl rfl rfl rfl (rfl : _ = (AV.int .i64 (IntKind.wrap .i64 (k14 + 1)))) ?_
    refine AOps.assignR rfl rfl rfl (rfl : _ = (AV.int .i64 (IntKind.wrap .i64 (k14 + 1)))) rfl ?_
    refine AOps.nilR ?_
    refine AW.inBlock ?_
    refine AW.region ?_
    refine AOps.pureR rfl rfl rfl rfl rfl (rfl : _ = (AV.int .i64 i15)) ?_
    refine AOps.pureR rfl rfl rfl rfl rfl (rfl : _ = (AV.int .i64 (IntKind.wrap .i64 (i15 + 1)))) ?_
    refine AOps.assignR rfl rfl rfl (rfl : _ = (AV.int .i64 (IntKind.wrap .i64 (i15 + 1)))) rfl ?_
    refine AOps.nilR ?_
    cases h
    exact AW.res [(0, h1), (1, (AV.int .i64 (IntKind.wrap .i64 (k14 + 1)))), (5, (AV.int .i64 (IntKind.wrap .i64 (i15 + 1))))] [] ⟨rfl, rfl, rfl, trivial⟩ trivial (hL1 _ rfl (s28, Ls27) _ _ ⟨hH30, hG29⟩)
  refine AW.condF (congrArg AV.bool hc20) ?_
  refine AW.exit rfl ?_
  obtain ⟨r31, hm, hx⟩ := omap h
  clear h
  subst hx
  have hx := hR1 _ rfl
  rw [hx] at hm
  have h := hm
  exact AW.res [(1, (AV.int .i64 k14))] [] ⟨rfl, trivial⟩ trivial (KJ12 (m13, k14, s16, Ls17) _ _ ⟨hH18, hG19, h⟩)
theorem laws_markPushS_K10_ok {a4 : List Push} {k5 : Int} {h1 : AV} {k2 : KT} {s : St} (ho3 : h1.one = true) {ex : List Nat} {Ls0 : List (List BX)} (hH0 : HS ex true s s (([] : List BX) ++ List.flatten Ls0)) (hG0 : AllG [OS oE255 h1 k2 a4] Ls0) (hl : LoOK ex true s) {r : Int × (List Push)} (h : laws_markPushS_K10 a4 k5 = some r) (hs : WF s) : ACall Cf 190 [h1, (AV.int .i64 k5)] s (fun v _ s' => ∃ (Ls' : List (List BX)), v = (AV.int .i64 r.1) ∧ HS ex true s s' (([] : List BX) ++ List.flatten Ls') ∧ AllG [OS oE255 h1 k2 r.2] Ls') true := by
  refine ACall.keepR rfl rfl rfl ?_
  unfold laws_markPushS_K10 at h
  refine AW.seq ?_
  refine AW.region ?_
  refine AOps.pureR rfl rfl rfl rfl rfl (rfl : _ = (AV.int .i64 0)) ?_
  refine AOps.nilR ?_
  refine AW.seq ?_
  refine AW.seq ?_
  refine AW.region ?_
  refine AOps.pureR rfl rfl rfl rfl rfl (rfl : _ = (AV.int .i64 0)) ?_
  refine AOps.nilR ?_
  refine AW.meet (σ := (List Push) × Int × St × (List (List BX))) (fun (m6, k7, s8, Ls9) tm os => ⟨updL tm [(1, (AV.int .i64 k7))], updL os [], s8⟩) (fun (m6, k7, s8, Ls9) => (HS ex true s s8 (([] : List BX) ++ List.flatten Ls9)) ∧ (AllG [OS oE255 h1 k2 m6] Ls9) ∧ laws_markPushS_K10_J1 m6 k7 = some r) ?_ ?_
  · rintro ⟨m6, k7, s8, Ls9⟩ tm os ⟨hH10, hG11, h⟩
    unfold laws_markPushS_K10_J1 at h
    refine AW.seq ?_
    refine AW.region ?_
    refine AOps.pureR rfl rfl rfl rfl rfl (rfl : _ = (AV.int .i64 k7)) ?_
    refine AOps.assignR rfl rfl rfl (rfl : _ = (AV.int .i64 k7)) rfl ?_
    refine AOps.nilR ?_
    cases h
    exact AW.ret ⟨_, _, rfl, ⟨Ls9, rfl, hH10, hG11⟩⟩
  intro KJ12
  refine AW.block ?_
  refine AW.res [(0, h1), (1, (AV.int .i64 k5)), (5, (AV.int .i64 0))] [] ⟨rfl, rfl, rfl, trivial⟩ trivial ?_
  refine AW.loopF (σ := (List Push) × Int × Int) (τ := St × (List (List BX))) (fun (m13, k14, i15) (s16, Ls17) => (HS ex true s s16 (([] : List BX) ++ List.flatten Ls17)) ∧ (AllG [OS oE255 h1 k2 m13] Ls17)) (fun (m13, k14, i15) (s16, Ls17) tm os => ⟨updL tm [(0, h1), (1, (AV.int .i64 k14)), (5, (AV.int .i64 i15))], updL os [], s16⟩) ?_ (x := (a4, k5, 0)) (y := (s, Ls0)) h ⟨hH0, hG0⟩
  clear h
  rintro ⟨m13, k14, i15⟩ ⟨s16, Ls17⟩ tm os ⟨hH18, hG19⟩ e1 h hL1 hR1
  unfold laws_markPushS_K10_S1 at h
  dsimp only at h
  refine AW.seq ?_
  refine AW.seq ?_
  refine AW.region ?_
  refine AOps.pureR rfl rfl rfl rfl rfl (rfl : _ = (AV.int .i64 i15)) ?_
  refine AOps.pureR rfl rfl rfl rfl rfl (rfl : _ = h1) ?_
  refine AOps.lenO (j := 0) hG19 rfl Sub.here rfl rfl rfl rfl rfl ?_
  refine AOps.pureR rfl rfl rfl rfl rfl (rfl : _ = (AV.bool (decide ((i15 : Int) < (m13.length : Int))))) ?_
  refine AOps.nilR ?_
  rcases oite h with ⟨hc20, h⟩ | ⟨hc20, h⟩
  · refine AW.condT (congrArg AV.bool hc20) ?_
    refine AW.skip ?_
    refine AW.seq ?_
    refine AW.block ?_
    refine AW.seq ?_
    refine AW.region ?_
    refine AOps.pureR rfl rfl rfl rfl rfl (rfl : _ = h1) ?_
    refine AOps.pureR rfl rfl rfl rfl rfl (rfl : _ = (AV.int .i64 i15)) ?_
    refine AOps.pureR rfl rfl rfl rfl rfl (rfl : _ = (AV.int .i64 k14)) ?_
    obtain ⟨x23, h24, h⟩ := obind h
    refine AOps.idxO (j := 0) hG19 rfl Sub.here h24 rfl rfl rfl rfl rfl rfl rfl rfl rfl ?_
    intro b21 hb22
    refine AOps.pureR rfl rfl rfl rfl rfl (rfl : _ = (AV.ptr b21 (0 + Int.toNat i15 * 2))) ?_
    refine AOps.stO (j := 0) (q := 0) (v := (AV.int .i64 k14)) (y' := ({ x23 with To := k14 } : Push)) hH18 hG19 hl rfl Sub.here h24 hb22 rfl rfl rfl rfl rfl rfl rfl rfl (lt_b rfl) (le_b rfl) rfl (fun c B hc => by obtain ⟨⟨_, hr, rfl⟩, rfl⟩ := hc; obtain ⟨_, rfl, h29⟩ := hr; obtain ⟨_, _, rfl, h30, h31⟩ := Cs_cons h29; cases h30; obtain ⟨_, _, rfl, h32, h33⟩ := Cs_cons h31; cases h32; cases Cs_nil h33; exact ⟨⟨(AV.agg [(AV.int .i64 k14), (AV.int .i64 x23.Put)]), ⟨_, rfl, (.cons rfl (.cons rfl .nil))⟩, rfl⟩, rfl⟩) ?_
    intro Ls25 s26 hG27 hH28
    change HS ex true s s26 (([] : List BX) ++ List.flatten Ls25) at hH28
    change AllG [OS oE255 h1 k2 (m13.set (Int.toNat i15) ({ x23 with To := k14 } : Push))] Ls25 at hG27
    refine AOps.nilR ?_
    refine AW.seq ?_
    refine AW.region ?_
    refine AOps.pureR rfl rfl rfl rfl rfl (rfl : _ = (AV.int .i64 k14)) ?_
    refine AOps.pureR rfl rfl rfl rfl rfl (rfl : _ = (AV.int .i64 (IntKind.wrap .i64 (k14 + 1)))) ?_
    refine AOps.assignR rfl rfl rfl (rfl : _ = (AV.int .i64 (IntKind.wrap .i64 (k14 + 1)))) rfl ?_
    refine AOps.nilR ?_
    refine AW.seq ?_
    refine AW.region ?_
    refine AOps.pureR rfl rfl rfl rfl rfl (rfl : _ = h1) ?_
    refine AOps.pureR rfl rfl rfl rfl rfl (rfl : _ = (AV.int .i64 i15)) ?_
    refine AOps.pureR rfl rfl rfl rfl rfl (rfl : _ = (AV.int .i64 (IntKind.wrap .i64 (k14 + 1)))) ?_
    refine AOps.idxO (j := 0) hG27 rfl Sub.here (ix_set h24) rfl rfl rfl rfl rfl rfl rfl rfl rfl ?_
    intro b34 hb35
    refine AOps.pureR rfl rfl rfl rfl rfl (rfl : _ = (AV.ptr b34 (0 + Int.toNat i15 * 2 + 1))) ?_
    refine AOps.stO (j := 0) (q := 1) (v := (AV.int .i64 (IntKind.wrap .i64 (k14 + 1)))) (y' := ({ ({ x23 with To := k14 } : Push) with Put := IntKind.wrap .i64 (k14 + 1) } : Push)) hH28 hG27 hl rfl Sub.here (ix_set h24) hb35 rfl rfl rfl rfl rfl rfl rfl rfl (lt_b rfl) (le_b rfl) rfl (fun c B hc => by obtain ⟨⟨_, hr, rfl⟩, rfl⟩ := hc; obtain ⟨_, rfl, h40⟩ := hr; obtain ⟨_, _, rfl, h41, h42⟩ := Cs_cons h40; cases h41; obtain ⟨_, _, rfl, h43, h44⟩ := Cs_cons h42; cases h43; cases Cs_nil h44; exact ⟨⟨(AV.agg [(AV.int .i64 (({ x23 with To := k14 } : Push).To)), (AV.int .i64 (IntKind.wrap .i64 (k14 + 1)))]), ⟨_, rfl, (.cons rfl (.cons rfl .nil))⟩, rfl⟩, rfl⟩) ?_
    intro Ls36 s37 hG38 hH39
    change HS ex true s s37 (([] : List BX) ++ List.flatten Ls36) at hH39
    change AllG [OS oE255 h1 k2 ((m13.set (Int.toNat i15) ({ x23 with To := k14 } : Push)).set (Int.toNat i15) ({ ({ x23 with To := k14 } : Push) with Put := IntKind.wrap .i64 (k14 + 1) } : Push))] Ls36 at hG38
    refine AOps.nilR ?_
    refine AW.region ?_
    refine AOps.pureR rfl rfl rfl rfl rfl (rfl : _ = (AV.int .i64 (IntKind.wrap .i64 (k14 + 1)))) ?_
    refine AOps.pureR rfl rfl rfl rfl rfl (rfl : _ = (AV.int .i64 (IntKind.wrap .i64 ((IntKind.wrap .i64 (k14 + 1)) + 1)))) ?_
    refine AOps.assignR rfl rfl rfl (rfl : _ = (AV.int .i64 (IntKind.wrap .i64 ((IntKind.wrap .i64 (k14 + 1)) + 1)))) rfl ?_
    refine AOps.nilR ?_
    refine AW.inBlock ?_
    refine AW.region ?_
    refine AOps.pureR rfl rfl rfl rfl rfl (rfl : _ = (AV.int .i64 i15)) ?_
    refine AOps.pureR rfl rfl rfl rfl rfl (rfl : _ = (AV.int .i64 (IntKind.wrap .i64 (i15 + 1)))) ?_
    refine AOps.assignR rfl rfl rfl (rfl : _ = (AV.int .i64 (IntKind.wrap .i64 (i15 + 1)))) rfl ?_
    refine AOps.nilR ?_
    cases h
    exact AW.res [(0, h1), (1, (AV.int .i64 (IntKind.wrap .i64 ((IntKind.wrap .i64 (k14 + 1)) + 1)))), (5, (AV.int .i64 (IntKind.wrap .i64 (i15 + 1))))] [] ⟨rfl, rfl, rfl, trivial⟩ trivial (hL1 _ rfl (s37, Ls36) _ _ ⟨hH39, hG38⟩)
  refine AW.condF (congrArg AV.bool hc20) ?_
  refine AW.exit rfl ?_
  obtain ⟨r45, hm, hx⟩ := omap h
  clear h
  subst hx
  have hx := hR1 _ rfl
  rw [hx] at hm
  have h := hm
  exact AW.res [(1, (AV.int .i64 k14))] [] ⟨rfl, trivial⟩ trivial (KJ12 (m13, k14, s16, Ls17) _ _ ⟨hH18, hG19, h⟩)
theorem laws_markPushSS_K10_ok {a4 : List (List Push)} {k5 : Int} {h1 : AV} {k2 : KT} {s : St} (ho3 : h1.one = true) {ex : List Nat} {Ls0 : List (List BX)} (hH0 : HS ex true s s (([] : List BX) ++ List.flatten Ls0)) (hG0 : AllG [OS oE249 h1 k2 a4] Ls0) (hl : LoOK ex true s) {r : Int × (List (List Push))} (h : laws_markPushSS_K10 a4 k5 = some r) (hs : WF s) : ACall Cf 98 [h1, (AV.int .i64 k5)] s (fun v _ s' => ∃ (Ls' : List (List BX)), v = (AV.int .i64 r.1) ∧ HS ex true s s' (([] : List BX) ++ List.flatten Ls') ∧ AllG [OS oE249 h1 k2 r.2] Ls') true := by
  refine ACall.keepR rfl rfl rfl ?_
  unfold laws_markPushSS_K10 at h
  refine AW.seq ?_
  refine AW.region ?_
  refine AOps.pureR rfl rfl rfl rfl rfl (rfl : _ = (AV.int .i64 0)) ?_
  refine AOps.nilR ?_
  refine AW.seq ?_
  refine AW.seq ?_
  refine AW.region ?_
  refine AOps.pureR rfl rfl rfl rfl rfl (rfl : _ = (AV.int .i64 0)) ?_
  refine AOps.nilR ?_
  refine AW.meet (σ := (List (List Push)) × Int × St × (List (List BX))) (fun (m6, k7, s8, Ls9) tm os => ⟨updL tm [(1, (AV.int .i64 k7))], updL os [], s8⟩) (fun (m6, k7, s8, Ls9) => (HS ex true s s8 (([] : List BX) ++ List.flatten Ls9)) ∧ (AllG [OS oE249 h1 k2 m6] Ls9) ∧ laws_markPushSS_K10_J1 m6 k7 = some r) ?_ ?_
  · rintro ⟨m6, k7, s8, Ls9⟩ tm os ⟨hH10, hG11, h⟩
    unfold laws_markPushSS_K10_J1 at h
    refine AW.seq ?_
    refine AW.region ?_
    refine AOps.pureR rfl rfl rfl rfl rfl (rfl : _ = (AV.int .i64 k7)) ?_
    refine AOps.assignR rfl rfl rfl (rfl : _ = (AV.int .i64 k7)) rfl ?_
    refine AOps.nilR ?_
    cases h
    exact AW.ret ⟨_, _, rfl, ⟨Ls9, rfl, hH10, hG11⟩⟩
  intro KJ12
  refine AW.block ?_
  refine AW.res [(0, h1), (1, (AV.int .i64 k5)), (5, (AV.int .i64 0))] [] ⟨rfl, rfl, rfl, trivial⟩ trivial ?_
  refine AW.loopF (σ := (List (List Push)) × Int × Int) (τ := St × (List (List BX))) (fun (m13, k14, i15) (s16, Ls17) => (HS ex true s s16 (([] : List BX) ++ List.flatten Ls17)) ∧ (AllG [OS oE249 h1 k2 m13] Ls17)) (fun (m13, k14, i15) (s16, Ls17) tm os => ⟨updL tm [(0, h1), (1, (AV.int .i64 k14)), (5, (AV.int .i64 i15))], updL os [], s16⟩) ?_ (x := (a4, k5, 0)) (y := (s, Ls0)) h ⟨hH0, hG0⟩
  clear h
  rintro ⟨m13, k14, i15⟩ ⟨s16, Ls17⟩ tm os ⟨hH18, hG19⟩ e1 h hL1 hR1
  unfold laws_markPushSS_K10_S1 at h
  dsimp only at h
  refine AW.seq ?_
  refine AW.seq ?_
  refine AW.region ?_
  refine AOps.pureR rfl rfl rfl rfl rfl (rfl : _ = (AV.int .i64 i15)) ?_
  refine AOps.pureR rfl rfl rfl rfl rfl (rfl : _ = h1) ?_
  refine AOps.lenO (j := 0) hG19 rfl Sub.here rfl rfl rfl rfl rfl ?_
  refine AOps.pureR rfl rfl rfl rfl rfl (rfl : _ = (AV.bool (decide ((i15 : Int) < (m13.length : Int))))) ?_
  refine AOps.nilR ?_
  rcases oite h with ⟨hc20, h⟩ | ⟨hc20, h⟩
  · refine AW.condT (congrArg AV.bool hc20) ?_
    refine AW.skip ?_
    refine AW.seq ?_
    refine AW.block ?_
    refine AW.region ?_
    refine AOps.pureR rfl rfl rfl rfl rfl (rfl : _ = h1) ?_
    refine AOps.pureR rfl rfl rfl rfl rfl (rfl : _ = (AV.int .i64 i15)) ?_
    obtain ⟨x23, h24, h⟩ := obind h
    refine AOps.idxO (j := 0) hG19 rfl Sub.here h24 rfl rfl rfl rfl rfl rfl rfl rfl rfl ?_
    intro b21 hb22
    refine AOps.ldO (j := 0) (q := 0) hH18 hG19 rfl Sub.here h24 hb22 rfl rfl rfl rfl rfl (lt_b rfl) (le_b rfl) rfl rfl ?_ (fun c B hc => by obtain ⟨rfl, _⟩ := hc; exact ⟨_, rfl⟩)
    intro c25 B26 v27 h28 h29
    obtain ⟨rfl, _⟩ := h28
    cases h29
    refine AOps.pureR rfl rfl rfl rfl rfl (rfl : _ = (AV.int .i64 k14)) ?_
    obtain ⟨y30, h31, h⟩ := obind h
    have hP32 := HS.pop0 hH18
    have hF0 : AllG ([] : List (List BX → Prop)) [] := AllG.nil
    obtain ⟨Ls33, Lf34, hG35, hF36, hP37⟩ := HS.popS hP32 hG19 hF0 (j := 0) rfl (Sub.down Sub.here h24)
    refine AOps.callF (al := true) (g := 190) (args := [((KT.at k2 (Int.toNat i15)) []), (AV.int .i64 k14)]) rfl rfl rfl (laws_markPushS_K10_ok (Sub.one hG19 (j := 0) rfl (Sub.down Sub.here h24)) (HS.enterK hP37) hF36 (HS.enterLo hP37 hl) h31 (HS.wf' hH18)) ?_
    rintro _ _ s38 ⟨Ls40, rfl, hH41, hG42⟩
    have hJ43 := HS.joinK hP37 hH41
    obtain ⟨Ls44, Lf45, hG46, hF47, hP48⟩ := HS.pushS hJ43 hG35 hG42 (j := 0) rfl
    cases hF47
    have hH49 := HS.push0 hP48
    change HS ex true s s38 (([] : List BX) ++ List.flatten Ls44) at hH49
    change AllG [OS oE249 h1 k2 (m13.set (Int.toNat i15) y30.2)] Ls44 at hG46
    refine AOps.assignR rfl rfl rfl (rfl : _ = (AV.int .i64 y30.1)) rfl ?_
    refine AOps.nilR ?_
    refine AW.inBlock ?_
    refine AW.region ?_
    refine AOps.pureR rfl rfl rfl rfl rfl (rfl : _ = (AV.int .i64 i15)) ?_
    refine AOps.pureR rfl rfl rfl rfl rfl (rfl : _ = (AV.int .i64 (IntKind.wrap .i64 (i15 + 1)))) ?_
    refine AOps.assignR rfl rfl rfl (rfl : _ = (AV.int .i64 (IntKind.wrap .i64 (i15 + 1)))) rfl ?_
    refine AOps.nilR ?_
    cases h
    exact AW.res [(0, h1), (1, (AV.int .i64 y30.1)), (5, (AV.int .i64 (IntKind.wrap .i64 (i15 + 1))))] [] ⟨rfl, rfl, rfl, trivial⟩ trivial (hL1 _ rfl (s38, Ls44) _ _ ⟨hH49, hG46⟩)
  refine AW.condF (congrArg AV.bool hc20) ?_
  refine AW.exit rfl ?_
  obtain ⟨r50, hm, hx⟩ := omap h
  clear h
  subst hx
  have hx := hR1 _ rfl
  rw [hx] at hm
  have h := hm
  exact AW.res [(1, (AV.int .i64 k14))] [] ⟨rfl, trivial⟩ trivial (KJ12 (m13, k14, s16, Ls17) _ _ ⟨hH18, hG19, h⟩)
theorem laws_markInt64S_K10_ok {a4 : List Int} {k5 : Int} {h1 : AV} {k2 : KT} {s : St} (ho3 : h1.one = true) {ex : List Nat} {Ls0 : List (List BX)} (hH0 : HS ex true s s (([] : List BX) ++ List.flatten Ls0)) (hG0 : AllG [OS oE2 h1 k2 a4] Ls0) (hl : LoOK ex true s) {r : Int × (List Int)} (h : laws_markInt64S_K10 a4 k5 = some r) (hs : WF s) : ACall Cf 20 [h1, (AV.int .i64 k5)] s (fun v _ s' => ∃ (Ls' : List (List BX)), v = (AV.int .i64 r.1) ∧ HS ex true s s' (([] : List BX) ++ List.flatten Ls') ∧ AllG [OS oE2 h1 k2 r.2] Ls') true := by
  refine ACall.keepR rfl rfl rfl ?_
  unfold laws_markInt64S_K10 at h
  refine AW.seq ?_
  refine AW.region ?_
  refine AOps.pureR rfl rfl rfl rfl rfl (rfl : _ = (AV.int .i64 0)) ?_
  refine AOps.nilR ?_
  refine AW.seq ?_
  refine AW.seq ?_
  refine AW.region ?_
  refine AOps.pureR rfl rfl rfl rfl rfl (rfl : _ = (AV.int .i64 0)) ?_
  refine AOps.nilR ?_
  refine AW.meet (σ := (List Int) × Int × St × (List (List BX))) (fun (m6, k7, s8, Ls9) tm os => ⟨updL tm [(1, (AV.int .i64 k7))], updL os [], s8⟩) (fun (m6, k7, s8, Ls9) => (HS ex true s s8 (([] : List BX) ++ List.flatten Ls9)) ∧ (AllG [OS oE2 h1 k2 m6] Ls9) ∧ laws_markInt64S_K10_J1 m6 k7 = some r) ?_ ?_
  · rintro ⟨m6, k7, s8, Ls9⟩ tm os ⟨hH10, hG11, h⟩
    unfold laws_markInt64S_K10_J1 at h
    refine AW.seq ?_
    refine AW.region ?_
    refine AOps.pureR rfl rfl rfl rfl rfl (rfl : _ = (AV.int .i64 k7)) ?_
    refine AOps.assignR rfl rfl rfl (rfl : _ = (AV.int .i64 k7)) rfl ?_
    refine AOps.nilR ?_
    cases h
    exact AW.ret ⟨_, _, rfl, ⟨Ls9, rfl, hH10, hG11⟩⟩
  intro KJ12
  refine AW.block ?_
  refine AW.res [(0, h1), (1, (AV.int .i64 k5)), (5, (AV.int .i64 0))] [] ⟨rfl, rfl, rfl, trivial⟩ trivial ?_
  refine AW.loopF (σ := (List Int) × Int × Int) (τ := St × (List (List BX))) (fun (m13, k14, i15) (s16, Ls17) => (HS ex true s s16 (([] : List BX) ++ List.flatten Ls17)) ∧ (AllG [OS oE2 h1 k2 m13] Ls17)) (fun (m13, k14, i15) (s16, Ls17) tm os => ⟨updL tm [(0, h1), (1, (AV.int .i64 k14)), (5, (AV.int .i64 i15))], updL os [], s16⟩) ?_ (x := (a4, k5, 0)) (y := (s, Ls0)) h ⟨hH0, hG0⟩
  clear h
  rintro ⟨m13, k14, i15⟩ ⟨s16, Ls17⟩ tm os ⟨hH18, hG19⟩ e1 h hL1 hR1
  unfold laws_markInt64S_K10_S1 at h
  dsimp only at h
  refine AW.seq ?_
  refine AW.seq ?_
  refine AW.region ?_
  refine AOps.pureR rfl rfl rfl rfl rfl (rfl : _ = (AV.int .i64 i15)) ?_
  refine AOps.pureR rfl rfl rfl rfl rfl (rfl : _ = h1) ?_
  refine AOps.lenO (j := 0) hG19 rfl Sub.here rfl rfl rfl rfl rfl ?_
  refine AOps.pureR rfl rfl rfl rfl rfl (rfl : _ = (AV.bool (decide ((i15 : Int) < (m13.length : Int))))) ?_
  refine AOps.nilR ?_
  rcases oite h with ⟨hc20, h⟩ | ⟨hc20, h⟩
  · refine AW.condT (congrArg AV.bool hc20) ?_
    refine AW.skip ?_
    refine AW.seq ?_
    refine AW.block ?_
    refine AW.seq ?_
    refine AW.region ?_
    refine AOps.pureR rfl rfl rfl rfl rfl (rfl : _ = h1) ?_
    refine AOps.pureR rfl rfl rfl rfl rfl (rfl : _ = (AV.int .i64 i15)) ?_
    refine AOps.pureR rfl rfl rfl rfl rfl (rfl : _ = (AV.int .i64 k14)) ?_
    obtain ⟨x23, h24, h⟩ := obind h
    refine AOps.idxO (j := 0) hG19 rfl Sub.here h24 rfl rfl rfl rfl rfl rfl rfl rfl rfl ?_
    intro b21 hb22
    refine AOps.stO (j := 0) (q := 0) (v := (AV.int .i64 k14)) (y' := k14) hH18 hG19 hl rfl Sub.here h24 hb22 rfl rfl rfl rfl rfl rfl rfl rfl (lt_b rfl) (le_b rfl) rfl (fun c B hc => oLeaf_set hc rfl) ?_
    intro Ls25 s26 hG27 hH28
    change HS ex true s s26 (([] : List BX) ++ List.flatten Ls25) at hH28
    change AllG [OS oE2 h1 k2 (m13.set (Int.toNat i15) k14)] Ls25 at hG27
    refine AOps.nilR ?_
    refine AW.region ?_
    refine AOps.pureR rfl rfl rfl rfl rfl (rfl : _ = (AV.int .i64 k14)) ?_
    refine AOps.pureR rfl rfl rfl rfl rfl (rfl : _ = (AV.int .i64 (IntKind.wrap .i64 (k14 + 1)))) ?_
    refine AOps.assignR rfl rfl rfl (rfl : _ = (AV.int .i64 (IntKind.wrap .i64 (k14 + 1)))) rfl ?_
    refine AOps.nilR ?_
    refine AW.inBlock ?_
    refine AW.region ?_
    refine AOps.pureR rfl rfl rfl rfl rfl (rfl : _ = (AV.int .i64 i15)) ?_
    refine AOps.pureR rfl rfl rfl rfl rfl (rfl : _ = (AV.int .i64 (IntKind.wrap .i64 (i15 + 1)))) ?_
    refine AOps.assignR rfl rfl rfl (rfl : _ = (AV.int .i64 (IntKind.wrap .i64 (i15 + 1)))) rfl ?_
    refine AOps.nilR ?_
    cases h
    exact AW.res [(0, h1), (1, (AV.int .i64 (IntKind.wrap .i64 (k14 + 1)))), (5, (AV.int .i64 (IntKind.wrap .i64 (i15 + 1))))] [] ⟨rfl, rfl, rfl, trivial⟩ trivial (hL1 _ rfl (s26, Ls25) _ _ ⟨hH28, hG27⟩)
  refine AW.condF (congrArg AV.bool hc20) ?_
  refine AW.exit rfl ?_
  obtain ⟨r29, hm, hx⟩ := omap h
  clear h
  subst hx
  have hx := hR1 _ rfl
  rw [hx] at hm
  have h := hm
  exact AW.res [(1, (AV.int .i64 k14))] [] ⟨rfl, trivial⟩ trivial (KJ12 (m13, k14, s16, Ls17) _ _ ⟨hH18, hG19, h⟩)
theorem laws_markInt64SS_K10_ok {a4 : List (List Int)} {k5 : Int} {h1 : AV} {k2 : KT} {s : St} (ho3 : h1.one = true) {ex : List Nat} {Ls0 : List (List BX)} (hH0 : HS ex true s s (([] : List BX) ++ List.flatten Ls0)) (hG0 : AllG [OS oE26 h1 k2 a4] Ls0) (hl : LoOK ex true s) {r : Int × (List (List Int))} (h : laws_markInt64SS_K10 a4 k5 = some r) (hs : WF s) : ACall Cf 50 [h1, (AV.int .i64 k5)] s (fun v _ s' => ∃ (Ls' : List (List BX)), v = (AV.int .i64 r.1) ∧ HS ex true s s' (([] : List BX) ++ List.flatten Ls') ∧ AllG [OS oE26 h1 k2 r.2] Ls') true := by
  refine ACall.keepR rfl rfl rfl ?_
  unfold laws_markInt64SS_K10 at h
  refine AW.seq ?_
  refine AW.region ?_
  refine AOps.pureR rfl rfl rfl rfl rfl (rfl : _ = (AV.int .i64 0)) ?_
  refine AOps.nilR ?_
  refine AW.seq ?_
  refine AW.seq ?_
  refine AW.region ?_
  refine AOps.pureR rfl rfl rfl rfl rfl (rfl : _ = (AV.int .i64 0)) ?_
  refine AOps.nilR ?_
  refine AW.meet (σ := (List (List Int)) × Int × St × (List (List BX))) (fun (m6, k7, s8, Ls9) tm os => ⟨updL tm [(1, (AV.int .i64 k7))], updL os [], s8⟩) (fun (m6, k7, s8, Ls9) => (HS ex true s s8 (([] : List BX) ++ List.flatten Ls9)) ∧ (AllG [OS oE26 h1 k2 m6] Ls9) ∧ laws_markInt64SS_K10_J1 m6 k7 = some r) ?_ ?_
  · rintro ⟨m6, k7, s8, Ls9⟩ tm os ⟨hH10, hG11, h⟩
    unfold laws_markInt64SS_K10_J1 at h
    refine AW.seq ?_
    refine AW.region ?_
    refine AOps.pureR rfl rfl rfl rfl rfl (rfl : _ = (AV.int .i64 k7)) ?_
    refine AOps.assignR rfl rfl rfl (rfl : _ = (AV.int .i64 k7)) rfl ?_
    refine AOps.nilR ?_
    cases h
    exact AW.ret ⟨_, _, rfl, ⟨Ls9, rfl, hH10, hG11⟩⟩
  intro KJ12
  refine AW.block ?_
  refine AW.res [(0, h1), (1, (AV.int .i64 k5)), (5, (AV.int .i64 0))] [] ⟨rfl, rfl, rfl, trivial⟩ trivial ?_
  refine AW.loopF (σ := (List (List Int)) × Int × Int) (τ := St × (List (List BX))) (fun (m13, k14, i15) (s16, Ls17) => (HS ex true s s16 (([] : List BX) ++ List.flatten Ls17)) ∧ (AllG [OS oE26 h1 k2 m13] Ls17)) (fun (m13, k14, i15) (s16, Ls17) tm os => ⟨updL tm [(0, h1), (1, (AV.int .i64 k14)), (5, (AV.int .i64 i15))], updL os [], s16⟩) ?_ (x := (a4, k5, 0)) (y := (s, Ls0)) h ⟨hH0, hG0⟩
  clear h
  rintro ⟨m13, k14, i15⟩ ⟨s16, Ls17⟩ tm os ⟨hH18, hG19⟩ e1 h hL1 hR1
  unfold laws_markInt64SS_K10_S1 at h
  dsimp only at h
  refine AW.seq ?_
  refine AW.seq ?_
  refine AW.region ?_
  refine AOps.pureR rfl rfl rfl rfl rfl (rfl : _ = (AV.int .i64 i15)) ?_
  refine AOps.pureR rfl rfl rfl rfl rfl (rfl : _ = h1) ?_
  refine AOps.lenO (j := 0) hG19 rfl Sub.here rfl rfl rfl rfl rfl ?_
  refine AOps.pureR rfl rfl rfl rfl rfl (rfl : _ = (AV.bool (decide ((i15 : Int) < (m13.length : Int))))) ?_
  refine AOps.nilR ?_
  rcases oite h with ⟨hc20, h⟩ | ⟨hc20, h⟩
  · refine AW.condT (congrArg AV.bool hc20) ?_
    refine AW.skip ?_
    refine AW.seq ?_
    refine AW.block ?_
    refine AW.region ?_
    refine AOps.pureR rfl rfl rfl rfl rfl (rfl : _ = h1) ?_
    refine AOps.pureR rfl rfl rfl rfl rfl (rfl : _ = (AV.int .i64 i15)) ?_
    obtain ⟨x23, h24, h⟩ := obind h
    refine AOps.idxO (j := 0) hG19 rfl Sub.here h24 rfl rfl rfl rfl rfl rfl rfl rfl rfl ?_
    intro b21 hb22
    refine AOps.ldO (j := 0) (q := 0) hH18 hG19 rfl Sub.here h24 hb22 rfl rfl rfl rfl rfl (lt_b rfl) (le_b rfl) rfl rfl ?_ (fun c B hc => by obtain ⟨rfl, _⟩ := hc; exact ⟨_, rfl⟩)
    intro c25 B26 v27 h28 h29
    obtain ⟨rfl, _⟩ := h28
    cases h29
    refine AOps.pureR rfl rfl rfl rfl rfl (rfl : _ = (AV.int .i64 k14)) ?_
    obtain ⟨y30, h31, h⟩ := obind h
    have hP32 := HS.pop0 hH18
    have hF0 : AllG ([] : List (List BX → Prop)) [] := AllG.nil
    obtain ⟨Ls33, Lf34, hG35, hF36, hP37⟩ := HS.popS hP32 hG19 hF0 (j := 0) rfl (Sub.down Sub.here h24)
    refine AOps.callF (al := true) (g := 20) (args := [((KT.at k2 (Int.toNat i15)) []), (AV.int .i64 k14)]) rfl rfl rfl (laws_markInt64S_K10_ok (Sub.one hG19 (j := 0) rfl (Sub.down Sub.here h24)) (HS.enterK hP37) hF36 (HS.enterLo hP37 hl) h31 (HS.wf' hH18)) ?_
    rintro _ _ s38 ⟨Ls40, rfl, hH41, hG42⟩
    have hJ43 := HS.joinK hP37 hH41
    obtain ⟨Ls44, Lf45, hG46, hF47, hP48⟩ := HS.pushS hJ43 hG35 hG42 (j := 0) rfl
    cases hF47
    have hH49 := HS.push0 hP48
    change HS ex true s s38 (([] : List BX) ++ List.flatten Ls44) at hH49
    change AllG [OS oE26 h1 k2 (m13.set (Int.toNat i15) y30.2)] Ls44 at hG46
    refine AOps.assignR rfl rfl rfl (rfl : _ = (AV.int .i64 y30.1)) rfl ?_
    refine AOps.nilR ?_
    refine AW.inBlock ?_
    refine AW.region ?_
    refine AOps.pureR rfl rfl rfl rfl rfl (rfl : _ = (AV.int .i64 i15)) ?_
    refine AOps.pureR rfl rfl rfl rfl rfl (rfl : _ = (AV.int .i64 (IntKind.wrap .i64 (i15 + 1)))) ?_
    refine AOps.assignR rfl rfl rfl (rfl : _ = (AV.int .i64 (IntKind.wrap .i64 (i15 + 1)))) rfl ?_
    refine AOps.nilR ?_
    cases h
    exact AW.res [(0, h1), (1, (AV.int .i64 y30.1)), (5, (AV.int .i64 (IntKind.wrap .i64 (i15 + 1))))] [] ⟨rfl, rfl, rfl, trivial⟩ trivial (hL1 _ rfl (s38, Ls44) _ _ ⟨hH49, hG46⟩)
  refine AW.condF (congrArg AV.bool hc20) ?_
  refine AW.exit rfl ?_
  obtain ⟨r50, hm, hx⟩ := omap h
  clear h
  subst hx
  have hx := hR1 _ rfl
  rw [hx] at hm
  have h := hm
  exact AW.res [(1, (AV.int .i64 k14))] [] ⟨rfl, trivial⟩ trivial (KJ12 (m13, k14, s16, Ls17) _ _ ⟨hH18, hG19, h⟩)
theorem laws_markInt64SSS_K10_ok {a4 : List (List (List Int))} {k5 : Int} {h1 : AV} {k2 : KT} {s : St} (ho3 : h1.one = true) {ex : List Nat} {Ls0 : List (List BX)} (hH0 : HS ex true s s (([] : List BX) ++ List.flatten Ls0)) (hG0 : AllG [OS oE44 h1 k2 a4] Ls0) (hl : LoOK ex true s) {r : Int × (List (List (List Int)))} (h : laws_markInt64SSS_K10 a4 k5 = some r) (hs : WF s) : ACall Cf 99 [h1, (AV.int .i64 k5)] s (fun v _ s' => ∃ (Ls' : List (List BX)), v = (AV.int .i64 r.1) ∧ HS ex true s s' (([] : List BX) ++ List.flatten Ls') ∧ AllG [OS oE44 h1 k2 r.2] Ls') true := by
  refine ACall.keepR rfl rfl rfl ?_
  unfold laws_markInt64SSS_K10 at h
  refine AW.seq ?_
  refine AW.region ?_
  refine AOps.pureR rfl rfl rfl rfl rfl (rfl : _ = (AV.int .i64 0)) ?_
  refine AOps.nilR ?_
  refine AW.seq ?_
  refine AW.seq ?_
  refine AW.region ?_
  refine AOps.pureR rfl rfl rfl rfl rfl (rfl : _ = (AV.int .i64 0)) ?_
  refine AOps.nilR ?_
  refine AW.meet (σ := (List (List (List Int))) × Int × St × (List (List BX))) (fun (m6, k7, s8, Ls9) tm os => ⟨updL tm [(1, (AV.int .i64 k7))], updL os [], s8⟩) (fun (m6, k7, s8, Ls9) => (HS ex true s s8 (([] : List BX) ++ List.flatten Ls9)) ∧ (AllG [OS oE44 h1 k2 m6] Ls9) ∧ laws_markInt64SSS_K10_J1 m6 k7 = some r) ?_ ?_
  · rintro ⟨m6, k7, s8, Ls9⟩ tm os ⟨hH10, hG11, h⟩
    unfold laws_markInt64SSS_K10_J1 at h
    refine AW.seq ?_
    refine AW.region ?_
    refine AOps.pureR rfl rfl rfl rfl rfl (rfl : _ = (AV.int .i64 k7)) ?_
    refine AOps.assignR rfl rfl rfl (rfl : _ = (AV.int .i64 k7)) rfl ?_
    refine AOps.nilR ?_
    cases h
    exact AW.ret ⟨_, _, rfl, ⟨Ls9, rfl, hH10, hG11⟩⟩
  intro KJ12
  refine AW.block ?_
  refine AW.res [(0, h1), (1, (AV.int .i64 k5)), (5, (AV.int .i64 0))] [] ⟨rfl, rfl, rfl, trivial⟩ trivial ?_
  refine AW.loopF (σ := (List (List (List Int))) × Int × Int) (τ := St × (List (List BX))) (fun (m13, k14, i15) (s16, Ls17) => (HS ex true s s16 (([] : List BX) ++ List.flatten Ls17)) ∧ (AllG [OS oE44 h1 k2 m13] Ls17)) (fun (m13, k14, i15) (s16, Ls17) tm os => ⟨updL tm [(0, h1), (1, (AV.int .i64 k14)), (5, (AV.int .i64 i15))], updL os [], s16⟩) ?_ (x := (a4, k5, 0)) (y := (s, Ls0)) h ⟨hH0, hG0⟩
  clear h
  rintro ⟨m13, k14, i15⟩ ⟨s16, Ls17⟩ tm os ⟨hH18, hG19⟩ e1 h hL1 hR1
  unfold laws_markInt64SSS_K10_S1 at h
  dsimp only at h
  refine AW.seq ?_
  refine AW.seq ?_
  refine AW.region ?_
  refine AOps.pureR rfl rfl rfl rfl rfl (rfl : _ = (AV.int .i64 i15)) ?_
  refine AOps.pureR rfl rfl rfl rfl rfl (rfl : _ = h1) ?_
  refine AOps.lenO (j := 0) hG19 rfl Sub.here rfl rfl rfl rfl rfl ?_
  refine AOps.pureR rfl rfl rfl rfl rfl (rfl : _ = (AV.bool (decide ((i15 : Int) < (m13.length : Int))))) ?_
  refine AOps.nilR ?_
  rcases oite h with ⟨hc20, h⟩ | ⟨hc20, h⟩
  · refine AW.condT (congrArg AV.bool hc20) ?_
    refine AW.skip ?_
    refine AW.seq ?_
    refine AW.block ?_
    refine AW.region ?_
    refine AOps.pureR rfl rfl rfl rfl rfl (rfl : _ = h1) ?_
    refine AOps.pureR rfl rfl rfl rfl rfl (rfl : _ = (AV.int .i64 i15)) ?_
    obtain ⟨x23, h24, h⟩ := obind h
    refine AOps.idxO (j := 0) hG19 rfl Sub.here h24 rfl rfl rfl rfl rfl rfl rfl rfl rfl ?_
    intro b21 hb22
    refine AOps.ldO (j := 0) (q := 0) hH18 hG19 rfl Sub.here h24 hb22 rfl rfl rfl rfl rfl (lt_b rfl) (le_b rfl) rfl rfl ?_ (fun c B hc => by obtain ⟨rfl, _⟩ := hc; exact ⟨_, rfl⟩)
    intro c25 B26 v27 h28 h29
    obtain ⟨rfl, _⟩ := h28
    cases h29
    refine AOps.pureR rfl rfl rfl rfl rfl (rfl : _ = (AV.int .i64 k14)) ?_
    obtain ⟨y30, h31, h⟩ := obind h
    have hP32 := HS.pop0 hH18
    have hF0 : AllG ([] : List (List BX → Prop)) [] := AllG.nil
    obtain ⟨Ls33, Lf34, hG35, hF36, hP37⟩ := HS.popS hP32 hG19 hF0 (j := 0) rfl (Sub.down Sub.here h24)
    refine AOps.callF (al := true) (g := 50) (args := [((KT.at k2 (Int.toNat i15)) []), (AV.int .i64 k14)]) rfl rfl rfl (laws_markInt64SS_K10_ok (Sub.one hG19 (j := 0) rfl (Sub.down Sub.here h24)) (HS.enterK hP37) hF36 (HS.enterLo hP37 hl) h31 (HS.wf' hH18)) ?_
    rintro _ _ s38 ⟨Ls40, rfl, hH41, hG42⟩
    have hJ43 := HS.joinK hP37 hH41
    obtain ⟨Ls44, Lf45, hG46, hF47, hP48⟩ := HS.pushS hJ43 hG35 hG42 (j := 0) rfl
    cases hF47
    have hH49 := HS.push0 hP48
    change HS ex true s s38 (([] : List BX) ++ List.flatten Ls44) at hH49
    change AllG [OS oE44 h1 k2 (m13.set (Int.toNat i15) y30.2)] Ls44 at hG46
    refine AOps.assignR rfl rfl rfl (rfl : _ = (AV.int .i64 y30.1)) rfl ?_
    refine AOps.nilR ?_
    refine AW.inBlock ?_
    refine AW.region ?_
    refine AOps.pureR rfl rfl rfl rfl rfl (rfl : _ = (AV.int .i64 i15)) ?_
    refine AOps.pureR rfl rfl rfl rfl rfl (rfl : _ = (AV.int .i64 (IntKind.wrap .i64 (i15 + 1)))) ?_
    refine AOps.assignR rfl rfl rfl (rfl : _ = (AV.int .i64 (IntKind.wrap .i64 (i15 + 1)))) rfl ?_
    refine AOps.nilR ?_
    cases h
    exact AW.res [(0, h1), (1, (AV.int .i64 y30.1)), (5, (AV.int .i64 (IntKind.wrap .i64 (i15 + 1))))] [] ⟨rfl, rfl, rfl, trivial⟩ trivial (hL1 _ rfl (s38, Ls44) _ _ ⟨hH49, hG46⟩)
  refine AW.condF (congrArg AV.bool hc20) ?_
  refine AW.exit rfl ?_
  obtain ⟨r50, hm, hx⟩ := omap h
  clear h
  subst hx
  have hx := hR1 _ rfl
  rw [hx] at hm
  have h := hm
  exact AW.res [(1, (AV.int .i64 k14))] [] ⟨rfl, trivial⟩ trivial (KJ12 (m13, k14, s16, Ls17) _ _ ⟨hH18, hG19, h⟩)
theorem laws_markChecker_K10_ok {a1 : Checker} {k14 : Int} {h2 : AV} {k3 : KT} {h5 : AV} {k6 : KT} {h8 : AV} {k9 : KT} {h11 : AV} {k12 : KT} {s : St} (ho4 : h2.one = true) (ho7 : h5.one = true) (ho10 : h8.one = true) (ho13 : h11.one = true) {ex : List Nat} {Ls0 : List (List BX)} (hH0 : HS ex true s s (([] : List BX) ++ List.flatten Ls0)) (hG0 : AllG [OS oE4 h2 k3 a1.Accept, OS oE249 h5 k6 a1.Call, OS oE44 h8 k9 a1.Return, OS oE26 h11 k12 a1.Inner] Ls0) (hl : LoOK ex true s) {r : Int × (List Bool) × (List (List Push)) × (List (List (List Int))) × (List (List Int))} (h : laws_markChecker_K10 a1 k14 = some r) (hs : WF s) : ACall Cf 29 [(AV.agg [(AV.int .i64 a1.Stack), (AV.int .i64 a1.Start), h2, h5, h8, h11]), (AV.int .i64 k14)] s (fun v _ s' => ∃ (Ls' : List (List BX)), v = (AV.int .i64 r.1) ∧ HS ex true s s' (([] : List BX) ++ List.flatten Ls') ∧ AllG [OS oE4 h2 k3 r.2.1, OS oE249 h5 k6 r.2.2.1, OS oE44 h8 k9 r.2.2.2.1, OS oE26 h11 k12 r.2.2.2.2] Ls') true := by
  refine ACall.keepR rfl rfl rfl ?_
  unfold laws_markChecker_K10 at h
  refine AW.seq ?_
  refine AW.region ?_
  refine AOps.boxR (v := (AV.agg [(AV.int .i64 a1.Stack), (AV.int .i64 a1.Start), h2, h5, h8, h11])) rfl rfl rfl rfl rfl (lay_cons rfl (lay_cons rfl (lay_cons ho4 (lay_cons ho7 (lay_cons ho10 (lay_cons ho13 lay_nil)))))) rfl rfl ?_
  refine AOps.pureR rfl rfl rfl rfl rfl (rfl : _ = (AV.int .i64 0)) ?_
  refine AOps.nilR ?_
  refine AW.seq ?_
  refine AW.region ?_
  refine AOps.pureR rfl rfl rfl rfl rfl (rfl : _ = (AV.eptr [(AV.int .i64 a1.Stack), (AV.int .i64 a1.Start), h2, h5, h8, h11] 2)) ?_
  refine AOps.ldE (v := h2) rfl rfl rfl rfl rfl rfl ?_
  refine AOps.pureR rfl rfl rfl rfl rfl (rfl : _ = (AV.int .i64 k14)) ?_
  obtain ⟨y15, h16, h⟩ := obind h
  have hP17 := HS.pop0 hH0
  have hF0 : AllG ([] : List (List BX → Prop)) [] := AllG.nil
  obtain ⟨Ls18, Lf19, hG20, hF21, hP22⟩ := HS.popG hP17 hG0 hF0 (j := 0) rfl
  refine AOps.callF (al := true) (g := 97) (args := [h2, (AV.int .i64 k14)]) rfl rfl rfl (laws_markBoolS_K10_ok ho4 (HS.enterK hP22) hF21 (HS.enterLo hP22 hl) h16 (HS.wf' hH0)) ?_
  rintro _ _ s23 ⟨Ls25, rfl, hH26, hG27⟩
  have hJ28 := HS.joinK hP22 hH26
  obtain ⟨Ls29, Lf30, hG31, hF32, hP33⟩ := HS.putG hJ28 hG20 hG27 (j := 0) rfl
  cases hF32
  have hH34 := HS.push0 hP33
  change HS ex true s s23 (([] : List BX) ++ List.flatten Ls29) at hH34
  change AllG [OS oE4 h2 k3 y15.2, OS oE249 h5 k6 a1.Call, OS oE44 h8 k9 a1.Return, OS oE26 h11 k12 a1.Inner] Ls29 at hG31
  refine AOps.assignR rfl rfl rfl (rfl : _ = (AV.int .i64 y15.1)) rfl ?_
  refine AOps.nilR ?_
  refine AW.seq ?_
  refine AW.region ?_
  refine AOps.pureR rfl rfl rfl rfl rfl (rfl : _ = (AV.eptr [(AV.int .i64 a1.Stack), (AV.int .i64 a1.Start), h2, h5, h8, h11] 3)) ?_
  refine AOps.ldE (v := h5) rfl rfl rfl rfl rfl rfl ?_
  refine AOps.pureR rfl rfl rfl rfl rfl (rfl : _ = (AV.int .i64 y15.1)) ?_
  obtain ⟨y35, h36, h⟩ := obind h
  have hP37 := HS.pop0 hH34
  have hF0 : AllG ([] : List (List BX → Prop)) [] := AllG.nil
  obtain ⟨Ls38, Lf39, hG40, hF41, hP42⟩ := HS.popG hP37 hG31 hF0 (j := 1) rfl
  refine AOps.callF (al := true) (g := 98) (args := [h5, (AV.int .i64 y15.1)]) rfl rfl rfl (laws_markPushSS_K10_ok ho7 (HS.enterK hP42) hF41 (HS.enterLo hP42 hl) h36 (HS.wf' hH34)) ?_
  rintro _ _ s43 ⟨Ls45, rfl, hH46, hG47⟩
  have hJ48 := HS.joinK hP42 hH46
  obtain ⟨Ls49, Lf50, hG51, hF52, hP53⟩ := HS.putG hJ48 hG40 hG47 (j := 1) rfl
  cases hF52
  have hH54 := HS.push0 hP53
  change HS ex true s s43 (([] : List BX) ++ List.flatten Ls49) at hH54
  change AllG [OS oE4 h2 k3 y15.2, OS oE249 h5 k6 y35.2, OS oE44 h8 k9 a1.Return, OS oE26 h11 k12 a1.Inner] Ls49 at hG51
  refine AOps.assignR rfl rfl rfl (rfl : _ = (AV.int .i64 y35.1)) rfl ?_
  refine AOps.nilR ?_
  refine AW.seq ?_
  refine AW.region ?_
  refine AOps.pureR rfl rfl rfl rfl rfl (rfl : _ = (AV.eptr [(AV.int .i64 a1.Stack), (AV.int .i64 a1.Start), h2, h5, h8, h11] 4)) ?_
  refine AOps.ldE (v := h8) rfl rfl rfl rfl rfl rfl ?_
  refine AOps.pureR rfl rfl rfl rfl rfl (rfl : _ = (AV.int .i64 y35.1)) ?_
  obtain ⟨y55, h56, h⟩ := obind h
  have hP57 := HS.pop0 hH54
  have hF0 : AllG ([] : List (List BX → Prop)) [] := AllG.nil
  obtain ⟨Ls58, Lf59, hG60, hF61, hP62⟩ := HS.popG hP57 hG51 hF0 (j := 2) rfl
  refine AOps.callF (al := true) (g := 99) (args := [h8, (AV.int .i64 y35.1)]) rfl rfl rfl (laws_markInt64SSS_K10_ok ho10 (HS.enterK hP62) hF61 (HS.enterLo hP62 hl) h56 (HS.wf' hH54)) ?_
  rintro _ _ s63 ⟨Ls65, rfl, hH66, hG67⟩
  have hJ68 := HS.joinK hP62 hH66
  obtain ⟨Ls69, Lf70, hG71, hF72, hP73⟩ := HS.putG hJ68 hG60 hG67 (j := 2) rfl
  cases hF72
  have hH74 := HS.push0 hP73
  change HS ex true s s63 (([] : List BX) ++ List.flatten Ls69) at hH74
  change AllG [OS oE4 h2 k3 y15.2, OS oE249 h5 k6 y35.2, OS oE44 h8 k9 y55.2, OS oE26 h11 k12 a1.Inner] Ls69 at hG71
  refine AOps.assignR rfl rfl rfl (rfl : _ = (AV.int .i64 y55.1)) rfl ?_
  refine AOps.nilR ?_
  refine AW.seq ?_
  refine AW.region ?_
  refine AOps.pureR rfl rfl rfl rfl rfl (rfl : _ = (AV.eptr [(AV.int .i64 a1.Stack), (AV.int .i64 a1.Start), h2, h5, h8, h11] 5)) ?_
  refine AOps.ldE (v := h11) rfl rfl rfl rfl rfl rfl ?_
  refine AOps.pureR rfl rfl rfl rfl rfl (rfl : _ = (AV.int .i64 y55.1)) ?_
  obtain ⟨y75, h76, h⟩ := obind h
  have hP77 := HS.pop0 hH74
  have hF0 : AllG ([] : List (List BX → Prop)) [] := AllG.nil
  obtain ⟨Ls78, Lf79, hG80, hF81, hP82⟩ := HS.popG hP77 hG71 hF0 (j := 3) rfl
  refine AOps.callF (al := true) (g := 50) (args := [h11, (AV.int .i64 y55.1)]) rfl rfl rfl (laws_markInt64SS_K10_ok ho13 (HS.enterK hP82) hF81 (HS.enterLo hP82 hl) h76 (HS.wf' hH74)) ?_
  rintro _ _ s83 ⟨Ls85, rfl, hH86, hG87⟩
  have hJ88 := HS.joinK hP82 hH86
  obtain ⟨Ls89, Lf90, hG91, hF92, hP93⟩ := HS.putG hJ88 hG80 hG87 (j := 3) rfl
  cases hF92
  have hH94 := HS.push0 hP93
  change HS ex true s s83 (([] : List BX) ++ List.flatten Ls89) at hH94
  change AllG [OS oE4 h2 k3 y15.2, OS oE249 h5 k6 y35.2, OS oE44 h8 k9 y55.2, OS oE26 h11 k12 y75.2] Ls89 at hG91
  refine AOps.assignR rfl rfl rfl (rfl : _ = (AV.int .i64 y75.1)) rfl ?_
  refine AOps.nilR ?_
  refine AW.seq ?_
  refine AW.region ?_
  refine AOps.pureR rfl rfl rfl rfl rfl (rfl : _ = (AV.int .i64 y75.1)) ?_
  refine AOps.assignR rfl rfl rfl (rfl : _ = (AV.int .i64 y75.1)) rfl ?_
  refine AOps.nilR ?_
  cases h
  exact AW.ret ⟨_, _, rfl, ⟨Ls89, rfl, hH94, hG91⟩⟩
theorem laws_heldInt64S_okN {a1 : List Int} {k6 : Int} {z2 : Nat} {f3 : Bool} {e4 : List AV} {s : St} (h5 : LR (rI .i64) 1 a1 z2 e4) {r : Int} (h : laws_heldInt64S a1 k6 = some r) (hs : WF s) : ACallN Cf 21 [(AV.sl z2 f3 e4), (AV.int .i64 k6)] s fun v _ s' => (rI .i64) r v ∧ s' = s := by
  refine ACallN.pure rfl rfl rfl .I ?_
  have hWF := hs.lo'
  unfold laws_heldInt64S at h
  refine AW.seq ?_
  refine AW.region ?_
  refine AOps.pureR rfl rfl rfl rfl rfl (rfl : _ = (AV.int .i64 0)) ?_
  refine AOps.nilR ?_
  refine AW.seq ?_
  refine AW.seq ?_
  refine AW.region ?_
  refine AOps.pureR rfl rfl rfl rfl rfl (rfl : _ = (AV.int .i64 0)) ?_
  refine AOps.nilR ?_
  refine AW.meet (σ := Int) (fun k7 tm os => ⟨updL tm [(1, (AV.int .i64 k7))], updL os [], { s with lo := s.n }⟩) (fun k7 => laws_heldInt64S_J1 k7 = some r) ?_ ?_
  · rintro k7 tm os h
    unfold laws_heldInt64S_J1 at h
    refine AW.seq ?_
    refine AW.region ?_
    refine AOps.pureR rfl rfl rfl rfl rfl (rfl : _ = (AV.int .i64 k7)) ?_
    refine AOps.assignR rfl rfl rfl (rfl : _ = (AV.int .i64 k7)) rfl ?_
    refine AOps.nilR ?_
    cases h
    exact AW.ret ⟨rfl, _, _, rfl, rfl⟩
  intro KJ8
  refine AW.block ?_
  refine AW.res [(0, (AV.sl z2 f3 e4)), (1, (AV.int .i64 k6)), (5, (AV.int .i64 0))] [] ⟨rfl, rfl, rfl, trivial⟩ trivial ?_
  refine AW.loopF (σ := Int × Int) (τ := Unit) (fun (k9, i10) _ => True) (fun (k9, i10) _ tm os => ⟨updL tm [(0, (AV.sl z2 f3 e4)), (1, (AV.int .i64 k9)), (5, (AV.int .i64 i10))], updL os [], { s with lo := s.n }⟩) ?_ (x := (k6, 0)) (y := ()) h trivial
  clear h
  rintro ⟨k9, i10⟩ _ tm os - e1 h hL1 hR1
  unfold laws_heldInt64S_S1 at h
  dsimp only at h
  refine AW.seq ?_
  refine AW.seq ?_
  refine AW.region ?_
  refine AOps.pureR rfl rfl rfl rfl rfl (rfl : _ = (AV.int .i64 i10)) ?_
  refine AOps.pureR rfl rfl rfl rfl rfl (rfl : _ = (AV.sl z2 f3 e4)) ?_
  refine AOps.pureR rfl rfl rfl rfl rfl (len_eq h5) ?_
  refine AOps.pureR rfl rfl rfl rfl rfl (rfl : _ = (AV.bool (decide ((i10 : Int) < (a1.length : Int))))) ?_
  refine AOps.nilR ?_
  rcases oite h with ⟨hc11, h⟩ | ⟨hc11, h⟩
  · refine AW.condT (congrArg AV.bool hc11) ?_
    refine AW.skip ?_
    refine AW.seq ?_
    refine AW.block ?_
    refine AW.seq ?_
    refine AW.seq ?_
    refine AW.region ?_
    refine AOps.pureR rfl rfl rfl rfl rfl (rfl : _ = (AV.sl z2 f3 e4)) ?_
    refine AOps.pureR rfl rfl rfl rfl rfl (rfl : _ = (AV.int .i64 i10)) ?_
    obtain ⟨x12, h13, h⟩ := obind h
    obtain ⟨v16, h14, h15⟩ := idx_sl h5 h13
    cases h14
    refine AOps.pureR rfl rfl rfl h15 rfl (rfl : _ = (AV.eptr [(AV.int .i64 x12)] 0)) ?_
    refine AOps.ldE (v := (AV.int .i64 x12)) rfl rfl rfl rfl rfl rfl ?_
    refine AOps.pureR rfl rfl rfl rfl rfl (rfl : _ = (AV.int .i64 k9)) ?_
    refine AOps.pureR rfl rfl rfl rfl rfl (rfl : _ = (AV.bool (x12 != k9))) ?_
    refine AOps.nilR ?_
    rcases oite h with ⟨hc17, h⟩ | ⟨hc17, h⟩
    · refine AW.condT (congrArg AV.bool hc17) ?_
      refine AW.seq ?_
      refine AW.region ?_
      refine AOps.pureR rfl rfl rfl rfl rfl (rfl : _ = (AV.int .i64 (-1))) ?_
      refine AOps.nilR ?_
      cases h
      have hr := hR1 _ rfl
      subst hr
      exact AW.ret ⟨rfl, _, _, rfl, rfl⟩
    refine AW.condF (congrArg AV.bool hc17) ?_
    refine AW.skip ?_
    refine AW.region ?_
    refine AOps.pureR rfl rfl rfl rfl rfl (rfl : _ = (AV.int .i64 k9)) ?_
    refine AOps.pureR rfl rfl rfl rfl rfl (rfl : _ = (AV.int .i64 (IntKind.wrap .i64 (k9 + 1)))) ?_
    refine AOps.assignR rfl rfl rfl (rfl : _ = (AV.int .i64 (IntKind.wrap .i64 (k9 + 1)))) rfl ?_
    refine AOps.nilR ?_
    refine AW.inBlock ?_
    refine AW.region ?_
    refine AOps.pureR rfl rfl rfl rfl rfl (rfl : _ = (AV.int .i64 i10)) ?_
    refine AOps.pureR rfl rfl rfl rfl rfl (rfl : _ = (AV.int .i64 (IntKind.wrap .i64 (i10 + 1)))) ?_
    refine AOps.assignR rfl rfl rfl (rfl : _ = (AV.int .i64 (IntKind.wrap .i64 (i10 + 1)))) rfl ?_
    refine AOps.nilR ?_
    cases h
    exact AW.res [(0, (AV.sl z2 f3 e4)), (1, (AV.int .i64 (IntKind.wrap .i64 (k9 + 1)))), (5, (AV.int .i64 (IntKind.wrap .i64 (i10 + 1))))] [] ⟨rfl, rfl, rfl, trivial⟩ trivial (hL1 _ rfl () _ _ trivial)
  refine AW.condF (congrArg AV.bool hc11) ?_
  refine AW.exit rfl ?_
  obtain ⟨r18, hm, hx⟩ := omap h
  clear h
  subst hx
  have hx := hR1 _ rfl
  rw [hx] at hm
  have h := hm
  exact AW.res [(1, (AV.int .i64 k9))] [] ⟨rfl, trivial⟩ trivial (KJ8 (k9) _ _ h)
theorem impl_SummaryOf_ok {c1 : Checker} {u18 : List UInt8} {z2 : Nat} {f3 : Bool} {e4 : List AV} {z6 : Nat} {f7 : Bool} {e8 : List AV} {z10 : Nat} {f11 : Bool} {e12 : List AV} {z14 : Nat} {f15 : Bool} {e16 : List AV} {s : St} (h5 : LR rB 1 c1.Accept z2 e4) (h9 : LR (rL rPush 2) 1 c1.Call z6 e8) (h13 : LR (rL (rL (rI .i64) 1) 1) 1 c1.Return z10 e12) (h17 : LR (rL (rI .i64) 1) 1 c1.Inner z14 e16) {r : (List Int) × Int} (h : impl_SummaryOf c1 u18 = some r) (hs : WF s) : ACall Cf 27 [(AV.agg [(AV.int .i64 c1.Stack), (AV.int .i64 c1.Start), (AV.sl z2 f3 e4), (AV.sl z6 f7 e8), (AV.sl z10 f11 e12), (AV.sl z14 f15 e16)]), (AV.str u18)] s fun v _ s' => (fun x => rT [(rL (rI .i64) 1) x.1, (rI .i64) x.2]) r v ∧ s' = s := by
  refine ACall.pure rfl rfl rfl (.T (.cons (.L fun _ => .I) (.cons .I .nil))) ?_
  have hWF := hs.lo'
  unfold impl_SummaryOf at h
  refine AW.seq ?_
  refine AW.region ?_
  refine AOps.makeR rfl rfl rfl rfl rfl rfl (rfl : _ = (AV.eptr [(AV.int .i64 c1.Stack), (AV.int .i64 c1.Start), (AV.sl z2 f3 e4), (AV.sl z6 f7 e8), (AV.sl z10 f11 e12), (AV.sl z14 f15 e16)] 0)) ?_
  refine AOps.pureR rfl rfl rfl rfl rfl (rfl : _ = (AV.sl 0 true [])) ?_
  refine AOps.pureR rfl rfl rfl rfl rfl (rfl : _ = (AV.int .i64 0)) ?_
  refine AOps.nilR ?_
  refine AW.seq ?_
  refine AW.block ?_
  refine AW.seq ?_
  refine AW.region ?_
  refine AOps.ldE (v := (AV.agg [(AV.int .i64 c1.Stack), (AV.int .i64 c1.Start), (AV.sl z2 f3 e4), (AV.sl z6 f7 e8), (AV.sl z10 f11 e12), (AV.sl z14 f15 e16)])) rfl rfl rfl rfl rfl rfl ?_
  obtain ⟨y19, h20, h⟩ := obind h
  refine AOps.callP (g := 90) (args := [(AV.agg [(AV.int .i64 c1.Stack), (AV.int .i64 c1.Start), (AV.sl z2 f3 e4), (AV.sl z6 f7 e8), (AV.sl z10 f11 e12), (AV.sl z14 f15 e16)])]) (p := (rB) y19) rfl rfl rfl (impl_ValidChecker_ok h5 h9 h13 h17 h20 hWF) ?_
  intro _ o22 h21
  cases h21
  refine AOps.pureR rfl rfl rfl rfl rfl (rfl : _ = (AV.bool (!y19))) ?_
  refine AOps.pureR rfl rfl rfl rfl rfl (rfl : _ = (AV.bool (!y19))) ?_
  obtain ⟨b24, hb, h⟩ := obind h
  refine AOps.split 4 (fun f' => ∃ tm' os', f' = ⟨updL tm' [(1, (AV.str u18)), (2, (AV.eptr [(AV.int .i64 c1.Stack), (AV.int .i64 c1.Start), (AV.sl z2 f3 e4), (AV.sl z6 f7 e8), (AV.sl z10 f11 e12), (AV.sl z14 f15 e16)] 0)), (18, (AV.bool b24))], updL os' [], { s with lo := s.n }⟩) ?_ ?_
  · rcases oite hb with ⟨hc23, hb⟩ | ⟨hc23, hb⟩
    · refine AOps.know (d := 14) rfl hc23 ?_
      refine AOps.skipR rfl rfl ?_
      refine AOps.skipR rfl rfl ?_
      refine AOps.skipR rfl rfl ?_
      refine AOps.pureR rfl rfl rfl rfl rfl (rfl : _ = (AV.bool true)) ?_
      refine AOps.resR [(1, (AV.str u18)), (2, (AV.eptr [(AV.int .i64 c1.Stack), (AV.int .i64 c1.Start), (AV.sl z2 f3 e4), (AV.sl z6 f7 e8), (AV.sl z10 f11 e12), (AV.sl z14 f15 e16)] 0)), (18, (AV.bool b24))] [] ?_ ?_ _ ⟨_, _, rfl⟩
      · exact ⟨rfl, rfl, congrArg AV.bool (Option.some.inj hb), trivial⟩
      exact trivial
    · have h := hb
      refine AOps.know (d := 14) rfl hc23 ?_
      refine AOps.pureR rfl rfl rfl rfl rfl (rfl : _ = (AV.str u18)) ?_
      obtain ⟨y25, h26, h⟩ := obind h
      refine AOps.callP (g := 91) (args := [(AV.str u18)]) (p := (rB) y25) rfl rfl rfl (impl_ValidWord_ok  h26 hWF) ?_
      intro _ o28 h27
      cases h27
      refine AOps.pureR rfl rfl rfl rfl rfl (rfl : _ = (AV.bool (!y25))) ?_
      refine AOps.pureR rfl rfl rfl rfl rfl (rfl : _ = (AV.bool (!y25))) ?_
      refine AOps.resR [(1, (AV.str u18)), (2, (AV.eptr [(AV.int .i64 c1.Stack), (AV.int .i64 c1.Start), (AV.sl z2 f3 e4), (AV.sl z6 f7 e8), (AV.sl z10 f11 e12), (AV.sl z14 f15 e16)] 0)), (18, (AV.bool b24))] [] ?_ ?_ _ ⟨_, _, rfl⟩
      · exact ⟨rfl, rfl, congrArg AV.bool (Option.some.inj h), trivial⟩
      exact trivial
  rintro _ ⟨tm, os, rfl⟩
  refine AOps.assignR rfl rfl rfl (rfl : _ = (AV.bool b24)) rfl ?_
  refine AOps.nilR ?_
  rcases oite h with ⟨hc29, h⟩ | ⟨hc29, h⟩
  · refine AW.condT (congrArg AV.bool hc29) ?_
    refine AW.seq ?_
    refine AW.region ?_
    refine AOps.pureR rfl rfl rfl rfl rfl (rfl : _ = (AV.sl 0 true [])) ?_
    refine AOps.pureR rfl rfl rfl rfl rfl (rfl : _ = (AV.int .i64 1)) ?_
    refine AOps.nilR ?_
    cases h
    exact AW.ret ⟨rfl, _, _, rfl, ⟨_, rfl, (.cons ⟨_, _, _, rfl, ⟨.inr ⟨rfl, rfl⟩, .nil⟩⟩ (.cons rfl .nil))⟩⟩
  refine AW.condF (congrArg AV.bool hc29) ?_
  refine AW.seq ?_
  refine AW.region ?_
  refine AOps.pureR rfl rfl rfl rfl rfl (rfl : _ = (AV.str u18)) ?_
  obtain ⟨y30, h31, h⟩ := obind h
  refine AOps.callP (g := 92) (args := [(AV.str u18)]) (p := (rB) y30) rfl rfl rfl (impl_isMatched_ok  h31 hWF) ?_
  intro _ o33 h32
  cases h32
  refine AOps.pureR rfl rfl rfl rfl rfl (rfl : _ = (AV.bool (!y30))) ?_
  refine AOps.assignR rfl rfl rfl (rfl : _ = (AV.bool (!y30))) rfl ?_
  refine AOps.nilR ?_
  rcases oite h with ⟨hc34, h⟩ | ⟨hc34, h⟩
  · refine AW.condT (congrArg AV.bool hc34) ?_
    refine AW.seq ?_
    refine AW.region ?_
    refine AOps.pureR rfl rfl rfl rfl rfl (rfl : _ = (AV.sl 0 true [])) ?_
    refine AOps.pureR rfl rfl rfl rfl rfl (rfl : _ = (AV.int .i64 4)) ?_
    refine AOps.nilR ?_
    cases h
    exact AW.ret ⟨rfl, _, _, rfl, ⟨_, rfl, (.cons ⟨_, _, _, rfl, ⟨.inr ⟨rfl, rfl⟩, .nil⟩⟩ (.cons rfl .nil))⟩⟩
  refine AW.condF (congrArg AV.bool hc34) ?_
  refine AW.skip ?_
  refine AW.inBlock ?_
  refine AW.seq ?_
  refine AW.region ?_
  refine AOps.makeR rfl rfl rfl rfl rfl rfl (rfl : _ = (AV.sl 1 true [])) ?_
  refine AOps.assignR rfl rfl rfl (rfl : _ = (AV.sl 1 true [])) rfl ?_
  refine AOps.nilR ?_
  refine AW.seq ?_
  refine AW.seq ?_
  refine AW.region ?_
  refine AOps.pureR rfl rfl rfl rfl rfl (rfl : _ = (AV.eptr [(AV.int .i64 c1.Stack), (AV.int .i64 c1.Start), (AV.sl z2 f3 e4), (AV.sl z6 f7 e8), (AV.sl z10 f11 e12), (AV.sl z14 f15 e16)] 2)) ?_
  refine AOps.ldE (v := (AV.sl z2 f3 e4)) rfl rfl rfl rfl rfl rfl ?_
  refine AOps.pureR rfl rfl rfl rfl rfl (len_eq h5) ?_
  refine AOps.pureR rfl rfl rfl rfl rfl (rfl : _ = (AV.int .i64 0)) ?_
  refine AOps.nilR ?_
  refine AW.meet (σ := (List Int) × Nat × Bool × (List AV) × Bool) (fun (out35, z36, f37, e38, o40) tm os => ⟨updL tm [(6, (AV.sl z36 f37 e38))], updL os [(6, o40)], { s with lo := s.n }⟩) (fun (out35, z36, f37, e38, o40) => (LR (rI .i64) 1 out35 z36 e38) ∧ (f37 = true ∨ o40 = true) ∧ impl_SummaryOf_J1 out35 = some r) ?_ ?_
  · rintro ⟨out35, z36, f37, e38, o40⟩ tm os ⟨h39, h41, h⟩
    unfold impl_SummaryOf_J1 at h
    refine AW.seq ?_
    refine AW.region ?_
    refine AOps.pureR rfl rfl rfl rfl rfl (rfl : _ = (AV.sl z36 f37 e38)) ?_
    refine AOps.assignR rfl rfl rfl (rfl : _ = (AV.sl z36 f37 e38)) rfl ?_
    refine AOps.pureR rfl rfl rfl rfl rfl (rfl : _ = (AV.int .i64 0)) ?_
    refine AOps.nilR ?_
    cases h
    exact AW.ret ⟨rfl, _, _, rfl, ⟨_, rfl, (.cons ⟨_, _, _, rfl, h39⟩ (.cons rfl .nil))⟩⟩
  intro KJ42
  refine AW.block ?_
  refine AW.res [(1, (AV.str u18)), (2, (AV.eptr [(AV.int .i64 c1.Stack), (AV.int .i64 c1.Start), (AV.sl z2 f3 e4), (AV.sl z6 f7 e8), (AV.sl z10 f11 e12), (AV.sl z14 f15 e16)] 0)), (6, (AV.sl 1 true [])), (26, (AV.int .i64 (c1.Accept.length : Int))), (27, (AV.int .i64 0))] [(6, false)] ⟨rfl, rfl, rfl, rfl, rfl, trivial⟩ ⟨rfl, trivial⟩ ?_
  refine AW.loopF (σ := (List Int) × Int) (τ := Nat × Bool × (List AV) × Bool) (fun (out43, t50) (z44, f45, e46, o48) => (LR (rI .i64) 1 out43 z44 e46) ∧ (f45 = true ∨ o48 = true)) (fun (out43, t50) (z44, f45, e46, o48) tm os => ⟨updL tm [(1, (AV.str u18)), (2, (AV.eptr [(AV.int .i64 c1.Stack), (AV.int .i64 c1.Start), (AV.sl z2 f3 e4), (AV.sl z6 f7 e8), (AV.sl z10 f11 e12), (AV.sl z14 f15 e16)] 0)), (6, (AV.sl z44 f45 e46)), (26, (AV.int .i64 (c1.Accept.length : Int))), (27, (AV.int .i64 t50))], updL os [(6, o48)], { s with lo := s.n }⟩) ?_ (x := (([] : List Int), 0)) (y := (1, true, [], false)) h ⟨⟨.inl rfl, .nil⟩, (Or.inl rfl)⟩
  clear h
  rintro ⟨out43, t50⟩ ⟨z44, f45, e46, o48⟩ tm os ⟨h47, h49⟩ e1 h hL1 hR1
  unfold impl_SummaryOf_S1 at h
  dsimp only at h
  refine AW.seq ?_
  refine AW.region ?_
  refine AOps.pureR rfl rfl rfl rfl rfl (rfl : _ = (AV.bool (decide ((t50 : Int) < (c1.Accept.length : Int))))) ?_
  refine AOps.nilR ?_
  refine AW.seq ?_
  rcases oite h with ⟨hc51, h⟩ | ⟨hc51, h⟩
  · refine AW.condT (congrArg AV.bool hc51) ?_
    refine AW.skip ?_
    refine AW.seq ?_
    refine AW.block ?_
    refine AW.seq ?_
    refine AW.region ?_
    refine AOps.pureR rfl rfl rfl rfl rfl (rfl : _ = (AV.int .i64 t50)) ?_
    refine AOps.assignR rfl rfl rfl (rfl : _ = (AV.int .i64 t50)) rfl ?_
    refine AOps.nilR ?_
    refine AW.seq ?_
    refine AW.region ?_
    refine AOps.ldE (v := (AV.agg [(AV.int .i64 c1.Stack), (AV.int .i64 c1.Start), (AV.sl z2 f3 e4), (AV.sl z6 f7 e8), (AV.sl z10 f11 e12), (AV.sl z14 f15 e16)])) rfl rfl rfl rfl rfl rfl ?_
    refine AOps.pureR rfl rfl rfl rfl rfl (rfl : _ = (AV.int .i64 t50)) ?_
    refine AOps.pureR rfl rfl rfl rfl rfl (rfl : _ = (AV.str u18)) ?_
    obtain ⟨y52, h53, h⟩ := obind h
    refine AOps.callP (g := 93) (args := [(AV.agg [(AV.int .i64 c1.Stack), (AV.int .i64 c1.Start), (AV.sl z2 f3 e4), (AV.sl z6 f7 e8), (AV.sl z10 f11 e12), (AV.sl z14 f15 e16)]), (AV.int .i64 t50), (AV.sl 0 true []), (AV.str u18)]) (p := (fun x => rT [(rI .i64) x.1, (rL (rI .i64) 1) x.2]) y52) rfl rfl rfl (impl_Checker_end_ok h5 h9 h13 h17 (⟨.inr ⟨rfl, rfl⟩, .nil⟩) h53 hWF) ?_
    intro _ o64 h54
    obtain ⟨_, rfl, h55⟩ := h54
    obtain ⟨_, _, rfl, h56, h57⟩ := Cs_cons h55
    cases h56
    obtain ⟨_, _, rfl, h58, h59⟩ := Cs_cons h57
    obtain ⟨z60, f61, e62, rfl, h63⟩ := h58
    cases Cs_nil h59
    refine AOps.pureR rfl rfl rfl rfl rfl (rfl : _ = (AV.tup [(AV.int .i64 y52.1), (AV.sl z60 f61 e62)])) ?_
    refine AOps.pureR rfl rfl rfl rfl rfl (rfl : _ = (AV.int .i64 y52.1)) ?_
    refine AOps.pureR rfl rfl rfl rfl rfl (rfl : _ = (AV.sl z60 f61 e62)) ?_
    refine AOps.assignR rfl rfl rfl (rfl : _ = (AV.int .i64 y52.1)) rfl ?_
    refine AOps.assignR rfl rfl rfl (rfl : _ = (AV.sl z60 f61 e62)) rfl ?_
    refine AOps.nilR ?_
    refine AW.region ?_
    refine AOps.moveR rfl rfl rfl rfl (rfl : _ = (AV.sl z44 f45 e46)) rfl ?_
    refine AOps.pureR rfl rfl rfl rfl rfl (rfl : _ = (AV.int .i64 y52.1)) ?_
    refine AOps.makeR rfl rfl rfl rfl rfl rfl (rfl : _ = (AV.sl 1 true [(AV.int .i64 y52.1)])) ?_
    obtain ⟨l65, h66, h⟩ := obind h
    obtain ⟨h67, h68⟩ := app_LR h47 (LR.lit (r := rI .i64) (sz := 1) (.cons rfl .nil)) h66
    refine AOps.appL (z := z44) (f := f45) (e := e46) (z' := 1) (f' := true) (e' := [(AV.int .i64 y52.1)]) rfl rfl rfl rfl rfl rfl rfl (appSrc_sl (LR.z (LR.lit (r := rI .i64) (sz := 1) (.cons rfl .nil))) rfl) (LR.z h47) ⟨by decide, by decide, rfl, rfl⟩ rfl rfl h68 (own_tmp h49 rfl rfl) ?_
    refine AOps.assignR rfl rfl rfl (rfl : _ = (AV.sl 1 false (e46 ++ [(AV.int .i64 y52.1)]))) rfl ?_
    refine AOps.nilR ?_
    refine AW.inBlock ?_
    refine AW.region ?_
    refine AOps.pureR rfl rfl rfl rfl rfl (rfl : _ = (AV.int .i64 (IntKind.wrap .i64 (t50 + 1)))) ?_
    refine AOps.pureR rfl rfl rfl rfl rfl (rfl : _ = (AV.int .i64 (IntKind.wrap .i64 (t50 + 1)))) ?_
    refine AOps.nilR ?_
    cases h
    exact AW.res [(1, (AV.str u18)), (2, (AV.eptr [(AV.int .i64 c1.Stack), (AV.int .i64 c1.Start), (AV.sl z2 f3 e4), (AV.sl z6 f7 e8), (AV.sl z10 f11 e12), (AV.sl z14 f15 e16)] 0)), (6, (AV.sl 1 false (e46 ++ [(AV.int .i64 y52.1)]))), (26, (AV.int .i64 (c1.Accept.length : Int))), (27, (AV.int .i64 (IntKind.wrap .i64 (t50 + 1))))] [(6, true)] ⟨rfl, rfl, rfl, rfl, rfl, trivial⟩ ⟨rfl, trivial⟩ (hL1 _ rfl (1, false, (e46 ++ [(AV.int .i64 y52.1)]), true) _ _ ⟨h67, (Or.inr rfl)⟩)
  refine AW.condF (congrArg AV.bool hc51) ?_
  refine AW.exit rfl ?_
  obtain ⟨r69, hm, hx⟩ := omap h
  clear h
  subst hx
  have hx := hR1 _ rfl
  rw [hx] at hm
  have h := hm
  exact AW.res [(6, (AV.sl z44 f45 e46))] [(6, o48)] ⟨rfl, trivial⟩ ⟨rfl, trivial⟩ (KJ42 (out43, z44, f45, e46, o48) _ _ ⟨h47, h49, h⟩)
end Go.Proofs.Ytddjkclabfmakaa.law
