import Derived.Test.YtolbkojnnofnaaaAeD
set_option linter.unusedVariables false
namespace Go.Proofs.Ytolbkojnnofnaaa.law
open Go Go.Proofs Ae
set_option maxRecDepth 100000
set_option linter.unusedVariables false
theorem ext_join_ok {l : List (List UInt8)} {z : Nat} {f : Bool} {e : List AV} (hL : LR rS 1 l z e) {sep r : List UInt8} (h : joinS l sep = some r) {st : St} (hs : WF st) : ACall Cf 48 [.sl z f e, .str sep] st fun v _ s' => rS r v ∧ s' = st := by
  refine ⟨0, .str r, false, st, ?_, rfl, rfl⟩
  show (φJoin [.sl z f e, .str sep]).map _ = _
  rw [φJoin_run hL h]
  rfl
theorem ext_byte_ok {s : List UInt8} {c r : Int} (h : ixByteM s c = some r) {st : St} (hs : WF st) : ACall Cf 139 [.str s, .int .u8 c] st fun v _ s' => rI .i64 r v ∧ s' = st := by
  cases h
  exact ⟨0, _, _, _, rfl, rfl, rfl⟩
theorem laws_szBoolS_ok {a1 : List Bool} {left6 : Int} {z2 : Nat} {f3 : Bool} {e4 : List AV} {s : St} (h5 : LR rB 1 a1 z2 e4) {r : Int} (h : laws_szBoolS a1 left6 = some r) (hs : WF s) : ACall Cf 77 [(AV.sl z2 f3 e4), (AV.int .i64 left6)] s fun v _ s' => (rI .i64) r v ∧ s' = s := by
  refine ACall.pure rfl rfl rfl .I ?_
  have hWF := hs.lo'
  unfold laws_szBoolS at h
  refine AW.seq ?_
  refine AW.region ?_
  refine AOps.pureR rfl rfl rfl rfl rfl (rfl : _ = (AV.int .i64 0)) ?_
  refine AOps.nilR ?_
  refine AW.seq ?_
  refine AW.region ?_
  refine AOps.pureR rfl rfl rfl rfl rfl (rfl : _ = (AV.int .i64 left6)) ?_
  refine AOps.pureR rfl rfl rfl rfl rfl (rfl : _ = (AV.sl z2 f3 e4)) ?_
  refine AOps.pureR rfl rfl rfl rfl rfl (len_eq h5) ?_
  refine AOps.pureR rfl rfl rfl rfl rfl (rfl : _ = (AV.int .i64 (IntKind.wrap .i64 (left6 - (a1.length : Int))))) ?_
  refine AOps.assignR rfl rfl rfl (rfl : _ = (AV.int .i64 (IntKind.wrap .i64 (left6 - (a1.length : Int))))) rfl ?_
  refine AOps.nilR ?_
  refine AW.seq ?_
  refine AW.seq ?_
  refine AW.region ?_
  refine AOps.pureR rfl rfl rfl rfl rfl (rfl : _ = (AV.int .i64 (IntKind.wrap .i64 (left6 - (a1.length : Int))))) ?_
  refine AOps.pureR rfl rfl rfl rfl rfl (rfl : _ = (AV.bool (decide ((IntKind.wrap .i64 (left6 - (a1.length : Int)) : Int) < 0)))) ?_
  refine AOps.nilR ?_
  rcases oite h with ⟨hc7, h⟩ | ⟨hc7, h⟩
  · refine AW.condT (congrArg AV.bool hc7) ?_
    refine AW.seq ?_
    refine AW.region ?_
    refine AOps.pureR rfl rfl rfl rfl rfl (rfl : _ = (AV.int .i64 (-1))) ?_
    refine AOps.nilR ?_
    cases h
    exact AW.ret ⟨rfl, _, _, rfl, rfl⟩
  refine AW.condF (congrArg AV.bool hc7) ?_
  refine AW.skip ?_
  refine AW.seq ?_
  refine AW.region ?_
  refine AOps.pureR rfl rfl rfl rfl rfl (rfl : _ = (AV.int .i64 (IntKind.wrap .i64 (left6 - (a1.length : Int))))) ?_
  refine AOps.assignR rfl rfl rfl (rfl : _ = (AV.int .i64 (IntKind.wrap .i64 (left6 - (a1.length : Int))))) rfl ?_
  refine AOps.nilR ?_
  cases h
  exact AW.ret ⟨rfl, _, _, rfl, rfl⟩
theorem laws_szPushS_ok {a1 : List Push} {left6 : Int} {z2 : Nat} {f3 : Bool} {e4 : List AV} {s : St} (h5 : LR rPush 2 a1 z2 e4) {r : Int} (h : laws_szPushS a1 left6 = some r) (hs : WF s) : ACall Cf 123 [(AV.sl z2 f3 e4), (AV.int .i64 left6)] s fun v _ s' => (rI .i64) r v ∧ s' = s := by
  refine ACall.pure rfl rfl rfl .I ?_
  have hWF := hs.lo'
  unfold laws_szPushS at h
  refine AW.seq ?_
  refine AW.region ?_
  refine AOps.pureR rfl rfl rfl rfl rfl (rfl : _ = (AV.int .i64 0)) ?_
  refine AOps.nilR ?_
  refine AW.seq ?_
  refine AW.region ?_
  refine AOps.pureR rfl rfl rfl rfl rfl (rfl : _ = (AV.int .i64 left6)) ?_
  refine AOps.pureR rfl rfl rfl rfl rfl (rfl : _ = (AV.sl z2 f3 e4)) ?_
  refine AOps.pureR rfl rfl rfl rfl rfl (len_eq h5) ?_
  refine AOps.pureR rfl rfl rfl rfl rfl (rfl : _ = (AV.int .i64 (IntKind.wrap .i64 (left6 - (a1.length : Int))))) ?_
  refine AOps.assignR rfl rfl rfl (rfl : _ = (AV.int .i64 (IntKind.wrap .i64 (left6 - (a1.length : Int))))) rfl ?_
  refine AOps.nilR ?_
  refine AW.seq ?_
  refine AW.seq ?_
  refine AW.region ?_
  refine AOps.pureR rfl rfl rfl rfl rfl (rfl : _ = (AV.int .i64 (IntKind.wrap .i64 (left6 - (a1.length : Int))))) ?_
  refine AOps.pureR rfl rfl rfl rfl rfl (rfl : _ = (AV.bool (decide ((IntKind.wrap .i64 (left6 - (a1.length : Int)) : Int) < 0)))) ?_
  refine AOps.nilR ?_
  rcases oite h with ⟨hc7, h⟩ | ⟨hc7, h⟩
  · refine AW.condT (congrArg AV.bool hc7) ?_
    refine AW.seq ?_
    refine AW.region ?_
    refine AOps.pureR rfl rfl rfl rfl rfl (rfl : _ = (AV.int .i64 (-1))) ?_
    refine AOps.nilR ?_
    cases h
    exact AW.ret ⟨rfl, _, _, rfl, rfl⟩
  refine AW.condF (congrArg AV.bool hc7) ?_
  refine AW.skip ?_
  refine AW.seq ?_
  refine AW.region ?_
  refine AOps.pureR rfl rfl rfl rfl rfl (rfl : _ = (AV.int .i64 (IntKind.wrap .i64 (left6 - (a1.length : Int))))) ?_
  refine AOps.assignR rfl rfl rfl (rfl : _ = (AV.int .i64 (IntKind.wrap .i64 (left6 - (a1.length : Int))))) rfl ?_
  refine AOps.nilR ?_
  cases h
  exact AW.ret ⟨rfl, _, _, rfl, rfl⟩
theorem laws_szPushSS_ok {a1 : List (List Push)} {left6 : Int} {z2 : Nat} {f3 : Bool} {e4 : List AV} {s : St} (h5 : LR (rL rPush 2) 1 a1 z2 e4) {r : Int} (h : laws_szPushSS a1 left6 = some r) (hs : WF s) : ACall Cf 78 [(AV.sl z2 f3 e4), (AV.int .i64 left6)] s fun v _ s' => (rI .i64) r v ∧ s' = s := by
  refine ACall.pure rfl rfl rfl .I ?_
  have hWF := hs.lo'
  unfold laws_szPushSS at h
  refine AW.seq ?_
  refine AW.region ?_
  refine AOps.pureR rfl rfl rfl rfl rfl (rfl : _ = (AV.int .i64 0)) ?_
  refine AOps.nilR ?_
  refine AW.seq ?_
  refine AW.region ?_
  refine AOps.pureR rfl rfl rfl rfl rfl (rfl : _ = (AV.int .i64 left6)) ?_
  refine AOps.pureR rfl rfl rfl rfl rfl (rfl : _ = (AV.sl z2 f3 e4)) ?_
  refine AOps.pureR rfl rfl rfl rfl rfl (len_eq h5) ?_
  refine AOps.pureR rfl rfl rfl rfl rfl (rfl : _ = (AV.int .i64 (IntKind.wrap .i64 (left6 - (a1.length : Int))))) ?_
  refine AOps.assignR rfl rfl rfl (rfl : _ = (AV.int .i64 (IntKind.wrap .i64 (left6 - (a1.length : Int))))) rfl ?_
  refine AOps.nilR ?_
  refine AW.seq ?_
  refine AW.seq ?_
  refine AW.region ?_
  refine AOps.pureR rfl rfl rfl rfl rfl (rfl : _ = (AV.int .i64 (IntKind.wrap .i64 (left6 - (a1.length : Int))))) ?_
  refine AOps.pureR rfl rfl rfl rfl rfl (rfl : _ = (AV.bool (decide ((IntKind.wrap .i64 (left6 - (a1.length : Int)) : Int) < 0)))) ?_
  refine AOps.nilR ?_
  rcases oite h with ⟨hc7, h⟩ | ⟨hc7, h⟩
  · refine AW.condT (congrArg AV.bool hc7) ?_
    refine AW.seq ?_
    refine AW.region ?_
    refine AOps.pureR rfl rfl rfl rfl rfl (rfl : _ = (AV.int .i64 (-1))) ?_
    refine AOps.nilR ?_
    cases h
    exact AW.ret ⟨rfl, _, _, rfl, rfl⟩
  refine AW.condF (congrArg AV.bool hc7) ?_
  refine AW.skip ?_
  refine AW.seq ?_
  refine AW.seq ?_
  refine AW.region ?_
  refine AOps.pureR rfl rfl rfl rfl rfl (rfl : _ = (AV.int .i64 0)) ?_
  refine AOps.nilR ?_
  refine AW.meet (σ := Int) (fun left8 tm os => ⟨updL tm [(1, (AV.int .i64 left8))], updL os [], { s with lo := s.n }⟩) (fun left8 => laws_szPushSS_J1 left8 = some r) ?_ ?_
  · rintro left8 tm os h
    unfold laws_szPushSS_J1 at h
    refine AW.seq ?_
    refine AW.region ?_
    refine AOps.pureR rfl rfl rfl rfl rfl (rfl : _ = (AV.int .i64 left8)) ?_
    refine AOps.assignR rfl rfl rfl (rfl : _ = (AV.int .i64 left8)) rfl ?_
    refine AOps.nilR ?_
    cases h
    exact AW.ret ⟨rfl, _, _, rfl, rfl⟩
  intro KJ9
  refine AW.block ?_
  refine AW.res [(0, (AV.sl z2 f3 e4)), (1, (AV.int .i64 (IntKind.wrap .i64 (left6 - (a1.length : Int))))), (5, (AV.int .i64 0))] [] ⟨rfl, rfl, rfl, trivial⟩ trivial ?_
  refine AW.loopF (σ := Int × Int) (τ := Unit) (fun (left10, i11) _ => True) (fun (left10, i11) _ tm os => ⟨updL tm [(0, (AV.sl z2 f3 e4)), (1, (AV.int .i64 left10)), (5, (AV.int .i64 i11))], updL os [], { s with lo := s.n }⟩) ?_ (x := (IntKind.wrap .i64 (left6 - (a1.length : Int)), 0)) (y := ()) h trivial
  clear h
  rintro ⟨left10, i11⟩ _ tm os - e1 h hL1 hR1
  unfold laws_szPushSS_S1 at h
  dsimp only at h
  refine AW.seq ?_
  refine AW.seq ?_
  refine AW.region ?_
  refine AOps.pureR rfl rfl rfl rfl rfl (rfl : _ = (AV.int .i64 i11)) ?_
  refine AOps.pureR rfl rfl rfl rfl rfl (rfl : _ = (AV.sl z2 f3 e4)) ?_
  refine AOps.pureR rfl rfl rfl rfl rfl (len_eq h5) ?_
  refine AOps.pureR rfl rfl rfl rfl rfl (rfl : _ = (AV.bool (decide ((i11 : Int) < (a1.length : Int))))) ?_
  refine AOps.nilR ?_
  rcases oite h with ⟨hc12, h⟩ | ⟨hc12, h⟩
  · refine AW.condT (congrArg AV.bool hc12) ?_
    refine AW.skip ?_
    refine AW.seq ?_
    refine AW.block ?_
    refine AW.seq ?_
    refine AW.region ?_
    refine AOps.pureR rfl rfl rfl rfl rfl (rfl : _ = (AV.sl z2 f3 e4)) ?_
    refine AOps.pureR rfl rfl rfl rfl rfl (rfl : _ = (AV.int .i64 i11)) ?_
    obtain ⟨x13, h14, h⟩ := obind h
    obtain ⟨v17, h15, h16⟩ := idx_sl h5 h14
    obtain ⟨z18, f19, e20, rfl, h21⟩ := h15
    refine AOps.pureR rfl rfl rfl h16 rfl (rfl : _ = (AV.eptr [(AV.sl z18 f19 e20)] 0)) ?_
    refine AOps.ldE (v := (AV.sl z18 f19 e20)) rfl rfl rfl rfl rfl rfl ?_
    refine AOps.pureR rfl rfl rfl rfl rfl (rfl : _ = (AV.int .i64 left10)) ?_
    obtain ⟨y22, h23, h⟩ := obind h
    refine AOps.callP (g := 123) (args := [(AV.sl z18 f19 e20), (AV.int .i64 left10)]) (p := (rI .i64) y22) rfl rfl rfl (laws_szPushS_ok h21 h23 hWF) ?_
    intro _ o25 h24
    cases h24
    refine AOps.assignR rfl rfl rfl (rfl : _ = (AV.int .i64 y22)) rfl ?_
    refine AOps.nilR ?_
    refine AW.seq ?_
    refine AW.region ?_
    refine AOps.pureR rfl rfl rfl rfl rfl (rfl : _ = (AV.int .i64 y22)) ?_
    refine AOps.pureR rfl rfl rfl rfl rfl (rfl : _ = (AV.bool (decide ((y22 : Int) < 0)))) ?_
    refine AOps.nilR ?_
    rcases oite h with ⟨hc26, h⟩ | ⟨hc26, h⟩
    · refine AW.condT (congrArg AV.bool hc26) ?_
      refine AW.seq ?_
      refine AW.region ?_
      refine AOps.pureR rfl rfl rfl rfl rfl (rfl : _ = (AV.int .i64 (-1))) ?_
      refine AOps.nilR ?_
      cases h
      have hr := hR1 _ rfl
      subst hr
      exact AW.ret ⟨rfl, _, _, rfl, rfl⟩
    refine AW.condF (congrArg AV.bool hc26) ?_
    refine AW.skip ?_
    refine AW.inBlock ?_
    refine AW.region ?_
    refine AOps.pureR rfl rfl rfl rfl rfl (rfl : _ = (AV.int .i64 i11)) ?_
    refine AOps.pureR rfl rfl rfl rfl rfl (rfl : _ = (AV.int .i64 (IntKind.wrap .i64 (i11 + 1)))) ?_
    refine AOps.assignR rfl rfl rfl (rfl : _ = (AV.int .i64 (IntKind.wrap .i64 (i11 + 1)))) rfl ?_
    refine AOps.nilR ?_
    cases h
    exact AW.res [(0, (AV.sl z2 f3 e4)), (1, (AV.int .i64 y22)), (5, (AV.int .i64 (IntKind.wrap .i64 (i11 + 1))))] [] ⟨rfl, rfl, rfl, trivial⟩ trivial (hL1 _ rfl () _ _ trivial)
  refine AW.condF (congrArg AV.bool hc12) ?_
  refine AW.exit rfl ?_
  obtain ⟨r27, hm, hx⟩ := omap h
  clear h
  subst hx
  have hx := hR1 _ rfl
  rw [hx] at hm
  have h := hm
  exact AW.res [(1, (AV.int .i64 left10))] [] ⟨rfl, trivial⟩ trivial (KJ9 (left10) _ _ h)
theorem laws_szInt64S_ok {a1 : List Int} {left6 : Int} {z2 : Nat} {f3 : Bool} {e4 : List AV} {s : St} (h5 : LR (rI .i64) 1 a1 z2 e4) {r : Int} (h : laws_szInt64S a1 left6 = some r) (hs : WF s) : ACall Cf 124 [(AV.sl z2 f3 e4), (AV.int .i64 left6)] s fun v _ s' => (rI .i64) r v ∧ s' = s := by
  refine ACall.pure rfl rfl rfl .I ?_
  have hWF := hs.lo'
  unfold laws_szInt64S at h
  refine AW.seq ?_
  refine AW.region ?_
  refine AOps.pureR rfl rfl rfl rfl rfl (rfl : _ = (AV.int .i64 0)) ?_
  refine AOps.nilR ?_
  refine AW.seq ?_
  refine AW.region ?_
  refine AOps.pureR rfl rfl rfl rfl rfl (rfl : _ = (AV.int .i64 left6)) ?_
  refine AOps.pureR rfl rfl rfl rfl rfl (rfl : _ = (AV.sl z2 f3 e4)) ?_
  refine AOps.pureR rfl rfl rfl rfl rfl (len_eq h5) ?_
  refine AOps.pureR rfl rfl rfl rfl rfl (rfl : _ = (AV.int .i64 (IntKind.wrap .i64 (left6 - (a1.length : Int))))) ?_
  refine AOps.assignR rfl rfl rfl (rfl : _ = (AV.int .i64 (IntKind.wrap .i64 (left6 - (a1.length : Int))))) rfl ?_
  refine AOps.nilR ?_
  refine AW.seq ?_
  refine AW.seq ?_
  refine AW.region ?_
  refine AOps.pureR rfl rfl rfl rfl rfl (rfl : _ = (AV.int .i64 (IntKind.wrap .i64 (left6 - (a1.length : Int))))) ?_
  refine AOps.pureR rfl rfl rfl rfl rfl (rfl : _ = (AV.bool (decide ((IntKind.wrap .i64 (left6 - (a1.length : Int)) : Int) < 0)))) ?_
  refine AOps.nilR ?_
  rcases oite h with ⟨hc7, h⟩ | ⟨hc7, h⟩
  · refine AW.condT (congrArg AV.bool hc7) ?_
    refine AW.seq ?_
    refine AW.region ?_
    refine AOps.pureR rfl rfl rfl rfl rfl (rfl : _ = (AV.int .i64 (-1))) ?_
    refine AOps.nilR ?_
    cases h
    exact AW.ret ⟨rfl, _, _, rfl, rfl⟩
  refine AW.condF (congrArg AV.bool hc7) ?_
  refine AW.skip ?_
  refine AW.seq ?_
  refine AW.region ?_
  refine AOps.pureR rfl rfl rfl rfl rfl (rfl : _ = (AV.int .i64 (IntKind.wrap .i64 (left6 - (a1.length : Int))))) ?_
  refine AOps.assignR rfl rfl rfl (rfl : _ = (AV.int .i64 (IntKind.wrap .i64 (left6 - (a1.length : Int))))) rfl ?_
  refine AOps.nilR ?_
  cases h
  exact AW.ret ⟨rfl, _, _, rfl, rfl⟩
theorem laws_szInt64SS_ok {a1 : List (List Int)} {left6 : Int} {z2 : Nat} {f3 : Bool} {e4 : List AV} {s : St} (h5 : LR (rL (rI .i64) 1) 1 a1 z2 e4) {r : Int} (h : laws_szInt64SS a1 left6 = some r) (hs : WF s) : ACall Cf 80 [(AV.sl z2 f3 e4), (AV.int .i64 left6)] s fun v _ s' => (rI .i64) r v ∧ s' = s := by
  refine ACall.pure rfl rfl rfl .I ?_
  have hWF := hs.lo'
  unfold laws_szInt64SS at h
  refine AW.seq ?_
  refine AW.region ?_
  refine AOps.pureR rfl rfl rfl rfl rfl (rfl : _ = (AV.int .i64 0)) ?_
  refine AOps.nilR ?_
  refine AW.seq ?_
  refine AW.region ?_
  refine AOps.pureR rfl rfl rfl rfl rfl (rfl : _ = (AV.int .i64 left6)) ?_
  refine AOps.pureR rfl rfl rfl rfl rfl (rfl : _ = (AV.sl z2 f3 e4)) ?_
  refine AOps.pureR rfl rfl rfl rfl rfl (len_eq h5) ?_
  refine AOps.pureR rfl rfl rfl rfl rfl (rfl : _ = (AV.int .i64 (IntKind.wrap .i64 (left6 - (a1.length : Int))))) ?_
  refine AOps.assignR rfl rfl rfl (rfl : _ = (AV.int .i64 (IntKind.wrap .i64 (left6 - (a1.length : Int))))) rfl ?_
  refine AOps.nilR ?_
  refine AW.seq ?_
  refine AW.seq ?_
  refine AW.region ?_
  refine AOps.pureR rfl rfl rfl rfl rfl (rfl : _ = (AV.int .i64 (IntKind.wrap .i64 (left6 - (a1.length : Int))))) ?_
  refine AOps.pureR rfl rfl rfl rfl rfl (rfl : _ = (AV.bool (decide ((IntKind.wrap .i64 (left6 - (a1.length : Int)) : Int) < 0)))) ?_
  refine AOps.nilR ?_
  rcases oite h with ⟨hc7, h⟩ | ⟨hc7, h⟩
  · refine AW.condT (congrArg AV.bool hc7) ?_
    refine AW.seq ?_
    refine AW.region ?_
    refine AOps.pureR rfl rfl rfl rfl rfl (rfl : _ = (AV.int .i64 (-1))) ?_
    refine AOps.nilR ?_
    cases h
    exact AW.ret ⟨rfl, _, _, rfl, rfl⟩
  refine AW.condF (congrArg AV.bool hc7) ?_
  refine AW.skip ?_
  refine AW.seq ?_
  refine AW.seq ?_
  refine AW.region ?_
  refine AOps.pureR rfl rfl rfl rfl rfl (rfl : _ = (AV.int .i64 0)) ?_
  refine AOps.nilR ?_
  refine AW.meet (σ := Int) (fun left8 tm os => ⟨updL tm [(1, (AV.int .i64 left8))], updL os [], { s with lo := s.n }⟩) (fun left8 => laws_szInt64SS_J1 left8 = some r) ?_ ?_
  · rintro left8 tm os h
    unfold laws_szInt64SS_J1 at h
    refine AW.seq ?_
    refine AW.region ?_
    refine AOps.pureR rfl rfl rfl rfl rfl (rfl : _ = (AV.int .i64 left8)) ?_
    refine AOps.assignR rfl rfl rfl (rfl : _ = (AV.int .i64 left8)) rfl ?_
    refine AOps.nilR ?_
    cases h
    exact AW.ret ⟨rfl, _, _, rfl, rfl⟩
  intro KJ9
  refine AW.block ?_
  refine AW.res [(0, (AV.sl z2 f3 e4)), (1, (AV.int .i64 (IntKind.wrap .i64 (left6 - (a1.length : Int))))), (5, (AV.int .i64 0))] [] ⟨rfl, rfl, rfl, trivial⟩ trivial ?_
  refine AW.loopF (σ := Int × Int) (τ := Unit) (fun (left10, i11) _ => True) (fun (left10, i11) _ tm os => ⟨updL tm [(0, (AV.sl z2 f3 e4)), (1, (AV.int .i64 left10)), (5, (AV.int .i64 i11))], updL os [], { s with lo := s.n }⟩) ?_ (x := (IntKind.wrap .i64 (left6 - (a1.length : Int)), 0)) (y := ()) h trivial
  clear h
  rintro ⟨left10, i11⟩ _ tm os - e1 h hL1 hR1
  unfold laws_szInt64SS_S1 at h
  dsimp only at h
  refine AW.seq ?_
  refine AW.seq ?_
  refine AW.region ?_
  refine AOps.pureR rfl rfl rfl rfl rfl (rfl : _ = (AV.int .i64 i11)) ?_
  refine AOps.pureR rfl rfl rfl rfl rfl (rfl : _ = (AV.sl z2 f3 e4)) ?_
  refine AOps.pureR rfl rfl rfl rfl rfl (len_eq h5) ?_
  refine AOps.pureR rfl rfl rfl rfl rfl (rfl : _ = (AV.bool (decide ((i11 : Int) < (a1.length : Int))))) ?_
  refine AOps.nilR ?_
  rcases oite h with ⟨hc12, h⟩ | ⟨hc12, h⟩
  · refine AW.condT (congrArg AV.bool hc12) ?_
    refine AW.skip ?_
    refine AW.seq ?_
    refine AW.block ?_
    refine AW.seq ?_
    refine AW.region ?_
    refine AOps.pureR rfl rfl rfl rfl rfl (rfl : _ = (AV.sl z2 f3 e4)) ?_
    refine AOps.pureR rfl rfl rfl rfl rfl (rfl : _ = (AV.int .i64 i11)) ?_
    obtain ⟨x13, h14, h⟩ := obind h
    obtain ⟨v17, h15, h16⟩ := idx_sl h5 h14
    obtain ⟨z18, f19, e20, rfl, h21⟩ := h15
    refine AOps.pureR rfl rfl rfl h16 rfl (rfl : _ = (AV.eptr [(AV.sl z18 f19 e20)] 0)) ?_
    refine AOps.ldE (v := (AV.sl z18 f19 e20)) rfl rfl rfl rfl rfl rfl ?_
    refine AOps.pureR rfl rfl rfl rfl rfl (rfl : _ = (AV.int .i64 left10)) ?_
    obtain ⟨y22, h23, h⟩ := obind h
    refine AOps.callP (g := 124) (args := [(AV.sl z18 f19 e20), (AV.int .i64 left10)]) (p := (rI .i64) y22) rfl rfl rfl (laws_szInt64S_ok h21 h23 hWF) ?_
    intro _ o25 h24
    cases h24
    refine AOps.assignR rfl rfl rfl (rfl : _ = (AV.int .i64 y22)) rfl ?_
    refine AOps.nilR ?_
    refine AW.seq ?_
    refine AW.region ?_
    refine AOps.pureR rfl rfl rfl rfl rfl (rfl : _ = (AV.int .i64 y22)) ?_
    refine AOps.pureR rfl rfl rfl rfl rfl (rfl : _ = (AV.bool (decide ((y22 : Int) < 0)))) ?_
    refine AOps.nilR ?_
    rcases oite h with ⟨hc26, h⟩ | ⟨hc26, h⟩
    · refine AW.condT (congrArg AV.bool hc26) ?_
      refine AW.seq ?_
      refine AW.region ?_
      refine AOps.pureR rfl rfl rfl rfl rfl (rfl : _ = (AV.int .i64 (-1))) ?_
      refine AOps.nilR ?_
      cases h
      have hr := hR1 _ rfl
      subst hr
      exact AW.ret ⟨rfl, _, _, rfl, rfl⟩
    refine AW.condF (congrArg AV.bool hc26) ?_
    refine AW.skip ?_
    refine AW.inBlock ?_
    refine AW.region ?_
    refine AOps.pureR rfl rfl rfl rfl rfl (rfl : _ = (AV.int .i64 i11)) ?_
    refine AOps.pureR rfl rfl rfl rfl rfl (rfl : _ = (AV.int .i64 (IntKind.wrap .i64 (i11 + 1)))) ?_
    refine AOps.assignR rfl rfl rfl (rfl : _ = (AV.int .i64 (IntKind.wrap .i64 (i11 + 1)))) rfl ?_
    refine AOps.nilR ?_
    cases h
    exact AW.res [(0, (AV.sl z2 f3 e4)), (1, (AV.int .i64 y22)), (5, (AV.int .i64 (IntKind.wrap .i64 (i11 + 1))))] [] ⟨rfl, rfl, rfl, trivial⟩ trivial (hL1 _ rfl () _ _ trivial)
  refine AW.condF (congrArg AV.bool hc12) ?_
  refine AW.exit rfl ?_
  obtain ⟨r27, hm, hx⟩ := omap h
  clear h
  subst hx
  have hx := hR1 _ rfl
  rw [hx] at hm
  have h := hm
  exact AW.res [(1, (AV.int .i64 left10))] [] ⟨rfl, trivial⟩ trivial (KJ9 (left10) _ _ h)
theorem laws_szInt64SSS_ok {a1 : List (List (List Int))} {left6 : Int} {z2 : Nat} {f3 : Bool} {e4 : List AV} {s : St} (h5 : LR (rL (rL (rI .i64) 1) 1) 1 a1 z2 e4) {r : Int} (h : laws_szInt64SSS a1 left6 = some r) (hs : WF s) : ACall Cf 79 [(AV.sl z2 f3 e4), (AV.int .i64 left6)] s fun v _ s' => (rI .i64) r v ∧ s' = s := by
  refine ACall.pure rfl rfl rfl .I ?_
  have hWF := hs.lo'
  unfold laws_szInt64SSS at h
  refine AW.seq ?_
  refine AW.region ?_
  refine AOps.pureR rfl rfl rfl rfl rfl (rfl : _ = (AV.int .i64 0)) ?_
  refine AOps.nilR ?_
  refine AW.seq ?_
  refine AW.region ?_
  refine AOps.pureR rfl rfl rfl rfl rfl (rfl : _ = (AV.int .i64 left6)) ?_
  refine AOps.pureR rfl rfl rfl rfl rfl (rfl : _ = (AV.sl z2 f3 e4)) ?_
  refine AOps.pureR rfl rfl rfl rfl rfl (len_eq h5) ?_
  refine AOps.pureR rfl rfl rfl rfl rfl (rfl : _ = (AV.int .i64 (IntKind.wrap .i64 (left6 - (a1.length : Int))))) ?_
  refine AOps.assignR rfl rfl rfl (rfl : _ = (AV.int .i64 (IntKind.wrap .i64 (left6 - (a1.length : Int))))) rfl ?_
  refine AOps.nilR ?_
  refine AW.seq ?_
  refine AW.seq ?_
  refine AW.region ?_
  refine AOps.pureR rfl rfl rfl rfl rfl (rfl : _ = (AV.int .i64 (IntKind.wrap .i64 (left6 - (a1.length : Int))))) ?_
  refine AOps.pureR rfl rfl rfl rfl rfl (rfl : _ = (AV.bool (decide ((IntKind.wrap .i64 (left6 - (a1.length : Int)) : Int) < 0)))) ?_
  refine AOps.nilR ?_
  rcases oite h with ⟨hc7, h⟩ | ⟨hc7, h⟩
  · refine AW.condT (congrArg AV.bool hc7) ?_
    refine AW.seq ?_
    refine AW.region ?_
    refine AOps.pureR rfl rfl rfl rfl rfl (rfl : _ = (AV.int .i64 (-1))) ?_
    refine AOps.nilR ?_
    cases h
    exact AW.ret ⟨rfl, _, _, rfl, rfl⟩
  refine AW.condF (congrArg AV.bool hc7) ?_
  refine AW.skip ?_
  refine AW.seq ?_
  refine AW.seq ?_
  refine AW.region ?_
  refine AOps.pureR rfl rfl rfl rfl rfl (rfl : _ = (AV.int .i64 0)) ?_
  refine AOps.nilR ?_
  refine AW.meet (σ := Int) (fun left8 tm os => ⟨updL tm [(1, (AV.int .i64 left8))], updL os [], { s with lo := s.n }⟩) (fun left8 => laws_szInt64SSS_J1 left8 = some r) ?_ ?_
  · rintro left8 tm os h
    unfold laws_szInt64SSS_J1 at h
    refine AW.seq ?_
    refine AW.region ?_
    refine AOps.pureR rfl rfl rfl rfl rfl (rfl : _ = (AV.int .i64 left8)) ?_
    refine AOps.assignR rfl rfl rfl (rfl : _ = (AV.int .i64 left8)) rfl ?_
    refine AOps.nilR ?_
    cases h
    exact AW.ret ⟨rfl, _, _, rfl, rfl⟩
  intro KJ9
  refine AW.block ?_
  refine AW.res [(0, (AV.sl z2 f3 e4)), (1, (AV.int .i64 (IntKind.wrap .i64 (left6 - (a1.length : Int))))), (5, (AV.int .i64 0))] [] ⟨rfl, rfl, rfl, trivial⟩ trivial ?_
  refine AW.loopF (σ := Int × Int) (τ := Unit) (fun (left10, i11) _ => True) (fun (left10, i11) _ tm os => ⟨updL tm [(0, (AV.sl z2 f3 e4)), (1, (AV.int .i64 left10)), (5, (AV.int .i64 i11))], updL os [], { s with lo := s.n }⟩) ?_ (x := (IntKind.wrap .i64 (left6 - (a1.length : Int)), 0)) (y := ()) h trivial
  clear h
  rintro ⟨left10, i11⟩ _ tm os - e1 h hL1 hR1
  unfold laws_szInt64SSS_S1 at h
  dsimp only at h
  refine AW.seq ?_
  refine AW.seq ?_
  refine AW.region ?_
  refine AOps.pureR rfl rfl rfl rfl rfl (rfl : _ = (AV.int .i64 i11)) ?_
  refine AOps.pureR rfl rfl rfl rfl rfl (rfl : _ = (AV.sl z2 f3 e4)) ?_
  refine AOps.pureR rfl rfl rfl rfl rfl (len_eq h5) ?_
  refine AOps.pureR rfl rfl rfl rfl rfl (rfl : _ = (AV.bool (decide ((i11 : Int) < (a1.length : Int))))) ?_
  refine AOps.nilR ?_
  rcases oite h with ⟨hc12, h⟩ | ⟨hc12, h⟩
  · refine AW.condT (congrArg AV.bool hc12) ?_
    refine AW.skip ?_
    refine AW.seq ?_
    refine AW.block ?_
    refine AW.seq ?_
    refine AW.region ?_
    refine AOps.pureR rfl rfl rfl rfl rfl (rfl : _ = (AV.sl z2 f3 e4)) ?_
    refine AOps.pureR rfl rfl rfl rfl rfl (rfl : _ = (AV.int .i64 i11)) ?_
    obtain ⟨x13, h14, h⟩ := obind h
    obtain ⟨v17, h15, h16⟩ := idx_sl h5 h14
    obtain ⟨z18, f19, e20, rfl, h21⟩ := h15
    refine AOps.pureR rfl rfl rfl h16 rfl (rfl : _ = (AV.eptr [(AV.sl z18 f19 e20)] 0)) ?_
    refine AOps.ldE (v := (AV.sl z18 f19 e20)) rfl rfl rfl rfl rfl rfl ?_
    refine AOps.pureR rfl rfl rfl rfl rfl (rfl : _ = (AV.int .i64 left10)) ?_
    obtain ⟨y22, h23, h⟩ := obind h
    refine AOps.callP (g := 80) (args := [(AV.sl z18 f19 e20), (AV.int .i64 left10)]) (p := (rI .i64) y22) rfl rfl rfl (laws_szInt64SS_ok h21 h23 hWF) ?_
    intro _ o25 h24
    cases h24
    refine AOps.assignR rfl rfl rfl (rfl : _ = (AV.int .i64 y22)) rfl ?_
    refine AOps.nilR ?_
    refine AW.seq ?_
    refine AW.region ?_
    refine AOps.pureR rfl rfl rfl rfl rfl (rfl : _ = (AV.int .i64 y22)) ?_
    refine AOps.pureR rfl rfl rfl rfl rfl (rfl : _ = (AV.bool (decide ((y22 : Int) < 0)))) ?_
    refine AOps.nilR ?_
    rcases oite h with ⟨hc26, h⟩ | ⟨hc26, h⟩
    · refine AW.condT (congrArg AV.bool hc26) ?_
      refine AW.seq ?_
      refine AW.region ?_
      refine AOps.pureR rfl rfl rfl rfl rfl (rfl : _ = (AV.int .i64 (-1))) ?_
      refine AOps.nilR ?_
      cases h
      have hr := hR1 _ rfl
      subst hr
      exact AW.ret ⟨rfl, _, _, rfl, rfl⟩
    refine AW.condF (congrArg AV.bool hc26) ?_
    refine AW.skip ?_
    refine AW.inBlock ?_
    refine AW.region ?_
    refine AOps.pureR rfl rfl rfl rfl rfl (rfl : _ = (AV.int .i64 i11)) ?_
    refine AOps.pureR rfl rfl rfl rfl rfl (rfl : _ = (AV.int .i64 (IntKind.wrap .i64 (i11 + 1)))) ?_
    refine AOps.assignR rfl rfl rfl (rfl : _ = (AV.int .i64 (IntKind.wrap .i64 (i11 + 1)))) rfl ?_
    refine AOps.nilR ?_
    cases h
    exact AW.res [(0, (AV.sl z2 f3 e4)), (1, (AV.int .i64 y22)), (5, (AV.int .i64 (IntKind.wrap .i64 (i11 + 1))))] [] ⟨rfl, rfl, rfl, trivial⟩ trivial (hL1 _ rfl () _ _ trivial)
  refine AW.condF (congrArg AV.bool hc12) ?_
  refine AW.exit rfl ?_
  obtain ⟨r27, hm, hx⟩ := omap h
  clear h
  subst hx
  have hx := hR1 _ rfl
  rw [hx] at hm
  have h := hm
  exact AW.res [(1, (AV.int .i64 left10))] [] ⟨rfl, trivial⟩ trivial (KJ9 (left10) _ _ h)
theorem laws_szChecker_ok {a1 : Checker} {left18 : Int} {z2 : Nat} {f3 : Bool} {e4 : List AV} {z6 : Nat} {f7 : Bool} {e8 : List AV} {z10 : Nat} {f11 : Bool} {e12 : List AV} {z14 : Nat} {f15 : Bool} {e16 : List AV} {s : St} (h5 : LR rB 1 a1.Accept z2 e4) (h9 : LR (rL rPush 2) 1 a1.Call z6 e8) (h13 : LR (rL (rL (rI .i64) 1) 1) 1 a1.Return z10 e12) (h17 : LR (rL (rI .i64) 1) 1 a1.Inner z14 e16) {r : Int} (h : laws_szChecker a1 left18 = some r) (hs : WF s) : ACall Cf 39 [(AV.agg [(AV.int .i64 a1.Stack), (AV.int .i64 a1.Start), (AV.sl z2 f3 e4), (AV.sl z6 f7 e8), (AV.sl z10 f11 e12), (AV.sl z14 f15 e16)]), (AV.int .i64 left18)] s fun v _ s' => (rI .i64) r v ∧ s' = s := by
  refine ACall.pure rfl rfl rfl .I ?_
  have hWF := hs.lo'
  unfold laws_szChecker at h
  refine AW.seq ?_
  refine AW.region ?_
  refine AOps.makeR rfl rfl rfl rfl rfl rfl (rfl : _ = (AV.eptr [(AV.int .i64 a1.Stack), (AV.int .i64 a1.Start), (AV.sl z2 f3 e4), (AV.sl z6 f7 e8), (AV.sl z10 f11 e12), (AV.sl z14 f15 e16)] 0)) ?_
  refine AOps.pureR rfl rfl rfl rfl rfl (rfl : _ = (AV.int .i64 0)) ?_
  refine AOps.nilR ?_
  refine AW.seq ?_
  refine AW.region ?_
  refine AOps.pureR rfl rfl rfl rfl rfl (rfl : _ = (AV.eptr [(AV.int .i64 a1.Stack), (AV.int .i64 a1.Start), (AV.sl z2 f3 e4), (AV.sl z6 f7 e8), (AV.sl z10 f11 e12), (AV.sl z14 f15 e16)] 2)) ?_
  refine AOps.ldE (v := (AV.sl z2 f3 e4)) rfl rfl rfl rfl rfl rfl ?_
  refine AOps.pureR rfl rfl rfl rfl rfl (rfl : _ = (AV.int .i64 left18)) ?_
  obtain ⟨y19, h20, h⟩ := obind h
  refine AOps.callP (g := 77) (args := [(AV.sl z2 f3 e4), (AV.int .i64 left18)]) (p := (rI .i64) y19) rfl rfl rfl (laws_szBoolS_ok h5 h20 hWF) ?_
  intro _ o22 h21
  cases h21
  refine AOps.assignR rfl rfl rfl (rfl : _ = (AV.int .i64 y19)) rfl ?_
  refine AOps.nilR ?_
  refine AW.seq ?_
  refine AW.seq ?_
  refine AW.region ?_
  refine AOps.pureR rfl rfl rfl rfl rfl (rfl : _ = (AV.int .i64 y19)) ?_
  refine AOps.pureR rfl rfl rfl rfl rfl (rfl : _ = (AV.bool (decide ((y19 : Int) < 0)))) ?_
  refine AOps.nilR ?_
  rcases oite h with ⟨hc23, h⟩ | ⟨hc23, h⟩
  · refine AW.condT (congrArg AV.bool hc23) ?_
    refine AW.seq ?_
    refine AW.region ?_
    refine AOps.pureR rfl rfl rfl rfl rfl (rfl : _ = (AV.int .i64 (-1))) ?_
    refine AOps.nilR ?_
    cases h
    exact AW.ret ⟨rfl, _, _, rfl, rfl⟩
  refine AW.condF (congrArg AV.bool hc23) ?_
  refine AW.skip ?_
  refine AW.seq ?_
  refine AW.region ?_
  refine AOps.pureR rfl rfl rfl rfl rfl (rfl : _ = (AV.eptr [(AV.int .i64 a1.Stack), (AV.int .i64 a1.Start), (AV.sl z2 f3 e4), (AV.sl z6 f7 e8), (AV.sl z10 f11 e12), (AV.sl z14 f15 e16)] 3)) ?_
  refine AOps.ldE (v := (AV.sl z6 f7 e8)) rfl rfl rfl rfl rfl rfl ?_
  refine AOps.pureR rfl rfl rfl rfl rfl (rfl : _ = (AV.int .i64 y19)) ?_
  obtain ⟨y24, h25, h⟩ := obind h
  refine AOps.callP (g := 78) (args := [(AV.sl z6 f7 e8), (AV.int .i64 y19)]) (p := (rI .i64) y24) rfl rfl rfl (laws_szPushSS_ok h9 h25 hWF) ?_
  intro _ o27 h26
  cases h26
  refine AOps.assignR rfl rfl rfl (rfl : _ = (AV.int .i64 y24)) rfl ?_
  refine AOps.nilR ?_
  refine AW.seq ?_
  refine AW.seq ?_
  refine AW.region ?_
  refine AOps.pureR rfl rfl rfl rfl rfl (rfl : _ = (AV.int .i64 y24)) ?_
  refine AOps.pureR rfl rfl rfl rfl rfl (rfl : _ = (AV.bool (decide ((y24 : Int) < 0)))) ?_
  refine AOps.nilR ?_
  rcases oite h with ⟨hc28, h⟩ | ⟨hc28, h⟩
  · refine AW.condT (congrArg AV.bool hc28) ?_
    refine AW.seq ?_
    refine AW.region ?_
    refine AOps.pureR rfl rfl rfl rfl rfl (rfl : _ = (AV.int .i64 (-1))) ?_
    refine AOps.nilR ?_
    cases h
    exact AW.ret ⟨rfl, _, _, rfl, rfl⟩
  refine AW.condF (congrArg AV.bool hc28) ?_
  refine AW.skip ?_
  refine AW.seq ?_
  refine AW.region ?_
  refine AOps.pureR rfl rfl rfl rfl rfl (rfl : _ = (AV.eptr [(AV.int .i64 a1.Stack), (AV.int .i64 a1.Start), (AV.sl z2 f3 e4), (AV.sl z6 f7 e8), (AV.sl z10 f11 e12), (AV.sl z14 f15 e16)] 4)) ?_
  refine AOps.ldE (v := (AV.sl z10 f11 e12)) rfl rfl rfl rfl rfl rfl ?_
  refine AOps.pureR rfl rfl rfl rfl rfl (rfl : _ = (AV.int .i64 y24)) ?_
  obtain ⟨y29, h30, h⟩ := obind h
  refine AOps.callP (g := 79) (args := [(AV.sl z10 f11 e12), (AV.int .i64 y24)]) (p := (rI .i64) y29) rfl rfl rfl (laws_szInt64SSS_ok h13 h30 hWF) ?_
  intro _ o32 h31
  cases h31
  refine AOps.assignR rfl rfl rfl (rfl : _ = (AV.int .i64 y29)) rfl ?_
  refine AOps.nilR ?_
  refine AW.seq ?_
  refine AW.seq ?_
  refine AW.region ?_
  refine AOps.pureR rfl rfl rfl rfl rfl (rfl : _ = (AV.int .i64 y29)) ?_
  refine AOps.pureR rfl rfl rfl rfl rfl (rfl : _ = (AV.bool (decide ((y29 : Int) < 0)))) ?_
  refine AOps.nilR ?_
  rcases oite h with ⟨hc33, h⟩ | ⟨hc33, h⟩
  · refine AW.condT (congrArg AV.bool hc33) ?_
    refine AW.seq ?_
    refine AW.region ?_
    refine AOps.pureR rfl rfl rfl rfl rfl (rfl : _ = (AV.int .i64 (-1))) ?_
    refine AOps.nilR ?_
    cases h
    exact AW.ret ⟨rfl, _, _, rfl, rfl⟩
  refine AW.condF (congrArg AV.bool hc33) ?_
  refine AW.skip ?_
  refine AW.seq ?_
  refine AW.region ?_
  refine AOps.pureR rfl rfl rfl rfl rfl (rfl : _ = (AV.eptr [(AV.int .i64 a1.Stack), (AV.int .i64 a1.Start), (AV.sl z2 f3 e4), (AV.sl z6 f7 e8), (AV.sl z10 f11 e12), (AV.sl z14 f15 e16)] 5)) ?_
  refine AOps.ldE (v := (AV.sl z14 f15 e16)) rfl rfl rfl rfl rfl rfl ?_
  refine AOps.pureR rfl rfl rfl rfl rfl (rfl : _ = (AV.int .i64 y29)) ?_
  obtain ⟨y34, h35, h⟩ := obind h
  refine AOps.callP (g := 80) (args := [(AV.sl z14 f15 e16), (AV.int .i64 y29)]) (p := (rI .i64) y34) rfl rfl rfl (laws_szInt64SS_ok h17 h35 hWF) ?_
  intro _ o37 h36
  cases h36
  refine AOps.assignR rfl rfl rfl (rfl : _ = (AV.int .i64 y34)) rfl ?_
  refine AOps.nilR ?_
  refine AW.seq ?_
  refine AW.seq ?_
  refine AW.region ?_
  refine AOps.pureR rfl rfl rfl rfl rfl (rfl : _ = (AV.int .i64 y34)) ?_
  refine AOps.pureR rfl rfl rfl rfl rfl (rfl : _ = (AV.bool (decide ((y34 : Int) < 0)))) ?_
  refine AOps.nilR ?_
  rcases oite h with ⟨hc38, h⟩ | ⟨hc38, h⟩
  · refine AW.condT (congrArg AV.bool hc38) ?_
    refine AW.seq ?_
    refine AW.region ?_
    refine AOps.pureR rfl rfl rfl rfl rfl (rfl : _ = (AV.int .i64 (-1))) ?_
    refine AOps.nilR ?_
    cases h
    exact AW.ret ⟨rfl, _, _, rfl, rfl⟩
  refine AW.condF (congrArg AV.bool hc38) ?_
  refine AW.skip ?_
  refine AW.seq ?_
  refine AW.region ?_
  refine AOps.pureR rfl rfl rfl rfl rfl (rfl : _ = (AV.int .i64 y34)) ?_
  refine AOps.assignR rfl rfl rfl (rfl : _ = (AV.int .i64 y34)) rfl ?_
  refine AOps.nilR ?_
  cases h
  exact AW.ret ⟨rfl, _, _, rfl, rfl⟩
theorem laws_szStringS_ok {a1 : List (List UInt8)} {left6 : Int} {z2 : Nat} {f3 : Bool} {e4 : List AV} {s : St} (h5 : LR rS 1 a1 z2 e4) {r : Int} (h : laws_szStringS a1 left6 = some r) (hs : WF s) : ACall Cf 40 [(AV.sl z2 f3 e4), (AV.int .i64 left6)] s fun v _ s' => (rI .i64) r v ∧ s' = s := by
  refine ACall.pure rfl rfl rfl .I ?_
  have hWF := hs.lo'
  unfold laws_szStringS at h
  refine AW.seq ?_
  refine AW.region ?_
  refine AOps.pureR rfl rfl rfl rfl rfl (rfl : _ = (AV.int .i64 0)) ?_
  refine AOps.nilR ?_
  refine AW.seq ?_
  refine AW.region ?_
  refine AOps.pureR rfl rfl rfl rfl rfl (rfl : _ = (AV.int .i64 left6)) ?_
  refine AOps.pureR rfl rfl rfl rfl rfl (rfl : _ = (AV.sl z2 f3 e4)) ?_
  refine AOps.pureR rfl rfl rfl rfl rfl (len_eq h5) ?_
  refine AOps.pureR rfl rfl rfl rfl rfl (rfl : _ = (AV.int .i64 (IntKind.wrap .i64 (left6 - (a1.length : Int))))) ?_
  refine AOps.assignR rfl rfl rfl (rfl : _ = (AV.int .i64 (IntKind.wrap .i64 (left6 - (a1.length : Int))))) rfl ?_
  refine AOps.nilR ?_
  refine AW.seq ?_
  refine AW.seq ?_
  refine AW.region ?_
  refine AOps.pureR rfl rfl rfl rfl rfl (rfl : _ = (AV.int .i64 (IntKind.wrap .i64 (left6 - (a1.length : Int))))) ?_
  refine AOps.pureR rfl rfl rfl rfl rfl (rfl : _ = (AV.bool (decide ((IntKind.wrap .i64 (left6 - (a1.length : Int)) : Int) < 0)))) ?_
  refine AOps.nilR ?_
  rcases oite h with ⟨hc7, h⟩ | ⟨hc7, h⟩
  · refine AW.condT (congrArg AV.bool hc7) ?_
    refine AW.seq ?_
    refine AW.region ?_
    refine AOps.pureR rfl rfl rfl rfl rfl (rfl : _ = (AV.int .i64 (-1))) ?_
    refine AOps.nilR ?_
    cases h
    exact AW.ret ⟨rfl, _, _, rfl, rfl⟩
  refine AW.condF (congrArg AV.bool hc7) ?_
  refine AW.skip ?_
  refine AW.seq ?_
  refine AW.seq ?_
  refine AW.region ?_
  refine AOps.pureR rfl rfl rfl rfl rfl (rfl : _ = (AV.int .i64 0)) ?_
  refine AOps.nilR ?_
  refine AW.meet (σ := Int) (fun left8 tm os => ⟨updL tm [(1, (AV.int .i64 left8))], updL os [], { s with lo := s.n }⟩) (fun left8 => laws_szStringS_J1 left8 = some r) ?_ ?_
  · rintro left8 tm os h
    unfold laws_szStringS_J1 at h
    refine AW.seq ?_
    refine AW.region ?_
    refine AOps.pureR rfl rfl rfl rfl rfl (rfl : _ = (AV.int .i64 left8)) ?_
    refine AOps.assignR rfl rfl rfl (rfl : _ = (AV.int .i64 left8)) rfl ?_
    refine AOps.nilR ?_
    cases h
    exact AW.ret ⟨rfl, _, _, rfl, rfl⟩
  intro KJ9
  refine AW.block ?_
  refine AW.res [(0, (AV.sl z2 f3 e4)), (1, (AV.int .i64 (IntKind.wrap .i64 (left6 - (a1.length : Int))))), (5, (AV.int .i64 0))] [] ⟨rfl, rfl, rfl, trivial⟩ trivial ?_
  refine AW.loopF (σ := Int × Int) (τ := Unit) (fun (left10, i11) _ => True) (fun (left10, i11) _ tm os => ⟨updL tm [(0, (AV.sl z2 f3 e4)), (1, (AV.int .i64 left10)), (5, (AV.int .i64 i11))], updL os [], { s with lo := s.n }⟩) ?_ (x := (IntKind.wrap .i64 (left6 - (a1.length : Int)), 0)) (y := ()) h trivial
  clear h
  rintro ⟨left10, i11⟩ _ tm os - e1 h hL1 hR1
  unfold laws_szStringS_S1 at h
  dsimp only at h
  refine AW.seq ?_
  refine AW.seq ?_
  refine AW.region ?_
  refine AOps.pureR rfl rfl rfl rfl rfl (rfl : _ = (AV.int .i64 i11)) ?_
  refine AOps.pureR rfl rfl rfl rfl rfl (rfl : _ = (AV.sl z2 f3 e4)) ?_
  refine AOps.pureR rfl rfl rfl rfl rfl (len_eq h5) ?_
  refine AOps.pureR rfl rfl rfl rfl rfl (rfl : _ = (AV.bool (decide ((i11 : Int) < (a1.length : Int))))) ?_
  refine AOps.nilR ?_
  rcases oite h with ⟨hc12, h⟩ | ⟨hc12, h⟩
  · refine AW.condT (congrArg AV.bool hc12) ?_
    refine AW.skip ?_
    refine AW.seq ?_
    refine AW.block ?_
    refine AW.seq ?_
    refine AW.region ?_
    refine AOps.pureR rfl rfl rfl rfl rfl (rfl : _ = (AV.int .i64 left10)) ?_
    refine AOps.pureR rfl rfl rfl rfl rfl (rfl : _ = (AV.sl z2 f3 e4)) ?_
    refine AOps.pureR rfl rfl rfl rfl rfl (rfl : _ = (AV.int .i64 i11)) ?_
    obtain ⟨x13, h14, h⟩ := obind h
    obtain ⟨v17, h15, h16⟩ := idx_sl h5 h14
    cases h15
    refine AOps.pureR rfl rfl rfl h16 rfl (rfl : _ = (AV.eptr [(AV.str x13)] 0)) ?_
    refine AOps.ldE (v := (AV.str x13)) rfl rfl rfl rfl rfl rfl ?_
    refine AOps.pureR rfl rfl rfl rfl rfl (rfl : _ = (AV.int .i64 (x13.length : Int))) ?_
    refine AOps.pureR rfl rfl rfl rfl rfl (rfl : _ = (AV.int .i64 (IntKind.wrap .i64 (left10 - (x13.length : Int))))) ?_
    refine AOps.assignR rfl rfl rfl (rfl : _ = (AV.int .i64 (IntKind.wrap .i64 (left10 - (x13.length : Int))))) rfl ?_
    refine AOps.nilR ?_
    refine AW.seq ?_
    refine AW.region ?_
    refine AOps.pureR rfl rfl rfl rfl rfl (rfl : _ = (AV.int .i64 (IntKind.wrap .i64 (left10 - (x13.length : Int))))) ?_
    refine AOps.pureR rfl rfl rfl rfl rfl (rfl : _ = (AV.bool (decide ((IntKind.wrap .i64 (left10 - (x13.length : Int)) : Int) < 0)))) ?_
    refine AOps.nilR ?_
    rcases oite h with ⟨hc18, h⟩ | ⟨hc18, h⟩
    · refine AW.condT (congrArg AV.bool hc18) ?_
      refine AW.seq ?_
      refine AW.region ?_
      refine AOps.pureR rfl rfl rfl rfl rfl (rfl : _ = (AV.int .i64 (-1))) ?_
      refine AOps.nilR ?_
      cases h
      have hr := hR1 _ rfl
      subst hr
      exact AW.ret ⟨rfl, _, _, rfl, rfl⟩
    refine AW.condF (congrArg AV.bool hc18) ?_
    refine AW.skip ?_
    refine AW.inBlock ?_
    refine AW.region ?_
    refine AOps.pureR rfl rfl rfl rfl rfl (rfl : _ = (AV.int .i64 i11)) ?_
    refine AOps.pureR rfl rfl rfl rfl rfl (rfl : _ = (AV.int .i64 (IntKind.wrap .i64 (i11 + 1)))) ?_
    refine AOps.assignR rfl rfl rfl (rfl : _ = (AV.int .i64 (IntKind.wrap .i64 (i11 + 1)))) rfl ?_
    refine AOps.nilR ?_
    cases h
    exact AW.res [(0, (AV.sl z2 f3 e4)), (1, (AV.int .i64 (IntKind.wrap .i64 (left10 - (x13.length : Int))))), (5, (AV.int .i64 (IntKind.wrap .i64 (i11 + 1))))] [] ⟨rfl, rfl, rfl, trivial⟩ trivial (hL1 _ rfl () _ _ trivial)
  refine AW.condF (congrArg AV.bool hc12) ?_
  refine AW.exit rfl ?_
  obtain ⟨r19, hm, hx⟩ := omap h
  clear h
  subst hx
  have hx := hR1 _ rfl
  rw [hx] at hm
  have h := hm
  exact AW.res [(1, (AV.int .i64 left10))] [] ⟨rfl, trivial⟩ trivial (KJ9 (left10) _ _ h)
theorem laws_szStream_ok {a1 : Stream} {left22 : Int} {z2 : Nat} {f3 : Bool} {e4 : List AV} {z6 : Nat} {f7 : Bool} {e8 : List AV} {z10 : Nat} {f11 : Bool} {e12 : List AV} {z14 : Nat} {f15 : Bool} {e16 : List AV} {z18 : Nat} {f19 : Bool} {e20 : List AV} {s : St} (h5 : LR rB 1 a1.Checker.Accept z2 e4) (h9 : LR (rL rPush 2) 1 a1.Checker.Call z6 e8) (h13 : LR (rL (rL (rI .i64) 1) 1) 1 a1.Checker.Return z10 e12) (h17 : LR (rL (rI .i64) 1) 1 a1.Checker.Inner z14 e16) (h21 : LR rS 1 a1.Pieces z18 e20) {r : Int} (h : laws_szStream a1 left22 = some r) (hs : WF s) : ACall Cf 16 [(AV.agg [(AV.int .i64 a1.Checker.Stack), (AV.int .i64 a1.Checker.Start), (AV.sl z2 f3 e4), (AV.sl z6 f7 e8), (AV.sl z10 f11 e12), (AV.sl z14 f15 e16), (AV.sl z18 f19 e20)]), (AV.int .i64 left22)] s fun v _ s' => (rI .i64) r v ∧ s' = s := by
  refine ACall.pure rfl rfl rfl .I ?_
  have hWF := hs.lo'
  unfold laws_szStream at h
  refine AW.seq ?_
  refine AW.region ?_
  refine AOps.makeR rfl rfl rfl rfl rfl rfl (rfl : _ = (AV.eptr [(AV.int .i64 a1.Checker.Stack), (AV.int .i64 a1.Checker.Start), (AV.sl z2 f3 e4), (AV.sl z6 f7 e8), (AV.sl z10 f11 e12), (AV.sl z14 f15 e16), (AV.sl z18 f19 e20)] 0)) ?_
  refine AOps.pureR rfl rfl rfl rfl rfl (rfl : _ = (AV.int .i64 0)) ?_
  refine AOps.nilR ?_
  refine AW.seq ?_
  refine AW.region ?_
  refine AOps.pureR rfl rfl rfl rfl rfl (rfl : _ = (AV.eptr [(AV.int .i64 a1.Checker.Stack), (AV.int .i64 a1.Checker.Start), (AV.sl z2 f3 e4), (AV.sl z6 f7 e8), (AV.sl z10 f11 e12), (AV.sl z14 f15 e16), (AV.sl z18 f19 e20)] 0)) ?_
  refine AOps.ldE (v := (AV.agg [(AV.int .i64 a1.Checker.Stack), (AV.int .i64 a1.Checker.Start), (AV.sl z2 f3 e4), (AV.sl z6 f7 e8), (AV.sl z10 f11 e12), (AV.sl z14 f15 e16)])) rfl rfl rfl rfl rfl rfl ?_
  refine AOps.pureR rfl rfl rfl rfl rfl (rfl : _ = (AV.int .i64 left22)) ?_
  obtain ⟨y23, h24, h⟩ := obind h
  refine AOps.callP (g := 39) (args := [(AV.agg [(AV.int .i64 a1.Checker.Stack), (AV.int .i64 a1.Checker.Start), (AV.sl z2 f3 e4), (AV.sl z6 f7 e8), (AV.sl z10 f11 e12), (AV.sl z14 f15 e16)]), (AV.int .i64 left22)]) (p := (rI .i64) y23) rfl rfl rfl (laws_szChecker_ok h5 h9 h13 h17 h24 hWF) ?_
  intro _ o26 h25
  cases h25
  refine AOps.assignR rfl rfl rfl (rfl : _ = (AV.int .i64 y23)) rfl ?_
  refine AOps.nilR ?_
  refine AW.seq ?_
  refine AW.seq ?_
  refine AW.region ?_
  refine AOps.pureR rfl rfl rfl rfl rfl (rfl : _ = (AV.int .i64 y23)) ?_
  refine AOps.pureR rfl rfl rfl rfl rfl (rfl : _ = (AV.bool (decide ((y23 : Int) < 0)))) ?_
  refine AOps.nilR ?_
  rcases oite h with ⟨hc27, h⟩ | ⟨hc27, h⟩
  · refine AW.condT (congrArg AV.bool hc27) ?_
    refine AW.seq ?_
    refine AW.region ?_
    refine AOps.pureR rfl rfl rfl rfl rfl (rfl : _ = (AV.int .i64 (-1))) ?_
    refine AOps.nilR ?_
    cases h
    exact AW.ret ⟨rfl, _, _, rfl, rfl⟩
  refine AW.condF (congrArg AV.bool hc27) ?_
  refine AW.skip ?_
  refine AW.seq ?_
  refine AW.region ?_
  refine AOps.pureR rfl rfl rfl rfl rfl (rfl : _ = (AV.eptr [(AV.int .i64 a1.Checker.Stack), (AV.int .i64 a1.Checker.Start), (AV.sl z2 f3 e4), (AV.sl z6 f7 e8), (AV.sl z10 f11 e12), (AV.sl z14 f15 e16), (AV.sl z18 f19 e20)] 6)) ?_
  refine AOps.ldE (v := (AV.sl z18 f19 e20)) rfl rfl rfl rfl rfl rfl ?_
  refine AOps.pureR rfl rfl rfl rfl rfl (rfl : _ = (AV.int .i64 y23)) ?_
  obtain ⟨y28, h29, h⟩ := obind h
  refine AOps.callP (g := 40) (args := [(AV.sl z18 f19 e20), (AV.int .i64 y23)]) (p := (rI .i64) y28) rfl rfl rfl (laws_szStringS_ok h21 h29 hWF) ?_
  intro _ o31 h30
  cases h30
  refine AOps.assignR rfl rfl rfl (rfl : _ = (AV.int .i64 y28)) rfl ?_
  refine AOps.nilR ?_
  refine AW.seq ?_
  refine AW.seq ?_
  refine AW.region ?_
  refine AOps.pureR rfl rfl rfl rfl rfl (rfl : _ = (AV.int .i64 y28)) ?_
  refine AOps.pureR rfl rfl rfl rfl rfl (rfl : _ = (AV.bool (decide ((y28 : Int) < 0)))) ?_
  refine AOps.nilR ?_
  rcases oite h with ⟨hc32, h⟩ | ⟨hc32, h⟩
  · refine AW.condT (congrArg AV.bool hc32) ?_
    refine AW.seq ?_
    refine AW.region ?_
    refine AOps.pureR rfl rfl rfl rfl rfl (rfl : _ = (AV.int .i64 (-1))) ?_
    refine AOps.nilR ?_
    cases h
    exact AW.ret ⟨rfl, _, _, rfl, rfl⟩
  refine AW.condF (congrArg AV.bool hc32) ?_
  refine AW.skip ?_
  refine AW.seq ?_
  refine AW.region ?_
  refine AOps.pureR rfl rfl rfl rfl rfl (rfl : _ = (AV.int .i64 y28)) ?_
  refine AOps.assignR rfl rfl rfl (rfl : _ = (AV.int .i64 y28)) rfl ?_
  refine AOps.nilR ?_
  cases h
  exact AW.ret ⟨rfl, _, _, rfl, rfl⟩
theorem laws_toBoolS_ok {a1 : List Bool} {z2 : Nat} {f3 : Bool} {e4 : List AV} {s : St} (h5 : LR rB 1 a1 z2 e4) {r : (List Bool)} (h : laws_toBoolS a1 = some r) (hs : WF s) : ACall Cf 82 [(AV.sl z2 f3 e4)] s fun v _ s' => (rL rB 1) r v ∧ s' = s := by
  refine ACall.boxes rfl rfl rfl ?_
  have hH0 := HS.init hs
  unfold laws_toBoolS at h
  refine AW.seq ?_
  refine AW.region ?_
  refine AOps.pureR rfl rfl rfl rfl rfl (rfl : _ = (AV.sl 0 true [])) ?_
  refine AOps.nilR ?_
  refine AW.seq ?_
  refine AW.region ?_
  refine AOps.pureR rfl rfl rfl rfl rfl (rfl : _ = (AV.sl z2 f3 e4)) ?_
  refine AOps.pureR rfl rfl rfl rfl rfl (len_eq h5) ?_
  obtain ⟨l6, h7, h⟩ := obind h
  refine AOps.mkS (r := rB) hH0 rfl rfl rfl rfl rfl rfl rfl ⟨rfl, rfl, by decide⟩ h7 rfl (Sh.B (false : Bool) _ rfl) rfl ?_
  intro b8 s9 cs10 h11 hH12
  change HS s s9 [⟨some b8, cs10, fun _ => false⟩] at hH12
  refine AOps.assignR rfl rfl rfl (rfl : _ = (AV.ms false 1 b8 0 (Int.toNat (a1.length : Int)))) rfl ?_
  refine AOps.nilR ?_
  refine AW.seq ?_
  refine AW.seq ?_
  refine AW.region ?_
  refine AOps.pureR rfl rfl rfl rfl rfl (rfl : _ = (AV.int .i64 0)) ?_
  refine AOps.nilR ?_
  refine AW.meet (σ := (List Bool) × BX × Nat × Nat × St) (fun (out13, x14, b15, n17, s19) tm os => ⟨updL tm [(3, (AV.ms false 1 b15 0 n17))], updL os [], s19⟩) (fun (out13, x14, b15, n17, s19) => (x14.b = some b15) ∧ (MS rB false 1 out13 n17 x14.cs) ∧ (HS s s19 [x14]) ∧ laws_toBoolS_J1 out13 = some r) ?_ ?_
  · rintro ⟨out13, x14, b15, n17, s19⟩ tm os ⟨h16, h18, hH20, h⟩
    unfold laws_toBoolS_J1 at h
    refine AW.seq ?_
    refine AW.region ?_
    refine AOps.pureR rfl rfl rfl rfl rfl (rfl : _ = (AV.ms false 1 b15 0 n17)) ?_
    refine AOps.assignR rfl rfl rfl (rfl : _ = (AV.ms false 1 b15 0 n17)) rfl ?_
    refine AOps.nilR ?_
    cases h
    exact AW.ret ⟨⟨_, hH20⟩, _, _, rfl, (Fin.ms (r := rB) hH20 (i := 0) rfl h16 h18 (fun _ => .B) (fun _ => rfl)).2⟩
  intro KJ21
  refine AW.block ?_
  refine AW.res [(0, (AV.sl z2 f3 e4)), (3, (AV.ms false 1 b8 0 (Int.toNat (a1.length : Int)))), (4, (AV.int .i64 0))] [] ⟨rfl, rfl, rfl, trivial⟩ trivial ?_
  refine AW.loopF (σ := (List Bool) × Int) (τ := BX × Nat × Nat × St) (fun (out22, i28) (x23, b24, n26, s29) => (x23.b = some b24) ∧ (MS rB false 1 out22 n26 x23.cs) ∧ (HS s s29 [x23])) (fun (out22, i28) (x23, b24, n26, s29) tm os => ⟨updL tm [(0, (AV.sl z2 f3 e4)), (3, (AV.ms false 1 b24 0 n26)), (4, (AV.int .i64 i28))], updL os [], s29⟩) ?_ (x := (l6, 0)) (y := (⟨some b8, cs10, fun _ => false⟩, b8, Int.toNat (a1.length : Int), s9)) h ⟨rfl, h11, (HS.sel hH12 [some 0] (by decide))⟩
  clear h
  rintro ⟨out22, i28⟩ ⟨x23, b24, n26, s29⟩ tm os ⟨h25, h27, hH30⟩ e1 h hL1 hR1
  unfold laws_toBoolS_S1 at h
  dsimp only at h
  refine AW.seq ?_
  refine AW.seq ?_
  refine AW.region ?_
  refine AOps.pureR rfl rfl rfl rfl rfl (rfl : _ = (AV.int .i64 i28)) ?_
  refine AOps.pureR rfl rfl rfl rfl rfl (rfl : _ = (AV.sl z2 f3 e4)) ?_
  refine AOps.pureR rfl rfl rfl rfl rfl (len_eq h5) ?_
  refine AOps.pureR rfl rfl rfl rfl rfl (rfl : _ = (AV.bool (decide ((i28 : Int) < (a1.length : Int))))) ?_
  refine AOps.nilR ?_
  rcases oite h with ⟨hc31, h⟩ | ⟨hc31, h⟩
  · refine AW.condT (congrArg AV.bool hc31) ?_
    refine AW.skip ?_
    refine AW.seq ?_
    refine AW.block ?_
    refine AW.region ?_
    refine AOps.pureR rfl rfl rfl rfl rfl (rfl : _ = (AV.ms false 1 b24 0 n26)) ?_
    refine AOps.pureR rfl rfl rfl rfl rfl (rfl : _ = (AV.int .i64 i28)) ?_
    refine AOps.pureR rfl rfl rfl rfl rfl (rfl : _ = (AV.sl z2 f3 e4)) ?_
    refine AOps.pureR rfl rfl rfl rfl rfl (rfl : _ = (AV.int .i64 i28)) ?_
    obtain ⟨x32, h33, h⟩ := obind h
    obtain ⟨v36, h34, h35⟩ := idx_sl h5 h33
    cases h34
    refine AOps.pureR rfl rfl rfl h35 rfl (rfl : _ = (AV.eptr [(AV.bool x32)] 0)) ?_
    refine AOps.ldE (v := (AV.bool x32)) rfl rfl rfl rfl rfl rfl ?_
    obtain ⟨x37, h38, h⟩ := obind h
    refine AOps.pureR rfl rfl rfl (idx_ms h27 h38) rfl (rfl : _ = (AV.ptr b24 (0 + Int.toNat i28 * 1))) ?_
    refine AOps.stM (i := 0) (r := rB) (v := (AV.bool x32)) (y := x32) hH30 rfl h25 h27 h38 rfl rfl rfl rfl rfl rfl (Sh.B x32 _ rfl) rfl rfl (lt_b rfl) rfl rfl ?_
    intro cs39 w40 s41 h42 hH43
    change HS s s41 [⟨some b24, cs39, w40⟩] at hH43
    refine AOps.nilR ?_
    refine AW.inBlock ?_
    refine AW.region ?_
    refine AOps.pureR rfl rfl rfl rfl rfl (rfl : _ = (AV.int .i64 i28)) ?_
    refine AOps.pureR rfl rfl rfl rfl rfl (rfl : _ = (AV.int .i64 (IntKind.wrap .i64 (i28 + 1)))) ?_
    refine AOps.assignR rfl rfl rfl (rfl : _ = (AV.int .i64 (IntKind.wrap .i64 (i28 + 1)))) rfl ?_
    refine AOps.nilR ?_
    cases h
    exact AW.res [(0, (AV.sl z2 f3 e4)), (3, (AV.ms false 1 b24 0 n26)), (4, (AV.int .i64 (IntKind.wrap .i64 (i28 + 1))))] [] ⟨rfl, rfl, rfl, trivial⟩ trivial (hL1 _ rfl (⟨some b24, cs39, w40⟩, b24, n26, s41) _ _ ⟨rfl, h42, (HS.sel hH43 [some 0] (by decide))⟩)
  refine AW.condF (congrArg AV.bool hc31) ?_
  refine AW.exit rfl ?_
  obtain ⟨r44, hm, hx⟩ := omap h
  clear h
  subst hx
  have hx := hR1 _ rfl
  rw [hx] at hm
  have h := hm
  exact AW.res [(3, (AV.ms false 1 b24 0 n26))] [] ⟨rfl, trivial⟩ trivial (KJ21 (out22, x23, b24, n26, s29) _ _ ⟨h25, h27, (HS.sel hH30 [some 0] (by decide)), h⟩)
theorem laws_toPush_ok {a1 : Push} {s : St} {r : Push} (h : laws_toPush a1 = some r) (hs : WF s) : ACall Cf 142 [(AV.agg [(AV.int .i64 a1.To), (AV.int .i64 a1.Put)])] s fun v _ s' => (rPush) r v ∧ s' = s := by
  refine ACall.boxes rfl rfl rfl ?_
  have hH0 := HS.init hs
  unfold laws_toPush at h
  refine AW.seq ?_
  refine AW.region ?_
  refine AOps.makeR rfl rfl rfl rfl rfl rfl (rfl : _ = (AV.eptr [(AV.int .i64 a1.To), (AV.int .i64 a1.Put)] 0)) ?_
  refine AOps.allocP rfl rfl rfl rfl ⟨rfl, rfl⟩ rfl ?_
  refine AOps.nilR ?_
  refine AW.seq ?_
  refine AW.region ?_
  refine AOps.alloc1 hH0 rfl rfl rfl rfl rfl rfl ?_
  intro b2 s3 hH4
  change HS s s3 [⟨some b2, [(AV.int .i64 0), (AV.int .i64 0)], (fun _ => false)⟩] at hH4
  refine AOps.nilR ?_
  refine AW.seq ?_
  refine AW.region ?_
  refine AOps.pureR rfl rfl rfl rfl rfl (rfl : _ = (AV.eptr [(AV.int .i64 a1.To), (AV.int .i64 a1.Put)] 0)) ?_
  refine AOps.ldE (v := (AV.int .i64 a1.To)) rfl rfl rfl rfl rfl rfl ?_
  refine AOps.pureR rfl rfl rfl rfl rfl (rfl : _ = (AV.ptr b2 0)) ?_
  refine AOps.stB (i := 0) (v := (AV.int .i64 a1.To)) hH4 rfl rfl rfl rfl rfl rfl rfl rfl rfl (lt_b rfl) (le_b rfl) rfl ?_
  intro w5 s6 h7 h8 hH9
  change HS s s6 [⟨some b2, [(AV.int .i64 a1.To), (AV.int .i64 0)], w5⟩] at hH9
  refine AOps.nilR ?_
  refine AW.seq ?_
  refine AW.region ?_
  refine AOps.pureR rfl rfl rfl rfl rfl (rfl : _ = (AV.eptr [(AV.int .i64 a1.To), (AV.int .i64 a1.Put)] 1)) ?_
  refine AOps.ldE (v := (AV.int .i64 a1.Put)) rfl rfl rfl rfl rfl rfl ?_
  refine AOps.pureR rfl rfl rfl rfl rfl (rfl : _ = (AV.ptr b2 1)) ?_
  refine AOps.stB (i := 0) (v := (AV.int .i64 a1.Put)) hH9 rfl rfl rfl rfl rfl rfl rfl rfl rfl (lt_b rfl) (le_b rfl) rfl ?_
  intro w10 s11 h12 h13 hH14
  change HS s s11 [⟨some b2, [(AV.int .i64 a1.To), (AV.int .i64 a1.Put)], w10⟩] at hH14
  refine AOps.nilR ?_
  refine AW.seq ?_
  refine AW.region ?_
  refine AOps.ldB (i := 0) (v := (AV.agg [(AV.int .i64 a1.To), (AV.int .i64 a1.Put)])) hH14 rfl rfl rfl rfl rfl rfl rfl rfl rfl ?_
  refine AOps.stP (v := (AV.agg [(AV.int .i64 a1.To), (AV.int .i64 a1.Put)])) rfl rfl rfl rfl rfl rfl rfl rfl rfl (lt_b rfl) rfl ?_
  refine AOps.nilR ?_
  cases h
  exact AW.ret ⟨⟨_, hH14⟩, _, _, rfl, (Fin.of (p := (rPush) a1) (.A (.cons .I (.cons .I .nil))) (⟨_, rfl, (.cons rfl (.cons rfl .nil))⟩)).2⟩
theorem laws_toPushS_ok {a1 : List Push} {z2 : Nat} {f3 : Bool} {e4 : List AV} {s : St} (h5 : LR rPush 2 a1 z2 e4) {r : (List Push)} (h : laws_toPushS a1 = some r) (hs : WF s) : ACall Cf 126 [(AV.sl z2 f3 e4)] s fun v _ s' => (rL rPush 2) r v ∧ s' = s := by
  refine ACall.boxes rfl rfl rfl ?_
  have hH0 := HS.init hs
  unfold laws_toPushS at h
  refine AW.seq ?_
  refine AW.region ?_
  refine AOps.pureR rfl rfl rfl rfl rfl (rfl : _ = (AV.sl 0 true [])) ?_
  refine AOps.nilR ?_
  refine AW.seq ?_
  refine AW.region ?_
  refine AOps.pureR rfl rfl rfl rfl rfl (rfl : _ = (AV.sl z2 f3 e4)) ?_
  refine AOps.pureR rfl rfl rfl rfl rfl (len_eq h5) ?_
  obtain ⟨l6, h7, h⟩ := obind h
  refine AOps.mkS (r := rPush) hH0 rfl rfl rfl rfl rfl rfl rfl ⟨rfl, rfl, by decide⟩ h7 ⟨_, rfl, (.cons rfl (.cons rfl .nil))⟩ ((Sh.A (f := csPush) (fun _ => ⟨(.cons (One.of Sh.I _) (.cons (One.of Sh.I _) .nil)), rfl⟩)) ((⟨0, 0⟩ : Push) : Push) _ ⟨_, rfl, (.cons rfl (.cons rfl .nil))⟩) rfl ?_
  intro b8 s9 cs10 h11 hH12
  change HS s s9 [⟨some b8, cs10, fun _ => false⟩] at hH12
  refine AOps.assignR rfl rfl rfl (rfl : _ = (AV.ms true 2 b8 0 (Int.toNat (a1.length : Int)))) rfl ?_
  refine AOps.nilR ?_
  refine AW.seq ?_
  refine AW.seq ?_
  refine AW.region ?_
  refine AOps.pureR rfl rfl rfl rfl rfl (rfl : _ = (AV.int .i64 0)) ?_
  refine AOps.nilR ?_
  refine AW.meet (σ := (List Push) × BX × Nat × Nat × St) (fun (out13, x14, b15, n17, s19) tm os => ⟨updL tm [(3, (AV.ms true 2 b15 0 n17))], updL os [], s19⟩) (fun (out13, x14, b15, n17, s19) => (x14.b = some b15) ∧ (MS rPush true 2 out13 n17 x14.cs) ∧ (HS s s19 [x14]) ∧ laws_toPushS_J1 out13 = some r) ?_ ?_
  · rintro ⟨out13, x14, b15, n17, s19⟩ tm os ⟨h16, h18, hH20, h⟩
    unfold laws_toPushS_J1 at h
    refine AW.seq ?_
    refine AW.region ?_
    refine AOps.pureR rfl rfl rfl rfl rfl (rfl : _ = (AV.ms true 2 b15 0 n17)) ?_
    refine AOps.assignR rfl rfl rfl (rfl : _ = (AV.ms true 2 b15 0 n17)) rfl ?_
    refine AOps.nilR ?_
    cases h
    exact AW.ret ⟨⟨_, hH20⟩, _, _, rfl, (Fin.ms (r := rPush) hH20 (i := 0) rfl h16 h18 (fun _ => (.A (.cons .I (.cons .I .nil)))) (fun h => by cases h)).2⟩
  intro KJ21
  refine AW.block ?_
  refine AW.res [(0, (AV.sl z2 f3 e4)), (3, (AV.ms true 2 b8 0 (Int.toNat (a1.length : Int)))), (4, (AV.int .i64 0))] [] ⟨rfl, rfl, rfl, trivial⟩ trivial ?_
  refine AW.loopF (σ := (List Push) × Int) (τ := BX × Nat × Nat × St) (fun (out22, i28) (x23, b24, n26, s29) => (x23.b = some b24) ∧ (MS rPush true 2 out22 n26 x23.cs) ∧ (HS s s29 [x23])) (fun (out22, i28) (x23, b24, n26, s29) tm os => ⟨updL tm [(0, (AV.sl z2 f3 e4)), (3, (AV.ms true 2 b24 0 n26)), (4, (AV.int .i64 i28))], updL os [], s29⟩) ?_ (x := (l6, 0)) (y := (⟨some b8, cs10, fun _ => false⟩, b8, Int.toNat (a1.length : Int), s9)) h ⟨rfl, h11, (HS.sel hH12 [some 0] (by decide))⟩
  clear h
  rintro ⟨out22, i28⟩ ⟨x23, b24, n26, s29⟩ tm os ⟨h25, h27, hH30⟩ e1 h hL1 hR1
  unfold laws_toPushS_S1 at h
  dsimp only at h
  refine AW.seq ?_
  refine AW.seq ?_
  refine AW.region ?_
  refine AOps.pureR rfl rfl rfl rfl rfl (rfl : _ = (AV.int .i64 i28)) ?_
  refine AOps.pureR rfl rfl rfl rfl rfl (rfl : _ = (AV.sl z2 f3 e4)) ?_
  refine AOps.pureR rfl rfl rfl rfl rfl (len_eq h5) ?_
  refine AOps.pureR rfl rfl rfl rfl rfl (rfl : _ = (AV.bool (decide ((i28 : Int) < (a1.length : Int))))) ?_
  refine AOps.nilR ?_
  rcases oite h with ⟨hc31, h⟩ | ⟨hc31, h⟩
  · refine AW.condT (congrArg AV.bool hc31) ?_
    refine AW.skip ?_
    refine AW.seq ?_
    refine AW.block ?_
    refine AW.region ?_
    refine AOps.pureR rfl rfl rfl rfl rfl (rfl : _ = (AV.ms true 2 b24 0 n26)) ?_
    refine AOps.pureR rfl rfl rfl rfl rfl (rfl : _ = (AV.int .i64 i28)) ?_
    refine AOps.pureR rfl rfl rfl rfl rfl (rfl : _ = (AV.sl z2 f3 e4)) ?_
    refine AOps.pureR rfl rfl rfl rfl rfl (rfl : _ = (AV.int .i64 i28)) ?_
    obtain ⟨x32, h33, h⟩ := obind h
    obtain ⟨v36, h34, h35⟩ := idx_sl h5 h33
    obtain ⟨_, rfl, h37⟩ := h34
    obtain ⟨_, _, rfl, h38, h39⟩ := Cs_cons h37
    cases h38
    obtain ⟨_, _, rfl, h40, h41⟩ := Cs_cons h39
    cases h40
    cases Cs_nil h41
    refine AOps.pureR rfl rfl rfl h35 rfl (rfl : _ = (AV.eptr [(AV.int .i64 x32.To), (AV.int .i64 x32.Put)] 0)) ?_
    refine AOps.ldE (v := (AV.agg [(AV.int .i64 x32.To), (AV.int .i64 x32.Put)])) rfl rfl rfl rfl rfl rfl ?_
    obtain ⟨y42, h43, h⟩ := obind h
    refine AOps.callP (g := 142) (args := [(AV.agg [(AV.int .i64 x32.To), (AV.int .i64 x32.Put)])]) (p := (rPush) y42) rfl rfl rfl (laws_toPush_ok  h43 (HS.wf' hH30)) ?_
    intro _ o50 h44
    obtain ⟨_, rfl, h45⟩ := h44
    obtain ⟨_, _, rfl, h46, h47⟩ := Cs_cons h45
    cases h46
    obtain ⟨_, _, rfl, h48, h49⟩ := Cs_cons h47
    cases h48
    cases Cs_nil h49
    obtain ⟨x51, h52, h⟩ := obind h
    refine AOps.pureR rfl rfl rfl (idx_ms h27 h52) rfl (rfl : _ = (AV.ptr b24 (0 + Int.toNat i28 * 2))) ?_
    refine AOps.stM (i := 0) (r := rPush) (v := (AV.agg [(AV.int .i64 y42.To), (AV.int .i64 y42.Put)])) (y := y42) hH30 rfl h25 h27 h52 rfl rfl rfl rfl rfl ⟨_, rfl, (.cons rfl (.cons rfl .nil))⟩ ((Sh.A (f := csPush) (fun _ => ⟨(.cons (One.of Sh.I _) (.cons (One.of Sh.I _) .nil)), rfl⟩)) y42 _ ⟨_, rfl, (.cons rfl (.cons rfl .nil))⟩) rfl rfl (lt_b rfl) rfl rfl ?_
    intro cs53 w54 s55 h56 hH57
    change HS s s55 [⟨some b24, cs53, w54⟩] at hH57
    refine AOps.nilR ?_
    refine AW.inBlock ?_
    refine AW.region ?_
    refine AOps.pureR rfl rfl rfl rfl rfl (rfl : _ = (AV.int .i64 i28)) ?_
    refine AOps.pureR rfl rfl rfl rfl rfl (rfl : _ = (AV.int .i64 (IntKind.wrap .i64 (i28 + 1)))) ?_
    refine AOps.assignR rfl rfl rfl (rfl : _ = (AV.int .i64 (IntKind.wrap .i64 (i28 + 1)))) rfl ?_
    refine AOps.nilR ?_
    cases h
    exact AW.res [(0, (AV.sl z2 f3 e4)), (3, (AV.ms true 2 b24 0 n26)), (4, (AV.int .i64 (IntKind.wrap .i64 (i28 + 1))))] [] ⟨rfl, rfl, rfl, trivial⟩ trivial (hL1 _ rfl (⟨some b24, cs53, w54⟩, b24, n26, s55) _ _ ⟨rfl, h56, (HS.sel hH57 [some 0] (by decide))⟩)
  refine AW.condF (congrArg AV.bool hc31) ?_
  refine AW.exit rfl ?_
  obtain ⟨r58, hm, hx⟩ := omap h
  clear h
  subst hx
  have hx := hR1 _ rfl
  rw [hx] at hm
  have h := hm
  exact AW.res [(3, (AV.ms true 2 b24 0 n26))] [] ⟨rfl, trivial⟩ trivial (KJ21 (out22, x23, b24, n26, s29) _ _ ⟨h25, h27, (HS.sel hH30 [some 0] (by decide)), h⟩)
theorem laws_toPushSS_ok {a1 : List (List Push)} {z2 : Nat} {f3 : Bool} {e4 : List AV} {s : St} (h5 : LR (rL rPush 2) 1 a1 z2 e4) {r : (List (List Push))} (h : laws_toPushSS a1 = some r) (hs : WF s) : ACall Cf 83 [(AV.sl z2 f3 e4)] s fun v _ s' => (rL (rL rPush 2) 1) r v ∧ s' = s := by
  refine ACall.boxes rfl rfl rfl ?_
  have hH0 := HS.init hs
  unfold laws_toPushSS at h
  refine AW.seq ?_
  refine AW.region ?_
  refine AOps.pureR rfl rfl rfl rfl rfl (rfl : _ = (AV.sl 0 true [])) ?_
  refine AOps.nilR ?_
  refine AW.seq ?_
  refine AW.region ?_
  refine AOps.pureR rfl rfl rfl rfl rfl (rfl : _ = (AV.sl z2 f3 e4)) ?_
  refine AOps.pureR rfl rfl rfl rfl rfl (len_eq h5) ?_
  obtain ⟨l6, h7, h⟩ := obind h
  refine AOps.mkS (r := rL rPush 2) hH0 rfl rfl rfl rfl rfl rfl rfl ⟨rfl, rfl, by decide⟩ h7 ⟨_, _, _, rfl, ⟨.inr ⟨rfl, rfl⟩, .nil⟩⟩ ((Sh.L (r := rPush) (sz := 2)) (([] : List Push) : List Push) _ ⟨_, _, _, rfl, ⟨.inr ⟨rfl, rfl⟩, .nil⟩⟩) rfl ?_
  intro b8 s9 cs10 h11 hH12
  change HS s s9 [⟨some b8, cs10, fun _ => false⟩] at hH12
  refine AOps.assignR rfl rfl rfl (rfl : _ = (AV.ms false 1 b8 0 (Int.toNat (a1.length : Int)))) rfl ?_
  refine AOps.nilR ?_
  refine AW.seq ?_
  refine AW.seq ?_
  refine AW.region ?_
  refine AOps.pureR rfl rfl rfl rfl rfl (rfl : _ = (AV.int .i64 0)) ?_
  refine AOps.nilR ?_
  refine AW.meet (σ := (List (List Push)) × BX × Nat × Nat × St) (fun (out13, x14, b15, n17, s19) tm os => ⟨updL tm [(3, (AV.ms false 1 b15 0 n17))], updL os [], s19⟩) (fun (out13, x14, b15, n17, s19) => (x14.b = some b15) ∧ (MS (rL rPush 2) false 1 out13 n17 x14.cs) ∧ (HS s s19 [x14]) ∧ laws_toPushSS_J1 out13 = some r) ?_ ?_
  · rintro ⟨out13, x14, b15, n17, s19⟩ tm os ⟨h16, h18, hH20, h⟩
    unfold laws_toPushSS_J1 at h
    refine AW.seq ?_
    refine AW.region ?_
    refine AOps.pureR rfl rfl rfl rfl rfl (rfl : _ = (AV.ms false 1 b15 0 n17)) ?_
    refine AOps.assignR rfl rfl rfl (rfl : _ = (AV.ms false 1 b15 0 n17)) rfl ?_
    refine AOps.nilR ?_
    cases h
    exact AW.ret ⟨⟨_, hH20⟩, _, _, rfl, (Fin.ms (r := rL rPush 2) hH20 (i := 0) rfl h16 h18 (fun _ => (.L fun _ => (.A (.cons .I (.cons .I .nil))))) (fun _ => rfl)).2⟩
  intro KJ21
  refine AW.block ?_
  refine AW.res [(0, (AV.sl z2 f3 e4)), (3, (AV.ms false 1 b8 0 (Int.toNat (a1.length : Int)))), (4, (AV.int .i64 0))] [] ⟨rfl, rfl, rfl, trivial⟩ trivial ?_
  refine AW.loopF (σ := (List (List Push)) × Int) (τ := BX × Nat × Nat × St) (fun (out22, i28) (x23, b24, n26, s29) => (x23.b = some b24) ∧ (MS (rL rPush 2) false 1 out22 n26 x23.cs) ∧ (HS s s29 [x23])) (fun (out22, i28) (x23, b24, n26, s29) tm os => ⟨updL tm [(0, (AV.sl z2 f3 e4)), (3, (AV.ms false 1 b24 0 n26)), (4, (AV.int .i64 i28))], updL os [], s29⟩) ?_ (x := (l6, 0)) (y := (⟨some b8, cs10, fun _ => false⟩, b8, Int.toNat (a1.length : Int), s9)) h ⟨rfl, h11, (HS.sel hH12 [some 0] (by decide))⟩
  clear h
  rintro ⟨out22, i28⟩ ⟨x23, b24, n26, s29⟩ tm os ⟨h25, h27, hH30⟩ e1 h hL1 hR1
  unfold laws_toPushSS_S1 at h
  dsimp only at h
  refine AW.seq ?_
  refine AW.seq ?_
  refine AW.region ?_
  refine AOps.pureR rfl rfl rfl rfl rfl (rfl : _ = (AV.int .i64 i28)) ?_
  refine AOps.pureR rfl rfl rfl rfl rfl (rfl : _ = (AV.sl z2 f3 e4)) ?_
  refine AOps.pureR rfl rfl rfl rfl rfl (len_eq h5) ?_
  refine AOps.pureR rfl rfl rfl rfl rfl (rfl : _ = (AV.bool (decide ((i28 : Int) < (a1.length : Int))))) ?_
  refine AOps.nilR ?_
  rcases oite h with ⟨hc31, h⟩ | ⟨hc31, h⟩
  · refine AW.condT (congrArg AV.bool hc31) ?_
    refine AW.skip ?_
    refine AW.seq ?_
    refine AW.block ?_
    refine AW.region ?_
    refine AOps.pureR rfl rfl rfl rfl rfl (rfl : _ = (AV.ms false 1 b24 0 n26)) ?_
    refine AOps.pureR rfl rfl rfl rfl rfl (rfl : _ = (AV.int .i64 i28)) ?_
    refine AOps.pureR rfl rfl rfl rfl rfl (rfl : _ = (AV.sl z2 f3 e4)) ?_
    refine AOps.pureR rfl rfl rfl rfl rfl (rfl : _ = (AV.int .i64 i28)) ?_
    obtain ⟨x32, h33, h⟩ := obind h
    obtain ⟨v36, h34, h35⟩ := idx_sl h5 h33
    obtain ⟨z37, f38, e39, rfl, h40⟩ := h34
    refine AOps.pureR rfl rfl rfl h35 rfl (rfl : _ = (AV.eptr [(AV.sl z37 f38 e39)] 0)) ?_
    refine AOps.ldE (v := (AV.sl z37 f38 e39)) rfl rfl rfl rfl rfl rfl ?_
    obtain ⟨y41, h42, h⟩ := obind h
    refine AOps.callP (g := 126) (args := [(AV.sl z37 f38 e39)]) (p := (rL rPush 2) y41) rfl rfl rfl (laws_toPushS_ok h40 h42 (HS.wf' hH30)) ?_
    intro _ o48 h43
    obtain ⟨z44, f45, e46, rfl, h47⟩ := h43
    obtain ⟨x49, h50, h⟩ := obind h
    refine AOps.pureR rfl rfl rfl (idx_ms h27 h50) rfl (rfl : _ = (AV.ptr b24 (0 + Int.toNat i28 * 1))) ?_
    refine AOps.stM (i := 0) (r := rL rPush 2) (v := (AV.sl z44 f45 e46)) (y := y41) hH30 rfl h25 h27 h50 rfl rfl rfl rfl rfl ⟨_, _, _, rfl, h47⟩ ((Sh.L (r := rPush) (sz := 2)) y41 _ ⟨_, _, _, rfl, h47⟩) rfl rfl (lt_b rfl) rfl rfl ?_
    intro cs51 w52 s53 h54 hH55
    change HS s s53 [⟨some b24, cs51, w52⟩] at hH55
    refine AOps.nilR ?_
    refine AW.inBlock ?_
    refine AW.region ?_
    refine AOps.pureR rfl rfl rfl rfl rfl (rfl : _ = (AV.int .i64 i28)) ?_
    refine AOps.pureR rfl rfl rfl rfl rfl (rfl : _ = (AV.int .i64 (IntKind.wrap .i64 (i28 + 1)))) ?_
    refine AOps.assignR rfl rfl rfl (rfl : _ = (AV.int .i64 (IntKind.wrap .i64 (i28 + 1)))) rfl ?_
    refine AOps.nilR ?_
    cases h
    exact AW.res [(0, (AV.sl z2 f3 e4)), (3, (AV.ms false 1 b24 0 n26)), (4, (AV.int .i64 (IntKind.wrap .i64 (i28 + 1))))] [] ⟨rfl, rfl, rfl, trivial⟩ trivial (hL1 _ rfl (⟨some b24, cs51, w52⟩, b24, n26, s53) _ _ ⟨rfl, h54, (HS.sel hH55 [some 0] (by decide))⟩)
  refine AW.condF (congrArg AV.bool hc31) ?_
  refine AW.exit rfl ?_
  obtain ⟨r56, hm, hx⟩ := omap h
  clear h
  subst hx
  have hx := hR1 _ rfl
  rw [hx] at hm
  have h := hm
  exact AW.res [(3, (AV.ms false 1 b24 0 n26))] [] ⟨rfl, trivial⟩ trivial (KJ21 (out22, x23, b24, n26, s29) _ _ ⟨h25, h27, (HS.sel hH30 [some 0] (by decide)), h⟩)
theorem laws_toInt64S_ok {a1 : List Int} {z2 : Nat} {f3 : Bool} {e4 : List AV} {s : St} (h5 : LR (rI .i64) 1 a1 z2 e4) {r : (List Int)} (h : laws_toInt64S a1 = some r) (hs : WF s) : ACall Cf 127 [(AV.sl z2 f3 e4)] s fun v _ s' => (rL (rI .i64) 1) r v ∧ s' = s := by
  refine ACall.boxes rfl rfl rfl ?_
  have hH0 := HS.init hs
  unfold laws_toInt64S at h
  refine AW.seq ?_
  refine AW.region ?_
  refine AOps.pureR rfl rfl rfl rfl rfl (rfl : _ = (AV.sl 0 true [])) ?_
  refine AOps.nilR ?_
  refine AW.seq ?_
  refine AW.region ?_
  refine AOps.pureR rfl rfl rfl rfl rfl (rfl : _ = (AV.sl z2 f3 e4)) ?_
  refine AOps.pureR rfl rfl rfl rfl rfl (len_eq h5) ?_
  obtain ⟨l6, h7, h⟩ := obind h
  refine AOps.mkS (r := rI .i64) hH0 rfl rfl rfl rfl rfl rfl rfl ⟨rfl, rfl, by decide⟩ h7 rfl (Sh.I (0 : Int) _ rfl) rfl ?_
  intro b8 s9 cs10 h11 hH12
  change HS s s9 [⟨some b8, cs10, fun _ => false⟩] at hH12
  refine AOps.assignR rfl rfl rfl (rfl : _ = (AV.ms false 1 b8 0 (Int.toNat (a1.length : Int)))) rfl ?_
  refine AOps.nilR ?_
  refine AW.seq ?_
  refine AW.seq ?_
  refine AW.region ?_
  refine AOps.pureR rfl rfl rfl rfl rfl (rfl : _ = (AV.int .i64 0)) ?_
  refine AOps.nilR ?_
  refine AW.meet (σ := (List Int) × BX × Nat × Nat × St) (fun (out13, x14, b15, n17, s19) tm os => ⟨updL tm [(3, (AV.ms false 1 b15 0 n17))], updL os [], s19⟩) (fun (out13, x14, b15, n17, s19) => (x14.b = some b15) ∧ (MS (rI .i64) false 1 out13 n17 x14.cs) ∧ (HS s s19 [x14]) ∧ laws_toInt64S_J1 out13 = some r) ?_ ?_
  · rintro ⟨out13, x14, b15, n17, s19⟩ tm os ⟨h16, h18, hH20, h⟩
    unfold laws_toInt64S_J1 at h
    refine AW.seq ?_
    refine AW.region ?_
    refine AOps.pureR rfl rfl rfl rfl rfl (rfl : _ = (AV.ms false 1 b15 0 n17)) ?_
    refine AOps.assignR rfl rfl rfl (rfl : _ = (AV.ms false 1 b15 0 n17)) rfl ?_
    refine AOps.nilR ?_
    cases h
    exact AW.ret ⟨⟨_, hH20⟩, _, _, rfl, (Fin.ms (r := rI .i64) hH20 (i := 0) rfl h16 h18 (fun _ => .I) (fun _ => rfl)).2⟩
  intro KJ21
  refine AW.block ?_
  refine AW.res [(0, (AV.sl z2 f3 e4)), (3, (AV.ms false 1 b8 0 (Int.toNat (a1.length : Int)))), (4, (AV.int .i64 0))] [] ⟨rfl, rfl, rfl, trivial⟩ trivial ?_
  refine AW.loopF (σ := (List Int) × Int) (τ := BX × Nat × Nat × St) (fun (out22, i28) (x23, b24, n26, s29) => (x23.b = some b24) ∧ (MS (rI .i64) false 1 out22 n26 x23.cs) ∧ (HS s s29 [x23])) (fun (out22, i28) (x23, b24, n26, s29) tm os => ⟨updL tm [(0, (AV.sl z2 f3 e4)), (3, (AV.ms false 1 b24 0 n26)), (4, (AV.int .i64 i28))], updL os [], s29⟩) ?_ (x := (l6, 0)) (y := (⟨some b8, cs10, fun _ => false⟩, b8, Int.toNat (a1.length : Int), s9)) h ⟨rfl, h11, (HS.sel hH12 [some 0] (by decide))⟩
  clear h
  rintro ⟨out22, i28⟩ ⟨x23, b24, n26, s29⟩ tm os ⟨h25, h27, hH30⟩ e1 h hL1 hR1
  unfold laws_toInt64S_S1 at h
  dsimp only at h
  refine AW.seq ?_
  refine AW.seq ?_
  refine AW.region ?_
  refine AOps.pureR rfl rfl rfl rfl rfl (rfl : _ = (AV.int .i64 i28)) ?_
  refine AOps.pureR rfl rfl rfl rfl rfl (rfl : _ = (AV.sl z2 f3 e4)) ?_
  refine AOps.pureR rfl rfl rfl rfl rfl (len_eq h5) ?_
  refine AOps.pureR rfl rfl rfl rfl rfl (rfl : _ = (AV.bool (decide ((i28 : Int) < (a1.length : Int))))) ?_
  refine AOps.nilR ?_
  rcases oite h with ⟨hc31, h⟩ | ⟨hc31, h⟩
  · refine AW.condT (congrArg AV.bool hc31) ?_
    refine AW.skip ?_
    refine AW.seq ?_
    refine AW.block ?_
    refine AW.region ?_
    refine AOps.pureR rfl rfl rfl rfl rfl (rfl : _ = (AV.ms false 1 b24 0 n26)) ?_
    refine AOps.pureR rfl rfl rfl rfl rfl (rfl : _ = (AV.int .i64 i28)) ?_
    refine AOps.pureR rfl rfl rfl rfl rfl (rfl : _ = (AV.sl z2 f3 e4)) ?_
    refine AOps.pureR rfl rfl rfl rfl rfl (rfl : _ = (AV.int .i64 i28)) ?_
    obtain ⟨x32, h33, h⟩ := obind h
    obtain ⟨v36, h34, h35⟩ := idx_sl h5 h33
    cases h34
    refine AOps.pureR rfl rfl rfl h35 rfl (rfl : _ = (AV.eptr [(AV.int .i64 x32)] 0)) ?_
    refine AOps.ldE (v := (AV.int .i64 x32)) rfl rfl rfl rfl rfl rfl ?_
    obtain ⟨x37, h38, h⟩ := obind h
    refine AOps.pureR rfl rfl rfl (idx_ms h27 h38) rfl (rfl : _ = (AV.ptr b24 (0 + Int.toNat i28 * 1))) ?_
    refine AOps.stM (i := 0) (r := rI .i64) (v := (AV.int .i64 x32)) (y := x32) hH30 rfl h25 h27 h38 rfl rfl rfl rfl rfl rfl (Sh.I x32 _ rfl) rfl rfl (lt_b rfl) rfl rfl ?_
    intro cs39 w40 s41 h42 hH43
    change HS s s41 [⟨some b24, cs39, w40⟩] at hH43
    refine AOps.nilR ?_
    refine AW.inBlock ?_
    refine AW.region ?_
    refine AOps.pureR rfl rfl rfl rfl rfl (rfl : _ = (AV.int .i64 i28)) ?_
    refine AOps.pureR rfl rfl rfl rfl rfl (rfl : _ = (AV.int .i64 (IntKind.wrap .i64 (i28 + 1)))) ?_
    refine AOps.assignR rfl rfl rfl (rfl : _ = (AV.int .i64 (IntKind.wrap .i64 (i28 + 1)))) rfl ?_
    refine AOps.nilR ?_
    cases h
    exact AW.res [(0, (AV.sl z2 f3 e4)), (3, (AV.ms false 1 b24 0 n26)), (4, (AV.int .i64 (IntKind.wrap .i64 (i28 + 1))))] [] ⟨rfl, rfl, rfl, trivial⟩ trivial (hL1 _ rfl (⟨some b24, cs39, w40⟩, b24, n26, s41) _ _ ⟨rfl, h42, (HS.sel hH43 [some 0] (by decide))⟩)
  refine AW.condF (congrArg AV.bool hc31) ?_
  refine AW.exit rfl ?_
  obtain ⟨r44, hm, hx⟩ := omap h
  clear h
  subst hx
  have hx := hR1 _ rfl
  rw [hx] at hm
  have h := hm
  exact AW.res [(3, (AV.ms false 1 b24 0 n26))] [] ⟨rfl, trivial⟩ trivial (KJ21 (out22, x23, b24, n26, s29) _ _ ⟨h25, h27, (HS.sel hH30 [some 0] (by decide)), h⟩)
theorem laws_toInt64SS_ok {a1 : List (List Int)} {z2 : Nat} {f3 : Bool} {e4 : List AV} {s : St} (h5 : LR (rL (rI .i64) 1) 1 a1 z2 e4) {r : (List (List Int))} (h : laws_toInt64SS a1 = some r) (hs : WF s) : ACall Cf 85 [(AV.sl z2 f3 e4)] s fun v _ s' => (rL (rL (rI .i64) 1) 1) r v ∧ s' = s := by
  refine ACall.boxes rfl rfl rfl ?_
  have hH0 := HS.init hs
  unfold laws_toInt64SS at h
  refine AW.seq ?_
  refine AW.region ?_
  refine AOps.pureR rfl rfl rfl rfl rfl (rfl : _ = (AV.sl 0 true [])) ?_
  refine AOps.nilR ?_
  refine AW.seq ?_
  refine AW.region ?_
  refine AOps.pureR rfl rfl rfl rfl rfl (rfl : _ = (AV.sl z2 f3 e4)) ?_
  refine AOps.pureR rfl rfl rfl rfl rfl (len_eq h5) ?_
  obtain ⟨l6, h7, h⟩ := obind h
  refine AOps.mkS (r := rL (rI .i64) 1) hH0 rfl rfl rfl rfl rfl rfl rfl ⟨rfl, rfl, by decide⟩ h7 ⟨_, _, _, rfl, ⟨.inr ⟨rfl, rfl⟩, .nil⟩⟩ ((Sh.L (r := rI .i64) (sz := 1)) (([] : List Int) : List Int) _ ⟨_, _, _, rfl, ⟨.inr ⟨rfl, rfl⟩, .nil⟩⟩) rfl ?_
  intro b8 s9 cs10 h11 hH12
  change HS s s9 [⟨some b8, cs10, fun _ => false⟩] at hH12
  refine AOps.assignR rfl rfl rfl (rfl : _ = (AV.ms false 1 b8 0 (Int.toNat (a1.length : Int)))) rfl ?_
  refine AOps.nilR ?_
  refine AW.seq ?_
  refine AW.seq ?_
  refine AW.region ?_
  refine AOps.pureR rfl rfl rfl rfl rfl (rfl : _ = (AV.int .i64 0)) ?_
  refine AOps.nilR ?_
  refine AW.meet (σ := (List (List Int)) × BX × Nat × Nat × St) (fun (out13, x14, b15, n17, s19) tm os => ⟨updL tm [(3, (AV.ms false 1 b15 0 n17))], updL os [], s19⟩) (fun (out13, x14, b15, n17, s19) => (x14.b = some b15) ∧ (MS (rL (rI .i64) 1) false 1 out13 n17 x14.cs) ∧ (HS s s19 [x14]) ∧ laws_toInt64SS_J1 out13 = some r) ?_ ?_
  · rintro ⟨out13, x14, b15, n17, s19⟩ tm os ⟨h16, h18, hH20, h⟩
    unfold laws_toInt64SS_J1 at h
    refine AW.seq ?_
    refine AW.region ?_
    refine AOps.pureR rfl rfl rfl rfl rfl (rfl : _ = (AV.ms false 1 b15 0 n17)) ?_
    refine AOps.assignR rfl rfl rfl (rfl : _ = (AV.ms false 1 b15 0 n17)) rfl ?_
    refine AOps.nilR ?_
    cases h
    exact AW.ret ⟨⟨_, hH20⟩, _, _, rfl, (Fin.ms (r := rL (rI .i64) 1) hH20 (i := 0) rfl h16 h18 (fun _ => (.L fun _ => .I)) (fun _ => rfl)).2⟩
  intro KJ21
  refine AW.block ?_
  refine AW.res [(0, (AV.sl z2 f3 e4)), (3, (AV.ms false 1 b8 0 (Int.toNat (a1.length : Int)))), (4, (AV.int .i64 0))] [] ⟨rfl, rfl, rfl, trivial⟩ trivial ?_
  refine AW.loopF (σ := (List (List Int)) × Int) (τ := BX × Nat × Nat × St) (fun (out22, i28) (x23, b24, n26, s29) => (x23.b = some b24) ∧ (MS (rL (rI .i64) 1) false 1 out22 n26 x23.cs) ∧ (HS s s29 [x23])) (fun (out22, i28) (x23, b24, n26, s29) tm os => ⟨updL tm [(0, (AV.sl z2 f3 e4)), (3, (AV.ms false 1 b24 0 n26)), (4, (AV.int .i64 i28))], updL os [], s29⟩) ?_ (x := (l6, 0)) (y := (⟨some b8, cs10, fun _ => false⟩, b8, Int.toNat (a1.length : Int), s9)) h ⟨rfl, h11, (HS.sel hH12 [some 0] (by decide))⟩
  clear h
  rintro ⟨out22, i28⟩ ⟨x23, b24, n26, s29⟩ tm os ⟨h25, h27, hH30⟩ e1 h hL1 hR1
  unfold laws_toInt64SS_S1 at h
  dsimp only at h
  refine AW.seq ?_
  refine AW.seq ?_
  refine AW.region ?_
  refine AOps.pureR rfl rfl rfl rfl rfl (rfl : _ = (AV.int .i64 i28)) ?_
  refine AOps.pureR rfl rfl rfl rfl rfl (rfl : _ = (AV.sl z2 f3 e4)) ?_
  refine AOps.pureR rfl rfl rfl rfl rfl (len_eq h5) ?_
  refine AOps.pureR rfl rfl rfl rfl rfl (rfl : _ = (AV.bool (decide ((i28 : Int) < (a1.length : Int))))) ?_
  refine AOps.nilR ?_
  rcases oite h with ⟨hc31, h⟩ | ⟨hc31, h⟩
  · refine AW.condT (congrArg AV.bool hc31) ?_
    refine AW.skip ?_
    refine AW.seq ?_
    refine AW.block ?_
    refine AW.region ?_
    refine AOps.pureR rfl rfl rfl rfl rfl (rfl : _ = (AV.ms false 1 b24 0 n26)) ?_
    refine AOps.pureR rfl rfl rfl rfl rfl (rfl : _ = (AV.int .i64 i28)) ?_
    refine AOps.pureR rfl rfl rfl rfl rfl (rfl : _ = (AV.sl z2 f3 e4)) ?_
    refine AOps.pureR rfl rfl rfl rfl rfl (rfl : _ = (AV.int .i64 i28)) ?_
    obtain ⟨x32, h33, h⟩ := obind h
    obtain ⟨v36, h34, h35⟩ := idx_sl h5 h33
    obtain ⟨z37, f38, e39, rfl, h40⟩ := h34
    refine AOps.pureR rfl rfl rfl h35 rfl (rfl : _ = (AV.eptr [(AV.sl z37 f38 e39)] 0)) ?_
    refine AOps.ldE (v := (AV.sl z37 f38 e39)) rfl rfl rfl rfl rfl rfl ?_
    obtain ⟨y41, h42, h⟩ := obind h
    refine AOps.callP (g := 127) (args := [(AV.sl z37 f38 e39)]) (p := (rL (rI .i64) 1) y41) rfl rfl rfl (laws_toInt64S_ok h40 h42 (HS.wf' hH30)) ?_
    intro _ o48 h43
    obtain ⟨z44, f45, e46, rfl, h47⟩ := h43
    obtain ⟨x49, h50, h⟩ := obind h
    refine AOps.pureR rfl rfl rfl (idx_ms h27 h50) rfl (rfl : _ = (AV.ptr b24 (0 + Int.toNat i28 * 1))) ?_
    refine AOps.stM (i := 0) (r := rL (rI .i64) 1) (v := (AV.sl z44 f45 e46)) (y := y41) hH30 rfl h25 h27 h50 rfl rfl rfl rfl rfl ⟨_, _, _, rfl, h47⟩ ((Sh.L (r := rI .i64) (sz := 1)) y41 _ ⟨_, _, _, rfl, h47⟩) rfl rfl (lt_b rfl) rfl rfl ?_
    intro cs51 w52 s53 h54 hH55
    change HS s s53 [⟨some b24, cs51, w52⟩] at hH55
    refine AOps.nilR ?_
    refine AW.inBlock ?_
    refine AW.region ?_
    refine AOps.pureR rfl rfl rfl rfl rfl (rfl : _ = (AV.int .i64 i28)) ?_
    refine AOps.pureR rfl rfl rfl rfl rfl (rfl : _ = (AV.int .i64 (IntKind.wrap .i64 (i28 + 1)))) ?_
    refine AOps.assignR rfl rfl rfl (rfl : _ = (AV.int .i64 (IntKind.wrap .i64 (i28 + 1)))) rfl ?_
    refine AOps.nilR ?_
    cases h
    exact AW.res [(0, (AV.sl z2 f3 e4)), (3, (AV.ms false 1 b24 0 n26)), (4, (AV.int .i64 (IntKind.wrap .i64 (i28 + 1))))] [] ⟨rfl, rfl, rfl, trivial⟩ trivial (hL1 _ rfl (⟨some b24, cs51, w52⟩, b24, n26, s53) _ _ ⟨rfl, h54, (HS.sel hH55 [some 0] (by decide))⟩)
  refine AW.condF (congrArg AV.bool hc31) ?_
  refine AW.exit rfl ?_
  obtain ⟨r56, hm, hx⟩ := omap h
  clear h
  subst hx
  have hx := hR1 _ rfl
  rw [hx] at hm
  have h := hm
  exact AW.res [(3, (AV.ms false 1 b24 0 n26))] [] ⟨rfl, trivial⟩ trivial (KJ21 (out22, x23, b24, n26, s29) _ _ ⟨h25, h27, (HS.sel hH30 [some 0] (by decide)), h⟩)
theorem laws_toInt64SSS_ok {a1 : List (List (List Int))} {z2 : Nat} {f3 : Bool} {e4 : List AV} {s : St} (h5 : LR (rL (rL (rI .i64) 1) 1) 1 a1 z2 e4) {r : (List (List (List Int)))} (h : laws_toInt64SSS a1 = some r) (hs : WF s) : ACall Cf 84 [(AV.sl z2 f3 e4)] s fun v _ s' => (rL (rL (rL (rI .i64) 1) 1) 1) r v ∧ s' = s := by
  refine ACall.boxes rfl rfl rfl ?_
  have hH0 := HS.init hs
  unfold laws_toInt64SSS at h
  refine AW.seq ?_
  refine AW.region ?_
  refine AOps.pureR rfl rfl rfl rfl rfl (rfl : _ = (AV.sl 0 true [])) ?_
  refine AOps.nilR ?_
  refine AW.seq ?_
  refine AW.region ?_
  refine AOps.pureR rfl rfl rfl rfl rfl (rfl : _ = (AV.sl z2 f3 e4)) ?_
  refine AOps.pureR rfl rfl rfl rfl rfl (len_eq h5) ?_
  obtain ⟨l6, h7, h⟩ := obind h
  refine AOps.mkS (r := rL (rL (rI .i64) 1) 1) hH0 rfl rfl rfl rfl rfl rfl rfl ⟨rfl, rfl, by decide⟩ h7 ⟨_, _, _, rfl, ⟨.inr ⟨rfl, rfl⟩, .nil⟩⟩ ((Sh.L (r := rL (rI .i64) 1) (sz := 1)) (([] : List (List Int)) : List (List Int)) _ ⟨_, _, _, rfl, ⟨.inr ⟨rfl, rfl⟩, .nil⟩⟩) rfl ?_
  intro b8 s9 cs10 h11 hH12
  change HS s s9 [⟨some b8, cs10, fun _ => false⟩] at hH12
  refine AOps.assignR rfl rfl rfl (rfl : _ = (AV.ms false 1 b8 0 (Int.toNat (a1.length : Int)))) rfl ?_
  refine AOps.nilR ?_
  refine AW.seq ?_
  refine AW.seq ?_
  refine AW.region ?_
  refine AOps.pureR rfl rfl rfl rfl rfl (rfl : _ = (AV.int .i64 0)) ?_
  refine AOps.nilR ?_
  refine AW.meet (σ := (List (List (List Int))) × BX × Nat × Nat × St) (fun (out13, x14, b15, n17, s19) tm os => ⟨updL tm [(3, (AV.ms false 1 b15 0 n17))], updL os [], s19⟩) (fun (out13, x14, b15, n17, s19) => (x14.b = some b15) ∧ (MS (rL (rL (rI .i64) 1) 1) false 1 out13 n17 x14.cs) ∧ (HS s s19 [x14]) ∧ laws_toInt64SSS_J1 out13 = some r) ?_ ?_
  · rintro ⟨out13, x14, b15, n17, s19⟩ tm os ⟨h16, h18, hH20, h⟩
    unfold laws_toInt64SSS_J1 at h
    refine AW.seq ?_
    refine AW.region ?_
    refine AOps.pureR rfl rfl rfl rfl rfl (rfl : _ = (AV.ms false 1 b15 0 n17)) ?_
    refine AOps.assignR rfl rfl rfl (rfl : _ = (AV.ms false 1 b15 0 n17)) rfl ?_
    refine AOps.nilR ?_
    cases h
    exact AW.ret ⟨⟨_, hH20⟩, _, _, rfl, (Fin.ms (r := rL (rL (rI .i64) 1) 1) hH20 (i := 0) rfl h16 h18 (fun _ => (.L fun _ => (.L fun _ => .I))) (fun _ => rfl)).2⟩
  intro KJ21
  refine AW.block ?_
  refine AW.res [(0, (AV.sl z2 f3 e4)), (3, (AV.ms false 1 b8 0 (Int.toNat (a1.length : Int)))), (4, (AV.int .i64 0))] [] ⟨rfl, rfl, rfl, trivial⟩ trivial ?_
  refine AW.loopF (σ := (List (List (List Int))) × Int) (τ := BX × Nat × Nat × St) (fun (out22, i28) (x23, b24, n26, s29) => (x23.b = some b24) ∧ (MS (rL (rL (rI .i64) 1) 1) false 1 out22 n26 x23.cs) ∧ (HS s s29 [x23])) (fun (out22, i28) (x23, b24, n26, s29) tm os => ⟨updL tm [(0, (AV.sl z2 f3 e4)), (3, (AV.ms false 1 b24 0 n26)), (4, (AV.int .i64 i28))], updL os [], s29⟩) ?_ (x := (l6, 0)) (y := (⟨some b8, cs10, fun _ => false⟩, b8, Int.toNat (a1.length : Int), s9)) h ⟨rfl, h11, (HS.sel hH12 [some 0] (by decide))⟩
  clear h
  rintro ⟨out22, i28⟩ ⟨x23, b24, n26, s29⟩ tm os ⟨h25, h27, hH30⟩ e1 h hL1 hR1
  unfold laws_toInt64SSS_S1 at h
  dsimp only at h
  refine AW.seq ?_
  refine AW.seq ?_
  refine AW.region ?_
  refine AOps.pureR rfl rfl rfl rfl rfl (rfl : _ = (AV.int .i64 i28)) ?_
  refine AOps.pureR rfl rfl rfl rfl rfl (rfl : _ = (AV.sl z2 f3 e4)) ?_
  refine AOps.pureR rfl rfl rfl rfl rfl (len_eq h5) ?_
  refine AOps.pureR rfl rfl rfl rfl rfl (rfl : _ = (AV.bool (decide ((i28 : Int) < (a1.length : Int))))) ?_
  refine AOps.nilR ?_
  rcases oite h with ⟨hc31, h⟩ | ⟨hc31, h⟩
  · refine AW.condT (congrArg AV.bool hc31) ?_
    refine AW.skip ?_
    refine AW.seq ?_
    refine AW.block ?_
    refine AW.region ?_
    refine AOps.pureR rfl rfl rfl rfl rfl (rfl : _ = (AV.ms false 1 b24 0 n26)) ?_
    refine AOps.pureR rfl rfl rfl rfl rfl (rfl : _ = (AV.int .i64 i28)) ?_
    refine AOps.pureR rfl rfl rfl rfl rfl (rfl : _ = (AV.sl z2 f3 e4)) ?_
    refine AOps.pureR rfl rfl rfl rfl rfl (rfl : _ = (AV.int .i64 i28)) ?_
    obtain ⟨x32, h33, h⟩ := obind h
    obtain ⟨v36, h34, h35⟩ := idx_sl h5 h33
    obtain ⟨z37, f38, e39, rfl, h40⟩ := h34
    refine AOps.pureR rfl rfl rfl h35 rfl (rfl : _ = (AV.eptr [(AV.sl z37 f38 e39)] 0)) ?_
    refine AOps.ldE (v := (AV.sl z37 f38 e39)) rfl rfl rfl rfl rfl rfl ?_
    obtain ⟨y41, h42, h⟩ := obind h
    refine AOps.callP (g := 85) (args := [(AV.sl z37 f38 e39)]) (p := (rL (rL (rI .i64) 1) 1) y41) rfl rfl rfl (laws_toInt64SS_ok h40 h42 (HS.wf' hH30)) ?_
    intro _ o48 h43
    obtain ⟨z44, f45, e46, rfl, h47⟩ := h43
    obtain ⟨x49, h50, h⟩ := obind h
    refine AOps.pureR rfl rfl rfl (idx_ms h27 h50) rfl (rfl : _ = (AV.ptr b24 (0 + Int.toNat i28 * 1))) ?_
    refine AOps.stM (i := 0) (r := rL (rL (rI .i64) 1) 1) (v := (AV.sl z44 f45 e46)) (y := y41) hH30 rfl h25 h27 h50 rfl rfl rfl rfl rfl ⟨_, _, _, rfl, h47⟩ ((Sh.L (r := rL (rI .i64) 1) (sz := 1)) y41 _ ⟨_, _, _, rfl, h47⟩) rfl rfl (lt_b rfl) rfl rfl ?_
    intro cs51 w52 s53 h54 hH55
    change HS s s53 [⟨some b24, cs51, w52⟩] at hH55
    refine AOps.nilR ?_
    refine AW.inBlock ?_
    refine AW.region ?_
    refine AOps.pureR rfl rfl rfl rfl rfl (rfl : _ = (AV.int .i64 i28)) ?_
    refine AOps.pureR rfl rfl rfl rfl rfl (rfl : _ = (AV.int .i64 (IntKind.wrap .i64 (i28 + 1)))) ?_
    refine AOps.assignR rfl rfl rfl (rfl : _ = (AV.int .i64 (IntKind.wrap .i64 (i28 + 1)))) rfl ?_
    refine AOps.nilR ?_
    cases h
    exact AW.res [(0, (AV.sl z2 f3 e4)), (3, (AV.ms false 1 b24 0 n26)), (4, (AV.int .i64 (IntKind.wrap .i64 (i28 + 1))))] [] ⟨rfl, rfl, rfl, trivial⟩ trivial (hL1 _ rfl (⟨some b24, cs51, w52⟩, b24, n26, s53) _ _ ⟨rfl, h54, (HS.sel hH55 [some 0] (by decide))⟩)
  refine AW.condF (congrArg AV.bool hc31) ?_
  refine AW.exit rfl ?_
  obtain ⟨r56, hm, hx⟩ := omap h
  clear h
  subst hx
  have hx := hR1 _ rfl
  rw [hx] at hm
  have h := hm
  exact AW.res [(3, (AV.ms false 1 b24 0 n26))] [] ⟨rfl, trivial⟩ trivial (KJ21 (out22, x23, b24, n26, s29) _ _ ⟨h25, h27, (HS.sel hH30 [some 0] (by decide)), h⟩)
theorem laws_toChecker_ok {a1 : Checker} {z2 : Nat} {f3 : Bool} {e4 : List AV} {z6 : Nat} {f7 : Bool} {e8 : List AV} {z10 : Nat} {f11 : Bool} {e12 : List AV} {z14 : Nat} {f15 : Bool} {e16 : List AV} {s : St} (h5 : LR rB 1 a1.Accept z2 e4) (h9 : LR (rL rPush 2) 1 a1.Call z6 e8) (h13 : LR (rL (rL (rI .i64) 1) 1) 1 a1.Return z10 e12) (h17 : LR (rL (rI .i64) 1) 1 a1.Inner z14 e16) {r : Checker} (h : laws_toChecker a1 = some r) (hs : WF s) : ACall Cf 42 [(AV.agg [(AV.int .i64 a1.Stack), (AV.int .i64 a1.Start), (AV.sl z2 f3 e4), (AV.sl z6 f7 e8), (AV.sl z10 f11 e12), (AV.sl z14 f15 e16)])] s fun v _ s' => (rChecker) r v ∧ s' = s := by
  refine ACall.boxes rfl rfl rfl ?_
  have hH0 := HS.init hs
  unfold laws_toChecker at h
  refine AW.seq ?_
  refine AW.region ?_
  refine AOps.makeR rfl rfl rfl rfl rfl rfl (rfl : _ = (AV.eptr [(AV.int .i64 a1.Stack), (AV.int .i64 a1.Start), (AV.sl z2 f3 e4), (AV.sl z6 f7 e8), (AV.sl z10 f11 e12), (AV.sl z14 f15 e16)] 0)) ?_
  refine AOps.allocP rfl rfl rfl rfl ⟨rfl, rfl⟩ rfl ?_
  refine AOps.nilR ?_
  refine AW.seq ?_
  refine AW.region ?_
  refine AOps.alloc1 hH0 rfl rfl rfl rfl rfl rfl ?_
  intro b18 s19 hH20
  change HS s s19 [⟨some b18, [(AV.int .i64 0), (AV.int .i64 0), (AV.sl 0 true []), (AV.sl 0 true []), (AV.sl 0 true []), (AV.sl 0 true [])], (fun _ => false)⟩] at hH20
  refine AOps.nilR ?_
  refine AW.seq ?_
  refine AW.region ?_
  refine AOps.pureR rfl rfl rfl rfl rfl (rfl : _ = (AV.eptr [(AV.int .i64 a1.Stack), (AV.int .i64 a1.Start), (AV.sl z2 f3 e4), (AV.sl z6 f7 e8), (AV.sl z10 f11 e12), (AV.sl z14 f15 e16)] 0)) ?_
  refine AOps.ldE (v := (AV.int .i64 a1.Stack)) rfl rfl rfl rfl rfl rfl ?_
  refine AOps.pureR rfl rfl rfl rfl rfl (rfl : _ = (AV.ptr b18 0)) ?_
  refine AOps.stB (i := 0) (v := (AV.int .i64 a1.Stack)) hH20 rfl rfl rfl rfl rfl rfl rfl rfl rfl (lt_b rfl) (le_b rfl) rfl ?_
  intro w21 s22 h23 h24 hH25
  change HS s s22 [⟨some b18, [(AV.int .i64 a1.Stack), (AV.int .i64 0), (AV.sl 0 true []), (AV.sl 0 true []), (AV.sl 0 true []), (AV.sl 0 true [])], w21⟩] at hH25
  refine AOps.nilR ?_
  refine AW.seq ?_
  refine AW.region ?_
  refine AOps.pureR rfl rfl rfl rfl rfl (rfl : _ = (AV.eptr [(AV.int .i64 a1.Stack), (AV.int .i64 a1.Start), (AV.sl z2 f3 e4), (AV.sl z6 f7 e8), (AV.sl z10 f11 e12), (AV.sl z14 f15 e16)] 1)) ?_
  refine AOps.ldE (v := (AV.int .i64 a1.Start)) rfl rfl rfl rfl rfl rfl ?_
  refine AOps.pureR rfl rfl rfl rfl rfl (rfl : _ = (AV.ptr b18 1)) ?_
  refine AOps.stB (i := 0) (v := (AV.int .i64 a1.Start)) hH25 rfl rfl rfl rfl rfl rfl rfl rfl rfl (lt_b rfl) (le_b rfl) rfl ?_
  intro w26 s27 h28 h29 hH30
  change HS s s27 [⟨some b18, [(AV.int .i64 a1.Stack), (AV.int .i64 a1.Start), (AV.sl 0 true []), (AV.sl 0 true []), (AV.sl 0 true []), (AV.sl 0 true [])], w26⟩] at hH30
  refine AOps.nilR ?_
  refine AW.seq ?_
  refine AW.region ?_
  refine AOps.pureR rfl rfl rfl rfl rfl (rfl : _ = (AV.eptr [(AV.int .i64 a1.Stack), (AV.int .i64 a1.Start), (AV.sl z2 f3 e4), (AV.sl z6 f7 e8), (AV.sl z10 f11 e12), (AV.sl z14 f15 e16)] 2)) ?_
  refine AOps.ldE (v := (AV.sl z2 f3 e4)) rfl rfl rfl rfl rfl rfl ?_
  obtain ⟨y31, h32, h⟩ := obind h
  refine AOps.callP (g := 82) (args := [(AV.sl z2 f3 e4)]) (p := (rL rB 1) y31) rfl rfl rfl (laws_toBoolS_ok h5 h32 (HS.wf' hH30)) ?_
  intro _ o38 h33
  obtain ⟨z34, f35, e36, rfl, h37⟩ := h33
  refine AOps.pureR rfl rfl rfl rfl rfl (rfl : _ = (AV.ptr b18 2)) ?_
  refine AOps.stB (i := 0) (v := (AV.sl z34 f35 e36)) hH30 rfl rfl rfl rfl rfl rfl rfl rfl rfl (lt_b rfl) (le_b rfl) rfl ?_
  intro w39 s40 h41 h42 hH43
  change HS s s40 [⟨some b18, [(AV.int .i64 a1.Stack), (AV.int .i64 a1.Start), (AV.sl z34 f35 e36), (AV.sl 0 true []), (AV.sl 0 true []), (AV.sl 0 true [])], w39⟩] at hH43
  refine AOps.nilR ?_
  refine AW.seq ?_
  refine AW.region ?_
  refine AOps.pureR rfl rfl rfl rfl rfl (rfl : _ = (AV.eptr [(AV.int .i64 a1.Stack), (AV.int .i64 a1.Start), (AV.sl z2 f3 e4), (AV.sl z6 f7 e8), (AV.sl z10 f11 e12), (AV.sl z14 f15 e16)] 3)) ?_
  refine AOps.ldE (v := (AV.sl z6 f7 e8)) rfl rfl rfl rfl rfl rfl ?_
  obtain ⟨y44, h45, h⟩ := obind h
  refine AOps.callP (g := 83) (args := [(AV.sl z6 f7 e8)]) (p := (rL (rL rPush 2) 1) y44) rfl rfl rfl (laws_toPushSS_ok h9 h45 (HS.wf' hH43)) ?_
  intro _ o51 h46
  obtain ⟨z47, f48, e49, rfl, h50⟩ := h46
  refine AOps.pureR rfl rfl rfl rfl rfl (rfl : _ = (AV.ptr b18 3)) ?_
  refine AOps.stB (i := 0) (v := (AV.sl z47 f48 e49)) hH43 rfl rfl rfl rfl rfl rfl rfl rfl rfl (lt_b rfl) (le_b rfl) rfl ?_
  intro w52 s53 h54 h55 hH56
  change HS s s53 [⟨some b18, [(AV.int .i64 a1.Stack), (AV.int .i64 a1.Start), (AV.sl z34 f35 e36), (AV.sl z47 f48 e49), (AV.sl 0 true []), (AV.sl 0 true [])], w52⟩] at hH56
  refine AOps.nilR ?_
  refine AW.seq ?_
  refine AW.region ?_
  refine AOps.pureR rfl rfl rfl rfl rfl (rfl : _ = (AV.eptr [(AV.int .i64 a1.Stack), (AV.int .i64 a1.Start), (AV.sl z2 f3 e4), (AV.sl z6 f7 e8), (AV.sl z10 f11 e12), (AV.sl z14 f15 e16)] 4)) ?_
  refine AOps.ldE (v := (AV.sl z10 f11 e12)) rfl rfl rfl rfl rfl rfl ?_
  obtain ⟨y57, h58, h⟩ := obind h
  refine AOps.callP (g := 84) (args := [(AV.sl z10 f11 e12)]) (p := (rL (rL (rL (rI .i64) 1) 1) 1) y57) rfl rfl rfl (laws_toInt64SSS_ok h13 h58 (HS.wf' hH56)) ?_
  intro _ o64 h59
  obtain ⟨z60, f61, e62, rfl, h63⟩ := h59
  refine AOps.pureR rfl rfl rfl rfl rfl (rfl : _ = (AV.ptr b18 4)) ?_
  refine AOps.stB (i := 0) (v := (AV.sl z60 f61 e62)) hH56 rfl rfl rfl rfl rfl rfl rfl rfl rfl (lt_b rfl) (le_b rfl) rfl ?_
  intro w65 s66 h67 h68 hH69
  change HS s s66 [⟨some b18, [(AV.int .i64 a1.Stack), (AV.int .i64 a1.Start), (AV.sl z34 f35 e36), (AV.sl z47 f48 e49), (AV.sl z60 f61 e62), (AV.sl 0 true [])], w65⟩] at hH69
  refine AOps.nilR ?_
  refine AW.seq ?_
  refine AW.region ?_
  refine AOps.pureR rfl rfl rfl rfl rfl (rfl : _ = (AV.eptr [(AV.int .i64 a1.Stack), (AV.int .i64 a1.Start), (AV.sl z2 f3 e4), (AV.sl z6 f7 e8), (AV.sl z10 f11 e12), (AV.sl z14 f15 e16)] 5)) ?_
  refine AOps.ldE (v := (AV.sl z14 f15 e16)) rfl rfl rfl rfl rfl rfl ?_
  obtain ⟨y70, h71, h⟩ := obind h
  refine AOps.callP (g := 85) (args := [(AV.sl z14 f15 e16)]) (p := (rL (rL (rI .i64) 1) 1) y70) rfl rfl rfl (laws_toInt64SS_ok h17 h71 (HS.wf' hH69)) ?_
  intro _ o77 h72
  obtain ⟨z73, f74, e75, rfl, h76⟩ := h72
  refine AOps.pureR rfl rfl rfl rfl rfl (rfl : _ = (AV.ptr b18 5)) ?_
  refine AOps.stB (i := 0) (v := (AV.sl z73 f74 e75)) hH69 rfl rfl rfl rfl rfl rfl rfl rfl rfl (lt_b rfl) (le_b rfl) rfl ?_
  intro w78 s79 h80 h81 hH82
  change HS s s79 [⟨some b18, [(AV.int .i64 a1.Stack), (AV.int .i64 a1.Start), (AV.sl z34 f35 e36), (AV.sl z47 f48 e49), (AV.sl z60 f61 e62), (AV.sl z73 f74 e75)], w78⟩] at hH82
  refine AOps.nilR ?_
  refine AW.seq ?_
  refine AW.region ?_
  refine AOps.ldB (i := 0) (v := (AV.agg [(AV.int .i64 a1.Stack), (AV.int .i64 a1.Start), (AV.sl z34 f35 e36), (AV.sl z47 f48 e49), (AV.sl z60 f61 e62), (AV.sl z73 f74 e75)])) hH82 rfl rfl rfl rfl rfl rfl rfl rfl rfl ?_
  refine AOps.stP (v := (AV.agg [(AV.int .i64 a1.Stack), (AV.int .i64 a1.Start), (AV.sl z34 f35 e36), (AV.sl z47 f48 e49), (AV.sl z60 f61 e62), (AV.sl z73 f74 e75)])) rfl rfl rfl rfl rfl rfl rfl rfl rfl (lt_b rfl) rfl ?_
  refine AOps.nilR ?_
  cases h
  exact AW.ret ⟨⟨_, hH82⟩, _, _, rfl, (Fin.of (p := (rChecker) (⟨a1.Stack, a1.Start, y31, y44, y57, y70⟩ : Checker)) (.A (.cons .I (.cons .I (.cons (.L fun _ => .B) (.cons (.L fun _ => (.L fun _ => (.A (.cons .I (.cons .I .nil))))) (.cons (.L fun _ => (.L fun _ => (.L fun _ => .I))) (.cons (.L fun _ => (.L fun _ => .I)) .nil))))))) (⟨_, rfl, (.cons rfl (.cons rfl (.cons ⟨_, _, _, rfl, h37⟩ (.cons ⟨_, _, _, rfl, h50⟩ (.cons ⟨_, _, _, rfl, h63⟩ (.cons ⟨_, _, _, rfl, h76⟩ .nil))))))⟩)).2⟩
theorem laws_toStringS_ok {a1 : List (List UInt8)} {z2 : Nat} {f3 : Bool} {e4 : List AV} {s : St} (h5 : LR rS 1 a1 z2 e4) {r : (List (List UInt8))} (h : laws_toStringS a1 = some r) (hs : WF s) : ACall Cf 43 [(AV.sl z2 f3 e4)] s fun v _ s' => (rL rS 1) r v ∧ s' = s := by
  refine ACall.boxes rfl rfl rfl ?_
  have hH0 := HS.init hs
  unfold laws_toStringS at h
  refine AW.seq ?_
  refine AW.region ?_
  refine AOps.pureR rfl rfl rfl rfl rfl (rfl : _ = (AV.sl 0 true [])) ?_
  refine AOps.nilR ?_
  refine AW.seq ?_
  refine AW.region ?_
  refine AOps.pureR rfl rfl rfl rfl rfl (rfl : _ = (AV.sl z2 f3 e4)) ?_
  refine AOps.pureR rfl rfl rfl rfl rfl (len_eq h5) ?_
  obtain ⟨l6, h7, h⟩ := obind h
  refine AOps.mkS (r := rS) hH0 rfl rfl rfl rfl rfl rfl rfl ⟨rfl, rfl, by decide⟩ h7 rfl (Sh.S (([] : List UInt8) : List UInt8) _ rfl) rfl ?_
  intro b8 s9 cs10 h11 hH12
  change HS s s9 [⟨some b8, cs10, fun _ => false⟩] at hH12
  refine AOps.assignR rfl rfl rfl (rfl : _ = (AV.ms false 1 b8 0 (Int.toNat (a1.length : Int)))) rfl ?_
  refine AOps.nilR ?_
  refine AW.seq ?_
  refine AW.seq ?_
  refine AW.region ?_
  refine AOps.pureR rfl rfl rfl rfl rfl (rfl : _ = (AV.int .i64 0)) ?_
  refine AOps.nilR ?_
  refine AW.meet (σ := (List (List UInt8)) × BX × Nat × Nat × St) (fun (out13, x14, b15, n17, s19) tm os => ⟨updL tm [(3, (AV.ms false 1 b15 0 n17))], updL os [], s19⟩) (fun (out13, x14, b15, n17, s19) => (x14.b = some b15) ∧ (MS rS false 1 out13 n17 x14.cs) ∧ (HS s s19 [x14]) ∧ laws_toStringS_J1 out13 = some r) ?_ ?_
  · rintro ⟨out13, x14, b15, n17, s19⟩ tm os ⟨h16, h18, hH20, h⟩
    unfold laws_toStringS_J1 at h
    refine AW.seq ?_
    refine AW.region ?_
    refine AOps.pureR rfl rfl rfl rfl rfl (rfl : _ = (AV.ms false 1 b15 0 n17)) ?_
    refine AOps.assignR rfl rfl rfl (rfl : _ = (AV.ms false 1 b15 0 n17)) rfl ?_
    refine AOps.nilR ?_
    cases h
    exact AW.ret ⟨⟨_, hH20⟩, _, _, rfl, (Fin.ms (r := rS) hH20 (i := 0) rfl h16 h18 (fun _ => .S) (fun _ => rfl)).2⟩
  intro KJ21
  refine AW.block ?_
  refine AW.res [(0, (AV.sl z2 f3 e4)), (3, (AV.ms false 1 b8 0 (Int.toNat (a1.length : Int)))), (4, (AV.int .i64 0))] [] ⟨rfl, rfl, rfl, trivial⟩ trivial ?_
  refine AW.loopF (σ := (List (List UInt8)) × Int) (τ := BX × Nat × Nat × St) (fun (out22, i28) (x23, b24, n26, s29) => (x23.b = some b24) ∧ (MS rS false 1 out22 n26 x23.cs) ∧ (HS s s29 [x23])) (fun (out22, i28) (x23, b24, n26, s29) tm os => ⟨updL tm [(0, (AV.sl z2 f3 e4)), (3, (AV.ms false 1 b24 0 n26)), (4, (AV.int .i64 i28))], updL os [], s29⟩) ?_ (x := (l6, 0)) (y := (⟨some b8, cs10, fun _ => false⟩, b8, Int.toNat (a1.length : Int), s9)) h ⟨rfl, h11, (HS.sel hH12 [some 0] (by decide))⟩
  clear h
  rintro ⟨out22, i28⟩ ⟨x23, b24, n26, s29⟩ tm os ⟨h25, h27, hH30⟩ e1 h hL1 hR1
  unfold laws_toStringS_S1 at h
  dsimp only at h
  refine AW.seq ?_
  refine AW.seq ?_
  refine AW.region ?_
  refine AOps.pureR rfl rfl rfl rfl rfl (rfl : _ = (AV.int .i64 i28)) ?_
  refine AOps.pureR rfl rfl rfl rfl rfl (rfl : _ = (AV.sl z2 f3 e4)) ?_
  refine AOps.pureR rfl rfl rfl rfl rfl (len_eq h5) ?_
  refine AOps.pureR rfl rfl rfl rfl rfl (rfl : _ = (AV.bool (decide ((i28 : Int) < (a1.length : Int))))) ?_
  refine AOps.nilR ?_
  rcases oite h with ⟨hc31, h⟩ | ⟨hc31, h⟩
  · refine AW.condT (congrArg AV.bool hc31) ?_
    refine AW.skip ?_
    refine AW.seq ?_
    refine AW.block ?_
    refine AW.region ?_
    refine AOps.pureR rfl rfl rfl rfl rfl (rfl : _ = (AV.ms false 1 b24 0 n26)) ?_
    refine AOps.pureR rfl rfl rfl rfl rfl (rfl : _ = (AV.int .i64 i28)) ?_
    refine AOps.pureR rfl rfl rfl rfl rfl (rfl : _ = (AV.sl z2 f3 e4)) ?_
    refine AOps.pureR rfl rfl rfl rfl rfl (rfl : _ = (AV.int .i64 i28)) ?_
    obtain ⟨x32, h33, h⟩ := obind h
    obtain ⟨v36, h34, h35⟩ := idx_sl h5 h33
    cases h34
    refine AOps.pureR rfl rfl rfl h35 rfl (rfl : _ = (AV.eptr [(AV.str x32)] 0)) ?_
    refine AOps.ldE (v := (AV.str x32)) rfl rfl rfl rfl rfl rfl ?_
    obtain ⟨x37, h38, h⟩ := obind h
    refine AOps.pureR rfl rfl rfl (idx_ms h27 h38) rfl (rfl : _ = (AV.ptr b24 (0 + Int.toNat i28 * 1))) ?_
    refine AOps.stM (i := 0) (r := rS) (v := (AV.str x32)) (y := x32) hH30 rfl h25 h27 h38 rfl rfl rfl rfl rfl rfl (Sh.S x32 _ rfl) rfl rfl (lt_b rfl) rfl rfl ?_
    intro cs39 w40 s41 h42 hH43
    change HS s s41 [⟨some b24, cs39, w40⟩] at hH43
    refine AOps.nilR ?_
    refine AW.inBlock ?_
    refine AW.region ?_
    refine AOps.pureR rfl rfl rfl rfl rfl (rfl : _ = (AV.int .i64 i28)) ?_
    refine AOps.pureR rfl rfl rfl rfl rfl (rfl : _ = (AV.int .i64 (IntKind.wrap .i64 (i28 + 1)))) ?_
    refine AOps.assignR rfl rfl rfl (rfl : _ = (AV.int .i64 (IntKind.wrap .i64 (i28 + 1)))) rfl ?_
    refine AOps.nilR ?_
    cases h
    exact AW.res [(0, (AV.sl z2 f3 e4)), (3, (AV.ms false 1 b24 0 n26)), (4, (AV.int .i64 (IntKind.wrap .i64 (i28 + 1))))] [] ⟨rfl, rfl, rfl, trivial⟩ trivial (hL1 _ rfl (⟨some b24, cs39, w40⟩, b24, n26, s41) _ _ ⟨rfl, h42, (HS.sel hH43 [some 0] (by decide))⟩)
  refine AW.condF (congrArg AV.bool hc31) ?_
  refine AW.exit rfl ?_
  obtain ⟨r44, hm, hx⟩ := omap h
  clear h
  subst hx
  have hx := hR1 _ rfl
  rw [hx] at hm
  have h := hm
  exact AW.res [(3, (AV.ms false 1 b24 0 n26))] [] ⟨rfl, trivial⟩ trivial (KJ21 (out22, x23, b24, n26, s29) _ _ ⟨h25, h27, (HS.sel hH30 [some 0] (by decide)), h⟩)
theorem laws_toStream_ok {a1 : Stream} {z2 : Nat} {f3 : Bool} {e4 : List AV} {z6 : Nat} {f7 : Bool} {e8 : List AV} {z10 : Nat} {f11 : Bool} {e12 : List AV} {z14 : Nat} {f15 : Bool} {e16 : List AV} {z18 : Nat} {f19 : Bool} {e20 : List AV} {s : St} (h5 : LR rB 1 a1.Checker.Accept z2 e4) (h9 : LR (rL rPush 2) 1 a1.Checker.Call z6 e8) (h13 : LR (rL (rL (rI .i64) 1) 1) 1 a1.Checker.Return z10 e12) (h17 : LR (rL (rI .i64) 1) 1 a1.Checker.Inner z14 e16) (h21 : LR rS 1 a1.Pieces z18 e20) {r : Stream} (h : laws_toStream a1 = some r) (hs : WF s) : ACall Cf 18 [(AV.agg [(AV.int .i64 a1.Checker.Stack), (AV.int .i64 a1.Checker.Start), (AV.sl z2 f3 e4), (AV.sl z6 f7 e8), (AV.sl z10 f11 e12), (AV.sl z14 f15 e16), (AV.sl z18 f19 e20)])] s fun v _ s' => (rStream) r v ∧ s' = s := by
  refine ACall.boxes rfl rfl rfl ?_
  have hH0 := HS.init hs
  unfold laws_toStream at h
  refine AW.seq ?_
  refine AW.region ?_
  refine AOps.makeR rfl rfl rfl rfl rfl rfl (rfl : _ = (AV.eptr [(AV.int .i64 a1.Checker.Stack), (AV.int .i64 a1.Checker.Start), (AV.sl z2 f3 e4), (AV.sl z6 f7 e8), (AV.sl z10 f11 e12), (AV.sl z14 f15 e16), (AV.sl z18 f19 e20)] 0)) ?_
  refine AOps.allocP rfl rfl rfl rfl ⟨rfl, rfl⟩ rfl ?_
  refine AOps.nilR ?_
  refine AW.seq ?_
  refine AW.region ?_
  refine AOps.alloc1 hH0 rfl rfl rfl rfl rfl rfl ?_
  intro b22 s23 hH24
  change HS s s23 [⟨some b22, [(AV.int .i64 0), (AV.int .i64 0), (AV.sl 0 true []), (AV.sl 0 true []), (AV.sl 0 true []), (AV.sl 0 true []), (AV.sl 0 true [])], (fun _ => false)⟩] at hH24
  refine AOps.nilR ?_
  refine AW.seq ?_
  refine AW.region ?_
  refine AOps.pureR rfl rfl rfl rfl rfl (rfl : _ = (AV.eptr [(AV.int .i64 a1.Checker.Stack), (AV.int .i64 a1.Checker.Start), (AV.sl z2 f3 e4), (AV.sl z6 f7 e8), (AV.sl z10 f11 e12), (AV.sl z14 f15 e16), (AV.sl z18 f19 e20)] 0)) ?_
  refine AOps.ldE (v := (AV.agg [(AV.int .i64 a1.Checker.Stack), (AV.int .i64 a1.Checker.Start), (AV.sl z2 f3 e4), (AV.sl z6 f7 e8), (AV.sl z10 f11 e12), (AV.sl z14 f15 e16)])) rfl rfl rfl rfl rfl rfl ?_
  obtain ⟨y25, h26, h⟩ := obind h
  refine AOps.callP (g := 42) (args := [(AV.agg [(AV.int .i64 a1.Checker.Stack), (AV.int .i64 a1.Checker.Start), (AV.sl z2 f3 e4), (AV.sl z6 f7 e8), (AV.sl z10 f11 e12), (AV.sl z14 f15 e16)])]) (p := (rChecker) y25) rfl rfl rfl (laws_toChecker_ok h5 h9 h13 h17 h26 (HS.wf' hH24)) ?_
  intro _ o57 h27
  obtain ⟨_, rfl, h28⟩ := h27
  obtain ⟨_, _, rfl, h29, h30⟩ := Cs_cons h28
  cases h29
  obtain ⟨_, _, rfl, h31, h32⟩ := Cs_cons h30
  cases h31
  obtain ⟨_, _, rfl, h33, h34⟩ := Cs_cons h32
  obtain ⟨z35, f36, e37, rfl, h38⟩ := h33
  obtain ⟨_, _, rfl, h39, h40⟩ := Cs_cons h34
  obtain ⟨z41, f42, e43, rfl, h44⟩ := h39
  obtain ⟨_, _, rfl, h45, h46⟩ := Cs_cons h40
  obtain ⟨z47, f48, e49, rfl, h50⟩ := h45
  obtain ⟨_, _, rfl, h51, h52⟩ := Cs_cons h46
  obtain ⟨z53, f54, e55, rfl, h56⟩ := h51
  cases Cs_nil h52
  refine AOps.pureR rfl rfl rfl rfl rfl (rfl : _ = (AV.ptr b22 0)) ?_
  refine AOps.stB (i := 0) (v := (AV.agg [(AV.int .i64 y25.Stack), (AV.int .i64 y25.Start), (AV.sl z35 f36 e37), (AV.sl z41 f42 e43), (AV.sl z47 f48 e49), (AV.sl z53 f54 e55)])) hH24 rfl rfl rfl rfl rfl rfl rfl rfl rfl (lt_b rfl) (le_b rfl) rfl ?_
  intro w58 s59 h60 h61 hH62
  change HS s s59 [⟨some b22, [(AV.int .i64 y25.Stack), (AV.int .i64 y25.Start), (AV.sl z35 f36 e37), (AV.sl z41 f42 e43), (AV.sl z47 f48 e49), (AV.sl z53 f54 e55), (AV.sl 0 true [])], w58⟩] at hH62
  refine AOps.nilR ?_
  refine AW.seq ?_
  refine AW.region ?_
  refine AOps.pureR rfl rfl rfl rfl rfl (rfl : _ = (AV.eptr [(AV.int .i64 a1.Checker.Stack), (AV.int .i64 a1.Checker.Start), (AV.sl z2 f3 e4), (AV.sl z6 f7 e8), (AV.sl z10 f11 e12), (AV.sl z14 f15 e16), (AV.sl z18 f19 e20)] 6)) ?_
  refine AOps.ldE (v := (AV.sl z18 f19 e20)) rfl rfl rfl rfl rfl rfl ?_
  obtain ⟨y63, h64, h⟩ := obind h
  refine AOps.callP (g := 43) (args := [(AV.sl z18 f19 e20)]) (p := (rL rS 1) y63) rfl rfl rfl (laws_toStringS_ok h21 h64 (HS.wf' hH62)) ?_
  intro _ o70 h65
  obtain ⟨z66, f67, e68, rfl, h69⟩ := h65
  refine AOps.pureR rfl rfl rfl rfl rfl (rfl : _ = (AV.ptr b22 6)) ?_
  refine AOps.stB (i := 0) (v := (AV.sl z66 f67 e68)) hH62 rfl rfl rfl rfl rfl rfl rfl rfl rfl (lt_b rfl) (le_b rfl) rfl ?_
  intro w71 s72 h73 h74 hH75
  change HS s s72 [⟨some b22, [(AV.int .i64 y25.Stack), (AV.int .i64 y25.Start), (AV.sl z35 f36 e37), (AV.sl z41 f42 e43), (AV.sl z47 f48 e49), (AV.sl z53 f54 e55), (AV.sl z66 f67 e68)], w71⟩] at hH75
  refine AOps.nilR ?_
  refine AW.seq ?_
  refine AW.region ?_
  refine AOps.ldB (i := 0) (v := (AV.agg [(AV.int .i64 y25.Stack), (AV.int .i64 y25.Start), (AV.sl z35 f36 e37), (AV.sl z41 f42 e43), (AV.sl z47 f48 e49), (AV.sl z53 f54 e55), (AV.sl z66 f67 e68)])) hH75 rfl rfl rfl rfl rfl rfl rfl rfl rfl ?_
  refine AOps.stP (v := (AV.agg [(AV.int .i64 y25.Stack), (AV.int .i64 y25.Start), (AV.sl z35 f36 e37), (AV.sl z41 f42 e43), (AV.sl z47 f48 e49), (AV.sl z53 f54 e55), (AV.sl z66 f67 e68)])) rfl rfl rfl rfl rfl rfl rfl rfl rfl (lt_b rfl) rfl ?_
  refine AOps.nilR ?_
  cases h
  exact AW.ret ⟨⟨_, hH75⟩, _, _, rfl, (Fin.of (p := (rStream) (⟨y25, y63⟩ : Stream)) (.A (.cons .I (.cons .I (.cons (.L fun _ => .B) (.cons (.L fun _ => (.L fun _ => (.A (.cons .I (.cons .I .nil))))) (.cons (.L fun _ => (.L fun _ => (.L fun _ => .I))) (.cons (.L fun _ => (.L fun _ => .I)) (.cons (.L fun _ => .S) .nil)))))))) (⟨_, rfl, (.cons rfl (.cons rfl (.cons ⟨_, _, _, rfl, h38⟩ (.cons ⟨_, _, _, rfl, h44⟩ (.cons ⟨_, _, _, rfl, h50⟩ (.cons ⟨_, _, _, rfl, h56⟩ (.cons ⟨_, _, _, rfl, h69⟩ .nil)))))))⟩)).2⟩
theorem spec_l00In_ok {n1 : Int} {low2 : Int} {high3 : Int} {s : St} {r : Bool} (h : spec_l00In n1 low2 high3 = some r) (hs : WF s) : ACall Cf 52 [(AV.int .i64 n1), (AV.int .i64 low2), (AV.int .i64 high3)] s fun v _ s' => (rB) r v ∧ s' = s := by
  refine ACall.pure rfl rfl rfl .B ?_
  have hWF := hs.lo'
  unfold spec_l00In at h
  refine AW.seq ?_
  refine AW.region ?_
  refine AOps.pureR rfl rfl rfl rfl rfl (rfl : _ = (AV.bool false)) ?_
  refine AOps.nilR ?_
  refine AW.seq ?_
  refine AW.region ?_
  refine AOps.pureR rfl rfl rfl rfl rfl (rfl : _ = (AV.int .i64 n1)) ?_
  refine AOps.pureR rfl rfl rfl rfl rfl (rfl : _ = (AV.int .i64 low2)) ?_
  refine AOps.pureR rfl rfl rfl rfl rfl (rfl : _ = (AV.bool (decide ((n1 : Int) ≥ low2)))) ?_
  refine AOps.pureR rfl rfl rfl rfl rfl (rfl : _ = (AV.bool (decide ((n1 : Int) ≥ low2)))) ?_
  refine AOps.split 4 (fun f' => ∃ tm' os', f' = ⟨updL tm' [(14, (AV.bool ((decide ((n1 : Int) ≥ low2)) && (decide ((n1 : Int) ≤ high3)))))], updL os' [], { s with lo := s.n }⟩) ?_ ?_
  · rcases Bool.eq_false_or_eq_true (decide ((n1 : Int) ≥ low2)) with hc4 | hc4
    · refine AOps.know (d := 10) rfl hc4 ?_
      refine AOps.pureR rfl rfl rfl rfl rfl (rfl : _ = (AV.int .i64 n1)) ?_
      refine AOps.pureR rfl rfl rfl rfl rfl (rfl : _ = (AV.int .i64 high3)) ?_
      refine AOps.pureR rfl rfl rfl rfl rfl (rfl : _ = (AV.bool (decide ((n1 : Int) ≤ high3)))) ?_
      refine AOps.pureR rfl rfl rfl rfl rfl (rfl : _ = (AV.bool (decide ((n1 : Int) ≤ high3)))) ?_
      refine AOps.resR [(14, (AV.bool ((decide ((n1 : Int) ≥ low2)) && (decide ((n1 : Int) ≤ high3)))))] [] ?_ ?_ _ ⟨_, _, rfl⟩
      · exact ⟨congrArg AV.bool (and_t hc4), trivial⟩
      exact trivial
    · refine AOps.know (d := 10) rfl hc4 ?_
      refine AOps.skipR rfl rfl ?_
      refine AOps.skipR rfl rfl ?_
      refine AOps.skipR rfl rfl ?_
      refine AOps.pureR rfl rfl rfl rfl rfl (rfl : _ = (AV.bool false)) ?_
      refine AOps.resR [(14, (AV.bool ((decide ((n1 : Int) ≥ low2)) && (decide ((n1 : Int) ≤ high3)))))] [] ?_ ?_ _ ⟨_, _, rfl⟩
      · exact ⟨congrArg AV.bool (and_f hc4), trivial⟩
      exact trivial
  rintro _ ⟨tm, os, rfl⟩
  refine AOps.assignR rfl rfl rfl (rfl : _ = (AV.bool ((decide ((n1 : Int) ≥ low2)) && (decide ((n1 : Int) ≤ high3))))) rfl ?_
  refine AOps.nilR ?_
  cases h
  exact AW.ret ⟨rfl, _, _, rfl, rfl⟩
theorem spec_l02List_ok {list1 : List Int} {length6 : Int} {n7 : Int} {z2 : Nat} {f3 : Bool} {e4 : List AV} {s : St} (h5 : LR (rI .i64) 1 list1 z2 e4) {r : Bool} (h : spec_l02List list1 length6 n7 = some r) (hs : WF s) : ACall Cf 125 [(AV.sl z2 f3 e4), (AV.int .i64 length6), (AV.int .i64 n7)] s fun v _ s' => (rB) r v ∧ s' = s := by
  refine ACall.pure rfl rfl rfl .B ?_
  have hWF := hs.lo'
  unfold spec_l02List at h
  refine AW.seq ?_
  refine AW.region ?_
  refine AOps.pureR rfl rfl rfl rfl rfl (rfl : _ = (AV.bool false)) ?_
  refine AOps.nilR ?_
  refine AW.seq ?_
  refine AW.seq ?_
  refine AW.region ?_
  refine AOps.pureR rfl rfl rfl rfl rfl (rfl : _ = (AV.sl z2 f3 e4)) ?_
  refine AOps.pureR rfl rfl rfl rfl rfl (len_eq h5) ?_
  refine AOps.pureR rfl rfl rfl rfl rfl (rfl : _ = (AV.int .i64 length6)) ?_
  refine AOps.pureR rfl rfl rfl rfl rfl (rfl : _ = (AV.bool ((list1.length : Int) != length6))) ?_
  refine AOps.nilR ?_
  rcases oite h with ⟨hc8, h⟩ | ⟨hc8, h⟩
  · refine AW.condT (congrArg AV.bool hc8) ?_
    refine AW.seq ?_
    refine AW.region ?_
    refine AOps.pureR rfl rfl rfl rfl rfl (rfl : _ = (AV.bool false)) ?_
    refine AOps.nilR ?_
    cases h
    exact AW.ret ⟨rfl, _, _, rfl, rfl⟩
  refine AW.condF (congrArg AV.bool hc8) ?_
  refine AW.skip ?_
  refine AW.seq ?_
  refine AW.seq ?_
  refine AW.region ?_
  refine AOps.pureR rfl rfl rfl rfl rfl (rfl : _ = (AV.int .i64 0)) ?_
  refine AOps.nilR ?_
  refine AW.meet (σ := Unit) (fun _ tm os => ⟨updL tm [], updL os [], { s with lo := s.n }⟩) (fun _ => spec_l02List_J1 = some r) ?_ ?_
  · rintro _ tm os h
    unfold spec_l02List_J1 at h
    refine AW.seq ?_
    refine AW.region ?_
    refine AOps.pureR rfl rfl rfl rfl rfl (rfl : _ = (AV.bool true)) ?_
    refine AOps.nilR ?_
    cases h
    exact AW.ret ⟨rfl, _, _, rfl, rfl⟩
  intro KJ9
  refine AW.block ?_
  refine AW.res [(0, (AV.sl z2 f3 e4)), (2, (AV.int .i64 n7)), (7, (AV.int .i64 0))] [] ⟨rfl, rfl, rfl, trivial⟩ trivial ?_
  refine AW.loopF (σ := Int) (τ := Unit) (fun i10 _ => True) (fun i10 _ tm os => ⟨updL tm [(0, (AV.sl z2 f3 e4)), (2, (AV.int .i64 n7)), (7, (AV.int .i64 i10))], updL os [], { s with lo := s.n }⟩) ?_ (x := (0)) (y := ()) h trivial
  clear h
  rintro i10 _ tm os - e1 h hL1 hR1
  unfold spec_l02List_S1 at h
  refine AW.seq ?_
  refine AW.seq ?_
  refine AW.region ?_
  refine AOps.pureR rfl rfl rfl rfl rfl (rfl : _ = (AV.int .i64 i10)) ?_
  refine AOps.pureR rfl rfl rfl rfl rfl (rfl : _ = (AV.sl z2 f3 e4)) ?_
  refine AOps.pureR rfl rfl rfl rfl rfl (len_eq h5) ?_
  refine AOps.pureR rfl rfl rfl rfl rfl (rfl : _ = (AV.bool (decide ((i10 : Int) < (list1.length : Int))))) ?_
  refine AOps.nilR ?_
  rcases oite h with ⟨hc11, h⟩ | ⟨hc11, h⟩
  · refine AW.condT (congrArg AV.bool hc11) ?_
    refine AW.skip ?_
    refine AW.seq ?_
    refine AW.block ?_
    refine AW.seq ?_
    refine AW.region ?_
    refine AOps.pureR rfl rfl rfl rfl rfl (rfl : _ = (AV.sl z2 f3 e4)) ?_
    refine AOps.pureR rfl rfl rfl rfl rfl (rfl : _ = (AV.int .i64 i10)) ?_
    obtain ⟨x12, h13, h⟩ := obind h
    obtain ⟨v16, h14, h15⟩ := idx_sl h5 h13
    cases h14
    refine AOps.pureR rfl rfl rfl h15 rfl (rfl : _ = (AV.eptr [(AV.int .i64 x12)] 0)) ?_
    refine AOps.ldE (v := (AV.int .i64 x12)) rfl rfl rfl rfl rfl rfl ?_
    refine AOps.pureR rfl rfl rfl rfl rfl (rfl : _ = (AV.int .i64 n7)) ?_
    refine AOps.pureR rfl rfl rfl rfl rfl (rfl : _ = (AV.int .i64 (IntKind.wrap .i64 (n7 - 1)))) ?_
    obtain ⟨y17, h18, h⟩ := obind h
    refine AOps.callP (g := 52) (args := [(AV.int .i64 x12), (AV.int .i64 0), (AV.int .i64 (IntKind.wrap .i64 (n7 - 1)))]) (p := (rB) y17) rfl rfl rfl (spec_l00In_ok  h18 hWF) ?_
    intro _ o20 h19
    cases h19
    refine AOps.pureR rfl rfl rfl rfl rfl (rfl : _ = (AV.bool (!y17))) ?_
    refine AOps.nilR ?_
    rcases oite h with ⟨hc21, h⟩ | ⟨hc21, h⟩
    · refine AW.condT (congrArg AV.bool hc21) ?_
      refine AW.seq ?_
      refine AW.region ?_
      refine AOps.pureR rfl rfl rfl rfl rfl (rfl : _ = (AV.bool false)) ?_
      refine AOps.nilR ?_
      cases h
      have hr := hR1 _ rfl
      subst hr
      exact AW.ret ⟨rfl, _, _, rfl, rfl⟩
    refine AW.condF (congrArg AV.bool hc21) ?_
    refine AW.skip ?_
    refine AW.inBlock ?_
    refine AW.region ?_
    refine AOps.pureR rfl rfl rfl rfl rfl (rfl : _ = (AV.int .i64 i10)) ?_
    refine AOps.pureR rfl rfl rfl rfl rfl (rfl : _ = (AV.int .i64 (IntKind.wrap .i64 (i10 + 1)))) ?_
    refine AOps.assignR rfl rfl rfl (rfl : _ = (AV.int .i64 (IntKind.wrap .i64 (i10 + 1)))) rfl ?_
    refine AOps.nilR ?_
    cases h
    exact AW.res [(0, (AV.sl z2 f3 e4)), (2, (AV.int .i64 n7)), (7, (AV.int .i64 (IntKind.wrap .i64 (i10 + 1))))] [] ⟨rfl, rfl, rfl, trivial⟩ trivial (hL1 _ rfl () _ _ trivial)
  refine AW.condF (congrArg AV.bool hc11) ?_
  refine AW.exit rfl ?_
  obtain ⟨r22, hm, hx⟩ := omap h
  clear h
  subst hx
  have hx := hR1 _ rfl
  rw [hx] at hm
  have h := hm
  exact AW.res [] [] trivial trivial (KJ9 () _ _ h)
theorem spec_l02Ok_w0_7_ok {p1 : Checker} {z2 : Nat} {f3 : Bool} {e4 : List AV} {z6 : Nat} {f7 : Bool} {e8 : List AV} {z10 : Nat} {f11 : Bool} {e12 : List AV} {z14 : Nat} {f15 : Bool} {e16 : List AV} {j18 : AV} {s : St} (h5 : LR rB 1 p1.Accept z2 e4) (h9 : LR (rL rPush 2) 1 p1.Call z6 e8) (h13 : LR (rL (rL (rI .i64) 1) 1) 1 p1.Return z10 e12) (h17 : LR (rL (rI .i64) 1) 1 p1.Inner z14 e16) {r : Bool} (h : spec_l02Ok_w0_7 p1 = some r) (hs : WF s) : ACall Cf 81 [(AV.eptr [(AV.int .i64 p1.Stack), (AV.int .i64 p1.Start), (AV.sl z2 f3 e4), (AV.sl z6 f7 e8), (AV.sl z10 f11 e12), (AV.sl z14 f15 e16), j18] 0)] s fun v _ s' => (rB) r v ∧ s' = s := by
  refine ACall.pure rfl rfl rfl .B ?_
  have hWF := hs.lo'
  unfold spec_l02Ok_w0_7 at h
  refine AW.seq ?_
  refine AW.region ?_
  refine AOps.pureR rfl rfl rfl rfl rfl (rfl : _ = (AV.bool false)) ?_
  refine AOps.nilR ?_
  refine AW.seq ?_
  refine AW.region ?_
  refine AOps.pureR rfl rfl rfl rfl rfl (rfl : _ = (AV.eptr [(AV.int .i64 p1.Stack), (AV.int .i64 p1.Start), (AV.sl z2 f3 e4), (AV.sl z6 f7 e8), (AV.sl z10 f11 e12), (AV.sl z14 f15 e16), j18] 0)) ?_
  refine AOps.pureR rfl rfl rfl rfl rfl (rfl : _ = (AV.eptr [(AV.int .i64 p1.Stack), (AV.int .i64 p1.Start), (AV.sl z2 f3 e4), (AV.sl z6 f7 e8), (AV.sl z10 f11 e12), (AV.sl z14 f15 e16), j18] 0)) ?_
  refine AOps.pureR rfl rfl rfl rfl rfl (rfl : _ = (AV.eptr [(AV.int .i64 p1.Stack), (AV.int .i64 p1.Start), (AV.sl z2 f3 e4), (AV.sl z6 f7 e8), (AV.sl z10 f11 e12), (AV.sl z14 f15 e16), j18] 2)) ?_
  refine AOps.ldE (v := (AV.sl z2 f3 e4)) rfl rfl rfl rfl rfl rfl ?_
  refine AOps.pureR rfl rfl rfl rfl rfl (len_eq h5) ?_
  refine AOps.assignR rfl rfl rfl (rfl : _ = (AV.int .i64 (p1.Accept.length : Int))) rfl ?_
  refine AOps.nilR ?_
  refine AW.seq ?_
  refine AW.seq ?_
  refine AW.region ?_
  refine AOps.pureR rfl rfl rfl rfl rfl (rfl : _ = (AV.int .i64 (p1.Accept.length : Int))) ?_
  obtain ⟨y19, h20, h⟩ := obind h
  refine AOps.callP (g := 52) (args := [(AV.int .i64 (p1.Accept.length : Int)), (AV.int .i64 1), (AV.int .i64 40)]) (p := (rB) y19) rfl rfl rfl (spec_l00In_ok  h20 hWF) ?_
  intro _ o22 h21
  cases h21
  refine AOps.pureR rfl rfl rfl rfl rfl (rfl : _ = (AV.bool (!y19))) ?_
  refine AOps.pureR rfl rfl rfl rfl rfl (rfl : _ = (AV.bool (!y19))) ?_
  obtain ⟨b24, hb, h⟩ := obind h
  refine AOps.split 7 (fun f' => ∃ tm' os', f' = ⟨updL tm' [(0, (AV.eptr [(AV.int .i64 p1.Stack), (AV.int .i64 p1.Start), (AV.sl z2 f3 e4), (AV.sl z6 f7 e8), (AV.sl z10 f11 e12), (AV.sl z14 f15 e16), j18] 0)), (3, (AV.int .i64 (p1.Accept.length : Int))), (21, (AV.bool b24))], updL os' [], { s with lo := s.n }⟩) ?_ ?_
  · rcases oite hb with ⟨hc23, hb⟩ | ⟨hc23, hb⟩
    · refine AOps.know (d := 14) rfl hc23 ?_
      refine AOps.skipR rfl rfl ?_
      refine AOps.skipR rfl rfl ?_
      refine AOps.skipR rfl rfl ?_
      refine AOps.skipR rfl rfl ?_
      refine AOps.skipR rfl rfl ?_
      refine AOps.skipR rfl rfl ?_
      refine AOps.pureR rfl rfl rfl rfl rfl (rfl : _ = (AV.bool true)) ?_
      refine AOps.resR [(0, (AV.eptr [(AV.int .i64 p1.Stack), (AV.int .i64 p1.Start), (AV.sl z2 f3 e4), (AV.sl z6 f7 e8), (AV.sl z10 f11 e12), (AV.sl z14 f15 e16), j18] 0)), (3, (AV.int .i64 (p1.Accept.length : Int))), (21, (AV.bool b24))] [] ?_ ?_ _ ⟨_, _, rfl⟩
      · exact ⟨rfl, rfl, congrArg AV.bool (Option.some.inj hb), trivial⟩
      exact trivial
    · have h := hb
      refine AOps.know (d := 14) rfl hc23 ?_
      refine AOps.pureR rfl rfl rfl rfl rfl (rfl : _ = (AV.eptr [(AV.int .i64 p1.Stack), (AV.int .i64 p1.Start), (AV.sl z2 f3 e4), (AV.sl z6 f7 e8), (AV.sl z10 f11 e12), (AV.sl z14 f15 e16), j18] 0)) ?_
      refine AOps.pureR rfl rfl rfl rfl rfl (rfl : _ = (AV.eptr [(AV.int .i64 p1.Stack), (AV.int .i64 p1.Start), (AV.sl z2 f3 e4), (AV.sl z6 f7 e8), (AV.sl z10 f11 e12), (AV.sl z14 f15 e16), j18] 0)) ?_
      refine AOps.pureR rfl rfl rfl rfl rfl (rfl : _ = (AV.eptr [(AV.int .i64 p1.Stack), (AV.int .i64 p1.Start), (AV.sl z2 f3 e4), (AV.sl z6 f7 e8), (AV.sl z10 f11 e12), (AV.sl z14 f15 e16), j18] 0)) ?_
      refine AOps.ldE (v := (AV.int .i64 p1.Stack)) rfl rfl rfl rfl rfl rfl ?_
      obtain ⟨y25, h26, h⟩ := obind h
      refine AOps.callP (g := 52) (args := [(AV.int .i64 p1.Stack), (AV.int .i64 1), (AV.int .i64 80)]) (p := (rB) y25) rfl rfl rfl (spec_l00In_ok  h26 hWF) ?_
      intro _ o28 h27
      cases h27
      refine AOps.pureR rfl rfl rfl rfl rfl (rfl : _ = (AV.bool (!y25))) ?_
      refine AOps.pureR rfl rfl rfl rfl rfl (rfl : _ = (AV.bool (!y25))) ?_
      refine AOps.resR [(0, (AV.eptr [(AV.int .i64 p1.Stack), (AV.int .i64 p1.Start), (AV.sl z2 f3 e4), (AV.sl z6 f7 e8), (AV.sl z10 f11 e12), (AV.sl z14 f15 e16), j18] 0)), (3, (AV.int .i64 (p1.Accept.length : Int))), (21, (AV.bool b24))] [] ?_ ?_ _ ⟨_, _, rfl⟩
      · exact ⟨rfl, rfl, congrArg AV.bool (Option.some.inj h), trivial⟩
      exact trivial
  rintro _ ⟨tm, os, rfl⟩
  refine AOps.pureR rfl rfl rfl rfl rfl (rfl : _ = (AV.bool b24)) ?_
  obtain ⟨b30, hb, h⟩ := obind h
  refine AOps.split 9 (fun f' => ∃ tm' os', f' = ⟨updL tm' [(0, (AV.eptr [(AV.int .i64 p1.Stack), (AV.int .i64 p1.Start), (AV.sl z2 f3 e4), (AV.sl z6 f7 e8), (AV.sl z10 f11 e12), (AV.sl z14 f15 e16), j18] 0)), (3, (AV.int .i64 (p1.Accept.length : Int))), (31, (AV.bool b30))], updL os' [], { s with lo := s.n }⟩) ?_ ?_
  · rcases oite hb with ⟨hc29, hb⟩ | ⟨hc29, hb⟩
    · refine AOps.know (d := 22) rfl hc29 ?_
      refine AOps.skipR rfl rfl ?_
      refine AOps.skipR rfl rfl ?_
      refine AOps.skipR rfl rfl ?_
      refine AOps.skipR rfl rfl ?_
      refine AOps.skipR rfl rfl ?_
      refine AOps.skipR rfl rfl ?_
      refine AOps.skipR rfl rfl ?_
      refine AOps.skipR rfl rfl ?_
      refine AOps.pureR rfl rfl rfl rfl rfl (rfl : _ = (AV.bool true)) ?_
      refine AOps.resR [(0, (AV.eptr [(AV.int .i64 p1.Stack), (AV.int .i64 p1.Start), (AV.sl z2 f3 e4), (AV.sl z6 f7 e8), (AV.sl z10 f11 e12), (AV.sl z14 f15 e16), j18] 0)), (3, (AV.int .i64 (p1.Accept.length : Int))), (31, (AV.bool b30))] [] ?_ ?_ _ ⟨_, _, rfl⟩
      · exact ⟨rfl, rfl, congrArg AV.bool (Option.some.inj hb), trivial⟩
      exact trivial
    · have h := hb
      refine AOps.know (d := 22) rfl hc29 ?_
      refine AOps.pureR rfl rfl rfl rfl rfl (rfl : _ = (AV.eptr [(AV.int .i64 p1.Stack), (AV.int .i64 p1.Start), (AV.sl z2 f3 e4), (AV.sl z6 f7 e8), (AV.sl z10 f11 e12), (AV.sl z14 f15 e16), j18] 0)) ?_
      refine AOps.pureR rfl rfl rfl rfl rfl (rfl : _ = (AV.eptr [(AV.int .i64 p1.Stack), (AV.int .i64 p1.Start), (AV.sl z2 f3 e4), (AV.sl z6 f7 e8), (AV.sl z10 f11 e12), (AV.sl z14 f15 e16), j18] 0)) ?_
      refine AOps.pureR rfl rfl rfl rfl rfl (rfl : _ = (AV.eptr [(AV.int .i64 p1.Stack), (AV.int .i64 p1.Start), (AV.sl z2 f3 e4), (AV.sl z6 f7 e8), (AV.sl z10 f11 e12), (AV.sl z14 f15 e16), j18] 1)) ?_
      refine AOps.ldE (v := (AV.int .i64 p1.Start)) rfl rfl rfl rfl rfl rfl ?_
      refine AOps.pureR rfl rfl rfl rfl rfl (rfl : _ = (AV.int .i64 (p1.Accept.length : Int))) ?_
      refine AOps.pureR rfl rfl rfl rfl rfl (rfl : _ = (AV.int .i64 (IntKind.wrap .i64 ((p1.Accept.length : Int) - 1)))) ?_
      obtain ⟨y31, h32, h⟩ := obind h
      refine AOps.callP (g := 52) (args := [(AV.int .i64 p1.Start), (AV.int .i64 0), (AV.int .i64 (IntKind.wrap .i64 ((p1.Accept.length : Int) - 1)))]) (p := (rB) y31) rfl rfl rfl (spec_l00In_ok  h32 hWF) ?_
      intro _ o34 h33
      cases h33
      refine AOps.pureR rfl rfl rfl rfl rfl (rfl : _ = (AV.bool (!y31))) ?_
      refine AOps.pureR rfl rfl rfl rfl rfl (rfl : _ = (AV.bool (!y31))) ?_
      refine AOps.resR [(0, (AV.eptr [(AV.int .i64 p1.Stack), (AV.int .i64 p1.Start), (AV.sl z2 f3 e4), (AV.sl z6 f7 e8), (AV.sl z10 f11 e12), (AV.sl z14 f15 e16), j18] 0)), (3, (AV.int .i64 (p1.Accept.length : Int))), (31, (AV.bool b30))] [] ?_ ?_ _ ⟨_, _, rfl⟩
      · exact ⟨rfl, rfl, congrArg AV.bool (Option.some.inj h), trivial⟩
      exact trivial
  rintro _ ⟨tm, os, rfl⟩
  refine AOps.pureR rfl rfl rfl rfl rfl (rfl : _ = (AV.bool b30)) ?_
  refine AOps.split 8 (fun f' => ∃ tm' os', f' = ⟨updL tm' [(0, (AV.eptr [(AV.int .i64 p1.Stack), (AV.int .i64 p1.Start), (AV.sl z2 f3 e4), (AV.sl z6 f7 e8), (AV.sl z10 f11 e12), (AV.sl z14 f15 e16), j18] 0)), (3, (AV.int .i64 (p1.Accept.length : Int))), (40, (AV.bool (b30 || ((p1.Call.length : Int) != (p1.Accept.length : Int)))))], updL os' [], { s with lo := s.n }⟩) ?_ ?_
  · rcases Bool.eq_false_or_eq_true b30 with hc35 | hc35
    · refine AOps.know (d := 32) rfl hc35 ?_
      refine AOps.skipR rfl rfl ?_
      refine AOps.skipR rfl rfl ?_
      refine AOps.skipR rfl rfl ?_
      refine AOps.skipR rfl rfl ?_
      refine AOps.skipR rfl rfl ?_
      refine AOps.skipR rfl rfl ?_
      refine AOps.skipR rfl rfl ?_
      refine AOps.pureR rfl rfl rfl rfl rfl (rfl : _ = (AV.bool true)) ?_
      refine AOps.resR [(0, (AV.eptr [(AV.int .i64 p1.Stack), (AV.int .i64 p1.Start), (AV.sl z2 f3 e4), (AV.sl z6 f7 e8), (AV.sl z10 f11 e12), (AV.sl z14 f15 e16), j18] 0)), (3, (AV.int .i64 (p1.Accept.length : Int))), (40, (AV.bool (b30 || ((p1.Call.length : Int) != (p1.Accept.length : Int)))))] [] ?_ ?_ _ ⟨_, _, rfl⟩
      · exact ⟨rfl, rfl, congrArg AV.bool (or_t hc35), trivial⟩
      exact trivial
    · refine AOps.know (d := 32) rfl hc35 ?_
      refine AOps.pureR rfl rfl rfl rfl rfl (rfl : _ = (AV.eptr [(AV.int .i64 p1.Stack), (AV.int .i64 p1.Start), (AV.sl z2 f3 e4), (AV.sl z6 f7 e8), (AV.sl z10 f11 e12), (AV.sl z14 f15 e16), j18] 0)) ?_
      refine AOps.pureR rfl rfl rfl rfl rfl (rfl : _ = (AV.eptr [(AV.int .i64 p1.Stack), (AV.int .i64 p1.Start), (AV.sl z2 f3 e4), (AV.sl z6 f7 e8), (AV.sl z10 f11 e12), (AV.sl z14 f15 e16), j18] 0)) ?_
      refine AOps.pureR rfl rfl rfl rfl rfl (rfl : _ = (AV.eptr [(AV.int .i64 p1.Stack), (AV.int .i64 p1.Start), (AV.sl z2 f3 e4), (AV.sl z6 f7 e8), (AV.sl z10 f11 e12), (AV.sl z14 f15 e16), j18] 3)) ?_
      refine AOps.ldE (v := (AV.sl z6 f7 e8)) rfl rfl rfl rfl rfl rfl ?_
      refine AOps.pureR rfl rfl rfl rfl rfl (len_eq h9) ?_
      refine AOps.pureR rfl rfl rfl rfl rfl (rfl : _ = (AV.int .i64 (p1.Accept.length : Int))) ?_
      refine AOps.pureR rfl rfl rfl rfl rfl (rfl : _ = (AV.bool ((p1.Call.length : Int) != (p1.Accept.length : Int)))) ?_
      refine AOps.pureR rfl rfl rfl rfl rfl (rfl : _ = (AV.bool ((p1.Call.length : Int) != (p1.Accept.length : Int)))) ?_
      refine AOps.resR [(0, (AV.eptr [(AV.int .i64 p1.Stack), (AV.int .i64 p1.Start), (AV.sl z2 f3 e4), (AV.sl z6 f7 e8), (AV.sl z10 f11 e12), (AV.sl z14 f15 e16), j18] 0)), (3, (AV.int .i64 (p1.Accept.length : Int))), (40, (AV.bool (b30 || ((p1.Call.length : Int) != (p1.Accept.length : Int)))))] [] ?_ ?_ _ ⟨_, _, rfl⟩
      · exact ⟨rfl, rfl, congrArg AV.bool (or_f hc35), trivial⟩
      exact trivial
  rintro _ ⟨tm, os, rfl⟩
  refine AOps.pureR rfl rfl rfl rfl rfl (rfl : _ = (AV.bool (b30 || ((p1.Call.length : Int) != (p1.Accept.length : Int))))) ?_
  refine AOps.split 8 (fun f' => ∃ tm' os', f' = ⟨updL tm' [(0, (AV.eptr [(AV.int .i64 p1.Stack), (AV.int .i64 p1.Start), (AV.sl z2 f3 e4), (AV.sl z6 f7 e8), (AV.sl z10 f11 e12), (AV.sl z14 f15 e16), j18] 0)), (3, (AV.int .i64 (p1.Accept.length : Int))), (49, (AV.bool ((b30 || ((p1.Call.length : Int) != (p1.Accept.length : Int))) || ((p1.Return.length : Int) != (p1.Accept.length : Int)))))], updL os' [], { s with lo := s.n }⟩) ?_ ?_
  · rcases Bool.eq_false_or_eq_true (b30 || ((p1.Call.length : Int) != (p1.Accept.length : Int))) with hc36 | hc36
    · refine AOps.know (d := 41) rfl hc36 ?_
      refine AOps.skipR rfl rfl ?_
      refine AOps.skipR rfl rfl ?_
      refine AOps.skipR rfl rfl ?_
      refine AOps.skipR rfl rfl ?_
      refine AOps.skipR rfl rfl ?_
      refine AOps.skipR rfl rfl ?_
      refine AOps.skipR rfl rfl ?_
      refine AOps.pureR rfl rfl rfl rfl rfl (rfl : _ = (AV.bool true)) ?_
      refine AOps.resR [(0, (AV.eptr [(AV.int .i64 p1.Stack), (AV.int .i64 p1.Start), (AV.sl z2 f3 e4), (AV.sl z6 f7 e8), (AV.sl z10 f11 e12), (AV.sl z14 f15 e16), j18] 0)), (3, (AV.int .i64 (p1.Accept.length : Int))), (49, (AV.bool ((b30 || ((p1.Call.length : Int) != (p1.Accept.length : Int))) || ((p1.Return.length : Int) != (p1.Accept.length : Int)))))] [] ?_ ?_ _ ⟨_, _, rfl⟩
      · exact ⟨rfl, rfl, congrArg AV.bool (or_t hc36), trivial⟩
      exact trivial
    · refine AOps.know (d := 41) rfl hc36 ?_
      refine AOps.pureR rfl rfl rfl rfl rfl (rfl : _ = (AV.eptr [(AV.int .i64 p1.Stack), (AV.int .i64 p1.Start), (AV.sl z2 f3 e4), (AV.sl z6 f7 e8), (AV.sl z10 f11 e12), (AV.sl z14 f15 e16), j18] 0)) ?_
      refine AOps.pureR rfl rfl rfl rfl rfl (rfl : _ = (AV.eptr [(AV.int .i64 p1.Stack), (AV.int .i64 p1.Start), (AV.sl z2 f3 e4), (AV.sl z6 f7 e8), (AV.sl z10 f11 e12), (AV.sl z14 f15 e16), j18] 0)) ?_
      refine AOps.pureR rfl rfl rfl rfl rfl (rfl : _ = (AV.eptr [(AV.int .i64 p1.Stack), (AV.int .i64 p1.Start), (AV.sl z2 f3 e4), (AV.sl z6 f7 e8), (AV.sl z10 f11 e12), (AV.sl z14 f15 e16), j18] 4)) ?_
      refine AOps.ldE (v := (AV.sl z10 f11 e12)) rfl rfl rfl rfl rfl rfl ?_
      refine AOps.pureR rfl rfl rfl rfl rfl (len_eq h13) ?_
      refine AOps.pureR rfl rfl rfl rfl rfl (rfl : _ = (AV.int .i64 (p1.Accept.length : Int))) ?_
      refine AOps.pureR rfl rfl rfl rfl rfl (rfl : _ = (AV.bool ((p1.Return.length : Int) != (p1.Accept.length : Int)))) ?_
      refine AOps.pureR rfl rfl rfl rfl rfl (rfl : _ = (AV.bool ((p1.Return.length : Int) != (p1.Accept.length : Int)))) ?_
      refine AOps.resR [(0, (AV.eptr [(AV.int .i64 p1.Stack), (AV.int .i64 p1.Start), (AV.sl z2 f3 e4), (AV.sl z6 f7 e8), (AV.sl z10 f11 e12), (AV.sl z14 f15 e16), j18] 0)), (3, (AV.int .i64 (p1.Accept.length : Int))), (49, (AV.bool ((b30 || ((p1.Call.length : Int) != (p1.Accept.length : Int))) || ((p1.Return.length : Int) != (p1.Accept.length : Int)))))] [] ?_ ?_ _ ⟨_, _, rfl⟩
      · exact ⟨rfl, rfl, congrArg AV.bool (or_f hc36), trivial⟩
      exact trivial
  rintro _ ⟨tm, os, rfl⟩
  refine AOps.pureR rfl rfl rfl rfl rfl (rfl : _ = (AV.bool ((b30 || ((p1.Call.length : Int) != (p1.Accept.length : Int))) || ((p1.Return.length : Int) != (p1.Accept.length : Int))))) ?_
  refine AOps.split 8 (fun f' => ∃ tm' os', f' = ⟨updL tm' [(0, (AV.eptr [(AV.int .i64 p1.Stack), (AV.int .i64 p1.Start), (AV.sl z2 f3 e4), (AV.sl z6 f7 e8), (AV.sl z10 f11 e12), (AV.sl z14 f15 e16), j18] 0)), (3, (AV.int .i64 (p1.Accept.length : Int))), (58, (AV.bool (((b30 || ((p1.Call.length : Int) != (p1.Accept.length : Int))) || ((p1.Return.length : Int) != (p1.Accept.length : Int))) || ((p1.Inner.length : Int) != (p1.Accept.length : Int)))))], updL os' [], { s with lo := s.n }⟩) ?_ ?_
  · rcases Bool.eq_false_or_eq_true ((b30 || ((p1.Call.length : Int) != (p1.Accept.length : Int))) || ((p1.Return.length : Int) != (p1.Accept.length : Int))) with hc37 | hc37
    · refine AOps.know (d := 50) rfl hc37 ?_
      refine AOps.skipR rfl rfl ?_
      refine AOps.skipR rfl rfl ?_
      refine AOps.skipR rfl rfl ?_
      refine AOps.skipR rfl rfl ?_
      refine AOps.skipR rfl rfl ?_
      refine AOps.skipR rfl rfl ?_
      refine AOps.skipR rfl rfl ?_
      refine AOps.pureR rfl rfl rfl rfl rfl (rfl : _ = (AV.bool true)) ?_
      refine AOps.resR [(0, (AV.eptr [(AV.int .i64 p1.Stack), (AV.int .i64 p1.Start), (AV.sl z2 f3 e4), (AV.sl z6 f7 e8), (AV.sl z10 f11 e12), (AV.sl z14 f15 e16), j18] 0)), (3, (AV.int .i64 (p1.Accept.length : Int))), (58, (AV.bool (((b30 || ((p1.Call.length : Int) != (p1.Accept.length : Int))) || ((p1.Return.length : Int) != (p1.Accept.length : Int))) || ((p1.Inner.length : Int) != (p1.Accept.length : Int)))))] [] ?_ ?_ _ ⟨_, _, rfl⟩
      · exact ⟨rfl, rfl, congrArg AV.bool (or_t hc37), trivial⟩
      exact trivial
    · refine AOps.know (d := 50) rfl hc37 ?_
      refine AOps.pureR rfl rfl rfl rfl rfl (rfl : _ = (AV.eptr [(AV.int .i64 p1.Stack), (AV.int .i64 p1.Start), (AV.sl z2 f3 e4), (AV.sl z6 f7 e8), (AV.sl z10 f11 e12), (AV.sl z14 f15 e16), j18] 0)) ?_
      refine AOps.pureR rfl rfl rfl rfl rfl (rfl : _ = (AV.eptr [(AV.int .i64 p1.Stack), (AV.int .i64 p1.Start), (AV.sl z2 f3 e4), (AV.sl z6 f7 e8), (AV.sl z10 f11 e12), (AV.sl z14 f15 e16), j18] 0)) ?_
      refine AOps.pureR rfl rfl rfl rfl rfl (rfl : _ = (AV.eptr [(AV.int .i64 p1.Stack), (AV.int .i64 p1.Start), (AV.sl z2 f3 e4), (AV.sl z6 f7 e8), (AV.sl z10 f11 e12), (AV.sl z14 f15 e16), j18] 5)) ?_
      refine AOps.ldE (v := (AV.sl z14 f15 e16)) rfl rfl rfl rfl rfl rfl ?_
      refine AOps.pureR rfl rfl rfl rfl rfl (len_eq h17) ?_
      refine AOps.pureR rfl rfl rfl rfl rfl (rfl : _ = (AV.int .i64 (p1.Accept.length : Int))) ?_
      refine AOps.pureR rfl rfl rfl rfl rfl (rfl : _ = (AV.bool ((p1.Inner.length : Int) != (p1.Accept.length : Int)))) ?_
      refine AOps.pureR rfl rfl rfl rfl rfl (rfl : _ = (AV.bool ((p1.Inner.length : Int) != (p1.Accept.length : Int)))) ?_
      refine AOps.resR [(0, (AV.eptr [(AV.int .i64 p1.Stack), (AV.int .i64 p1.Start), (AV.sl z2 f3 e4), (AV.sl z6 f7 e8), (AV.sl z10 f11 e12), (AV.sl z14 f15 e16), j18] 0)), (3, (AV.int .i64 (p1.Accept.length : Int))), (58, (AV.bool (((b30 || ((p1.Call.length : Int) != (p1.Accept.length : Int))) || ((p1.Return.length : Int) != (p1.Accept.length : Int))) || ((p1.Inner.length : Int) != (p1.Accept.length : Int)))))] [] ?_ ?_ _ ⟨_, _, rfl⟩
      · exact ⟨rfl, rfl, congrArg AV.bool (or_f hc37), trivial⟩
      exact trivial
  rintro _ ⟨tm, os, rfl⟩
  refine AOps.nilR ?_
  rcases oite h with ⟨hc38, h⟩ | ⟨hc38, h⟩
  · refine AW.condT (congrArg AV.bool hc38) ?_
    refine AW.seq ?_
    refine AW.region ?_
    refine AOps.pureR rfl rfl rfl rfl rfl (rfl : _ = (AV.bool false)) ?_
    refine AOps.nilR ?_
    cases h
    exact AW.ret ⟨rfl, _, _, rfl, rfl⟩
  refine AW.condF (congrArg AV.bool hc38) ?_
  refine AW.skip ?_
  refine AW.seq ?_
  refine AW.seq ?_
  refine AW.region ?_
  refine AOps.pureR rfl rfl rfl rfl rfl (rfl : _ = (AV.int .i64 0)) ?_
  refine AOps.nilR ?_
  refine AW.meet (σ := Unit) (fun _ tm os => ⟨updL tm [], updL os [], { s with lo := s.n }⟩) (fun _ => spec_l02Ok_w0_7_J1 = some r) ?_ ?_
  · rintro _ tm os h
    unfold spec_l02Ok_w0_7_J1 at h
    refine AW.seq ?_
    refine AW.region ?_
    refine AOps.pureR rfl rfl rfl rfl rfl (rfl : _ = (AV.bool true)) ?_
    refine AOps.nilR ?_
    cases h
    exact AW.ret ⟨rfl, _, _, rfl, rfl⟩
  intro KJ39
  refine AW.block ?_
  refine AW.res [(0, (AV.eptr [(AV.int .i64 p1.Stack), (AV.int .i64 p1.Start), (AV.sl z2 f3 e4), (AV.sl z6 f7 e8), (AV.sl z10 f11 e12), (AV.sl z14 f15 e16), j18] 0)), (3, (AV.int .i64 (p1.Accept.length : Int))), (4, (AV.int .i64 0))] [] ⟨rfl, rfl, rfl, trivial⟩ trivial ?_
  refine AW.loopF (σ := Int) (τ := Unit) (fun t40 _ => True) (fun t40 _ tm os => ⟨updL tm [(0, (AV.eptr [(AV.int .i64 p1.Stack), (AV.int .i64 p1.Start), (AV.sl z2 f3 e4), (AV.sl z6 f7 e8), (AV.sl z10 f11 e12), (AV.sl z14 f15 e16), j18] 0)), (3, (AV.int .i64 (p1.Accept.length : Int))), (4, (AV.int .i64 t40))], updL os [], { s with lo := s.n }⟩) ?_ (x := (0)) (y := ()) h trivial
  clear h
  rintro t40 _ tm os - e1 h hL1 hR1
  unfold spec_l02Ok_w0_7_S1 at h
  refine AW.seq ?_
  refine AW.seq ?_
  refine AW.region ?_
  refine AOps.pureR rfl rfl rfl rfl rfl (rfl : _ = (AV.int .i64 t40)) ?_
  refine AOps.pureR rfl rfl rfl rfl rfl (rfl : _ = (AV.int .i64 (p1.Accept.length : Int))) ?_
  refine AOps.pureR rfl rfl rfl rfl rfl (rfl : _ = (AV.bool (decide ((t40 : Int) < (p1.Accept.length : Int))))) ?_
  refine AOps.nilR ?_
  rcases oite h with ⟨hc41, h⟩ | ⟨hc41, h⟩
  · refine AW.condT (congrArg AV.bool hc41) ?_
    refine AW.skip ?_
    refine AW.seq ?_
    refine AW.block ?_
    refine AW.seq ?_
    refine AW.seq ?_
    refine AW.region ?_
    refine AOps.pureR rfl rfl rfl rfl rfl (rfl : _ = (AV.eptr [(AV.int .i64 p1.Stack), (AV.int .i64 p1.Start), (AV.sl z2 f3 e4), (AV.sl z6 f7 e8), (AV.sl z10 f11 e12), (AV.sl z14 f15 e16), j18] 0)) ?_
    refine AOps.pureR rfl rfl rfl rfl rfl (rfl : _ = (AV.eptr [(AV.int .i64 p1.Stack), (AV.int .i64 p1.Start), (AV.sl z2 f3 e4), (AV.sl z6 f7 e8), (AV.sl z10 f11 e12), (AV.sl z14 f15 e16), j18] 0)) ?_
    refine AOps.pureR rfl rfl rfl rfl rfl (rfl : _ = (AV.eptr [(AV.int .i64 p1.Stack), (AV.int .i64 p1.Start), (AV.sl z2 f3 e4), (AV.sl z6 f7 e8), (AV.sl z10 f11 e12), (AV.sl z14 f15 e16), j18] 3)) ?_
    refine AOps.ldE (v := (AV.sl z6 f7 e8)) rfl rfl rfl rfl rfl rfl ?_
    refine AOps.pureR rfl rfl rfl rfl rfl (rfl : _ = (AV.int .i64 t40)) ?_
    obtain ⟨x42, h43, h⟩ := obind h
    obtain ⟨v46, h44, h45⟩ := idx_sl h9 h43
    obtain ⟨z47, f48, e49, rfl, h50⟩ := h44
    refine AOps.pureR rfl rfl rfl h45 rfl (rfl : _ = (AV.eptr [(AV.sl z47 f48 e49)] 0)) ?_
    refine AOps.ldE (v := (AV.sl z47 f48 e49)) rfl rfl rfl rfl rfl rfl ?_
    refine AOps.pureR rfl rfl rfl rfl rfl (len_eq h50) ?_
    refine AOps.pureR rfl rfl rfl rfl rfl (rfl : _ = (AV.bool ((x42.length : Int) != 2))) ?_
    refine AOps.pureR rfl rfl rfl rfl rfl (rfl : _ = (AV.bool ((x42.length : Int) != 2))) ?_
    obtain ⟨b52, hb, h⟩ := obind h
    refine AOps.split 10 (fun f' => ∃ tm' os', f' = ⟨updL tm' [(0, (AV.eptr [(AV.int .i64 p1.Stack), (AV.int .i64 p1.Start), (AV.sl z2 f3 e4), (AV.sl z6 f7 e8), (AV.sl z10 f11 e12), (AV.sl z14 f15 e16), j18] 0)), (3, (AV.int .i64 (p1.Accept.length : Int))), (4, (AV.int .i64 t40)), (83, (AV.bool b52))], updL os' [], { s with lo := s.n }⟩) ?_ ?_
    · rcases oite hb with ⟨hc51, hb⟩ | ⟨hc51, hb⟩
      · refine AOps.know (d := 73) rfl hc51 ?_
        refine AOps.skipR rfl rfl ?_
        refine AOps.skipR rfl rfl ?_
        refine AOps.skipR rfl rfl ?_
        refine AOps.skipR rfl rfl ?_
        refine AOps.skipR rfl rfl ?_
        refine AOps.skipR rfl rfl ?_
        refine AOps.skipR rfl rfl ?_
        refine AOps.skipR rfl rfl ?_
        refine AOps.skipR rfl rfl ?_
        refine AOps.pureR rfl rfl rfl rfl rfl (rfl : _ = (AV.bool true)) ?_
        refine AOps.resR [(0, (AV.eptr [(AV.int .i64 p1.Stack), (AV.int .i64 p1.Start), (AV.sl z2 f3 e4), (AV.sl z6 f7 e8), (AV.sl z10 f11 e12), (AV.sl z14 f15 e16), j18] 0)), (3, (AV.int .i64 (p1.Accept.length : Int))), (4, (AV.int .i64 t40)), (83, (AV.bool b52))] [] ?_ ?_ _ ⟨_, _, rfl⟩
        · exact ⟨rfl, rfl, rfl, congrArg AV.bool (Option.some.inj hb), trivial⟩
        exact trivial
      · have h := hb
        refine AOps.know (d := 73) rfl hc51 ?_
        refine AOps.pureR rfl rfl rfl rfl rfl (rfl : _ = (AV.eptr [(AV.int .i64 p1.Stack), (AV.int .i64 p1.Start), (AV.sl z2 f3 e4), (AV.sl z6 f7 e8), (AV.sl z10 f11 e12), (AV.sl z14 f15 e16), j18] 0)) ?_
        refine AOps.pureR rfl rfl rfl rfl rfl (rfl : _ = (AV.eptr [(AV.int .i64 p1.Stack), (AV.int .i64 p1.Start), (AV.sl z2 f3 e4), (AV.sl z6 f7 e8), (AV.sl z10 f11 e12), (AV.sl z14 f15 e16), j18] 0)) ?_
        refine AOps.pureR rfl rfl rfl rfl rfl (rfl : _ = (AV.eptr [(AV.int .i64 p1.Stack), (AV.int .i64 p1.Start), (AV.sl z2 f3 e4), (AV.sl z6 f7 e8), (AV.sl z10 f11 e12), (AV.sl z14 f15 e16), j18] 4)) ?_
        refine AOps.ldE (v := (AV.sl z10 f11 e12)) rfl rfl rfl rfl rfl rfl ?_
        refine AOps.pureR rfl rfl rfl rfl rfl (rfl : _ = (AV.int .i64 t40)) ?_
        obtain ⟨x53, h54, h⟩ := obind h
        obtain ⟨v57, h55, h56⟩ := idx_sl h13 h54
        obtain ⟨z58, f59, e60, rfl, h61⟩ := h55
        refine AOps.pureR rfl rfl rfl h56 rfl (rfl : _ = (AV.eptr [(AV.sl z58 f59 e60)] 0)) ?_
        refine AOps.ldE (v := (AV.sl z58 f59 e60)) rfl rfl rfl rfl rfl rfl ?_
        refine AOps.pureR rfl rfl rfl rfl rfl (len_eq h61) ?_
        refine AOps.pureR rfl rfl rfl rfl rfl (rfl : _ = (AV.bool ((x53.length : Int) != 2))) ?_
        refine AOps.pureR rfl rfl rfl rfl rfl (rfl : _ = (AV.bool ((x53.length : Int) != 2))) ?_
        refine AOps.resR [(0, (AV.eptr [(AV.int .i64 p1.Stack), (AV.int .i64 p1.Start), (AV.sl z2 f3 e4), (AV.sl z6 f7 e8), (AV.sl z10 f11 e12), (AV.sl z14 f15 e16), j18] 0)), (3, (AV.int .i64 (p1.Accept.length : Int))), (4, (AV.int .i64 t40)), (83, (AV.bool b52))] [] ?_ ?_ _ ⟨_, _, rfl⟩
        · exact ⟨rfl, rfl, rfl, congrArg AV.bool (Option.some.inj h), trivial⟩
        exact trivial
    rintro _ ⟨tm, os, rfl⟩
    refine AOps.pureR rfl rfl rfl rfl rfl (rfl : _ = (AV.bool b52)) ?_
    obtain ⟨b63, hb, h⟩ := obind h
    refine AOps.split 11 (fun f' => ∃ tm' os', f' = ⟨updL tm' [(0, (AV.eptr [(AV.int .i64 p1.Stack), (AV.int .i64 p1.Start), (AV.sl z2 f3 e4), (AV.sl z6 f7 e8), (AV.sl z10 f11 e12), (AV.sl z14 f15 e16), j18] 0)), (3, (AV.int .i64 (p1.Accept.length : Int))), (4, (AV.int .i64 t40)), (95, (AV.bool b63))], updL os' [], { s with lo := s.n }⟩) ?_ ?_
    · rcases oite hb with ⟨hc62, hb⟩ | ⟨hc62, hb⟩
      · refine AOps.know (d := 84) rfl hc62 ?_
        refine AOps.skipR rfl rfl ?_
        refine AOps.skipR rfl rfl ?_
        refine AOps.skipR rfl rfl ?_
        refine AOps.skipR rfl rfl ?_
        refine AOps.skipR rfl rfl ?_
        refine AOps.skipR rfl rfl ?_
        refine AOps.skipR rfl rfl ?_
        refine AOps.skipR rfl rfl ?_
        refine AOps.skipR rfl rfl ?_
        refine AOps.skipR rfl rfl ?_
        refine AOps.pureR rfl rfl rfl rfl rfl (rfl : _ = (AV.bool true)) ?_
        refine AOps.resR [(0, (AV.eptr [(AV.int .i64 p1.Stack), (AV.int .i64 p1.Start), (AV.sl z2 f3 e4), (AV.sl z6 f7 e8), (AV.sl z10 f11 e12), (AV.sl z14 f15 e16), j18] 0)), (3, (AV.int .i64 (p1.Accept.length : Int))), (4, (AV.int .i64 t40)), (95, (AV.bool b63))] [] ?_ ?_ _ ⟨_, _, rfl⟩
        · exact ⟨rfl, rfl, rfl, congrArg AV.bool (Option.some.inj hb), trivial⟩
        exact trivial
      · have h := hb
        refine AOps.know (d := 84) rfl hc62 ?_
        refine AOps.pureR rfl rfl rfl rfl rfl (rfl : _ = (AV.eptr [(AV.int .i64 p1.Stack), (AV.int .i64 p1.Start), (AV.sl z2 f3 e4), (AV.sl z6 f7 e8), (AV.sl z10 f11 e12), (AV.sl z14 f15 e16), j18] 0)) ?_
        refine AOps.pureR rfl rfl rfl rfl rfl (rfl : _ = (AV.eptr [(AV.int .i64 p1.Stack), (AV.int .i64 p1.Start), (AV.sl z2 f3 e4), (AV.sl z6 f7 e8), (AV.sl z10 f11 e12), (AV.sl z14 f15 e16), j18] 0)) ?_
        refine AOps.pureR rfl rfl rfl rfl rfl (rfl : _ = (AV.eptr [(AV.int .i64 p1.Stack), (AV.int .i64 p1.Start), (AV.sl z2 f3 e4), (AV.sl z6 f7 e8), (AV.sl z10 f11 e12), (AV.sl z14 f15 e16), j18] 5)) ?_
        refine AOps.ldE (v := (AV.sl z14 f15 e16)) rfl rfl rfl rfl rfl rfl ?_
        refine AOps.pureR rfl rfl rfl rfl rfl (rfl : _ = (AV.int .i64 t40)) ?_
        obtain ⟨x64, h65, h⟩ := obind h
        obtain ⟨v68, h66, h67⟩ := idx_sl h17 h65
        obtain ⟨z69, f70, e71, rfl, h72⟩ := h66
        refine AOps.pureR rfl rfl rfl h67 rfl (rfl : _ = (AV.eptr [(AV.sl z69 f70 e71)] 0)) ?_
        refine AOps.ldE (v := (AV.sl z69 f70 e71)) rfl rfl rfl rfl rfl rfl ?_
        refine AOps.pureR rfl rfl rfl rfl rfl (rfl : _ = (AV.int .i64 (p1.Accept.length : Int))) ?_
        obtain ⟨y73, h74, h⟩ := obind h
        refine AOps.callP (g := 125) (args := [(AV.sl z69 f70 e71), (AV.int .i64 2), (AV.int .i64 (p1.Accept.length : Int))]) (p := (rB) y73) rfl rfl rfl (spec_l02List_ok h72 h74 hWF) ?_
        intro _ o76 h75
        cases h75
        refine AOps.pureR rfl rfl rfl rfl rfl (rfl : _ = (AV.bool (!y73))) ?_
        refine AOps.pureR rfl rfl rfl rfl rfl (rfl : _ = (AV.bool (!y73))) ?_
        refine AOps.resR [(0, (AV.eptr [(AV.int .i64 p1.Stack), (AV.int .i64 p1.Start), (AV.sl z2 f3 e4), (AV.sl z6 f7 e8), (AV.sl z10 f11 e12), (AV.sl z14 f15 e16), j18] 0)), (3, (AV.int .i64 (p1.Accept.length : Int))), (4, (AV.int .i64 t40)), (95, (AV.bool b63))] [] ?_ ?_ _ ⟨_, _, rfl⟩
        · exact ⟨rfl, rfl, rfl, congrArg AV.bool (Option.some.inj h), trivial⟩
        exact trivial
    rintro _ ⟨tm, os, rfl⟩
    refine AOps.nilR ?_
    rcases oite h with ⟨hc77, h⟩ | ⟨hc77, h⟩
    · refine AW.condT (congrArg AV.bool hc77) ?_
      refine AW.seq ?_
      refine AW.region ?_
      refine AOps.pureR rfl rfl rfl rfl rfl (rfl : _ = (AV.bool false)) ?_
      refine AOps.nilR ?_
      cases h
      have hr := hR1 _ rfl
      subst hr
      exact AW.ret ⟨rfl, _, _, rfl, rfl⟩
    refine AW.condF (congrArg AV.bool hc77) ?_
    refine AW.skip ?_
    refine AW.seq ?_
    refine AW.region ?_
    refine AOps.pureR rfl rfl rfl rfl rfl (rfl : _ = (AV.int .i64 0)) ?_
    refine AOps.nilR ?_
    refine AW.meet (σ := Unit) (fun _ tm os => ⟨updL tm [(0, (AV.eptr [(AV.int .i64 p1.Stack), (AV.int .i64 p1.Start), (AV.sl z2 f3 e4), (AV.sl z6 f7 e8), (AV.sl z10 f11 e12), (AV.sl z14 f15 e16), j18] 0)), (3, (AV.int .i64 (p1.Accept.length : Int))), (4, (AV.int .i64 t40))], updL os [], { s with lo := s.n }⟩) (fun _ => spec_l02Ok_w0_7_J2 t40 = some e1) ?_ ?_
    · rintro _ tm os h
      unfold spec_l02Ok_w0_7_J2 at h
      refine AW.inBlock ?_
      refine AW.region ?_
      refine AOps.pureR rfl rfl rfl rfl rfl (rfl : _ = (AV.int .i64 t40)) ?_
      refine AOps.pureR rfl rfl rfl rfl rfl (rfl : _ = (AV.int .i64 (IntKind.wrap .i64 (t40 + 1)))) ?_
      refine AOps.assignR rfl rfl rfl (rfl : _ = (AV.int .i64 (IntKind.wrap .i64 (t40 + 1)))) rfl ?_
      refine AOps.nilR ?_
      cases h
      exact AW.res [(0, (AV.eptr [(AV.int .i64 p1.Stack), (AV.int .i64 p1.Start), (AV.sl z2 f3 e4), (AV.sl z6 f7 e8), (AV.sl z10 f11 e12), (AV.sl z14 f15 e16), j18] 0)), (3, (AV.int .i64 (p1.Accept.length : Int))), (4, (AV.int .i64 (IntKind.wrap .i64 (t40 + 1))))] [] ⟨rfl, rfl, rfl, trivial⟩ trivial (hL1 _ rfl () _ _ trivial)
    intro KJ78
    refine AW.block ?_
    refine AW.res [(0, (AV.eptr [(AV.int .i64 p1.Stack), (AV.int .i64 p1.Start), (AV.sl z2 f3 e4), (AV.sl z6 f7 e8), (AV.sl z10 f11 e12), (AV.sl z14 f15 e16), j18] 0)), (3, (AV.int .i64 (p1.Accept.length : Int))), (4, (AV.int .i64 t40)), (5, (AV.int .i64 0))] [] ⟨rfl, rfl, rfl, rfl, trivial⟩ trivial ?_
    refine AW.loopF (σ := Int) (τ := Unit) (fun t79 _ => True) (fun t79 _ tm os => ⟨updL tm [(0, (AV.eptr [(AV.int .i64 p1.Stack), (AV.int .i64 p1.Start), (AV.sl z2 f3 e4), (AV.sl z6 f7 e8), (AV.sl z10 f11 e12), (AV.sl z14 f15 e16), j18] 0)), (3, (AV.int .i64 (p1.Accept.length : Int))), (4, (AV.int .i64 t40)), (5, (AV.int .i64 t79))], updL os [], { s with lo := s.n }⟩) ?_ (x := (0)) (y := ()) h trivial
    clear h
    rintro t79 _ tm os - e2 h hL2 hR2
    unfold spec_l02Ok_w0_7_S2 at h
    refine AW.seq ?_
    refine AW.seq ?_
    refine AW.region ?_
    refine AOps.pureR rfl rfl rfl rfl rfl (rfl : _ = (AV.int .i64 t79)) ?_
    refine AOps.pureR rfl rfl rfl rfl rfl (rfl : _ = (AV.bool (decide ((t79 : Int) < 2)))) ?_
    refine AOps.nilR ?_
    rcases oite h with ⟨hc80, h⟩ | ⟨hc80, h⟩
    · refine AW.condT (congrArg AV.bool hc80) ?_
      refine AW.skip ?_
      refine AW.seq ?_
      refine AW.block ?_
      refine AW.seq ?_
      refine AW.region ?_
      refine AOps.pureR rfl rfl rfl rfl rfl (rfl : _ = (AV.eptr [(AV.int .i64 p1.Stack), (AV.int .i64 p1.Start), (AV.sl z2 f3 e4), (AV.sl z6 f7 e8), (AV.sl z10 f11 e12), (AV.sl z14 f15 e16), j18] 0)) ?_
      refine AOps.pureR rfl rfl rfl rfl rfl (rfl : _ = (AV.eptr [(AV.int .i64 p1.Stack), (AV.int .i64 p1.Start), (AV.sl z2 f3 e4), (AV.sl z6 f7 e8), (AV.sl z10 f11 e12), (AV.sl z14 f15 e16), j18] 0)) ?_
      refine AOps.pureR rfl rfl rfl rfl rfl (rfl : _ = (AV.eptr [(AV.int .i64 p1.Stack), (AV.int .i64 p1.Start), (AV.sl z2 f3 e4), (AV.sl z6 f7 e8), (AV.sl z10 f11 e12), (AV.sl z14 f15 e16), j18] 3)) ?_
      refine AOps.ldE (v := (AV.sl z6 f7 e8)) rfl rfl rfl rfl rfl rfl ?_
      refine AOps.pureR rfl rfl rfl rfl rfl (rfl : _ = (AV.int .i64 t40)) ?_
      obtain ⟨x81, h82, h⟩ := obind h
      obtain ⟨v85, h83, h84⟩ := idx_sl h9 h82
      obtain ⟨z86, f87, e88, rfl, h89⟩ := h83
      refine AOps.pureR rfl rfl rfl h84 rfl (rfl : _ = (AV.eptr [(AV.sl z86 f87 e88)] 0)) ?_
      refine AOps.ldE (v := (AV.sl z86 f87 e88)) rfl rfl rfl rfl rfl rfl ?_
      refine AOps.pureR rfl rfl rfl rfl rfl (rfl : _ = (AV.int .i64 t79)) ?_
      obtain ⟨x90, h91, h⟩ := obind h
      obtain ⟨v94, h92, h93⟩ := idx_sl h89 h91
      obtain ⟨_, rfl, h95⟩ := h92
      obtain ⟨_, _, rfl, h96, h97⟩ := Cs_cons h95
      cases h96
      obtain ⟨_, _, rfl, h98, h99⟩ := Cs_cons h97
      cases h98
      cases Cs_nil h99
      refine AOps.pureR rfl rfl rfl h93 rfl (rfl : _ = (AV.eptr [(AV.int .i64 x90.To), (AV.int .i64 x90.Put)] 0)) ?_
      refine AOps.pureR rfl rfl rfl rfl rfl (rfl : _ = (AV.eptr [(AV.int .i64 x90.To), (AV.int .i64 x90.Put)] 0)) ?_
      refine AOps.ldE (v := (AV.int .i64 x90.To)) rfl rfl rfl rfl rfl rfl ?_
      refine AOps.pureR rfl rfl rfl rfl rfl (rfl : _ = (AV.int .i64 (p1.Accept.length : Int))) ?_
      refine AOps.pureR rfl rfl rfl rfl rfl (rfl : _ = (AV.int .i64 (IntKind.wrap .i64 ((p1.Accept.length : Int) - 1)))) ?_
      obtain ⟨y100, h101, h⟩ := obind h
      refine AOps.callDP (g := 52) (args := [(AV.int .i64 x90.To), (AV.int .i64 0), (AV.int .i64 (IntKind.wrap .i64 ((p1.Accept.length : Int) - 1)))]) (p := (rB) y100) rfl rfl rfl (spec_l00In_ok  h101 hWF.still) (fun v hv => Nice.pure (k := FINK) (p := (rB) y100) .B _ v hv) ?_
      intro _ o103 h102
      cases h102
      refine AOps.pureR rfl rfl rfl rfl rfl (rfl : _ = (AV.bool (!y100))) ?_
      refine AOps.pureR rfl rfl rfl rfl rfl (rfl : _ = (AV.bool (!y100))) ?_
      obtain ⟨b105, hb, h⟩ := obind h
      refine AOps.split 19 (fun f' => ∃ tm' os', f' = ⟨updL tm' [(0, (AV.eptr [(AV.int .i64 p1.Stack), (AV.int .i64 p1.Start), (AV.sl z2 f3 e4), (AV.sl z6 f7 e8), (AV.sl z10 f11 e12), (AV.sl z14 f15 e16), j18] 0)), (3, (AV.int .i64 (p1.Accept.length : Int))), (4, (AV.int .i64 t40)), (5, (AV.int .i64 t79)), (134, (AV.bool b105))], updL os' [], { s with lo := s.n }⟩) ?_ ?_
      · rcases oite hb with ⟨hc104, hb⟩ | ⟨hc104, hb⟩
        · refine AOps.know (d := 115) rfl hc104 ?_
          refine AOps.skipR rfl rfl ?_
          refine AOps.skipR rfl rfl ?_
          refine AOps.skipR rfl rfl ?_
          refine AOps.skipR rfl rfl ?_
          refine AOps.skipR rfl rfl ?_
          refine AOps.skipR rfl rfl ?_
          refine AOps.skipR rfl rfl ?_
          refine AOps.skipR rfl rfl ?_
          refine AOps.skipR rfl rfl ?_
          refine AOps.skipR rfl rfl ?_
          refine AOps.skipR rfl rfl ?_
          refine AOps.skipR rfl rfl ?_
          refine AOps.skipR rfl rfl ?_
          refine AOps.skipR rfl rfl ?_
          refine AOps.skipR rfl rfl ?_
          refine AOps.skipR rfl rfl ?_
          refine AOps.skipR rfl rfl ?_
          refine AOps.skipR rfl rfl ?_
          refine AOps.pureR rfl rfl rfl rfl rfl (rfl : _ = (AV.bool true)) ?_
          refine AOps.resR [(0, (AV.eptr [(AV.int .i64 p1.Stack), (AV.int .i64 p1.Start), (AV.sl z2 f3 e4), (AV.sl z6 f7 e8), (AV.sl z10 f11 e12), (AV.sl z14 f15 e16), j18] 0)), (3, (AV.int .i64 (p1.Accept.length : Int))), (4, (AV.int .i64 t40)), (5, (AV.int .i64 t79)), (134, (AV.bool b105))] [] ?_ ?_ _ ⟨_, _, rfl⟩
          · exact ⟨rfl, rfl, rfl, rfl, congrArg AV.bool (Option.some.inj hb), trivial⟩
          exact trivial
        · have h := hb
          refine AOps.know (d := 115) rfl hc104 ?_
          refine AOps.pureR rfl rfl rfl rfl rfl (rfl : _ = (AV.eptr [(AV.int .i64 p1.Stack), (AV.int .i64 p1.Start), (AV.sl z2 f3 e4), (AV.sl z6 f7 e8), (AV.sl z10 f11 e12), (AV.sl z14 f15 e16), j18] 0)) ?_
          refine AOps.pureR rfl rfl rfl rfl rfl (rfl : _ = (AV.eptr [(AV.int .i64 p1.Stack), (AV.int .i64 p1.Start), (AV.sl z2 f3 e4), (AV.sl z6 f7 e8), (AV.sl z10 f11 e12), (AV.sl z14 f15 e16), j18] 0)) ?_
          refine AOps.pureR rfl rfl rfl rfl rfl (rfl : _ = (AV.eptr [(AV.int .i64 p1.Stack), (AV.int .i64 p1.Start), (AV.sl z2 f3 e4), (AV.sl z6 f7 e8), (AV.sl z10 f11 e12), (AV.sl z14 f15 e16), j18] 3)) ?_
          refine AOps.ldE (v := (AV.sl z6 f7 e8)) rfl rfl rfl rfl rfl rfl ?_
          refine AOps.pureR rfl rfl rfl rfl rfl (rfl : _ = (AV.int .i64 t40)) ?_
          obtain ⟨x106, h107, h⟩ := obind h
          obtain ⟨v110, h108, h109⟩ := idx_sl h9 h107
          obtain ⟨z111, f112, e113, rfl, h114⟩ := h108
          refine AOps.pureR rfl rfl rfl h109 rfl (rfl : _ = (AV.eptr [(AV.sl z111 f112 e113)] 0)) ?_
          refine AOps.ldE (v := (AV.sl z111 f112 e113)) rfl rfl rfl rfl rfl rfl ?_
          refine AOps.pureR rfl rfl rfl rfl rfl (rfl : _ = (AV.int .i64 t79)) ?_
          obtain ⟨x115, h116, h⟩ := obind h
          obtain ⟨v119, h117, h118⟩ := idx_sl h114 h116
          obtain ⟨_, rfl, h120⟩ := h117
          obtain ⟨_, _, rfl, h121, h122⟩ := Cs_cons h120
          cases h121
          obtain ⟨_, _, rfl, h123, h124⟩ := Cs_cons h122
          cases h123
          cases Cs_nil h124
          refine AOps.pureR rfl rfl rfl h118 rfl (rfl : _ = (AV.eptr [(AV.int .i64 x115.To), (AV.int .i64 x115.Put)] 0)) ?_
          refine AOps.pureR rfl rfl rfl rfl rfl (rfl : _ = (AV.eptr [(AV.int .i64 x115.To), (AV.int .i64 x115.Put)] 1)) ?_
          refine AOps.ldE (v := (AV.int .i64 x115.Put)) rfl rfl rfl rfl rfl rfl ?_
          refine AOps.pureR rfl rfl rfl rfl rfl (rfl : _ = (AV.eptr [(AV.int .i64 p1.Stack), (AV.int .i64 p1.Start), (AV.sl z2 f3 e4), (AV.sl z6 f7 e8), (AV.sl z10 f11 e12), (AV.sl z14 f15 e16), j18] 0)) ?_
          refine AOps.pureR rfl rfl rfl rfl rfl (rfl : _ = (AV.eptr [(AV.int .i64 p1.Stack), (AV.int .i64 p1.Start), (AV.sl z2 f3 e4), (AV.sl z6 f7 e8), (AV.sl z10 f11 e12), (AV.sl z14 f15 e16), j18] 0)) ?_
          refine AOps.pureR rfl rfl rfl rfl rfl (rfl : _ = (AV.eptr [(AV.int .i64 p1.Stack), (AV.int .i64 p1.Start), (AV.sl z2 f3 e4), (AV.sl z6 f7 e8), (AV.sl z10 f11 e12), (AV.sl z14 f15 e16), j18] 0)) ?_
          refine AOps.ldE (v := (AV.int .i64 p1.Stack)) rfl rfl rfl rfl rfl rfl ?_
          refine AOps.pureR rfl rfl rfl rfl rfl (rfl : _ = (AV.int .i64 (IntKind.wrap .i64 (p1.Stack - 1)))) ?_
          obtain ⟨y125, h126, h⟩ := obind h
          refine AOps.callDP (g := 52) (args := [(AV.int .i64 x115.Put), (AV.int .i64 0), (AV.int .i64 (IntKind.wrap .i64 (p1.Stack - 1)))]) (p := (rB) y125) rfl rfl rfl (spec_l00In_ok  h126 hWF.still) (fun v hv => Nice.pure (k := FINK) (p := (rB) y125) .B _ v hv) ?_
          intro _ o128 h127
          cases h127
          refine AOps.pureR rfl rfl rfl rfl rfl (rfl : _ = (AV.bool (!y125))) ?_
          refine AOps.pureR rfl rfl rfl rfl rfl (rfl : _ = (AV.bool (!y125))) ?_
          refine AOps.resR [(0, (AV.eptr [(AV.int .i64 p1.Stack), (AV.int .i64 p1.Start), (AV.sl z2 f3 e4), (AV.sl z6 f7 e8), (AV.sl z10 f11 e12), (AV.sl z14 f15 e16), j18] 0)), (3, (AV.int .i64 (p1.Accept.length : Int))), (4, (AV.int .i64 t40)), (5, (AV.int .i64 t79)), (134, (AV.bool b105))] [] ?_ ?_ _ ⟨_, _, rfl⟩
          · exact ⟨rfl, rfl, rfl, rfl, congrArg AV.bool (Option.some.inj h), trivial⟩
          exact trivial
      rintro _ ⟨tm, os, rfl⟩
      refine AOps.pureR rfl rfl rfl rfl rfl (rfl : _ = (AV.bool b105)) ?_
      obtain ⟨b130, hb, h⟩ := obind h
      refine AOps.split 19 (fun f' => ∃ tm' os', f' = ⟨updL tm' [(0, (AV.eptr [(AV.int .i64 p1.Stack), (AV.int .i64 p1.Start), (AV.sl z2 f3 e4), (AV.sl z6 f7 e8), (AV.sl z10 f11 e12), (AV.sl z14 f15 e16), j18] 0)), (3, (AV.int .i64 (p1.Accept.length : Int))), (4, (AV.int .i64 t40)), (5, (AV.int .i64 t79)), (154, (AV.bool b130))], updL os' [], { s with lo := s.n }⟩) ?_ ?_
      · rcases oite hb with ⟨hc129, hb⟩ | ⟨hc129, hb⟩
        · refine AOps.know (d := 135) rfl hc129 ?_
          refine AOps.skipR rfl rfl ?_
          refine AOps.skipR rfl rfl ?_
          refine AOps.skipR rfl rfl ?_
          refine AOps.skipR rfl rfl ?_
          refine AOps.skipR rfl rfl ?_
          refine AOps.skipR rfl rfl ?_
          refine AOps.skipR rfl rfl ?_
          refine AOps.skipR rfl rfl ?_
          refine AOps.skipR rfl rfl ?_
          refine AOps.skipR rfl rfl ?_
          refine AOps.skipR rfl rfl ?_
          refine AOps.skipR rfl rfl ?_
          refine AOps.skipR rfl rfl ?_
          refine AOps.skipR rfl rfl ?_
          refine AOps.skipR rfl rfl ?_
          refine AOps.skipR rfl rfl ?_
          refine AOps.skipR rfl rfl ?_
          refine AOps.skipR rfl rfl ?_
          refine AOps.pureR rfl rfl rfl rfl rfl (rfl : _ = (AV.bool true)) ?_
          refine AOps.resR [(0, (AV.eptr [(AV.int .i64 p1.Stack), (AV.int .i64 p1.Start), (AV.sl z2 f3 e4), (AV.sl z6 f7 e8), (AV.sl z10 f11 e12), (AV.sl z14 f15 e16), j18] 0)), (3, (AV.int .i64 (p1.Accept.length : Int))), (4, (AV.int .i64 t40)), (5, (AV.int .i64 t79)), (154, (AV.bool b130))] [] ?_ ?_ _ ⟨_, _, rfl⟩
          · exact ⟨rfl, rfl, rfl, rfl, congrArg AV.bool (Option.some.inj hb), trivial⟩
          exact trivial
        · have h := hb
          refine AOps.know (d := 135) rfl hc129 ?_
          refine AOps.pureR rfl rfl rfl rfl rfl (rfl : _ = (AV.eptr [(AV.int .i64 p1.Stack), (AV.int .i64 p1.Start), (AV.sl z2 f3 e4), (AV.sl z6 f7 e8), (AV.sl z10 f11 e12), (AV.sl z14 f15 e16), j18] 0)) ?_
          refine AOps.pureR rfl rfl rfl rfl rfl (rfl : _ = (AV.eptr [(AV.int .i64 p1.Stack), (AV.int .i64 p1.Start), (AV.sl z2 f3 e4), (AV.sl z6 f7 e8), (AV.sl z10 f11 e12), (AV.sl z14 f15 e16), j18] 0)) ?_
          refine AOps.pureR rfl rfl rfl rfl rfl (rfl : _ = (AV.eptr [(AV.int .i64 p1.Stack), (AV.int .i64 p1.Start), (AV.sl z2 f3 e4), (AV.sl z6 f7 e8), (AV.sl z10 f11 e12), (AV.sl z14 f15 e16), j18] 4)) ?_
          refine AOps.ldE (v := (AV.sl z10 f11 e12)) rfl rfl rfl rfl rfl rfl ?_
          refine AOps.pureR rfl rfl rfl rfl rfl (rfl : _ = (AV.int .i64 t40)) ?_
          obtain ⟨x131, h132, h⟩ := obind h
          obtain ⟨v135, h133, h134⟩ := idx_sl h13 h132
          obtain ⟨z136, f137, e138, rfl, h139⟩ := h133
          refine AOps.pureR rfl rfl rfl h134 rfl (rfl : _ = (AV.eptr [(AV.sl z136 f137 e138)] 0)) ?_
          refine AOps.ldE (v := (AV.sl z136 f137 e138)) rfl rfl rfl rfl rfl rfl ?_
          refine AOps.pureR rfl rfl rfl rfl rfl (rfl : _ = (AV.int .i64 t79)) ?_
          obtain ⟨x140, h141, h⟩ := obind h
          obtain ⟨v144, h142, h143⟩ := idx_sl h139 h141
          obtain ⟨z145, f146, e147, rfl, h148⟩ := h142
          refine AOps.pureR rfl rfl rfl h143 rfl (rfl : _ = (AV.eptr [(AV.sl z145 f146 e147)] 0)) ?_
          refine AOps.ldE (v := (AV.sl z145 f146 e147)) rfl rfl rfl rfl rfl rfl ?_
          refine AOps.pureR rfl rfl rfl rfl rfl (rfl : _ = (AV.eptr [(AV.int .i64 p1.Stack), (AV.int .i64 p1.Start), (AV.sl z2 f3 e4), (AV.sl z6 f7 e8), (AV.sl z10 f11 e12), (AV.sl z14 f15 e16), j18] 0)) ?_
          refine AOps.pureR rfl rfl rfl rfl rfl (rfl : _ = (AV.eptr [(AV.int .i64 p1.Stack), (AV.int .i64 p1.Start), (AV.sl z2 f3 e4), (AV.sl z6 f7 e8), (AV.sl z10 f11 e12), (AV.sl z14 f15 e16), j18] 0)) ?_
          refine AOps.pureR rfl rfl rfl rfl rfl (rfl : _ = (AV.eptr [(AV.int .i64 p1.Stack), (AV.int .i64 p1.Start), (AV.sl z2 f3 e4), (AV.sl z6 f7 e8), (AV.sl z10 f11 e12), (AV.sl z14 f15 e16), j18] 0)) ?_
          refine AOps.ldE (v := (AV.int .i64 p1.Stack)) rfl rfl rfl rfl rfl rfl ?_
          refine AOps.pureR rfl rfl rfl rfl rfl (rfl : _ = (AV.int .i64 (IntKind.wrap .i64 (p1.Stack + 1)))) ?_
          refine AOps.pureR rfl rfl rfl rfl rfl (rfl : _ = (AV.int .i64 (p1.Accept.length : Int))) ?_
          obtain ⟨y149, h150, h⟩ := obind h
          refine AOps.callDP (g := 125) (args := [(AV.sl z145 f146 e147), (AV.int .i64 (IntKind.wrap .i64 (p1.Stack + 1))), (AV.int .i64 (p1.Accept.length : Int))]) (p := (rB) y149) rfl rfl rfl (spec_l02List_ok h148 h150 hWF.still) (fun v hv => Nice.pure (k := FINK) (p := (rB) y149) .B _ v hv) ?_
          intro _ o152 h151
          cases h151
          refine AOps.pureR rfl rfl rfl rfl rfl (rfl : _ = (AV.bool (!y149))) ?_
          refine AOps.pureR rfl rfl rfl rfl rfl (rfl : _ = (AV.bool (!y149))) ?_
          refine AOps.resR [(0, (AV.eptr [(AV.int .i64 p1.Stack), (AV.int .i64 p1.Start), (AV.sl z2 f3 e4), (AV.sl z6 f7 e8), (AV.sl z10 f11 e12), (AV.sl z14 f15 e16), j18] 0)), (3, (AV.int .i64 (p1.Accept.length : Int))), (4, (AV.int .i64 t40)), (5, (AV.int .i64 t79)), (154, (AV.bool b130))] [] ?_ ?_ _ ⟨_, _, rfl⟩
          · exact ⟨rfl, rfl, rfl, rfl, congrArg AV.bool (Option.some.inj h), trivial⟩
          exact trivial
      rintro _ ⟨tm, os, rfl⟩
      refine AOps.nilR ?_
      rcases oite h with ⟨hc153, h⟩ | ⟨hc153, h⟩
      · refine AW.condT (congrArg AV.bool hc153) ?_
        refine AW.seq ?_
        refine AW.region ?_
        refine AOps.pureR rfl rfl rfl rfl rfl (rfl : _ = (AV.bool false)) ?_
        refine AOps.nilR ?_
        cases h
        have hr := hR2 _ rfl
        cases hr
        have hr := hR1 _ rfl
        subst hr
        exact AW.ret ⟨rfl, _, _, rfl, rfl⟩
      refine AW.condF (congrArg AV.bool hc153) ?_
      refine AW.skip ?_
      refine AW.inBlock ?_
      refine AW.region ?_
      refine AOps.pureR rfl rfl rfl rfl rfl (rfl : _ = (AV.int .i64 t79)) ?_
      refine AOps.pureR rfl rfl rfl rfl rfl (rfl : _ = (AV.int .i64 (IntKind.wrap .i64 (t79 + 1)))) ?_
      refine AOps.assignR rfl rfl rfl (rfl : _ = (AV.int .i64 (IntKind.wrap .i64 (t79 + 1)))) rfl ?_
      refine AOps.nilR ?_
      cases h
      exact AW.res [(0, (AV.eptr [(AV.int .i64 p1.Stack), (AV.int .i64 p1.Start), (AV.sl z2 f3 e4), (AV.sl z6 f7 e8), (AV.sl z10 f11 e12), (AV.sl z14 f15 e16), j18] 0)), (3, (AV.int .i64 (p1.Accept.length : Int))), (4, (AV.int .i64 t40)), (5, (AV.int .i64 (IntKind.wrap .i64 (t79 + 1))))] [] ⟨rfl, rfl, rfl, rfl, trivial⟩ trivial (hL2 _ rfl () _ _ trivial)
    refine AW.condF (congrArg AV.bool hc80) ?_
    refine AW.exit rfl ?_
    obtain ⟨r154, hm, hx⟩ := omap h
    clear h
    subst hx
    have hx := hR2 _ rfl
    rw [hx] at hm
    have h := hm
    exact AW.res [(0, (AV.eptr [(AV.int .i64 p1.Stack), (AV.int .i64 p1.Start), (AV.sl z2 f3 e4), (AV.sl z6 f7 e8), (AV.sl z10 f11 e12), (AV.sl z14 f15 e16), j18] 0)), (3, (AV.int .i64 (p1.Accept.length : Int))), (4, (AV.int .i64 t40))] [] ⟨rfl, rfl, rfl, trivial⟩ trivial (KJ78 () _ _ h)
  refine AW.condF (congrArg AV.bool hc41) ?_
  refine AW.exit rfl ?_
  obtain ⟨r155, hm, hx⟩ := omap h
  clear h
  subst hx
  have hx := hR1 _ rfl
  rw [hx] at hm
  have h := hm
  exact AW.res [] [] trivial trivial (KJ39 () _ _ h)
theorem spec_l01Symbol_ok {b1 : Int} {s : St} {r : Int} (h : spec_l01Symbol b1 = some r) (hs : WF s) : ACall Cf 61 [(AV.int .u8 b1)] s fun v _ s' => (rI .i64) r v ∧ s' = s := by
  refine ACall.pure rfl rfl rfl .I ?_
  have hWF := hs.lo'
  unfold spec_l01Symbol at h
  refine AW.seq ?_
  refine AW.region ?_
  refine AOps.pureR rfl rfl rfl rfl rfl (rfl : _ = (AV.int .i64 0)) ?_
  refine AOps.nilR ?_
  refine AW.seq ?_
  refine AW.seq ?_
  refine AW.region ?_
  refine AOps.pureR rfl rfl rfl rfl rfl (rfl : _ = (AV.int .i64 0)) ?_
  refine AOps.nilR ?_
  refine AW.meet (σ := Unit) (fun _ tm os => ⟨updL tm [], updL os [], { s with lo := s.n }⟩) (fun _ => spec_l01Symbol_J1 = some r) ?_ ?_
  · rintro _ tm os h
    unfold spec_l01Symbol_J1 at h
    refine AW.seq ?_
    refine AW.region ?_
    refine AOps.pureR rfl rfl rfl rfl rfl (rfl : _ = (AV.int .i64 (-1))) ?_
    refine AOps.nilR ?_
    cases h
    exact AW.ret ⟨rfl, _, _, rfl, rfl⟩
  intro KJ2
  refine AW.block ?_
  refine AW.res [(0, (AV.int .u8 b1)), (3, (AV.int .i64 0))] [] ⟨rfl, rfl, trivial⟩ trivial ?_
  refine AW.loopF (σ := Int) (τ := Unit) (fun k3 _ => True) (fun k3 _ tm os => ⟨updL tm [(0, (AV.int .u8 b1)), (3, (AV.int .i64 k3))], updL os [], { s with lo := s.n }⟩) ?_ (x := (0)) (y := ()) h trivial
  clear h
  rintro k3 _ tm os - e1 h hL1 hR1
  unfold spec_l01Symbol_S1 at h
  refine AW.seq ?_
  refine AW.seq ?_
  refine AW.region ?_
  refine AOps.pureR rfl rfl rfl rfl rfl (rfl : _ = (AV.int .i64 k3)) ?_
  refine AOps.pureR rfl rfl rfl rfl rfl (rfl : _ = (AV.bool (decide ((k3 : Int) < 6)))) ?_
  refine AOps.nilR ?_
  rcases oite h with ⟨hc4, h⟩ | ⟨hc4, h⟩
  · refine AW.condT (congrArg AV.bool hc4) ?_
    refine AW.skip ?_
    refine AW.seq ?_
    refine AW.block ?_
    refine AW.seq ?_
    refine AW.region ?_
    refine AOps.pureR rfl rfl rfl rfl rfl (rfl : _ = (AV.int .i64 k3)) ?_
    obtain ⟨c5, h6, h⟩ := obind h
    refine AOps.pureR rfl rfl rfl (chr_str h6) rfl (rfl : _ = (AV.int .u8 c5)) ?_
    refine AOps.pureR rfl rfl rfl rfl rfl (rfl : _ = (AV.int .u8 b1)) ?_
    refine AOps.pureR rfl rfl rfl rfl rfl (rfl : _ = (AV.bool (c5 == b1))) ?_
    refine AOps.nilR ?_
    rcases oite h with ⟨hc7, h⟩ | ⟨hc7, h⟩
    · refine AW.condT (congrArg AV.bool hc7) ?_
      refine AW.seq ?_
      refine AW.region ?_
      refine AOps.pureR rfl rfl rfl rfl rfl (rfl : _ = (AV.int .i64 k3)) ?_
      refine AOps.assignR rfl rfl rfl (rfl : _ = (AV.int .i64 k3)) rfl ?_
      refine AOps.nilR ?_
      cases h
      have hr := hR1 _ rfl
      subst hr
      exact AW.ret ⟨rfl, _, _, rfl, rfl⟩
    refine AW.condF (congrArg AV.bool hc7) ?_
    refine AW.skip ?_
    refine AW.inBlock ?_
    refine AW.region ?_
    refine AOps.pureR rfl rfl rfl rfl rfl (rfl : _ = (AV.int .i64 k3)) ?_
    refine AOps.pureR rfl rfl rfl rfl rfl (rfl : _ = (AV.int .i64 (IntKind.wrap .i64 (k3 + 1)))) ?_
    refine AOps.assignR rfl rfl rfl (rfl : _ = (AV.int .i64 (IntKind.wrap .i64 (k3 + 1)))) rfl ?_
    refine AOps.nilR ?_
    cases h
    exact AW.res [(0, (AV.int .u8 b1)), (3, (AV.int .i64 (IntKind.wrap .i64 (k3 + 1))))] [] ⟨rfl, rfl, trivial⟩ trivial (hL1 _ rfl () _ _ trivial)
  refine AW.condF (congrArg AV.bool hc4) ?_
  refine AW.exit rfl ?_
  obtain ⟨r8, hm, hx⟩ := omap h
  clear h
  subst hx
  have hx := hR1 _ rfl
  rw [hx] at hm
  have h := hm
  exact AW.res [] [] trivial trivial (KJ2 () _ _ h)
theorem spec_l01Ok_ok {w1 : List UInt8} {s : St} {r : Bool} (h : spec_l01Ok w1 = some r) (hs : WF s) : ACall Cf 30 [(AV.str w1)] s fun v _ s' => (rB) r v ∧ s' = s := by
  refine ACall.pure rfl rfl rfl .B ?_
  have hWF := hs.lo'
  unfold spec_l01Ok at h
  refine AW.seq ?_
  refine AW.region ?_
  refine AOps.pureR rfl rfl rfl rfl rfl (rfl : _ = (AV.bool false)) ?_
  refine AOps.nilR ?_
  refine AW.seq ?_
  refine AW.seq ?_
  refine AW.region ?_
  refine AOps.pureR rfl rfl rfl rfl rfl (rfl : _ = (AV.int .i64 0)) ?_
  refine AOps.nilR ?_
  refine AW.meet (σ := Unit) (fun _ tm os => ⟨updL tm [(0, (AV.str w1))], updL os [], { s with lo := s.n }⟩) (fun _ => spec_l01Ok_J1 w1 = some r) ?_ ?_
  · rintro _ tm os h
    unfold spec_l01Ok_J1 at h
    refine AW.seq ?_
    refine AW.region ?_
    refine AOps.pureR rfl rfl rfl rfl rfl (rfl : _ = (AV.str w1)) ?_
    refine AOps.pureR rfl rfl rfl rfl rfl (rfl : _ = (AV.int .i64 (w1.length : Int))) ?_
    refine AOps.pureR rfl rfl rfl rfl rfl (rfl : _ = (AV.bool (decide (((w1.length : Int) : Int) ≤ 60)))) ?_
    refine AOps.assignR rfl rfl rfl (rfl : _ = (AV.bool (decide (((w1.length : Int) : Int) ≤ 60)))) rfl ?_
    refine AOps.nilR ?_
    cases h
    exact AW.ret ⟨rfl, _, _, rfl, rfl⟩
  intro KJ2
  refine AW.block ?_
  refine AW.res [(0, (AV.str w1)), (3, (AV.int .i64 0))] [] ⟨rfl, rfl, trivial⟩ trivial ?_
  refine AW.loopF (σ := Int) (τ := Unit) (fun i3 _ => True) (fun i3 _ tm os => ⟨updL tm [(0, (AV.str w1)), (3, (AV.int .i64 i3))], updL os [], { s with lo := s.n }⟩) ?_ (x := (0)) (y := ()) h trivial
  clear h
  rintro i3 _ tm os - e1 h hL1 hR1
  unfold spec_l01Ok_S1 at h
  refine AW.seq ?_
  refine AW.seq ?_
  refine AW.region ?_
  refine AOps.pureR rfl rfl rfl rfl rfl (rfl : _ = (AV.int .i64 i3)) ?_
  refine AOps.pureR rfl rfl rfl rfl rfl (rfl : _ = (AV.str w1)) ?_
  refine AOps.pureR rfl rfl rfl rfl rfl (rfl : _ = (AV.int .i64 (w1.length : Int))) ?_
  refine AOps.pureR rfl rfl rfl rfl rfl (rfl : _ = (AV.bool (decide ((i3 : Int) < (w1.length : Int))))) ?_
  refine AOps.nilR ?_
  rcases oite h with ⟨hc4, h⟩ | ⟨hc4, h⟩
  · refine AW.condT (congrArg AV.bool hc4) ?_
    refine AW.skip ?_
    refine AW.seq ?_
    refine AW.block ?_
    refine AW.seq ?_
    refine AW.region ?_
    refine AOps.pureR rfl rfl rfl rfl rfl (rfl : _ = (AV.str w1)) ?_
    refine AOps.pureR rfl rfl rfl rfl rfl (rfl : _ = (AV.int .i64 i3)) ?_
    obtain ⟨c5, h6, h⟩ := obind h
    refine AOps.pureR rfl rfl rfl (chr_str h6) rfl (rfl : _ = (AV.int .u8 c5)) ?_
    obtain ⟨y7, h8, h⟩ := obind h
    refine AOps.callP (g := 61) (args := [(AV.int .u8 c5)]) (p := (rI .i64) y7) rfl rfl rfl (spec_l01Symbol_ok  h8 hWF) ?_
    intro _ o10 h9
    cases h9
    refine AOps.pureR rfl rfl rfl rfl rfl (rfl : _ = (AV.bool (decide ((y7 : Int) < 0)))) ?_
    refine AOps.nilR ?_
    rcases oite h with ⟨hc11, h⟩ | ⟨hc11, h⟩
    · refine AW.condT (congrArg AV.bool hc11) ?_
      refine AW.seq ?_
      refine AW.region ?_
      refine AOps.pureR rfl rfl rfl rfl rfl (rfl : _ = (AV.bool false)) ?_
      refine AOps.nilR ?_
      cases h
      have hr := hR1 _ rfl
      subst hr
      exact AW.ret ⟨rfl, _, _, rfl, rfl⟩
    refine AW.condF (congrArg AV.bool hc11) ?_
    refine AW.skip ?_
    refine AW.inBlock ?_
    refine AW.region ?_
    refine AOps.pureR rfl rfl rfl rfl rfl (rfl : _ = (AV.int .i64 i3)) ?_
    refine AOps.pureR rfl rfl rfl rfl rfl (rfl : _ = (AV.int .i64 (IntKind.wrap .i64 (i3 + 1)))) ?_
    refine AOps.assignR rfl rfl rfl (rfl : _ = (AV.int .i64 (IntKind.wrap .i64 (i3 + 1)))) rfl ?_
    refine AOps.nilR ?_
    cases h
    exact AW.res [(0, (AV.str w1)), (3, (AV.int .i64 (IntKind.wrap .i64 (i3 + 1))))] [] ⟨rfl, rfl, trivial⟩ trivial (hL1 _ rfl () _ _ trivial)
  refine AW.condF (congrArg AV.bool hc4) ?_
  refine AW.exit rfl ?_
  obtain ⟨r12, hm, hx⟩ := omap h
  clear h
  subst hx
  have hx := hR1 _ rfl
  rw [hx] at hm
  have h := hm
  exact AW.res [(0, (AV.str w1))] [] ⟨rfl, trivial⟩ trivial (KJ2 () _ _ h)
theorem spec_l08Whole_ok {pieces1 : List (List UInt8)} {z2 : Nat} {f3 : Bool} {e4 : List AV} {s : St} (h5 : LR rS 1 pieces1 z2 e4) {r : (List UInt8)} (h : spec_l08Whole pieces1 = some r) (hs : WF s) : ACall Cf 51 [(AV.sl z2 f3 e4)] s fun v _ s' => (rS) r v ∧ s' = s := by
  refine ACall.pure rfl rfl rfl .S ?_
  have hWF := hs.lo'
  unfold spec_l08Whole at h
  refine AW.seq ?_
  refine AW.region ?_
  refine AOps.pureR rfl rfl rfl rfl rfl (rfl : _ = (AV.str ([] : List UInt8))) ?_
  refine AOps.nilR ?_
  refine AW.seq ?_
  refine AW.region ?_
  refine AOps.pureR rfl rfl rfl rfl rfl (rfl : _ = (AV.str ([] : List UInt8))) ?_
  refine AOps.nilR ?_
  refine AW.seq ?_
  refine AW.seq ?_
  refine AW.region ?_
  refine AOps.pureR rfl rfl rfl rfl rfl (rfl : _ = (AV.int .i64 0)) ?_
  refine AOps.nilR ?_
  refine AW.meet (σ := (List UInt8)) (fun out6 tm os => ⟨updL tm [(3, (AV.str out6))], updL os [], { s with lo := s.n }⟩) (fun out6 => spec_l08Whole_J1 out6 = some r) ?_ ?_
  · rintro out6 tm os h
    unfold spec_l08Whole_J1 at h
    refine AW.seq ?_
    refine AW.region ?_
    refine AOps.pureR rfl rfl rfl rfl rfl (rfl : _ = (AV.str out6)) ?_
    refine AOps.assignR rfl rfl rfl (rfl : _ = (AV.str out6)) rfl ?_
    refine AOps.nilR ?_
    cases h
    exact AW.ret ⟨rfl, _, _, rfl, rfl⟩
  intro KJ7
  refine AW.block ?_
  refine AW.res [(0, (AV.sl z2 f3 e4)), (3, (AV.str ([] : List UInt8))), (4, (AV.int .i64 0))] [] ⟨rfl, rfl, rfl, trivial⟩ trivial ?_
  refine AW.loopF (σ := (List UInt8) × Int) (τ := Unit) (fun (out8, i9) _ => True) (fun (out8, i9) _ tm os => ⟨updL tm [(0, (AV.sl z2 f3 e4)), (3, (AV.str out8)), (4, (AV.int .i64 i9))], updL os [], { s with lo := s.n }⟩) ?_ (x := (([] : List UInt8), 0)) (y := ()) h trivial
  clear h
  rintro ⟨out8, i9⟩ _ tm os - e1 h hL1 hR1
  unfold spec_l08Whole_S1 at h
  dsimp only at h
  refine AW.seq ?_
  refine AW.seq ?_
  refine AW.region ?_
  refine AOps.pureR rfl rfl rfl rfl rfl (rfl : _ = (AV.int .i64 i9)) ?_
  refine AOps.pureR rfl rfl rfl rfl rfl (rfl : _ = (AV.sl z2 f3 e4)) ?_
  refine AOps.pureR rfl rfl rfl rfl rfl (len_eq h5) ?_
  refine AOps.pureR rfl rfl rfl rfl rfl (rfl : _ = (AV.bool (decide ((i9 : Int) < (pieces1.length : Int))))) ?_
  refine AOps.nilR ?_
  rcases oite h with ⟨hc10, h⟩ | ⟨hc10, h⟩
  · refine AW.condT (congrArg AV.bool hc10) ?_
    refine AW.skip ?_
    refine AW.seq ?_
    refine AW.block ?_
    refine AW.region ?_
    refine AOps.pureR rfl rfl rfl rfl rfl (rfl : _ = (AV.str out8)) ?_
    refine AOps.pureR rfl rfl rfl rfl rfl (rfl : _ = (AV.sl z2 f3 e4)) ?_
    refine AOps.pureR rfl rfl rfl rfl rfl (rfl : _ = (AV.int .i64 i9)) ?_
    obtain ⟨x11, h12, h⟩ := obind h
    obtain ⟨v15, h13, h14⟩ := idx_sl h5 h12
    cases h13
    refine AOps.pureR rfl rfl rfl h14 rfl (rfl : _ = (AV.eptr [(AV.str x11)] 0)) ?_
    refine AOps.ldE (v := (AV.str x11)) rfl rfl rfl rfl rfl rfl ?_
    obtain ⟨w16, h17, h⟩ := obind h
    refine AOps.pureR rfl rfl rfl (add_str h17) rfl (rfl : _ = (AV.str w16)) ?_
    refine AOps.assignR rfl rfl rfl (rfl : _ = (AV.str w16)) rfl ?_
    refine AOps.nilR ?_
    refine AW.inBlock ?_
    refine AW.region ?_
    refine AOps.pureR rfl rfl rfl rfl rfl (rfl : _ = (AV.int .i64 i9)) ?_
    refine AOps.pureR rfl rfl rfl rfl rfl (rfl : _ = (AV.int .i64 (IntKind.wrap .i64 (i9 + 1)))) ?_
    refine AOps.assignR rfl rfl rfl (rfl : _ = (AV.int .i64 (IntKind.wrap .i64 (i9 + 1)))) rfl ?_
    refine AOps.nilR ?_
    cases h
    exact AW.res [(0, (AV.sl z2 f3 e4)), (3, (AV.str w16)), (4, (AV.int .i64 (IntKind.wrap .i64 (i9 + 1))))] [] ⟨rfl, rfl, rfl, trivial⟩ trivial (hL1 _ rfl () _ _ trivial)
  refine AW.condF (congrArg AV.bool hc10) ?_
  refine AW.exit rfl ?_
  obtain ⟨r18, hm, hx⟩ := omap h
  clear h
  subst hx
  have hx := hR1 _ rfl
  rw [hx] at hm
  have h := hm
  exact AW.res [(3, (AV.str out8))] [] ⟨rfl, trivial⟩ trivial (KJ7 (out8) _ _ h)
theorem spec_l08Ok_ok {v1 : Stream} {z2 : Nat} {f3 : Bool} {e4 : List AV} {z6 : Nat} {f7 : Bool} {e8 : List AV} {z10 : Nat} {f11 : Bool} {e12 : List AV} {z14 : Nat} {f15 : Bool} {e16 : List AV} {z18 : Nat} {f19 : Bool} {e20 : List AV} {s : St} (h5 : LR rB 1 v1.Checker.Accept z2 e4) (h9 : LR (rL rPush 2) 1 v1.Checker.Call z6 e8) (h13 : LR (rL (rL (rI .i64) 1) 1) 1 v1.Checker.Return z10 e12) (h17 : LR (rL (rI .i64) 1) 1 v1.Checker.Inner z14 e16) (h21 : LR rS 1 v1.Pieces z18 e20) {r : Bool} (h : spec_l08Ok v1 = some r) (hs : WF s) : ACall Cf 41 [(AV.eptr [(AV.int .i64 v1.Checker.Stack), (AV.int .i64 v1.Checker.Start), (AV.sl z2 f3 e4), (AV.sl z6 f7 e8), (AV.sl z10 f11 e12), (AV.sl z14 f15 e16), (AV.sl z18 f19 e20)] 0)] s fun v _ s' => (rB) r v ∧ s' = s := by
  refine ACall.pure rfl rfl rfl .B ?_
  have hWF := hs.lo'
  unfold spec_l08Ok at h
  refine AW.seq ?_
  refine AW.region ?_
  refine AOps.pureR rfl rfl rfl rfl rfl (rfl : _ = (AV.bool false)) ?_
  refine AOps.nilR ?_
  refine AW.seq ?_
  refine AW.seq ?_
  refine AW.region ?_
  refine AOps.pureR rfl rfl rfl rfl rfl (rfl : _ = (AV.eptr [(AV.int .i64 v1.Checker.Stack), (AV.int .i64 v1.Checker.Start), (AV.sl z2 f3 e4), (AV.sl z6 f7 e8), (AV.sl z10 f11 e12), (AV.sl z14 f15 e16), (AV.sl z18 f19 e20)] 0)) ?_
  refine AOps.pureR rfl rfl rfl rfl rfl (rfl : _ = (AV.eptr [(AV.int .i64 v1.Checker.Stack), (AV.int .i64 v1.Checker.Start), (AV.sl z2 f3 e4), (AV.sl z6 f7 e8), (AV.sl z10 f11 e12), (AV.sl z14 f15 e16), (AV.sl z18 f19 e20)] 0)) ?_
  refine AOps.pureR rfl rfl rfl rfl rfl (rfl : _ = (AV.eptr [(AV.int .i64 v1.Checker.Stack), (AV.int .i64 v1.Checker.Start), (AV.sl z2 f3 e4), (AV.sl z6 f7 e8), (AV.sl z10 f11 e12), (AV.sl z14 f15 e16), (AV.sl z18 f19 e20)] 0)) ?_
  obtain ⟨y22, h23, h⟩ := obind h
  refine AOps.callP (g := 81) (args := [(AV.eptr [(AV.int .i64 v1.Checker.Stack), (AV.int .i64 v1.Checker.Start), (AV.sl z2 f3 e4), (AV.sl z6 f7 e8), (AV.sl z10 f11 e12), (AV.sl z14 f15 e16), (AV.sl z18 f19 e20)] 0)]) (p := (rB) y22) rfl rfl rfl (spec_l02Ok_w0_7_ok h5 h9 h13 h17 h23 hWF) ?_
  intro _ o25 h24
  cases h24
  refine AOps.pureR rfl rfl rfl rfl rfl (rfl : _ = (AV.bool (!y22))) ?_
  refine AOps.pureR rfl rfl rfl rfl rfl (rfl : _ = (AV.bool (!y22))) ?_
  obtain ⟨b27, hb, h⟩ := obind h
  refine AOps.split 8 (fun f' => ∃ tm' os', f' = ⟨updL tm' [(0, (AV.eptr [(AV.int .i64 v1.Checker.Stack), (AV.int .i64 v1.Checker.Start), (AV.sl z2 f3 e4), (AV.sl z6 f7 e8), (AV.sl z10 f11 e12), (AV.sl z14 f15 e16), (AV.sl z18 f19 e20)] 0)), (17, (AV.bool b27))], updL os' [], { s with lo := s.n }⟩) ?_ ?_
  · rcases oite hb with ⟨hc26, hb⟩ | ⟨hc26, hb⟩
    · refine AOps.know (d := 9) rfl hc26 ?_
      refine AOps.skipR rfl rfl ?_
      refine AOps.skipR rfl rfl ?_
      refine AOps.skipR rfl rfl ?_
      refine AOps.skipR rfl rfl ?_
      refine AOps.skipR rfl rfl ?_
      refine AOps.skipR rfl rfl ?_
      refine AOps.skipR rfl rfl ?_
      refine AOps.pureR rfl rfl rfl rfl rfl (rfl : _ = (AV.bool true)) ?_
      refine AOps.resR [(0, (AV.eptr [(AV.int .i64 v1.Checker.Stack), (AV.int .i64 v1.Checker.Start), (AV.sl z2 f3 e4), (AV.sl z6 f7 e8), (AV.sl z10 f11 e12), (AV.sl z14 f15 e16), (AV.sl z18 f19 e20)] 0)), (17, (AV.bool b27))] [] ?_ ?_ _ ⟨_, _, rfl⟩
      · exact ⟨rfl, congrArg AV.bool (Option.some.inj hb), trivial⟩
      exact trivial
    · have h := hb
      refine AOps.know (d := 9) rfl hc26 ?_
      refine AOps.pureR rfl rfl rfl rfl rfl (rfl : _ = (AV.eptr [(AV.int .i64 v1.Checker.Stack), (AV.int .i64 v1.Checker.Start), (AV.sl z2 f3 e4), (AV.sl z6 f7 e8), (AV.sl z10 f11 e12), (AV.sl z14 f15 e16), (AV.sl z18 f19 e20)] 0)) ?_
      refine AOps.pureR rfl rfl rfl rfl rfl (rfl : _ = (AV.eptr [(AV.int .i64 v1.Checker.Stack), (AV.int .i64 v1.Checker.Start), (AV.sl z2 f3 e4), (AV.sl z6 f7 e8), (AV.sl z10 f11 e12), (AV.sl z14 f15 e16), (AV.sl z18 f19 e20)] 0)) ?_
      refine AOps.pureR rfl rfl rfl rfl rfl (rfl : _ = (AV.eptr [(AV.int .i64 v1.Checker.Stack), (AV.int .i64 v1.Checker.Start), (AV.sl z2 f3 e4), (AV.sl z6 f7 e8), (AV.sl z10 f11 e12), (AV.sl z14 f15 e16), (AV.sl z18 f19 e20)] 6)) ?_
      refine AOps.ldE (v := (AV.sl z18 f19 e20)) rfl rfl rfl rfl rfl rfl ?_
      refine AOps.pureR rfl rfl rfl rfl rfl (len_eq h21) ?_
      obtain ⟨y28, h29, h⟩ := obind h
      refine AOps.callP (g := 52) (args := [(AV.int .i64 (v1.Pieces.length : Int)), (AV.int .i64 1), (AV.int .i64 20)]) (p := (rB) y28) rfl rfl rfl (spec_l00In_ok  h29 hWF) ?_
      intro _ o31 h30
      cases h30
      refine AOps.pureR rfl rfl rfl rfl rfl (rfl : _ = (AV.bool (!y28))) ?_
      refine AOps.pureR rfl rfl rfl rfl rfl (rfl : _ = (AV.bool (!y28))) ?_
      refine AOps.resR [(0, (AV.eptr [(AV.int .i64 v1.Checker.Stack), (AV.int .i64 v1.Checker.Start), (AV.sl z2 f3 e4), (AV.sl z6 f7 e8), (AV.sl z10 f11 e12), (AV.sl z14 f15 e16), (AV.sl z18 f19 e20)] 0)), (17, (AV.bool b27))] [] ?_ ?_ _ ⟨_, _, rfl⟩
      · exact ⟨rfl, congrArg AV.bool (Option.some.inj h), trivial⟩
      exact trivial
  rintro _ ⟨tm, os, rfl⟩
  refine AOps.nilR ?_
  rcases oite h with ⟨hc32, h⟩ | ⟨hc32, h⟩
  · refine AW.condT (congrArg AV.bool hc32) ?_
    refine AW.seq ?_
    refine AW.region ?_
    refine AOps.pureR rfl rfl rfl rfl rfl (rfl : _ = (AV.bool false)) ?_
    refine AOps.nilR ?_
    cases h
    exact AW.ret ⟨rfl, _, _, rfl, rfl⟩
  refine AW.condF (congrArg AV.bool hc32) ?_
  refine AW.skip ?_
  refine AW.seq ?_
  refine AW.seq ?_
  refine AW.region ?_
  refine AOps.pureR rfl rfl rfl rfl rfl (rfl : _ = (AV.int .i64 0)) ?_
  refine AOps.nilR ?_
  refine AW.meet (σ := Unit) (fun _ tm os => ⟨updL tm [(0, (AV.eptr [(AV.int .i64 v1.Checker.Stack), (AV.int .i64 v1.Checker.Start), (AV.sl z2 f3 e4), (AV.sl z6 f7 e8), (AV.sl z10 f11 e12), (AV.sl z14 f15 e16), (AV.sl z18 f19 e20)] 0))], updL os [], { s with lo := s.n }⟩) (fun _ => spec_l08Ok_J1 v1 = some r) ?_ ?_
  · rintro _ tm os h
    unfold spec_l08Ok_J1 at h
    refine AW.seq ?_
    refine AW.region ?_
    refine AOps.pureR rfl rfl rfl rfl rfl (rfl : _ = (AV.eptr [(AV.int .i64 v1.Checker.Stack), (AV.int .i64 v1.Checker.Start), (AV.sl z2 f3 e4), (AV.sl z6 f7 e8), (AV.sl z10 f11 e12), (AV.sl z14 f15 e16), (AV.sl z18 f19 e20)] 0)) ?_
    refine AOps.pureR rfl rfl rfl rfl rfl (rfl : _ = (AV.eptr [(AV.int .i64 v1.Checker.Stack), (AV.int .i64 v1.Checker.Start), (AV.sl z2 f3 e4), (AV.sl z6 f7 e8), (AV.sl z10 f11 e12), (AV.sl z14 f15 e16), (AV.sl z18 f19 e20)] 0)) ?_
    refine AOps.pureR rfl rfl rfl rfl rfl (rfl : _ = (AV.eptr [(AV.int .i64 v1.Checker.Stack), (AV.int .i64 v1.Checker.Start), (AV.sl z2 f3 e4), (AV.sl z6 f7 e8), (AV.sl z10 f11 e12), (AV.sl z14 f15 e16), (AV.sl z18 f19 e20)] 6)) ?_
    refine AOps.ldE (v := (AV.sl z18 f19 e20)) rfl rfl rfl rfl rfl rfl ?_
    obtain ⟨y34, h35, h⟩ := obind h
    refine AOps.callP (g := 51) (args := [(AV.sl z18 f19 e20)]) (p := (rS) y34) rfl rfl rfl (spec_l08Whole_ok h21 h35 hWF) ?_
    intro _ o37 h36
    cases h36
    obtain ⟨y38, h39, h⟩ := obind h
    refine AOps.callP (g := 30) (args := [(AV.str y34)]) (p := (rB) y38) rfl rfl rfl (spec_l01Ok_ok  h39 hWF) ?_
    intro _ o41 h40
    cases h40
    refine AOps.assignR rfl rfl rfl (rfl : _ = (AV.bool y38)) rfl ?_
    refine AOps.nilR ?_
    cases h
    exact AW.ret ⟨rfl, _, _, rfl, rfl⟩
  intro KJ33
  refine AW.block ?_
  refine AW.res [(0, (AV.eptr [(AV.int .i64 v1.Checker.Stack), (AV.int .i64 v1.Checker.Start), (AV.sl z2 f3 e4), (AV.sl z6 f7 e8), (AV.sl z10 f11 e12), (AV.sl z14 f15 e16), (AV.sl z18 f19 e20)] 0)), (3, (AV.int .i64 0))] [] ⟨rfl, rfl, trivial⟩ trivial ?_
  refine AW.loopF (σ := Int) (τ := Unit) (fun i42 _ => True) (fun i42 _ tm os => ⟨updL tm [(0, (AV.eptr [(AV.int .i64 v1.Checker.Stack), (AV.int .i64 v1.Checker.Start), (AV.sl z2 f3 e4), (AV.sl z6 f7 e8), (AV.sl z10 f11 e12), (AV.sl z14 f15 e16), (AV.sl z18 f19 e20)] 0)), (3, (AV.int .i64 i42))], updL os [], { s with lo := s.n }⟩) ?_ (x := (0)) (y := ()) h trivial
  clear h
  rintro i42 _ tm os - e1 h hL1 hR1
  unfold spec_l08Ok_S1 at h
  refine AW.seq ?_
  refine AW.seq ?_
  refine AW.region ?_
  refine AOps.pureR rfl rfl rfl rfl rfl (rfl : _ = (AV.int .i64 i42)) ?_
  refine AOps.pureR rfl rfl rfl rfl rfl (rfl : _ = (AV.eptr [(AV.int .i64 v1.Checker.Stack), (AV.int .i64 v1.Checker.Start), (AV.sl z2 f3 e4), (AV.sl z6 f7 e8), (AV.sl z10 f11 e12), (AV.sl z14 f15 e16), (AV.sl z18 f19 e20)] 0)) ?_
  refine AOps.pureR rfl rfl rfl rfl rfl (rfl : _ = (AV.eptr [(AV.int .i64 v1.Checker.Stack), (AV.int .i64 v1.Checker.Start), (AV.sl z2 f3 e4), (AV.sl z6 f7 e8), (AV.sl z10 f11 e12), (AV.sl z14 f15 e16), (AV.sl z18 f19 e20)] 0)) ?_
  refine AOps.pureR rfl rfl rfl rfl rfl (rfl : _ = (AV.eptr [(AV.int .i64 v1.Checker.Stack), (AV.int .i64 v1.Checker.Start), (AV.sl z2 f3 e4), (AV.sl z6 f7 e8), (AV.sl z10 f11 e12), (AV.sl z14 f15 e16), (AV.sl z18 f19 e20)] 6)) ?_
  refine AOps.ldE (v := (AV.sl z18 f19 e20)) rfl rfl rfl rfl rfl rfl ?_
  refine AOps.pureR rfl rfl rfl rfl rfl (len_eq h21) ?_
  refine AOps.pureR rfl rfl rfl rfl rfl (rfl : _ = (AV.bool (decide ((i42 : Int) < (v1.Pieces.length : Int))))) ?_
  refine AOps.nilR ?_
  rcases oite h with ⟨hc43, h⟩ | ⟨hc43, h⟩
  · refine AW.condT (congrArg AV.bool hc43) ?_
    refine AW.skip ?_
    refine AW.seq ?_
    refine AW.block ?_
    refine AW.seq ?_
    refine AW.region ?_
    refine AOps.pureR rfl rfl rfl rfl rfl (rfl : _ = (AV.eptr [(AV.int .i64 v1.Checker.Stack), (AV.int .i64 v1.Checker.Start), (AV.sl z2 f3 e4), (AV.sl z6 f7 e8), (AV.sl z10 f11 e12), (AV.sl z14 f15 e16), (AV.sl z18 f19 e20)] 0)) ?_
    refine AOps.pureR rfl rfl rfl rfl rfl (rfl : _ = (AV.eptr [(AV.int .i64 v1.Checker.Stack), (AV.int .i64 v1.Checker.Start), (AV.sl z2 f3 e4), (AV.sl z6 f7 e8), (AV.sl z10 f11 e12), (AV.sl z14 f15 e16), (AV.sl z18 f19 e20)] 0)) ?_
    refine AOps.pureR rfl rfl rfl rfl rfl (rfl : _ = (AV.eptr [(AV.int .i64 v1.Checker.Stack), (AV.int .i64 v1.Checker.Start), (AV.sl z2 f3 e4), (AV.sl z6 f7 e8), (AV.sl z10 f11 e12), (AV.sl z14 f15 e16), (AV.sl z18 f19 e20)] 6)) ?_
    refine AOps.ldE (v := (AV.sl z18 f19 e20)) rfl rfl rfl rfl rfl rfl ?_
    refine AOps.pureR rfl rfl rfl rfl rfl (rfl : _ = (AV.int .i64 i42)) ?_
    obtain ⟨x44, h45, h⟩ := obind h
    obtain ⟨v48, h46, h47⟩ := idx_sl h21 h45
    cases h46
    refine AOps.pureR rfl rfl rfl h47 rfl (rfl : _ = (AV.eptr [(AV.str x44)] 0)) ?_
    refine AOps.ldE (v := (AV.str x44)) rfl rfl rfl rfl rfl rfl ?_
    obtain ⟨y49, h50, h⟩ := obind h
    refine AOps.callP (g := 30) (args := [(AV.str x44)]) (p := (rB) y49) rfl rfl rfl (spec_l01Ok_ok  h50 hWF) ?_
    intro _ o52 h51
    cases h51
    refine AOps.pureR rfl rfl rfl rfl rfl (rfl : _ = (AV.bool (!y49))) ?_
    refine AOps.nilR ?_
    rcases oite h with ⟨hc53, h⟩ | ⟨hc53, h⟩
    · refine AW.condT (congrArg AV.bool hc53) ?_
      refine AW.seq ?_
      refine AW.region ?_
      refine AOps.pureR rfl rfl rfl rfl rfl (rfl : _ = (AV.bool false)) ?_
      refine AOps.nilR ?_
      cases h
      have hr := hR1 _ rfl
      subst hr
      exact AW.ret ⟨rfl, _, _, rfl, rfl⟩
    refine AW.condF (congrArg AV.bool hc53) ?_
    refine AW.skip ?_
    refine AW.inBlock ?_
    refine AW.region ?_
    refine AOps.pureR rfl rfl rfl rfl rfl (rfl : _ = (AV.int .i64 i42)) ?_
    refine AOps.pureR rfl rfl rfl rfl rfl (rfl : _ = (AV.int .i64 (IntKind.wrap .i64 (i42 + 1)))) ?_
    refine AOps.assignR rfl rfl rfl (rfl : _ = (AV.int .i64 (IntKind.wrap .i64 (i42 + 1)))) rfl ?_
    refine AOps.nilR ?_
    cases h
    exact AW.res [(0, (AV.eptr [(AV.int .i64 v1.Checker.Stack), (AV.int .i64 v1.Checker.Start), (AV.sl z2 f3 e4), (AV.sl z6 f7 e8), (AV.sl z10 f11 e12), (AV.sl z14 f15 e16), (AV.sl z18 f19 e20)] 0)), (3, (AV.int .i64 (IntKind.wrap .i64 (i42 + 1))))] [] ⟨rfl, rfl, trivial⟩ trivial (hL1 _ rfl () _ _ trivial)
  refine AW.condF (congrArg AV.bool hc43) ?_
  refine AW.exit rfl ?_
  obtain ⟨r54, hm, hx⟩ := omap h
  clear h
  subst hx
  have hx := hR1 _ rfl
  rw [hx] at hm
  have h := hm
  exact AW.res [(0, (AV.eptr [(AV.int .i64 v1.Checker.Stack), (AV.int .i64 v1.Checker.Start), (AV.sl z2 f3 e4), (AV.sl z6 f7 e8), (AV.sl z10 f11 e12), (AV.sl z14 f15 e16), (AV.sl z18 f19 e20)] 0))] [] ⟨rfl, trivial⟩ trivial (KJ33 () _ _ h)
theorem spec_ValidStream_ok {v1 : Stream} {z2 : Nat} {f3 : Bool} {e4 : List AV} {z6 : Nat} {f7 : Bool} {e8 : List AV} {z10 : Nat} {f11 : Bool} {e12 : List AV} {z14 : Nat} {f15 : Bool} {e16 : List AV} {z18 : Nat} {f19 : Bool} {e20 : List AV} {s : St} (h5 : LR rB 1 v1.Checker.Accept z2 e4) (h9 : LR (rL rPush 2) 1 v1.Checker.Call z6 e8) (h13 : LR (rL (rL (rI .i64) 1) 1) 1 v1.Checker.Return z10 e12) (h17 : LR (rL (rI .i64) 1) 1 v1.Checker.Inner z14 e16) (h21 : LR rS 1 v1.Pieces z18 e20) {r : Bool} (h : spec_ValidStream v1 = some r) (hs : WF s) : ACall Cf 17 [(AV.agg [(AV.int .i64 v1.Checker.Stack), (AV.int .i64 v1.Checker.Start), (AV.sl z2 f3 e4), (AV.sl z6 f7 e8), (AV.sl z10 f11 e12), (AV.sl z14 f15 e16), (AV.sl z18 f19 e20)])] s fun v _ s' => (rB) r v ∧ s' = s := by
  refine ACall.pure rfl rfl rfl .B ?_
  have hWF := hs.lo'
  unfold spec_ValidStream at h
  refine AW.seq ?_
  refine AW.region ?_
  refine AOps.makeR rfl rfl rfl rfl rfl rfl (rfl : _ = (AV.eptr [(AV.int .i64 v1.Checker.Stack), (AV.int .i64 v1.Checker.Start), (AV.sl z2 f3 e4), (AV.sl z6 f7 e8), (AV.sl z10 f11 e12), (AV.sl z14 f15 e16), (AV.sl z18 f19 e20)] 0)) ?_
  refine AOps.pureR rfl rfl rfl rfl rfl (rfl : _ = (AV.bool false)) ?_
  refine AOps.nilR ?_
  refine AW.seq ?_
  refine AW.region ?_
  obtain ⟨y22, h23, h⟩ := obind h
  refine AOps.callP (g := 41) (args := [(AV.eptr [(AV.int .i64 v1.Checker.Stack), (AV.int .i64 v1.Checker.Start), (AV.sl z2 f3 e4), (AV.sl z6 f7 e8), (AV.sl z10 f11 e12), (AV.sl z14 f15 e16), (AV.sl z18 f19 e20)] 0)]) (p := (rB) y22) rfl rfl rfl (spec_l08Ok_ok h5 h9 h13 h17 h21 h23 hWF) ?_
  intro _ o25 h24
  cases h24
  refine AOps.assignR rfl rfl rfl (rfl : _ = (AV.bool y22)) rfl ?_
  refine AOps.nilR ?_
  cases h
  exact AW.ret ⟨rfl, _, _, rfl, rfl⟩
theorem impl_size_bool_ok {list1 : List Bool} {z2 : Nat} {f3 : Bool} {e4 : List AV} {s : St} (h5 : LR rB 1 list1 z2 e4) {r : Int} (h : impl_size_bool list1 = some r) (hs : WF s) : ACall Cf 86 [(AV.sl z2 f3 e4)] s fun v _ s' => (rI .i64) r v ∧ s' = s := by
  refine ACall.pure rfl rfl rfl .I ?_
  have hWF := hs.lo'
  unfold impl_size_bool at h
  refine AW.seq ?_
  refine AW.region ?_
  refine AOps.pureR rfl rfl rfl rfl rfl (rfl : _ = (AV.int .i64 0)) ?_
  refine AOps.nilR ?_
  refine AW.seq ?_
  refine AW.region ?_
  refine AOps.pureR rfl rfl rfl rfl rfl (rfl : _ = (AV.sl z2 f3 e4)) ?_
  refine AOps.pureR rfl rfl rfl rfl rfl (len_eq h5) ?_
  refine AOps.assignR rfl rfl rfl (rfl : _ = (AV.int .i64 (list1.length : Int))) rfl ?_
  refine AOps.nilR ?_
  cases h
  exact AW.ret ⟨rfl, _, _, rfl, rfl⟩
theorem impl_within_ok {n1 : Int} {low2 : Int} {high3 : Int} {s : St} {r : Bool} (h : impl_within n1 low2 high3 = some r) (hs : WF s) : ACall Cf 27 [(AV.int .i64 n1), (AV.int .i64 low2), (AV.int .i64 high3)] s fun v _ s' => (rB) r v ∧ s' = s := by
  refine ACall.pure rfl rfl rfl .B ?_
  have hWF := hs.lo'
  unfold impl_within at h
  refine AW.seq ?_
  refine AW.region ?_
  refine AOps.pureR rfl rfl rfl rfl rfl (rfl : _ = (AV.bool false)) ?_
  refine AOps.nilR ?_
  refine AW.seq ?_
  refine AW.region ?_
  refine AOps.pureR rfl rfl rfl rfl rfl (rfl : _ = (AV.int .i64 n1)) ?_
  refine AOps.pureR rfl rfl rfl rfl rfl (rfl : _ = (AV.int .i64 low2)) ?_
  refine AOps.pureR rfl rfl rfl rfl rfl (rfl : _ = (AV.bool (decide ((n1 : Int) ≥ low2)))) ?_
  refine AOps.pureR rfl rfl rfl rfl rfl (rfl : _ = (AV.bool (decide ((n1 : Int) ≥ low2)))) ?_
  refine AOps.split 4 (fun f' => ∃ tm' os', f' = ⟨updL tm' [(14, (AV.bool ((decide ((n1 : Int) ≥ low2)) && (decide ((n1 : Int) ≤ high3)))))], updL os' [], { s with lo := s.n }⟩) ?_ ?_
  · rcases Bool.eq_false_or_eq_true (decide ((n1 : Int) ≥ low2)) with hc4 | hc4
    · refine AOps.know (d := 10) rfl hc4 ?_
      refine AOps.pureR rfl rfl rfl rfl rfl (rfl : _ = (AV.int .i64 n1)) ?_
      refine AOps.pureR rfl rfl rfl rfl rfl (rfl : _ = (AV.int .i64 high3)) ?_
      refine AOps.pureR rfl rfl rfl rfl rfl (rfl : _ = (AV.bool (decide ((n1 : Int) ≤ high3)))) ?_
      refine AOps.pureR rfl rfl rfl rfl rfl (rfl : _ = (AV.bool (decide ((n1 : Int) ≤ high3)))) ?_
      refine AOps.resR [(14, (AV.bool ((decide ((n1 : Int) ≥ low2)) && (decide ((n1 : Int) ≤ high3)))))] [] ?_ ?_ _ ⟨_, _, rfl⟩
      · exact ⟨congrArg AV.bool (and_t hc4), trivial⟩
      exact trivial
    · refine AOps.know (d := 10) rfl hc4 ?_
      refine AOps.skipR rfl rfl ?_
      refine AOps.skipR rfl rfl ?_
      refine AOps.skipR rfl rfl ?_
      refine AOps.pureR rfl rfl rfl rfl rfl (rfl : _ = (AV.bool false)) ?_
      refine AOps.resR [(14, (AV.bool ((decide ((n1 : Int) ≥ low2)) && (decide ((n1 : Int) ≤ high3)))))] [] ?_ ?_ _ ⟨_, _, rfl⟩
      · exact ⟨congrArg AV.bool (and_f hc4), trivial⟩
      exact trivial
  rintro _ ⟨tm, os, rfl⟩
  refine AOps.assignR rfl rfl rfl (rfl : _ = (AV.bool ((decide ((n1 : Int) ≥ low2)) && (decide ((n1 : Int) ≤ high3))))) rfl ?_
  refine AOps.nilR ?_
  cases h
  exact AW.ret ⟨rfl, _, _, rfl, rfl⟩
theorem impl_Checker_isState_ok {c1 : Checker} {s18 : Int} {z2 : Nat} {f3 : Bool} {e4 : List AV} {z6 : Nat} {f7 : Bool} {e8 : List AV} {z10 : Nat} {f11 : Bool} {e12 : List AV} {z14 : Nat} {f15 : Bool} {e16 : List AV} {s : St} (h5 : LR rB 1 c1.Accept z2 e4) (h9 : LR (rL rPush 2) 1 c1.Call z6 e8) (h13 : LR (rL (rL (rI .i64) 1) 1) 1 c1.Return z10 e12) (h17 : LR (rL (rI .i64) 1) 1 c1.Inner z14 e16) {r : Bool} (h : impl_Checker_isState c1 s18 = some r) (hs : WF s) : ACall Cf 87 [(AV.agg [(AV.int .i64 c1.Stack), (AV.int .i64 c1.Start), (AV.sl z2 f3 e4), (AV.sl z6 f7 e8), (AV.sl z10 f11 e12), (AV.sl z14 f15 e16)]), (AV.int .i64 s18)] s fun v _ s' => (rB) r v ∧ s' = s := by
  refine ACall.pure rfl rfl rfl .B ?_
  have hWF := hs.lo'
  unfold impl_Checker_isState at h
  refine AW.seq ?_
  refine AW.region ?_
  refine AOps.makeR rfl rfl rfl rfl rfl rfl (rfl : _ = (AV.eptr [(AV.int .i64 c1.Stack), (AV.int .i64 c1.Start), (AV.sl z2 f3 e4), (AV.sl z6 f7 e8), (AV.sl z10 f11 e12), (AV.sl z14 f15 e16)] 0)) ?_
  refine AOps.pureR rfl rfl rfl rfl rfl (rfl : _ = (AV.bool false)) ?_
  refine AOps.nilR ?_
  refine AW.seq ?_
  refine AW.region ?_
  refine AOps.pureR rfl rfl rfl rfl rfl (rfl : _ = (AV.int .i64 s18)) ?_
  refine AOps.pureR rfl rfl rfl rfl rfl (rfl : _ = (AV.eptr [(AV.int .i64 c1.Stack), (AV.int .i64 c1.Start), (AV.sl z2 f3 e4), (AV.sl z6 f7 e8), (AV.sl z10 f11 e12), (AV.sl z14 f15 e16)] 2)) ?_
  refine AOps.ldE (v := (AV.sl z2 f3 e4)) rfl rfl rfl rfl rfl rfl ?_
  obtain ⟨y19, h20, h⟩ := obind h
  refine AOps.callP (g := 86) (args := [(AV.sl z2 f3 e4)]) (p := (rI .i64) y19) rfl rfl rfl (impl_size_bool_ok h5 h20 hWF) ?_
  intro _ o22 h21
  cases h21
  refine AOps.pureR rfl rfl rfl rfl rfl (rfl : _ = (AV.int .i64 (IntKind.wrap .i64 (y19 - 1)))) ?_
  obtain ⟨y23, h24, h⟩ := obind h
  refine AOps.callP (g := 27) (args := [(AV.int .i64 s18), (AV.int .i64 0), (AV.int .i64 (IntKind.wrap .i64 (y19 - 1)))]) (p := (rB) y23) rfl rfl rfl (impl_within_ok  h24 hWF) ?_
  intro _ o26 h25
  cases h25
  refine AOps.assignR rfl rfl rfl (rfl : _ = (AV.bool y23)) rfl ?_
  refine AOps.nilR ?_
  cases h
  exact AW.ret ⟨rfl, _, _, rfl, rfl⟩
theorem impl_size_simpl_Push_ok {list1 : List (List Push)} {z2 : Nat} {f3 : Bool} {e4 : List AV} {s : St} (h5 : LR (rL rPush 2) 1 list1 z2 e4) {r : Int} (h : impl_size_simpl_Push list1 = some r) (hs : WF s) : ACall Cf 88 [(AV.sl z2 f3 e4)] s fun v _ s' => (rI .i64) r v ∧ s' = s := by
  refine ACall.pure rfl rfl rfl .I ?_
  have hWF := hs.lo'
  unfold impl_size_simpl_Push at h
  refine AW.seq ?_
  refine AW.region ?_
  refine AOps.pureR rfl rfl rfl rfl rfl (rfl : _ = (AV.int .i64 0)) ?_
  refine AOps.nilR ?_
  refine AW.seq ?_
  refine AW.region ?_
  refine AOps.pureR rfl rfl rfl rfl rfl (rfl : _ = (AV.sl z2 f3 e4)) ?_
  refine AOps.pureR rfl rfl rfl rfl rfl (len_eq h5) ?_
  refine AOps.assignR rfl rfl rfl (rfl : _ = (AV.int .i64 (list1.length : Int))) rfl ?_
  refine AOps.nilR ?_
  cases h
  exact AW.ret ⟨rfl, _, _, rfl, rfl⟩
theorem impl_size_s_int64_ok {list1 : List (List (List Int))} {z2 : Nat} {f3 : Bool} {e4 : List AV} {s : St} (h5 : LR (rL (rL (rI .i64) 1) 1) 1 list1 z2 e4) {r : Int} (h : impl_size_s_int64 list1 = some r) (hs : WF s) : ACall Cf 89 [(AV.sl z2 f3 e4)] s fun v _ s' => (rI .i64) r v ∧ s' = s := by
  refine ACall.pure rfl rfl rfl .I ?_
  have hWF := hs.lo'
  unfold impl_size_s_int64 at h
  refine AW.seq ?_
  refine AW.region ?_
  refine AOps.pureR rfl rfl rfl rfl rfl (rfl : _ = (AV.int .i64 0)) ?_
  refine AOps.nilR ?_
  refine AW.seq ?_
  refine AW.region ?_
  refine AOps.pureR rfl rfl rfl rfl rfl (rfl : _ = (AV.sl z2 f3 e4)) ?_
  refine AOps.pureR rfl rfl rfl rfl rfl (len_eq h5) ?_
  refine AOps.assignR rfl rfl rfl (rfl : _ = (AV.int .i64 (list1.length : Int))) rfl ?_
  refine AOps.nilR ?_
  cases h
  exact AW.ret ⟨rfl, _, _, rfl, rfl⟩
theorem impl_size_sint64_ok {list1 : List (List Int)} {z2 : Nat} {f3 : Bool} {e4 : List AV} {s : St} (h5 : LR (rL (rI .i64) 1) 1 list1 z2 e4) {r : Int} (h : impl_size_sint64 list1 = some r) (hs : WF s) : ACall Cf 90 [(AV.sl z2 f3 e4)] s fun v _ s' => (rI .i64) r v ∧ s' = s := by
  refine ACall.pure rfl rfl rfl .I ?_
  have hWF := hs.lo'
  unfold impl_size_sint64 at h
  refine AW.seq ?_
  refine AW.region ?_
  refine AOps.pureR rfl rfl rfl rfl rfl (rfl : _ = (AV.int .i64 0)) ?_
  refine AOps.nilR ?_
  refine AW.seq ?_
  refine AW.region ?_
  refine AOps.pureR rfl rfl rfl rfl rfl (rfl : _ = (AV.sl z2 f3 e4)) ?_
  refine AOps.pureR rfl rfl rfl rfl rfl (len_eq h5) ?_
  refine AOps.assignR rfl rfl rfl (rfl : _ = (AV.int .i64 (list1.length : Int))) rfl ?_
  refine AOps.nilR ?_
  cases h
  exact AW.ret ⟨rfl, _, _, rfl, rfl⟩
theorem impl_size_int64_ok {list1 : List Int} {z2 : Nat} {f3 : Bool} {e4 : List AV} {s : St} (h5 : LR (rI .i64) 1 list1 z2 e4) {r : Int} (h : impl_size_int64 list1 = some r) (hs : WF s) : ACall Cf 92 [(AV.sl z2 f3 e4)] s fun v _ s' => (rI .i64) r v ∧ s' = s := by
  refine ACall.pure rfl rfl rfl .I ?_
  have hWF := hs.lo'
  unfold impl_size_int64 at h
  refine AW.seq ?_
  refine AW.region ?_
  refine AOps.pureR rfl rfl rfl rfl rfl (rfl : _ = (AV.int .i64 0)) ?_
  refine AOps.nilR ?_
  refine AW.seq ?_
  refine AW.region ?_
  refine AOps.pureR rfl rfl rfl rfl rfl (rfl : _ = (AV.sl z2 f3 e4)) ?_
  refine AOps.pureR rfl rfl rfl rfl rfl (len_eq h5) ?_
  refine AOps.assignR rfl rfl rfl (rfl : _ = (AV.int .i64 (list1.length : Int))) rfl ?_
  refine AOps.nilR ?_
  cases h
  exact AW.ret ⟨rfl, _, _, rfl, rfl⟩
theorem slices_IndexFunc_sint64_int64_ok {s1 : List Int} {f6 : Int → Option Bool} {z2 : Nat} {f3 : Bool} {e4 : List AV} {g7 : Nat} {cap8 : List AV} {s : St} (h5 : LR (rI .i64) 1 s1 z2 e4) (h9 : ∀ x vs y, Cs [(rI .i64) x] vs → f6 x = some y → ∀ s, WF s → ACall Cf g7 (vs ++ cap8) s fun v _ s' => (rB) y v ∧ s' = s) {r : Int} (h : slices_IndexFunc_sint64_int64 s1 f6 = some r) (hs : WF s) : ACall Cf 128 [(AV.sl z2 f3 e4), (AV.fn g7 cap8)] s fun v _ s' => (rI .i64) r v ∧ s' = s := by
  refine ACall.pure rfl rfl rfl .I ?_
  have hWF := hs.lo'
  unfold slices_IndexFunc_sint64_int64 at h
  refine AW.seq ?_
  refine AW.region ?_
  refine AOps.pureR rfl rfl rfl rfl rfl (rfl : _ = (AV.int .i64 0)) ?_
  refine AOps.nilR ?_
  refine AW.seq ?_
  refine AW.seq ?_
  refine AW.region ?_
  refine AOps.pureR rfl rfl rfl rfl rfl (rfl : _ = (AV.sl z2 f3 e4)) ?_
  refine AOps.pureR rfl rfl rfl rfl rfl (len_eq h5) ?_
  refine AOps.pureR rfl rfl rfl rfl rfl (rfl : _ = (AV.int .i64 0)) ?_
  refine AOps.nilR ?_
  refine AW.meet (σ := Unit) (fun _ tm os => ⟨updL tm [], updL os [], { s with lo := s.n }⟩) (fun _ => slices_IndexFunc_sint64_int64_J1 = some r) ?_ ?_
  · rintro _ tm os h
    unfold slices_IndexFunc_sint64_int64_J1 at h
    refine AW.seq ?_
    refine AW.region ?_
    refine AOps.pureR rfl rfl rfl rfl rfl (rfl : _ = (AV.int .i64 (-1))) ?_
    refine AOps.nilR ?_
    cases h
    exact AW.ret ⟨rfl, _, _, rfl, rfl⟩
  intro KJ10
  refine AW.block ?_
  refine AW.res [(0, (AV.sl z2 f3 e4)), (1, (AV.fn g7 cap8)), (7, (AV.int .i64 (s1.length : Int))), (8, (AV.int .i64 0))] [] ⟨rfl, rfl, rfl, rfl, trivial⟩ trivial ?_
  refine AW.loopF (σ := Int) (τ := Unit) (fun t11 _ => True) (fun t11 _ tm os => ⟨updL tm [(0, (AV.sl z2 f3 e4)), (1, (AV.fn g7 cap8)), (7, (AV.int .i64 (s1.length : Int))), (8, (AV.int .i64 t11))], updL os [], { s with lo := s.n }⟩) ?_ (x := (0)) (y := ()) h trivial
  clear h
  rintro t11 _ tm os - e1 h hL1 hR1
  unfold slices_IndexFunc_sint64_int64_S1 at h
  refine AW.seq ?_
  refine AW.region ?_
  refine AOps.pureR rfl rfl rfl rfl rfl (rfl : _ = (AV.bool (decide ((t11 : Int) < (s1.length : Int))))) ?_
  refine AOps.nilR ?_
  refine AW.seq ?_
  rcases oite h with ⟨hc12, h⟩ | ⟨hc12, h⟩
  · refine AW.condT (congrArg AV.bool hc12) ?_
    refine AW.skip ?_
    refine AW.seq ?_
    refine AW.block ?_
    refine AW.seq ?_
    refine AW.region ?_
    refine AOps.pureR rfl rfl rfl rfl rfl (rfl : _ = (AV.int .i64 t11)) ?_
    refine AOps.assignR rfl rfl rfl (rfl : _ = (AV.int .i64 t11)) rfl ?_
    refine AOps.nilR ?_
    refine AW.seq ?_
    refine AW.region ?_
    refine AOps.pureR rfl rfl rfl rfl rfl (rfl : _ = (AV.fn g7 cap8)) ?_
    refine AOps.pureR rfl rfl rfl rfl rfl (rfl : _ = (AV.sl z2 f3 e4)) ?_
    refine AOps.pureR rfl rfl rfl rfl rfl (rfl : _ = (AV.int .i64 t11)) ?_
    obtain ⟨x13, h14, h⟩ := obind h
    obtain ⟨v17, h15, h16⟩ := idx_sl h5 h14
    cases h15
    refine AOps.pureR rfl rfl rfl h16 rfl (rfl : _ = (AV.eptr [(AV.int .i64 x13)] 0)) ?_
    refine AOps.ldE (v := (AV.int .i64 x13)) rfl rfl rfl rfl rfl rfl ?_
    obtain ⟨y18, h19, h⟩ := obind h
    refine AOps.callP (g := g7) (args := ([(AV.int .i64 x13)] ++ cap8)) (p := (rB) y18) rfl rfl rfl (h9 x13 _ _ (.cons rfl .nil) h19 _ hWF) ?_
    intro _ o21 h20
    cases h20
    refine AOps.nilR ?_
    rcases oite h with ⟨hc22, h⟩ | ⟨hc22, h⟩
    · refine AW.condT (congrArg AV.bool hc22) ?_
      refine AW.seq ?_
      refine AW.region ?_
      refine AOps.pureR rfl rfl rfl rfl rfl (rfl : _ = (AV.int .i64 t11)) ?_
      refine AOps.assignR rfl rfl rfl (rfl : _ = (AV.int .i64 t11)) rfl ?_
      refine AOps.nilR ?_
      cases h
      have hr := hR1 _ rfl
      subst hr
      exact AW.ret ⟨rfl, _, _, rfl, rfl⟩
    refine AW.condF (congrArg AV.bool hc22) ?_
    refine AW.skip ?_
    refine AW.inBlock ?_
    refine AW.region ?_
    refine AOps.pureR rfl rfl rfl rfl rfl (rfl : _ = (AV.int .i64 (IntKind.wrap .i64 (t11 + 1)))) ?_
    refine AOps.pureR rfl rfl rfl rfl rfl (rfl : _ = (AV.int .i64 (IntKind.wrap .i64 (t11 + 1)))) ?_
    refine AOps.nilR ?_
    cases h
    exact AW.res [(0, (AV.sl z2 f3 e4)), (1, (AV.fn g7 cap8)), (7, (AV.int .i64 (s1.length : Int))), (8, (AV.int .i64 (IntKind.wrap .i64 (t11 + 1))))] [] ⟨rfl, rfl, rfl, rfl, trivial⟩ trivial (hL1 _ rfl () _ _ trivial)
  refine AW.condF (congrArg AV.bool hc12) ?_
  refine AW.exit rfl ?_
  obtain ⟨r23, hm, hx⟩ := omap h
  clear h
  subst hx
  have hx := hR1 _ rfl
  rw [hx] at hm
  have h := hm
  exact AW.res [] [] trivial trivial (KJ10 () _ _ h)
theorem slices_ContainsFunc_sint64_int64_ok {s1 : List Int} {f6 : Int → Option Bool} {z2 : Nat} {f3 : Bool} {e4 : List AV} {g7 : Nat} {cap8 : List AV} {s : St} (h5 : LR (rI .i64) 1 s1 z2 e4) (h9 : ∀ x vs y, Cs [(rI .i64) x] vs → f6 x = some y → ∀ s, WF s → ACall Cf g7 (vs ++ cap8) s fun v _ s' => (rB) y v ∧ s' = s) {r : Bool} (h : slices_ContainsFunc_sint64_int64 s1 f6 = some r) (hs : WF s) : ACall Cf 93 [(AV.sl z2 f3 e4), (AV.fn g7 cap8)] s fun v _ s' => (rB) r v ∧ s' = s := by
  refine ACall.pure rfl rfl rfl .B ?_
  have hWF := hs.lo'
  unfold slices_ContainsFunc_sint64_int64 at h
  refine AW.seq ?_
  refine AW.region ?_
  refine AOps.pureR rfl rfl rfl rfl rfl (rfl : _ = (AV.bool false)) ?_
  refine AOps.nilR ?_
  refine AW.seq ?_
  refine AW.region ?_
  refine AOps.pureR rfl rfl rfl rfl rfl (rfl : _ = (AV.sl z2 f3 e4)) ?_
  refine AOps.pureR rfl rfl rfl rfl rfl (rfl : _ = (AV.fn g7 cap8)) ?_
  obtain ⟨y10, h11, h⟩ := obind h
  refine AOps.callP (g := 128) (args := [(AV.sl z2 f3 e4), (AV.fn g7 cap8)]) (p := (rI .i64) y10) rfl rfl rfl (slices_IndexFunc_sint64_int64_ok h5 h9 h11 hWF) ?_
  intro _ o13 h12
  cases h12
  refine AOps.pureR rfl rfl rfl rfl rfl (rfl : _ = (AV.bool (decide ((y10 : Int) ≥ 0)))) ?_
  refine AOps.assignR rfl rfl rfl (rfl : _ = (AV.bool (decide ((y10 : Int) ≥ 0)))) rfl ?_
  refine AOps.nilR ?_
  cases h
  exact AW.ret ⟨rfl, _, _, rfl, rfl⟩
theorem impl_ValidChecker_1_1_ok {s1 : Int} {c2 : Checker} {z3 : Nat} {f4 : Bool} {e5 : List AV} {z7 : Nat} {f8 : Bool} {e9 : List AV} {z11 : Nat} {f12 : Bool} {e13 : List AV} {z15 : Nat} {f16 : Bool} {e17 : List AV} {s : St} (h6 : LR rB 1 c2.Accept z3 e5) (h10 : LR (rL rPush 2) 1 c2.Call z7 e9) (h14 : LR (rL (rL (rI .i64) 1) 1) 1 c2.Return z11 e13) (h18 : LR (rL (rI .i64) 1) 1 c2.Inner z15 e17) {r : Bool} (h : impl_ValidChecker_1_1 s1 c2 = some r) (hs : WF s) : ACall Cf 94 [(AV.int .i64 s1), (AV.eptr [(AV.int .i64 c2.Stack), (AV.int .i64 c2.Start), (AV.sl z3 f4 e5), (AV.sl z7 f8 e9), (AV.sl z11 f12 e13), (AV.sl z15 f16 e17)] 0)] s fun v _ s' => (rB) r v ∧ s' = s := by
  refine ACall.pure rfl rfl rfl .B ?_
  have hWF := hs.lo'
  unfold impl_ValidChecker_1_1 at h
  refine AW.seq ?_
  refine AW.region ?_
  refine AOps.pureR rfl rfl rfl rfl rfl (rfl : _ = (AV.bool false)) ?_
  refine AOps.nilR ?_
  refine AW.seq ?_
  refine AW.region ?_
  refine AOps.ldE (v := (AV.agg [(AV.int .i64 c2.Stack), (AV.int .i64 c2.Start), (AV.sl z3 f4 e5), (AV.sl z7 f8 e9), (AV.sl z11 f12 e13), (AV.sl z15 f16 e17)])) rfl rfl rfl rfl rfl rfl ?_
  refine AOps.pureR rfl rfl rfl rfl rfl (rfl : _ = (AV.int .i64 s1)) ?_
  obtain ⟨y19, h20, h⟩ := obind h
  refine AOps.callP (g := 87) (args := [(AV.agg [(AV.int .i64 c2.Stack), (AV.int .i64 c2.Start), (AV.sl z3 f4 e5), (AV.sl z7 f8 e9), (AV.sl z11 f12 e13), (AV.sl z15 f16 e17)]), (AV.int .i64 s1)]) (p := (rB) y19) rfl rfl rfl (impl_Checker_isState_ok h6 h10 h14 h18 h20 hWF) ?_
  intro _ o22 h21
  cases h21
  refine AOps.pureR rfl rfl rfl rfl rfl (rfl : _ = (AV.bool (!y19))) ?_
  refine AOps.assignR rfl rfl rfl (rfl : _ = (AV.bool (!y19))) rfl ?_
  refine AOps.nilR ?_
  cases h
  exact AW.ret ⟨rfl, _, _, rfl, rfl⟩
theorem impl_ValidChecker_1_ok {list1 : List Int} {many6 : Int} {c7 : Checker} {z2 : Nat} {f3 : Bool} {e4 : List AV} {z8 : Nat} {f9 : Bool} {e10 : List AV} {z12 : Nat} {f13 : Bool} {e14 : List AV} {z16 : Nat} {f17 : Bool} {e18 : List AV} {z20 : Nat} {f21 : Bool} {e22 : List AV} {s : St} (h5 : LR (rI .i64) 1 list1 z2 e4) (h11 : LR rB 1 c7.Accept z8 e10) (h15 : LR (rL rPush 2) 1 c7.Call z12 e14) (h19 : LR (rL (rL (rI .i64) 1) 1) 1 c7.Return z16 e18) (h23 : LR (rL (rI .i64) 1) 1 c7.Inner z20 e22) {r : Bool} (h : impl_ValidChecker_1 list1 many6 c7 = some r) (hs : WF s) : ACall Cf 91 [(AV.sl z2 f3 e4), (AV.int .i64 many6), (AV.eptr [(AV.int .i64 c7.Stack), (AV.int .i64 c7.Start), (AV.sl z8 f9 e10), (AV.sl z12 f13 e14), (AV.sl z16 f17 e18), (AV.sl z20 f21 e22)] 0)] s fun v _ s' => (rB) r v ∧ s' = s := by
  refine ACall.pure rfl rfl rfl .B ?_
  have hWF := hs.lo'
  unfold impl_ValidChecker_1 at h
  refine AW.seq ?_
  refine AW.region ?_
  refine AOps.pureR rfl rfl rfl rfl rfl (rfl : _ = (AV.bool false)) ?_
  refine AOps.nilR ?_
  refine AW.seq ?_
  refine AW.region ?_
  refine AOps.pureR rfl rfl rfl rfl rfl (rfl : _ = (AV.sl z2 f3 e4)) ?_
  obtain ⟨y24, h25, h⟩ := obind h
  refine AOps.callP (g := 92) (args := [(AV.sl z2 f3 e4)]) (p := (rI .i64) y24) rfl rfl rfl (impl_size_int64_ok h5 h25 hWF) ?_
  intro _ o27 h26
  cases h26
  refine AOps.pureR rfl rfl rfl rfl rfl (rfl : _ = (AV.int .i64 many6)) ?_
  refine AOps.pureR rfl rfl rfl rfl rfl (rfl : _ = (AV.bool (y24 == many6))) ?_
  refine AOps.pureR rfl rfl rfl rfl rfl (rfl : _ = (AV.bool (y24 == many6))) ?_
  obtain ⟨b29, hb, h⟩ := obind h
  refine AOps.split 5 (fun f' => ∃ tm' os', f' = ⟨updL tm' [(15, (AV.bool b29))], updL os' [], { s with lo := s.n }⟩) ?_ ?_
  · rcases oite hb with ⟨hc28, hb⟩ | ⟨hc28, hb⟩
    · have h := hb
      refine AOps.know (d := 10) rfl hc28 ?_
      refine AOps.pureR rfl rfl rfl rfl rfl (rfl : _ = (AV.sl z2 f3 e4)) ?_
      refine AOps.pureR rfl rfl rfl rfl rfl (rfl : _ = (AV.fn 94 [(AV.eptr [(AV.int .i64 c7.Stack), (AV.int .i64 c7.Start), (AV.sl z8 f9 e10), (AV.sl z12 f13 e14), (AV.sl z16 f17 e18), (AV.sl z20 f21 e22)] 0)])) ?_
      obtain ⟨y30, h31, h⟩ := obind h
      refine AOps.callP (g := 93) (args := [(AV.sl z2 f3 e4), (AV.fn 94 [(AV.eptr [(AV.int .i64 c7.Stack), (AV.int .i64 c7.Start), (AV.sl z8 f9 e10), (AV.sl z12 f13 e14), (AV.sl z16 f17 e18), (AV.sl z20 f21 e22)] 0)])]) (p := (rB) y30) rfl rfl rfl (slices_ContainsFunc_sint64_int64_ok h5 (by intro x vs y hc hx s hs; obtain ⟨_, _, rfl, hv0, hd0⟩ := Cs_cons hc; cases hv0; cases Cs_nil hd0; exact impl_ValidChecker_1_1_ok h11 h15 h19 h23 hx hs) h31 hWF) ?_
      intro _ o33 h32
      cases h32
      refine AOps.pureR rfl rfl rfl rfl rfl (rfl : _ = (AV.bool (!y30))) ?_
      refine AOps.pureR rfl rfl rfl rfl rfl (rfl : _ = (AV.bool (!y30))) ?_
      refine AOps.resR [(15, (AV.bool b29))] [] ?_ ?_ _ ⟨_, _, rfl⟩
      · exact ⟨congrArg AV.bool (Option.some.inj h), trivial⟩
      exact trivial
    · refine AOps.know (d := 10) rfl hc28 ?_
      refine AOps.skipR rfl rfl ?_
      refine AOps.skipR rfl rfl ?_
      refine AOps.skipR rfl rfl ?_
      refine AOps.skipR rfl rfl ?_
      refine AOps.pureR rfl rfl rfl rfl rfl (rfl : _ = (AV.bool false)) ?_
      refine AOps.resR [(15, (AV.bool b29))] [] ?_ ?_ _ ⟨_, _, rfl⟩
      · exact ⟨congrArg AV.bool (Option.some.inj hb), trivial⟩
      exact trivial
  rintro _ ⟨tm, os, rfl⟩
  refine AOps.assignR rfl rfl rfl (rfl : _ = (AV.bool b29)) rfl ?_
  refine AOps.nilR ?_
  cases h
  exact AW.ret ⟨rfl, _, _, rfl, rfl⟩
theorem impl_Checker_isMark_ok {c1 : Checker} {x18 : Int} {z2 : Nat} {f3 : Bool} {e4 : List AV} {z6 : Nat} {f7 : Bool} {e8 : List AV} {z10 : Nat} {f11 : Bool} {e12 : List AV} {z14 : Nat} {f15 : Bool} {e16 : List AV} {s : St} (h5 : LR rB 1 c1.Accept z2 e4) (h9 : LR (rL rPush 2) 1 c1.Call z6 e8) (h13 : LR (rL (rL (rI .i64) 1) 1) 1 c1.Return z10 e12) (h17 : LR (rL (rI .i64) 1) 1 c1.Inner z14 e16) {r : Bool} (h : impl_Checker_isMark c1 x18 = some r) (hs : WF s) : ACall Cf 95 [(AV.agg [(AV.int .i64 c1.Stack), (AV.int .i64 c1.Start), (AV.sl z2 f3 e4), (AV.sl z6 f7 e8), (AV.sl z10 f11 e12), (AV.sl z14 f15 e16)]), (AV.int .i64 x18)] s fun v _ s' => (rB) r v ∧ s' = s := by
  refine ACall.pure rfl rfl rfl .B ?_
  have hWF := hs.lo'
  unfold impl_Checker_isMark at h
  refine AW.seq ?_
  refine AW.region ?_
  refine AOps.makeR rfl rfl rfl rfl rfl rfl (rfl : _ = (AV.eptr [(AV.int .i64 c1.Stack), (AV.int .i64 c1.Start), (AV.sl z2 f3 e4), (AV.sl z6 f7 e8), (AV.sl z10 f11 e12), (AV.sl z14 f15 e16)] 0)) ?_
  refine AOps.pureR rfl rfl rfl rfl rfl (rfl : _ = (AV.bool false)) ?_
  refine AOps.nilR ?_
  refine AW.seq ?_
  refine AW.region ?_
  refine AOps.pureR rfl rfl rfl rfl rfl (rfl : _ = (AV.int .i64 x18)) ?_
  refine AOps.pureR rfl rfl rfl rfl rfl (rfl : _ = (AV.eptr [(AV.int .i64 c1.Stack), (AV.int .i64 c1.Start), (AV.sl z2 f3 e4), (AV.sl z6 f7 e8), (AV.sl z10 f11 e12), (AV.sl z14 f15 e16)] 0)) ?_
  refine AOps.ldE (v := (AV.int .i64 c1.Stack)) rfl rfl rfl rfl rfl rfl ?_
  refine AOps.pureR rfl rfl rfl rfl rfl (rfl : _ = (AV.int .i64 (IntKind.wrap .i64 (c1.Stack - 1)))) ?_
  obtain ⟨y19, h20, h⟩ := obind h
  refine AOps.callP (g := 27) (args := [(AV.int .i64 x18), (AV.int .i64 0), (AV.int .i64 (IntKind.wrap .i64 (c1.Stack - 1)))]) (p := (rB) y19) rfl rfl rfl (impl_within_ok  h20 hWF) ?_
  intro _ o22 h21
  cases h21
  refine AOps.assignR rfl rfl rfl (rfl : _ = (AV.bool y19)) rfl ?_
  refine AOps.nilR ?_
  cases h
  exact AW.ret ⟨rfl, _, _, rfl, rfl⟩
theorem impl_ValidChecker_ok {p1 : Checker} {z2 : Nat} {f3 : Bool} {e4 : List AV} {z6 : Nat} {f7 : Bool} {e8 : List AV} {z10 : Nat} {f11 : Bool} {e12 : List AV} {z14 : Nat} {f15 : Bool} {e16 : List AV} {s : St} (h5 : LR rB 1 p1.Accept z2 e4) (h9 : LR (rL rPush 2) 1 p1.Call z6 e8) (h13 : LR (rL (rL (rI .i64) 1) 1) 1 p1.Return z10 e12) (h17 : LR (rL (rI .i64) 1) 1 p1.Inner z14 e16) {r : Bool} (h : impl_ValidChecker p1 = some r) (hs : WF s) : ACall Cf 44 [(AV.agg [(AV.int .i64 p1.Stack), (AV.int .i64 p1.Start), (AV.sl z2 f3 e4), (AV.sl z6 f7 e8), (AV.sl z10 f11 e12), (AV.sl z14 f15 e16)])] s fun v _ s' => (rB) r v ∧ s' = s := by
  refine ACall.pure rfl rfl rfl .B ?_
  have hWF := hs.lo'
  unfold impl_ValidChecker at h
  refine AW.seq ?_
  refine AW.region ?_
  refine AOps.makeR rfl rfl rfl rfl rfl rfl (rfl : _ = (AV.eptr [(AV.int .i64 p1.Stack), (AV.int .i64 p1.Start), (AV.sl z2 f3 e4), (AV.sl z6 f7 e8), (AV.sl z10 f11 e12), (AV.sl z14 f15 e16)] 0)) ?_
  refine AOps.pureR rfl rfl rfl rfl rfl (rfl : _ = (AV.bool false)) ?_
  refine AOps.nilR ?_
  refine AW.seq ?_
  refine AW.region ?_
  refine AOps.pureR rfl rfl rfl rfl rfl (rfl : _ = (AV.eptr [(AV.int .i64 p1.Stack), (AV.int .i64 p1.Start), (AV.sl z2 f3 e4), (AV.sl z6 f7 e8), (AV.sl z10 f11 e12), (AV.sl z14 f15 e16)] 2)) ?_
  refine AOps.ldE (v := (AV.sl z2 f3 e4)) rfl rfl rfl rfl rfl rfl ?_
  obtain ⟨y18, h19, h⟩ := obind h
  refine AOps.callP (g := 86) (args := [(AV.sl z2 f3 e4)]) (p := (rI .i64) y18) rfl rfl rfl (impl_size_bool_ok h5 h19 hWF) ?_
  intro _ o21 h20
  cases h20
  refine AOps.assignR rfl rfl rfl (rfl : _ = (AV.int .i64 y18)) rfl ?_
  refine AOps.nilR ?_
  refine AW.seq ?_
  refine AW.seq ?_
  refine AW.region ?_
  refine AOps.pureR rfl rfl rfl rfl rfl (rfl : _ = (AV.int .i64 y18)) ?_
  obtain ⟨y22, h23, h⟩ := obind h
  refine AOps.callP (g := 27) (args := [(AV.int .i64 y18), (AV.int .i64 1), (AV.int .i64 40)]) (p := (rB) y22) rfl rfl rfl (impl_within_ok  h23 hWF) ?_
  intro _ o25 h24
  cases h24
  refine AOps.pureR rfl rfl rfl rfl rfl (rfl : _ = (AV.bool (!y22))) ?_
  refine AOps.pureR rfl rfl rfl rfl rfl (rfl : _ = (AV.bool (!y22))) ?_
  obtain ⟨b27, hb, h⟩ := obind h
  refine AOps.split 5 (fun f' => ∃ tm' os', f' = ⟨updL tm' [(1, (AV.eptr [(AV.int .i64 p1.Stack), (AV.int .i64 p1.Start), (AV.sl z2 f3 e4), (AV.sl z6 f7 e8), (AV.sl z10 f11 e12), (AV.sl z14 f15 e16)] 0)), (3, (AV.int .i64 y18)), (19, (AV.bool b27))], updL os' [], { s with lo := s.n }⟩) ?_ ?_
  · rcases oite hb with ⟨hc26, hb⟩ | ⟨hc26, hb⟩
    · refine AOps.know (d := 14) rfl hc26 ?_
      refine AOps.skipR rfl rfl ?_
      refine AOps.skipR rfl rfl ?_
      refine AOps.skipR rfl rfl ?_
      refine AOps.skipR rfl rfl ?_
      refine AOps.pureR rfl rfl rfl rfl rfl (rfl : _ = (AV.bool true)) ?_
      refine AOps.resR [(1, (AV.eptr [(AV.int .i64 p1.Stack), (AV.int .i64 p1.Start), (AV.sl z2 f3 e4), (AV.sl z6 f7 e8), (AV.sl z10 f11 e12), (AV.sl z14 f15 e16)] 0)), (3, (AV.int .i64 y18)), (19, (AV.bool b27))] [] ?_ ?_ _ ⟨_, _, rfl⟩
      · exact ⟨rfl, rfl, congrArg AV.bool (Option.some.inj hb), trivial⟩
      exact trivial
    · have h := hb
      refine AOps.know (d := 14) rfl hc26 ?_
      refine AOps.pureR rfl rfl rfl rfl rfl (rfl : _ = (AV.eptr [(AV.int .i64 p1.Stack), (AV.int .i64 p1.Start), (AV.sl z2 f3 e4), (AV.sl z6 f7 e8), (AV.sl z10 f11 e12), (AV.sl z14 f15 e16)] 0)) ?_
      refine AOps.ldE (v := (AV.int .i64 p1.Stack)) rfl rfl rfl rfl rfl rfl ?_
      obtain ⟨y28, h29, h⟩ := obind h
      refine AOps.callP (g := 27) (args := [(AV.int .i64 p1.Stack), (AV.int .i64 1), (AV.int .i64 80)]) (p := (rB) y28) rfl rfl rfl (impl_within_ok  h29 hWF) ?_
      intro _ o31 h30
      cases h30
      refine AOps.pureR rfl rfl rfl rfl rfl (rfl : _ = (AV.bool (!y28))) ?_
      refine AOps.pureR rfl rfl rfl rfl rfl (rfl : _ = (AV.bool (!y28))) ?_
      refine AOps.resR [(1, (AV.eptr [(AV.int .i64 p1.Stack), (AV.int .i64 p1.Start), (AV.sl z2 f3 e4), (AV.sl z6 f7 e8), (AV.sl z10 f11 e12), (AV.sl z14 f15 e16)] 0)), (3, (AV.int .i64 y18)), (19, (AV.bool b27))] [] ?_ ?_ _ ⟨_, _, rfl⟩
      · exact ⟨rfl, rfl, congrArg AV.bool (Option.some.inj h), trivial⟩
      exact trivial
  rintro _ ⟨tm, os, rfl⟩
  refine AOps.pureR rfl rfl rfl rfl rfl (rfl : _ = (AV.bool b27)) ?_
  obtain ⟨b33, hb, h⟩ := obind h
  refine AOps.split 6 (fun f' => ∃ tm' os', f' = ⟨updL tm' [(1, (AV.eptr [(AV.int .i64 p1.Stack), (AV.int .i64 p1.Start), (AV.sl z2 f3 e4), (AV.sl z6 f7 e8), (AV.sl z10 f11 e12), (AV.sl z14 f15 e16)] 0)), (3, (AV.int .i64 y18)), (26, (AV.bool b33))], updL os' [], { s with lo := s.n }⟩) ?_ ?_
  · rcases oite hb with ⟨hc32, hb⟩ | ⟨hc32, hb⟩
    · refine AOps.know (d := 20) rfl hc32 ?_
      refine AOps.skipR rfl rfl ?_
      refine AOps.skipR rfl rfl ?_
      refine AOps.skipR rfl rfl ?_
      refine AOps.skipR rfl rfl ?_
      refine AOps.skipR rfl rfl ?_
      refine AOps.pureR rfl rfl rfl rfl rfl (rfl : _ = (AV.bool true)) ?_
      refine AOps.resR [(1, (AV.eptr [(AV.int .i64 p1.Stack), (AV.int .i64 p1.Start), (AV.sl z2 f3 e4), (AV.sl z6 f7 e8), (AV.sl z10 f11 e12), (AV.sl z14 f15 e16)] 0)), (3, (AV.int .i64 y18)), (26, (AV.bool b33))] [] ?_ ?_ _ ⟨_, _, rfl⟩
      · exact ⟨rfl, rfl, congrArg AV.bool (Option.some.inj hb), trivial⟩
      exact trivial
    · have h := hb
      refine AOps.know (d := 20) rfl hc32 ?_
      refine AOps.ldE (v := (AV.agg [(AV.int .i64 p1.Stack), (AV.int .i64 p1.Start), (AV.sl z2 f3 e4), (AV.sl z6 f7 e8), (AV.sl z10 f11 e12), (AV.sl z14 f15 e16)])) rfl rfl rfl rfl rfl rfl ?_
      refine AOps.pureR rfl rfl rfl rfl rfl (rfl : _ = (AV.eptr [(AV.int .i64 p1.Stack), (AV.int .i64 p1.Start), (AV.sl z2 f3 e4), (AV.sl z6 f7 e8), (AV.sl z10 f11 e12), (AV.sl z14 f15 e16)] 1)) ?_
      refine AOps.ldE (v := (AV.int .i64 p1.Start)) rfl rfl rfl rfl rfl rfl ?_
      obtain ⟨y34, h35, h⟩ := obind h
      refine AOps.callP (g := 87) (args := [(AV.agg [(AV.int .i64 p1.Stack), (AV.int .i64 p1.Start), (AV.sl z2 f3 e4), (AV.sl z6 f7 e8), (AV.sl z10 f11 e12), (AV.sl z14 f15 e16)]), (AV.int .i64 p1.Start)]) (p := (rB) y34) rfl rfl rfl (impl_Checker_isState_ok h5 h9 h13 h17 h35 hWF) ?_
      intro _ o37 h36
      cases h36
      refine AOps.pureR rfl rfl rfl rfl rfl (rfl : _ = (AV.bool (!y34))) ?_
      refine AOps.pureR rfl rfl rfl rfl rfl (rfl : _ = (AV.bool (!y34))) ?_
      refine AOps.resR [(1, (AV.eptr [(AV.int .i64 p1.Stack), (AV.int .i64 p1.Start), (AV.sl z2 f3 e4), (AV.sl z6 f7 e8), (AV.sl z10 f11 e12), (AV.sl z14 f15 e16)] 0)), (3, (AV.int .i64 y18)), (26, (AV.bool b33))] [] ?_ ?_ _ ⟨_, _, rfl⟩
      · exact ⟨rfl, rfl, congrArg AV.bool (Option.some.inj h), trivial⟩
      exact trivial
  rintro _ ⟨tm, os, rfl⟩
  refine AOps.pureR rfl rfl rfl rfl rfl (rfl : _ = (AV.bool b33)) ?_
  obtain ⟨b39, hb, h⟩ := obind h
  refine AOps.split 6 (fun f' => ∃ tm' os', f' = ⟨updL tm' [(1, (AV.eptr [(AV.int .i64 p1.Stack), (AV.int .i64 p1.Start), (AV.sl z2 f3 e4), (AV.sl z6 f7 e8), (AV.sl z10 f11 e12), (AV.sl z14 f15 e16)] 0)), (3, (AV.int .i64 y18)), (33, (AV.bool b39))], updL os' [], { s with lo := s.n }⟩) ?_ ?_
  · rcases oite hb with ⟨hc38, hb⟩ | ⟨hc38, hb⟩
    · refine AOps.know (d := 27) rfl hc38 ?_
      refine AOps.skipR rfl rfl ?_
      refine AOps.skipR rfl rfl ?_
      refine AOps.skipR rfl rfl ?_
      refine AOps.skipR rfl rfl ?_
      refine AOps.skipR rfl rfl ?_
      refine AOps.pureR rfl rfl rfl rfl rfl (rfl : _ = (AV.bool true)) ?_
      refine AOps.resR [(1, (AV.eptr [(AV.int .i64 p1.Stack), (AV.int .i64 p1.Start), (AV.sl z2 f3 e4), (AV.sl z6 f7 e8), (AV.sl z10 f11 e12), (AV.sl z14 f15 e16)] 0)), (3, (AV.int .i64 y18)), (33, (AV.bool b39))] [] ?_ ?_ _ ⟨_, _, rfl⟩
      · exact ⟨rfl, rfl, congrArg AV.bool (Option.some.inj hb), trivial⟩
      exact trivial
    · have h := hb
      refine AOps.know (d := 27) rfl hc38 ?_
      refine AOps.pureR rfl rfl rfl rfl rfl (rfl : _ = (AV.eptr [(AV.int .i64 p1.Stack), (AV.int .i64 p1.Start), (AV.sl z2 f3 e4), (AV.sl z6 f7 e8), (AV.sl z10 f11 e12), (AV.sl z14 f15 e16)] 3)) ?_
      refine AOps.ldE (v := (AV.sl z6 f7 e8)) rfl rfl rfl rfl rfl rfl ?_
      obtain ⟨y40, h41, h⟩ := obind h
      refine AOps.callP (g := 88) (args := [(AV.sl z6 f7 e8)]) (p := (rI .i64) y40) rfl rfl rfl (impl_size_simpl_Push_ok h9 h41 hWF) ?_
      intro _ o43 h42
      cases h42
      refine AOps.pureR rfl rfl rfl rfl rfl (rfl : _ = (AV.int .i64 y18)) ?_
      refine AOps.pureR rfl rfl rfl rfl rfl (rfl : _ = (AV.bool (y40 != y18))) ?_
      refine AOps.pureR rfl rfl rfl rfl rfl (rfl : _ = (AV.bool (y40 != y18))) ?_
      refine AOps.resR [(1, (AV.eptr [(AV.int .i64 p1.Stack), (AV.int .i64 p1.Start), (AV.sl z2 f3 e4), (AV.sl z6 f7 e8), (AV.sl z10 f11 e12), (AV.sl z14 f15 e16)] 0)), (3, (AV.int .i64 y18)), (33, (AV.bool b39))] [] ?_ ?_ _ ⟨_, _, rfl⟩
      · exact ⟨rfl, rfl, congrArg AV.bool (Option.some.inj h), trivial⟩
      exact trivial
  rintro _ ⟨tm, os, rfl⟩
  refine AOps.pureR rfl rfl rfl rfl rfl (rfl : _ = (AV.bool b39)) ?_
  obtain ⟨b45, hb, h⟩ := obind h
  refine AOps.split 6 (fun f' => ∃ tm' os', f' = ⟨updL tm' [(1, (AV.eptr [(AV.int .i64 p1.Stack), (AV.int .i64 p1.Start), (AV.sl z2 f3 e4), (AV.sl z6 f7 e8), (AV.sl z10 f11 e12), (AV.sl z14 f15 e16)] 0)), (3, (AV.int .i64 y18)), (40, (AV.bool b45))], updL os' [], { s with lo := s.n }⟩) ?_ ?_
  · rcases oite hb with ⟨hc44, hb⟩ | ⟨hc44, hb⟩
    · refine AOps.know (d := 34) rfl hc44 ?_
      refine AOps.skipR rfl rfl ?_
      refine AOps.skipR rfl rfl ?_
      refine AOps.skipR rfl rfl ?_
      refine AOps.skipR rfl rfl ?_
      refine AOps.skipR rfl rfl ?_
      refine AOps.pureR rfl rfl rfl rfl rfl (rfl : _ = (AV.bool true)) ?_
      refine AOps.resR [(1, (AV.eptr [(AV.int .i64 p1.Stack), (AV.int .i64 p1.Start), (AV.sl z2 f3 e4), (AV.sl z6 f7 e8), (AV.sl z10 f11 e12), (AV.sl z14 f15 e16)] 0)), (3, (AV.int .i64 y18)), (40, (AV.bool b45))] [] ?_ ?_ _ ⟨_, _, rfl⟩
      · exact ⟨rfl, rfl, congrArg AV.bool (Option.some.inj hb), trivial⟩
      exact trivial
    · have h := hb
      refine AOps.know (d := 34) rfl hc44 ?_
      refine AOps.pureR rfl rfl rfl rfl rfl (rfl : _ = (AV.eptr [(AV.int .i64 p1.Stack), (AV.int .i64 p1.Start), (AV.sl z2 f3 e4), (AV.sl z6 f7 e8), (AV.sl z10 f11 e12), (AV.sl z14 f15 e16)] 4)) ?_
      refine AOps.ldE (v := (AV.sl z10 f11 e12)) rfl rfl rfl rfl rfl rfl ?_
      obtain ⟨y46, h47, h⟩ := obind h
      refine AOps.callP (g := 89) (args := [(AV.sl z10 f11 e12)]) (p := (rI .i64) y46) rfl rfl rfl (impl_size_s_int64_ok h13 h47 hWF) ?_
      intro _ o49 h48
      cases h48
      refine AOps.pureR rfl rfl rfl rfl rfl (rfl : _ = (AV.int .i64 y18)) ?_
      refine AOps.pureR rfl rfl rfl rfl rfl (rfl : _ = (AV.bool (y46 != y18))) ?_
      refine AOps.pureR rfl rfl rfl rfl rfl (rfl : _ = (AV.bool (y46 != y18))) ?_
      refine AOps.resR [(1, (AV.eptr [(AV.int .i64 p1.Stack), (AV.int .i64 p1.Start), (AV.sl z2 f3 e4), (AV.sl z6 f7 e8), (AV.sl z10 f11 e12), (AV.sl z14 f15 e16)] 0)), (3, (AV.int .i64 y18)), (40, (AV.bool b45))] [] ?_ ?_ _ ⟨_, _, rfl⟩
      · exact ⟨rfl, rfl, congrArg AV.bool (Option.some.inj h), trivial⟩
      exact trivial
  rintro _ ⟨tm, os, rfl⟩
  refine AOps.pureR rfl rfl rfl rfl rfl (rfl : _ = (AV.bool b45)) ?_
  obtain ⟨b51, hb, h⟩ := obind h
  refine AOps.split 6 (fun f' => ∃ tm' os', f' = ⟨updL tm' [(1, (AV.eptr [(AV.int .i64 p1.Stack), (AV.int .i64 p1.Start), (AV.sl z2 f3 e4), (AV.sl z6 f7 e8), (AV.sl z10 f11 e12), (AV.sl z14 f15 e16)] 0)), (3, (AV.int .i64 y18)), (47, (AV.bool b51))], updL os' [], { s with lo := s.n }⟩) ?_ ?_
  · rcases oite hb with ⟨hc50, hb⟩ | ⟨hc50, hb⟩
    · refine AOps.know (d := 41) rfl hc50 ?_
      refine AOps.skipR rfl rfl ?_
      refine AOps.skipR rfl rfl ?_
      refine AOps.skipR rfl rfl ?_
      refine AOps.skipR rfl rfl ?_
      refine AOps.skipR rfl rfl ?_
      refine AOps.pureR rfl rfl rfl rfl rfl (rfl : _ = (AV.bool true)) ?_
      refine AOps.resR [(1, (AV.eptr [(AV.int .i64 p1.Stack), (AV.int .i64 p1.Start), (AV.sl z2 f3 e4), (AV.sl z6 f7 e8), (AV.sl z10 f11 e12), (AV.sl z14 f15 e16)] 0)), (3, (AV.int .i64 y18)), (47, (AV.bool b51))] [] ?_ ?_ _ ⟨_, _, rfl⟩
      · exact ⟨rfl, rfl, congrArg AV.bool (Option.some.inj hb), trivial⟩
      exact trivial
    · have h := hb
      refine AOps.know (d := 41) rfl hc50 ?_
      refine AOps.pureR rfl rfl rfl rfl rfl (rfl : _ = (AV.eptr [(AV.int .i64 p1.Stack), (AV.int .i64 p1.Start), (AV.sl z2 f3 e4), (AV.sl z6 f7 e8), (AV.sl z10 f11 e12), (AV.sl z14 f15 e16)] 5)) ?_
      refine AOps.ldE (v := (AV.sl z14 f15 e16)) rfl rfl rfl rfl rfl rfl ?_
      obtain ⟨y52, h53, h⟩ := obind h
      refine AOps.callP (g := 90) (args := [(AV.sl z14 f15 e16)]) (p := (rI .i64) y52) rfl rfl rfl (impl_size_sint64_ok h17 h53 hWF) ?_
      intro _ o55 h54
      cases h54
      refine AOps.pureR rfl rfl rfl rfl rfl (rfl : _ = (AV.int .i64 y18)) ?_
      refine AOps.pureR rfl rfl rfl rfl rfl (rfl : _ = (AV.bool (y52 != y18))) ?_
      refine AOps.pureR rfl rfl rfl rfl rfl (rfl : _ = (AV.bool (y52 != y18))) ?_
      refine AOps.resR [(1, (AV.eptr [(AV.int .i64 p1.Stack), (AV.int .i64 p1.Start), (AV.sl z2 f3 e4), (AV.sl z6 f7 e8), (AV.sl z10 f11 e12), (AV.sl z14 f15 e16)] 0)), (3, (AV.int .i64 y18)), (47, (AV.bool b51))] [] ?_ ?_ _ ⟨_, _, rfl⟩
      · exact ⟨rfl, rfl, congrArg AV.bool (Option.some.inj h), trivial⟩
      exact trivial
  rintro _ ⟨tm, os, rfl⟩
  refine AOps.nilR ?_
  rcases oite h with ⟨hc56, h⟩ | ⟨hc56, h⟩
  · refine AW.condT (congrArg AV.bool hc56) ?_
    refine AW.seq ?_
    refine AW.region ?_
    refine AOps.pureR rfl rfl rfl rfl rfl (rfl : _ = (AV.bool false)) ?_
    refine AOps.nilR ?_
    cases h
    exact AW.ret ⟨rfl, _, _, rfl, rfl⟩
  refine AW.condF (congrArg AV.bool hc56) ?_
  refine AW.skip ?_
  refine AW.seq ?_
  refine AW.region ?_
  refine AOps.pureR rfl rfl rfl rfl rfl (rfl : _ = (AV.fn 91 [(AV.eptr [(AV.int .i64 p1.Stack), (AV.int .i64 p1.Start), (AV.sl z2 f3 e4), (AV.sl z6 f7 e8), (AV.sl z10 f11 e12), (AV.sl z14 f15 e16)] 0)])) ?_
  refine AOps.assignR rfl rfl rfl (rfl : _ = (AV.fn 91 [(AV.eptr [(AV.int .i64 p1.Stack), (AV.int .i64 p1.Start), (AV.sl z2 f3 e4), (AV.sl z6 f7 e8), (AV.sl z10 f11 e12), (AV.sl z14 f15 e16)] 0)])) rfl ?_
  refine AOps.nilR ?_
  refine AW.seq ?_
  refine AW.seq ?_
  refine AW.region ?_
  refine AOps.pureR rfl rfl rfl rfl rfl (rfl : _ = (AV.int .i64 y18)) ?_
  refine AOps.pureR rfl rfl rfl rfl rfl (rfl : _ = (AV.int .i64 0)) ?_
  refine AOps.nilR ?_
  refine AW.meet (σ := Unit) (fun _ tm os => ⟨updL tm [], updL os [], { s with lo := s.n }⟩) (fun _ => impl_ValidChecker_J1 = some r) ?_ ?_
  · rintro _ tm os h
    unfold impl_ValidChecker_J1 at h
    refine AW.seq ?_
    refine AW.region ?_
    refine AOps.pureR rfl rfl rfl rfl rfl (rfl : _ = (AV.bool true)) ?_
    refine AOps.nilR ?_
    cases h
    exact AW.ret ⟨rfl, _, _, rfl, rfl⟩
  intro KJ57
  refine AW.block ?_
  refine AW.res [(1, (AV.eptr [(AV.int .i64 p1.Stack), (AV.int .i64 p1.Start), (AV.sl z2 f3 e4), (AV.sl z6 f7 e8), (AV.sl z10 f11 e12), (AV.sl z14 f15 e16)] 0)), (4, (AV.fn 91 [(AV.eptr [(AV.int .i64 p1.Stack), (AV.int .i64 p1.Start), (AV.sl z2 f3 e4), (AV.sl z6 f7 e8), (AV.sl z10 f11 e12), (AV.sl z14 f15 e16)] 0)])), (49, (AV.int .i64 y18)), (50, (AV.int .i64 0))] [] ⟨rfl, rfl, rfl, rfl, trivial⟩ trivial ?_
  refine AW.loopF (σ := Int) (τ := Unit) (fun t58 _ => True) (fun t58 _ tm os => ⟨updL tm [(1, (AV.eptr [(AV.int .i64 p1.Stack), (AV.int .i64 p1.Start), (AV.sl z2 f3 e4), (AV.sl z6 f7 e8), (AV.sl z10 f11 e12), (AV.sl z14 f15 e16)] 0)), (4, (AV.fn 91 [(AV.eptr [(AV.int .i64 p1.Stack), (AV.int .i64 p1.Start), (AV.sl z2 f3 e4), (AV.sl z6 f7 e8), (AV.sl z10 f11 e12), (AV.sl z14 f15 e16)] 0)])), (49, (AV.int .i64 y18)), (50, (AV.int .i64 t58))], updL os [], { s with lo := s.n }⟩) ?_ (x := (0)) (y := ()) h trivial
  clear h
  rintro t58 _ tm os - e1 h hL1 hR1
  unfold impl_ValidChecker_S1 at h
  refine AW.seq ?_
  refine AW.region ?_
  refine AOps.pureR rfl rfl rfl rfl rfl (rfl : _ = (AV.bool (decide ((t58 : Int) < y18)))) ?_
  refine AOps.nilR ?_
  refine AW.seq ?_
  rcases oite h with ⟨hc59, h⟩ | ⟨hc59, h⟩
  · refine AW.condT (congrArg AV.bool hc59) ?_
    refine AW.skip ?_
    refine AW.seq ?_
    refine AW.block ?_
    refine AW.seq ?_
    refine AW.region ?_
    refine AOps.pureR rfl rfl rfl rfl rfl (rfl : _ = (AV.int .i64 t58)) ?_
    refine AOps.assignR rfl rfl rfl (rfl : _ = (AV.int .i64 t58)) rfl ?_
    refine AOps.nilR ?_
    refine AW.seq ?_
    refine AW.seq ?_
    refine AW.region ?_
    refine AOps.pureR rfl rfl rfl rfl rfl (rfl : _ = (AV.eptr [(AV.int .i64 p1.Stack), (AV.int .i64 p1.Start), (AV.sl z2 f3 e4), (AV.sl z6 f7 e8), (AV.sl z10 f11 e12), (AV.sl z14 f15 e16)] 3)) ?_
    refine AOps.ldE (v := (AV.sl z6 f7 e8)) rfl rfl rfl rfl rfl rfl ?_
    refine AOps.pureR rfl rfl rfl rfl rfl (rfl : _ = (AV.int .i64 t58)) ?_
    obtain ⟨x60, h61, h⟩ := obind h
    obtain ⟨v64, h62, h63⟩ := idx_sl h9 h61
    obtain ⟨z65, f66, e67, rfl, h68⟩ := h62
    refine AOps.pureR rfl rfl rfl h63 rfl (rfl : _ = (AV.eptr [(AV.sl z65 f66 e67)] 0)) ?_
    refine AOps.ldE (v := (AV.sl z65 f66 e67)) rfl rfl rfl rfl rfl rfl ?_
    refine AOps.pureR rfl rfl rfl rfl rfl (len_eq h68) ?_
    refine AOps.pureR rfl rfl rfl rfl rfl (rfl : _ = (AV.bool ((x60.length : Int) != 2))) ?_
    refine AOps.pureR rfl rfl rfl rfl rfl (rfl : _ = (AV.bool ((x60.length : Int) != 2))) ?_
    obtain ⟨b70, hb, h⟩ := obind h
    refine AOps.split 8 (fun f' => ∃ tm' os', f' = ⟨updL tm' [(1, (AV.eptr [(AV.int .i64 p1.Stack), (AV.int .i64 p1.Start), (AV.sl z2 f3 e4), (AV.sl z6 f7 e8), (AV.sl z10 f11 e12), (AV.sl z14 f15 e16)] 0)), (4, (AV.fn 91 [(AV.eptr [(AV.int .i64 p1.Stack), (AV.int .i64 p1.Start), (AV.sl z2 f3 e4), (AV.sl z6 f7 e8), (AV.sl z10 f11 e12), (AV.sl z14 f15 e16)] 0)])), (5, (AV.int .i64 t58)), (49, (AV.int .i64 y18)), (50, (AV.int .i64 t58)), (68, (AV.bool b70))], updL os' [], { s with lo := s.n }⟩) ?_ ?_
    · rcases oite hb with ⟨hc69, hb⟩ | ⟨hc69, hb⟩
      · refine AOps.know (d := 60) rfl hc69 ?_
        refine AOps.skipR rfl rfl ?_
        refine AOps.skipR rfl rfl ?_
        refine AOps.skipR rfl rfl ?_
        refine AOps.skipR rfl rfl ?_
        refine AOps.skipR rfl rfl ?_
        refine AOps.skipR rfl rfl ?_
        refine AOps.skipR rfl rfl ?_
        refine AOps.pureR rfl rfl rfl rfl rfl (rfl : _ = (AV.bool true)) ?_
        refine AOps.resR [(1, (AV.eptr [(AV.int .i64 p1.Stack), (AV.int .i64 p1.Start), (AV.sl z2 f3 e4), (AV.sl z6 f7 e8), (AV.sl z10 f11 e12), (AV.sl z14 f15 e16)] 0)), (4, (AV.fn 91 [(AV.eptr [(AV.int .i64 p1.Stack), (AV.int .i64 p1.Start), (AV.sl z2 f3 e4), (AV.sl z6 f7 e8), (AV.sl z10 f11 e12), (AV.sl z14 f15 e16)] 0)])), (5, (AV.int .i64 t58)), (49, (AV.int .i64 y18)), (50, (AV.int .i64 t58)), (68, (AV.bool b70))] [] ?_ ?_ _ ⟨_, _, rfl⟩
        · exact ⟨rfl, rfl, rfl, rfl, rfl, congrArg AV.bool (Option.some.inj hb), trivial⟩
        exact trivial
      · have h := hb
        refine AOps.know (d := 60) rfl hc69 ?_
        refine AOps.pureR rfl rfl rfl rfl rfl (rfl : _ = (AV.eptr [(AV.int .i64 p1.Stack), (AV.int .i64 p1.Start), (AV.sl z2 f3 e4), (AV.sl z6 f7 e8), (AV.sl z10 f11 e12), (AV.sl z14 f15 e16)] 4)) ?_
        refine AOps.ldE (v := (AV.sl z10 f11 e12)) rfl rfl rfl rfl rfl rfl ?_
        refine AOps.pureR rfl rfl rfl rfl rfl (rfl : _ = (AV.int .i64 t58)) ?_
        obtain ⟨x71, h72, h⟩ := obind h
        obtain ⟨v75, h73, h74⟩ := idx_sl h13 h72
        obtain ⟨z76, f77, e78, rfl, h79⟩ := h73
        refine AOps.pureR rfl rfl rfl h74 rfl (rfl : _ = (AV.eptr [(AV.sl z76 f77 e78)] 0)) ?_
        refine AOps.ldE (v := (AV.sl z76 f77 e78)) rfl rfl rfl rfl rfl rfl ?_
        refine AOps.pureR rfl rfl rfl rfl rfl (len_eq h79) ?_
        refine AOps.pureR rfl rfl rfl rfl rfl (rfl : _ = (AV.bool ((x71.length : Int) != 2))) ?_
        refine AOps.pureR rfl rfl rfl rfl rfl (rfl : _ = (AV.bool ((x71.length : Int) != 2))) ?_
        refine AOps.resR [(1, (AV.eptr [(AV.int .i64 p1.Stack), (AV.int .i64 p1.Start), (AV.sl z2 f3 e4), (AV.sl z6 f7 e8), (AV.sl z10 f11 e12), (AV.sl z14 f15 e16)] 0)), (4, (AV.fn 91 [(AV.eptr [(AV.int .i64 p1.Stack), (AV.int .i64 p1.Start), (AV.sl z2 f3 e4), (AV.sl z6 f7 e8), (AV.sl z10 f11 e12), (AV.sl z14 f15 e16)] 0)])), (5, (AV.int .i64 t58)), (49, (AV.int .i64 y18)), (50, (AV.int .i64 t58)), (68, (AV.bool b70))] [] ?_ ?_ _ ⟨_, _, rfl⟩
        · exact ⟨rfl, rfl, rfl, rfl, rfl, congrArg AV.bool (Option.some.inj h), trivial⟩
        exact trivial
    rintro _ ⟨tm, os, rfl⟩
    refine AOps.pureR rfl rfl rfl rfl rfl (rfl : _ = (AV.bool b70)) ?_
    obtain ⟨b81, hb, h⟩ := obind h
    refine AOps.split 9 (fun f' => ∃ tm' os', f' = ⟨updL tm' [(1, (AV.eptr [(AV.int .i64 p1.Stack), (AV.int .i64 p1.Start), (AV.sl z2 f3 e4), (AV.sl z6 f7 e8), (AV.sl z10 f11 e12), (AV.sl z14 f15 e16)] 0)), (4, (AV.fn 91 [(AV.eptr [(AV.int .i64 p1.Stack), (AV.int .i64 p1.Start), (AV.sl z2 f3 e4), (AV.sl z6 f7 e8), (AV.sl z10 f11 e12), (AV.sl z14 f15 e16)] 0)])), (5, (AV.int .i64 t58)), (49, (AV.int .i64 y18)), (50, (AV.int .i64 t58)), (78, (AV.bool b81))], updL os' [], { s with lo := s.n }⟩) ?_ ?_
    · rcases oite hb with ⟨hc80, hb⟩ | ⟨hc80, hb⟩
      · refine AOps.know (d := 69) rfl hc80 ?_
        refine AOps.skipR rfl rfl ?_
        refine AOps.skipR rfl rfl ?_
        refine AOps.skipR rfl rfl ?_
        refine AOps.skipR rfl rfl ?_
        refine AOps.skipR rfl rfl ?_
        refine AOps.skipR rfl rfl ?_
        refine AOps.skipR rfl rfl ?_
        refine AOps.skipR rfl rfl ?_
        refine AOps.pureR rfl rfl rfl rfl rfl (rfl : _ = (AV.bool true)) ?_
        refine AOps.resR [(1, (AV.eptr [(AV.int .i64 p1.Stack), (AV.int .i64 p1.Start), (AV.sl z2 f3 e4), (AV.sl z6 f7 e8), (AV.sl z10 f11 e12), (AV.sl z14 f15 e16)] 0)), (4, (AV.fn 91 [(AV.eptr [(AV.int .i64 p1.Stack), (AV.int .i64 p1.Start), (AV.sl z2 f3 e4), (AV.sl z6 f7 e8), (AV.sl z10 f11 e12), (AV.sl z14 f15 e16)] 0)])), (5, (AV.int .i64 t58)), (49, (AV.int .i64 y18)), (50, (AV.int .i64 t58)), (78, (AV.bool b81))] [] ?_ ?_ _ ⟨_, _, rfl⟩
        · exact ⟨rfl, rfl, rfl, rfl, rfl, congrArg AV.bool (Option.some.inj hb), trivial⟩
        exact trivial
      · have h := hb
        refine AOps.know (d := 69) rfl hc80 ?_
        refine AOps.pureR rfl rfl rfl rfl rfl (rfl : _ = (AV.fn 91 [(AV.eptr [(AV.int .i64 p1.Stack), (AV.int .i64 p1.Start), (AV.sl z2 f3 e4), (AV.sl z6 f7 e8), (AV.sl z10 f11 e12), (AV.sl z14 f15 e16)] 0)])) ?_
        refine AOps.pureR rfl rfl rfl rfl rfl (rfl : _ = (AV.eptr [(AV.int .i64 p1.Stack), (AV.int .i64 p1.Start), (AV.sl z2 f3 e4), (AV.sl z6 f7 e8), (AV.sl z10 f11 e12), (AV.sl z14 f15 e16)] 5)) ?_
        refine AOps.ldE (v := (AV.sl z14 f15 e16)) rfl rfl rfl rfl rfl rfl ?_
        refine AOps.pureR rfl rfl rfl rfl rfl (rfl : _ = (AV.int .i64 t58)) ?_
        obtain ⟨x82, h83, h⟩ := obind h
        obtain ⟨v86, h84, h85⟩ := idx_sl h17 h83
        obtain ⟨z87, f88, e89, rfl, h90⟩ := h84
        refine AOps.pureR rfl rfl rfl h85 rfl (rfl : _ = (AV.eptr [(AV.sl z87 f88 e89)] 0)) ?_
        refine AOps.ldE (v := (AV.sl z87 f88 e89)) rfl rfl rfl rfl rfl rfl ?_
        obtain ⟨y91, h92, h⟩ := obind h
        refine AOps.callP (g := 91) (args := [(AV.sl z87 f88 e89), (AV.int .i64 2), (AV.eptr [(AV.int .i64 p1.Stack), (AV.int .i64 p1.Start), (AV.sl z2 f3 e4), (AV.sl z6 f7 e8), (AV.sl z10 f11 e12), (AV.sl z14 f15 e16)] 0)]) (p := (rB) y91) rfl rfl rfl (impl_ValidChecker_1_ok h90 h5 h9 h13 h17 h92 hWF) ?_
        intro _ o94 h93
        cases h93
        refine AOps.pureR rfl rfl rfl rfl rfl (rfl : _ = (AV.bool (!y91))) ?_
        refine AOps.pureR rfl rfl rfl rfl rfl (rfl : _ = (AV.bool (!y91))) ?_
        refine AOps.resR [(1, (AV.eptr [(AV.int .i64 p1.Stack), (AV.int .i64 p1.Start), (AV.sl z2 f3 e4), (AV.sl z6 f7 e8), (AV.sl z10 f11 e12), (AV.sl z14 f15 e16)] 0)), (4, (AV.fn 91 [(AV.eptr [(AV.int .i64 p1.Stack), (AV.int .i64 p1.Start), (AV.sl z2 f3 e4), (AV.sl z6 f7 e8), (AV.sl z10 f11 e12), (AV.sl z14 f15 e16)] 0)])), (5, (AV.int .i64 t58)), (49, (AV.int .i64 y18)), (50, (AV.int .i64 t58)), (78, (AV.bool b81))] [] ?_ ?_ _ ⟨_, _, rfl⟩
        · exact ⟨rfl, rfl, rfl, rfl, rfl, congrArg AV.bool (Option.some.inj h), trivial⟩
        exact trivial
    rintro _ ⟨tm, os, rfl⟩
    refine AOps.nilR ?_
    rcases oite h with ⟨hc95, h⟩ | ⟨hc95, h⟩
    · refine AW.condT (congrArg AV.bool hc95) ?_
      refine AW.seq ?_
      refine AW.region ?_
      refine AOps.pureR rfl rfl rfl rfl rfl (rfl : _ = (AV.bool false)) ?_
      refine AOps.nilR ?_
      cases h
      have hr := hR1 _ rfl
      subst hr
      exact AW.ret ⟨rfl, _, _, rfl, rfl⟩
    refine AW.condF (congrArg AV.bool hc95) ?_
    refine AW.skip ?_
    refine AW.seq ?_
    refine AW.region ?_
    refine AOps.pureR rfl rfl rfl rfl rfl (rfl : _ = (AV.int .i64 0)) ?_
    refine AOps.nilR ?_
    refine AW.meet (σ := Unit) (fun _ tm os => ⟨updL tm [(1, (AV.eptr [(AV.int .i64 p1.Stack), (AV.int .i64 p1.Start), (AV.sl z2 f3 e4), (AV.sl z6 f7 e8), (AV.sl z10 f11 e12), (AV.sl z14 f15 e16)] 0)), (4, (AV.fn 91 [(AV.eptr [(AV.int .i64 p1.Stack), (AV.int .i64 p1.Start), (AV.sl z2 f3 e4), (AV.sl z6 f7 e8), (AV.sl z10 f11 e12), (AV.sl z14 f15 e16)] 0)])), (49, (AV.int .i64 y18)), (50, (AV.int .i64 t58))], updL os [], { s with lo := s.n }⟩) (fun _ => impl_ValidChecker_J2 t58 = some e1) ?_ ?_
    · rintro _ tm os h
      unfold impl_ValidChecker_J2 at h
      refine AW.inBlock ?_
      refine AW.region ?_
      refine AOps.pureR rfl rfl rfl rfl rfl (rfl : _ = (AV.int .i64 (IntKind.wrap .i64 (t58 + 1)))) ?_
      refine AOps.pureR rfl rfl rfl rfl rfl (rfl : _ = (AV.int .i64 (IntKind.wrap .i64 (t58 + 1)))) ?_
      refine AOps.nilR ?_
      cases h
      exact AW.res [(1, (AV.eptr [(AV.int .i64 p1.Stack), (AV.int .i64 p1.Start), (AV.sl z2 f3 e4), (AV.sl z6 f7 e8), (AV.sl z10 f11 e12), (AV.sl z14 f15 e16)] 0)), (4, (AV.fn 91 [(AV.eptr [(AV.int .i64 p1.Stack), (AV.int .i64 p1.Start), (AV.sl z2 f3 e4), (AV.sl z6 f7 e8), (AV.sl z10 f11 e12), (AV.sl z14 f15 e16)] 0)])), (49, (AV.int .i64 y18)), (50, (AV.int .i64 (IntKind.wrap .i64 (t58 + 1))))] [] ⟨rfl, rfl, rfl, rfl, trivial⟩ trivial (hL1 _ rfl () _ _ trivial)
    intro KJ96
    refine AW.block ?_
    refine AW.res [(1, (AV.eptr [(AV.int .i64 p1.Stack), (AV.int .i64 p1.Start), (AV.sl z2 f3 e4), (AV.sl z6 f7 e8), (AV.sl z10 f11 e12), (AV.sl z14 f15 e16)] 0)), (4, (AV.fn 91 [(AV.eptr [(AV.int .i64 p1.Stack), (AV.int .i64 p1.Start), (AV.sl z2 f3 e4), (AV.sl z6 f7 e8), (AV.sl z10 f11 e12), (AV.sl z14 f15 e16)] 0)])), (5, (AV.int .i64 t58)), (49, (AV.int .i64 y18)), (50, (AV.int .i64 t58)), (79, (AV.int .i64 0))] [] ⟨rfl, rfl, rfl, rfl, rfl, rfl, trivial⟩ trivial ?_
    refine AW.loopF (σ := Int) (τ := Unit) (fun t97 _ => True) (fun t97 _ tm os => ⟨updL tm [(1, (AV.eptr [(AV.int .i64 p1.Stack), (AV.int .i64 p1.Start), (AV.sl z2 f3 e4), (AV.sl z6 f7 e8), (AV.sl z10 f11 e12), (AV.sl z14 f15 e16)] 0)), (4, (AV.fn 91 [(AV.eptr [(AV.int .i64 p1.Stack), (AV.int .i64 p1.Start), (AV.sl z2 f3 e4), (AV.sl z6 f7 e8), (AV.sl z10 f11 e12), (AV.sl z14 f15 e16)] 0)])), (5, (AV.int .i64 t58)), (49, (AV.int .i64 y18)), (50, (AV.int .i64 t58)), (79, (AV.int .i64 t97))], updL os [], { s with lo := s.n }⟩) ?_ (x := (0)) (y := ()) h trivial
    clear h
    rintro t97 _ tm os - e2 h hL2 hR2
    unfold impl_ValidChecker_S2 at h
    refine AW.seq ?_
    refine AW.region ?_
    refine AOps.pureR rfl rfl rfl rfl rfl (rfl : _ = (AV.bool (decide ((t97 : Int) < 2)))) ?_
    refine AOps.nilR ?_
    refine AW.seq ?_
    rcases oite h with ⟨hc98, h⟩ | ⟨hc98, h⟩
    · refine AW.condT (congrArg AV.bool hc98) ?_
      refine AW.skip ?_
      refine AW.seq ?_
      refine AW.block ?_
      refine AW.seq ?_
      refine AW.region ?_
      refine AOps.pureR rfl rfl rfl rfl rfl (rfl : _ = (AV.int .i64 t97)) ?_
      refine AOps.assignR rfl rfl rfl (rfl : _ = (AV.int .i64 t97)) rfl ?_
      refine AOps.nilR ?_
      refine AW.seq ?_
      refine AW.region ?_
      refine AOps.pureR rfl rfl rfl rfl rfl (rfl : _ = (AV.eptr [(AV.int .i64 p1.Stack), (AV.int .i64 p1.Start), (AV.sl z2 f3 e4), (AV.sl z6 f7 e8), (AV.sl z10 f11 e12), (AV.sl z14 f15 e16)] 3)) ?_
      refine AOps.ldE (v := (AV.sl z6 f7 e8)) rfl rfl rfl rfl rfl rfl ?_
      refine AOps.pureR rfl rfl rfl rfl rfl (rfl : _ = (AV.int .i64 t58)) ?_
      obtain ⟨x99, h100, h⟩ := obind h
      obtain ⟨v103, h101, h102⟩ := idx_sl h9 h100
      obtain ⟨z104, f105, e106, rfl, h107⟩ := h101
      refine AOps.pureR rfl rfl rfl h102 rfl (rfl : _ = (AV.eptr [(AV.sl z104 f105 e106)] 0)) ?_
      refine AOps.ldE (v := (AV.sl z104 f105 e106)) rfl rfl rfl rfl rfl rfl ?_
      refine AOps.pureR rfl rfl rfl rfl rfl (rfl : _ = (AV.int .i64 t97)) ?_
      obtain ⟨x108, h109, h⟩ := obind h
      obtain ⟨v112, h110, h111⟩ := idx_sl h107 h109
      obtain ⟨_, rfl, h113⟩ := h110
      obtain ⟨_, _, rfl, h114, h115⟩ := Cs_cons h113
      cases h114
      obtain ⟨_, _, rfl, h116, h117⟩ := Cs_cons h115
      cases h116
      cases Cs_nil h117
      refine AOps.pureR rfl rfl rfl h111 rfl (rfl : _ = (AV.eptr [(AV.int .i64 x108.To), (AV.int .i64 x108.Put)] 0)) ?_
      refine AOps.ldE (v := (AV.agg [(AV.int .i64 x108.To), (AV.int .i64 x108.Put)])) rfl rfl rfl rfl rfl rfl ?_
      refine AOps.allocP rfl rfl rfl rfl ⟨rfl, rfl⟩ rfl ?_
      refine AOps.stP (v := (AV.agg [(AV.int .i64 x108.To), (AV.int .i64 x108.Put)])) rfl rfl rfl rfl rfl rfl rfl rfl rfl (lt_b rfl) rfl ?_
      refine AOps.nilR ?_
      refine AW.seq ?_
      refine AW.region ?_
      refine AOps.ldE (v := (AV.agg [(AV.int .i64 p1.Stack), (AV.int .i64 p1.Start), (AV.sl z2 f3 e4), (AV.sl z6 f7 e8), (AV.sl z10 f11 e12), (AV.sl z14 f15 e16)])) rfl rfl rfl rfl rfl rfl ?_
      refine AOps.pureR rfl rfl rfl rfl rfl (rfl : _ = (AV.eptr [(AV.int .i64 x108.To), (AV.int .i64 x108.Put)] 0)) ?_
      refine AOps.ldE (v := (AV.int .i64 x108.To)) rfl rfl rfl rfl rfl rfl ?_
      obtain ⟨y118, h119, h⟩ := obind h
      refine AOps.callDP (g := 87) (args := [(AV.agg [(AV.int .i64 p1.Stack), (AV.int .i64 p1.Start), (AV.sl z2 f3 e4), (AV.sl z6 f7 e8), (AV.sl z10 f11 e12), (AV.sl z14 f15 e16)]), (AV.int .i64 x108.To)]) (p := (rB) y118) rfl rfl rfl (impl_Checker_isState_ok h5 h9 h13 h17 h119 hWF.still) (fun v hv => Nice.pure (k := FINK) (p := (rB) y118) .B _ v hv) ?_
      intro _ o121 h120
      cases h120
      refine AOps.pureR rfl rfl rfl rfl rfl (rfl : _ = (AV.bool (!y118))) ?_
      refine AOps.pureR rfl rfl rfl rfl rfl (rfl : _ = (AV.bool (!y118))) ?_
      obtain ⟨b123, hb, h⟩ := obind h
      refine AOps.split 6 (fun f' => ∃ tm' os', f' = ⟨updL tm' [(1, (AV.eptr [(AV.int .i64 p1.Stack), (AV.int .i64 p1.Start), (AV.sl z2 f3 e4), (AV.sl z6 f7 e8), (AV.sl z10 f11 e12), (AV.sl z14 f15 e16)] 0)), (4, (AV.fn 91 [(AV.eptr [(AV.int .i64 p1.Stack), (AV.int .i64 p1.Start), (AV.sl z2 f3 e4), (AV.sl z6 f7 e8), (AV.sl z10 f11 e12), (AV.sl z14 f15 e16)] 0)])), (5, (AV.int .i64 t58)), (6, (AV.int .i64 t97)), (49, (AV.int .i64 y18)), (50, (AV.int .i64 t58)), (79, (AV.int .i64 t97)), (101, (AV.bool b123))], updL os' [], { s with lo := s.n }⟩) ?_ ?_
      · rcases oite hb with ⟨hc122, hb⟩ | ⟨hc122, hb⟩
        · refine AOps.know (d := 95) rfl hc122 ?_
          refine AOps.skipR rfl rfl ?_
          refine AOps.skipR rfl rfl ?_
          refine AOps.skipR rfl rfl ?_
          refine AOps.skipR rfl rfl ?_
          refine AOps.skipR rfl rfl ?_
          refine AOps.pureR rfl rfl rfl rfl rfl (rfl : _ = (AV.bool true)) ?_
          refine AOps.resR [(1, (AV.eptr [(AV.int .i64 p1.Stack), (AV.int .i64 p1.Start), (AV.sl z2 f3 e4), (AV.sl z6 f7 e8), (AV.sl z10 f11 e12), (AV.sl z14 f15 e16)] 0)), (4, (AV.fn 91 [(AV.eptr [(AV.int .i64 p1.Stack), (AV.int .i64 p1.Start), (AV.sl z2 f3 e4), (AV.sl z6 f7 e8), (AV.sl z10 f11 e12), (AV.sl z14 f15 e16)] 0)])), (5, (AV.int .i64 t58)), (6, (AV.int .i64 t97)), (49, (AV.int .i64 y18)), (50, (AV.int .i64 t58)), (79, (AV.int .i64 t97)), (101, (AV.bool b123))] [] ?_ ?_ _ ⟨_, _, rfl⟩
          · exact ⟨rfl, rfl, rfl, rfl, rfl, rfl, rfl, congrArg AV.bool (Option.some.inj hb), trivial⟩
          exact trivial
        · have h := hb
          refine AOps.know (d := 95) rfl hc122 ?_
          refine AOps.ldE (v := (AV.agg [(AV.int .i64 p1.Stack), (AV.int .i64 p1.Start), (AV.sl z2 f3 e4), (AV.sl z6 f7 e8), (AV.sl z10 f11 e12), (AV.sl z14 f15 e16)])) rfl rfl rfl rfl rfl rfl ?_
          refine AOps.pureR rfl rfl rfl rfl rfl (rfl : _ = (AV.eptr [(AV.int .i64 x108.To), (AV.int .i64 x108.Put)] 1)) ?_
          refine AOps.ldE (v := (AV.int .i64 x108.Put)) rfl rfl rfl rfl rfl rfl ?_
          obtain ⟨y124, h125, h⟩ := obind h
          refine AOps.callDP (g := 95) (args := [(AV.agg [(AV.int .i64 p1.Stack), (AV.int .i64 p1.Start), (AV.sl z2 f3 e4), (AV.sl z6 f7 e8), (AV.sl z10 f11 e12), (AV.sl z14 f15 e16)]), (AV.int .i64 x108.Put)]) (p := (rB) y124) rfl rfl rfl (impl_Checker_isMark_ok h5 h9 h13 h17 h125 hWF.still) (fun v hv => Nice.pure (k := FINK) (p := (rB) y124) .B _ v hv) ?_
          intro _ o127 h126
          cases h126
          refine AOps.pureR rfl rfl rfl rfl rfl (rfl : _ = (AV.bool (!y124))) ?_
          refine AOps.pureR rfl rfl rfl rfl rfl (rfl : _ = (AV.bool (!y124))) ?_
          refine AOps.resR [(1, (AV.eptr [(AV.int .i64 p1.Stack), (AV.int .i64 p1.Start), (AV.sl z2 f3 e4), (AV.sl z6 f7 e8), (AV.sl z10 f11 e12), (AV.sl z14 f15 e16)] 0)), (4, (AV.fn 91 [(AV.eptr [(AV.int .i64 p1.Stack), (AV.int .i64 p1.Start), (AV.sl z2 f3 e4), (AV.sl z6 f7 e8), (AV.sl z10 f11 e12), (AV.sl z14 f15 e16)] 0)])), (5, (AV.int .i64 t58)), (6, (AV.int .i64 t97)), (49, (AV.int .i64 y18)), (50, (AV.int .i64 t58)), (79, (AV.int .i64 t97)), (101, (AV.bool b123))] [] ?_ ?_ _ ⟨_, _, rfl⟩
          · exact ⟨rfl, rfl, rfl, rfl, rfl, rfl, rfl, congrArg AV.bool (Option.some.inj h), trivial⟩
          exact trivial
      rintro _ ⟨tm, os, rfl⟩
      refine AOps.pureR rfl rfl rfl rfl rfl (rfl : _ = (AV.bool b123)) ?_
      obtain ⟨b129, hb, h⟩ := obind h
      refine AOps.split 15 (fun f' => ∃ tm' os', f' = ⟨updL tm' [(1, (AV.eptr [(AV.int .i64 p1.Stack), (AV.int .i64 p1.Start), (AV.sl z2 f3 e4), (AV.sl z6 f7 e8), (AV.sl z10 f11 e12), (AV.sl z14 f15 e16)] 0)), (4, (AV.fn 91 [(AV.eptr [(AV.int .i64 p1.Stack), (AV.int .i64 p1.Start), (AV.sl z2 f3 e4), (AV.sl z6 f7 e8), (AV.sl z10 f11 e12), (AV.sl z14 f15 e16)] 0)])), (5, (AV.int .i64 t58)), (49, (AV.int .i64 y18)), (50, (AV.int .i64 t58)), (79, (AV.int .i64 t97)), (117, (AV.bool b129))], updL os' [], { s with lo := s.n }⟩) ?_ ?_
      · rcases oite hb with ⟨hc128, hb⟩ | ⟨hc128, hb⟩
        · refine AOps.know (d := 102) rfl hc128 ?_
          refine AOps.skipR rfl rfl ?_
          refine AOps.skipR rfl rfl ?_
          refine AOps.skipR rfl rfl ?_
          refine AOps.skipR rfl rfl ?_
          refine AOps.skipR rfl rfl ?_
          refine AOps.skipR rfl rfl ?_
          refine AOps.skipR rfl rfl ?_
          refine AOps.skipR rfl rfl ?_
          refine AOps.skipR rfl rfl ?_
          refine AOps.skipR rfl rfl ?_
          refine AOps.skipR rfl rfl ?_
          refine AOps.skipR rfl rfl ?_
          refine AOps.skipR rfl rfl ?_
          refine AOps.skipR rfl rfl ?_
          refine AOps.pureR rfl rfl rfl rfl rfl (rfl : _ = (AV.bool true)) ?_
          refine AOps.resR [(1, (AV.eptr [(AV.int .i64 p1.Stack), (AV.int .i64 p1.Start), (AV.sl z2 f3 e4), (AV.sl z6 f7 e8), (AV.sl z10 f11 e12), (AV.sl z14 f15 e16)] 0)), (4, (AV.fn 91 [(AV.eptr [(AV.int .i64 p1.Stack), (AV.int .i64 p1.Start), (AV.sl z2 f3 e4), (AV.sl z6 f7 e8), (AV.sl z10 f11 e12), (AV.sl z14 f15 e16)] 0)])), (5, (AV.int .i64 t58)), (49, (AV.int .i64 y18)), (50, (AV.int .i64 t58)), (79, (AV.int .i64 t97)), (117, (AV.bool b129))] [] ?_ ?_ _ ⟨_, _, rfl⟩
          · exact ⟨rfl, rfl, rfl, rfl, rfl, rfl, congrArg AV.bool (Option.some.inj hb), trivial⟩
          exact trivial
        · have h := hb
          refine AOps.know (d := 102) rfl hc128 ?_
          refine AOps.pureR rfl rfl rfl rfl rfl (rfl : _ = (AV.fn 91 [(AV.eptr [(AV.int .i64 p1.Stack), (AV.int .i64 p1.Start), (AV.sl z2 f3 e4), (AV.sl z6 f7 e8), (AV.sl z10 f11 e12), (AV.sl z14 f15 e16)] 0)])) ?_
          refine AOps.pureR rfl rfl rfl rfl rfl (rfl : _ = (AV.eptr [(AV.int .i64 p1.Stack), (AV.int .i64 p1.Start), (AV.sl z2 f3 e4), (AV.sl z6 f7 e8), (AV.sl z10 f11 e12), (AV.sl z14 f15 e16)] 4)) ?_
          refine AOps.ldE (v := (AV.sl z10 f11 e12)) rfl rfl rfl rfl rfl rfl ?_
          refine AOps.pureR rfl rfl rfl rfl rfl (rfl : _ = (AV.int .i64 t58)) ?_
          obtain ⟨x130, h131, h⟩ := obind h
          obtain ⟨v134, h132, h133⟩ := idx_sl h13 h131
          obtain ⟨z135, f136, e137, rfl, h138⟩ := h132
          refine AOps.pureR rfl rfl rfl h133 rfl (rfl : _ = (AV.eptr [(AV.sl z135 f136 e137)] 0)) ?_
          refine AOps.ldE (v := (AV.sl z135 f136 e137)) rfl rfl rfl rfl rfl rfl ?_
          refine AOps.pureR rfl rfl rfl rfl rfl (rfl : _ = (AV.int .i64 t97)) ?_
          obtain ⟨x139, h140, h⟩ := obind h
          obtain ⟨v143, h141, h142⟩ := idx_sl h138 h140
          obtain ⟨z144, f145, e146, rfl, h147⟩ := h141
          refine AOps.pureR rfl rfl rfl h142 rfl (rfl : _ = (AV.eptr [(AV.sl z144 f145 e146)] 0)) ?_
          refine AOps.ldE (v := (AV.sl z144 f145 e146)) rfl rfl rfl rfl rfl rfl ?_
          refine AOps.pureR rfl rfl rfl rfl rfl (rfl : _ = (AV.eptr [(AV.int .i64 p1.Stack), (AV.int .i64 p1.Start), (AV.sl z2 f3 e4), (AV.sl z6 f7 e8), (AV.sl z10 f11 e12), (AV.sl z14 f15 e16)] 0)) ?_
          refine AOps.ldE (v := (AV.int .i64 p1.Stack)) rfl rfl rfl rfl rfl rfl ?_
          refine AOps.pureR rfl rfl rfl rfl rfl (rfl : _ = (AV.int .i64 (IntKind.wrap .i64 (p1.Stack + 1)))) ?_
          obtain ⟨y148, h149, h⟩ := obind h
          refine AOps.callDP (g := 91) (args := [(AV.sl z144 f145 e146), (AV.int .i64 (IntKind.wrap .i64 (p1.Stack + 1))), (AV.eptr [(AV.int .i64 p1.Stack), (AV.int .i64 p1.Start), (AV.sl z2 f3 e4), (AV.sl z6 f7 e8), (AV.sl z10 f11 e12), (AV.sl z14 f15 e16)] 0)]) (p := (rB) y148) rfl rfl rfl (impl_ValidChecker_1_ok h147 h5 h9 h13 h17 h149 hWF.still) (fun v hv => Nice.pure (k := FINK) (p := (rB) y148) .B _ v hv) ?_
          intro _ o151 h150
          cases h150
          refine AOps.pureR rfl rfl rfl rfl rfl (rfl : _ = (AV.bool (!y148))) ?_
          refine AOps.pureR rfl rfl rfl rfl rfl (rfl : _ = (AV.bool (!y148))) ?_
          refine AOps.resR [(1, (AV.eptr [(AV.int .i64 p1.Stack), (AV.int .i64 p1.Start), (AV.sl z2 f3 e4), (AV.sl z6 f7 e8), (AV.sl z10 f11 e12), (AV.sl z14 f15 e16)] 0)), (4, (AV.fn 91 [(AV.eptr [(AV.int .i64 p1.Stack), (AV.int .i64 p1.Start), (AV.sl z2 f3 e4), (AV.sl z6 f7 e8), (AV.sl z10 f11 e12), (AV.sl z14 f15 e16)] 0)])), (5, (AV.int .i64 t58)), (49, (AV.int .i64 y18)), (50, (AV.int .i64 t58)), (79, (AV.int .i64 t97)), (117, (AV.bool b129))] [] ?_ ?_ _ ⟨_, _, rfl⟩
          · exact ⟨rfl, rfl, rfl, rfl, rfl, rfl, congrArg AV.bool (Option.some.inj h), trivial⟩
          exact trivial
      rintro _ ⟨tm, os, rfl⟩
      refine AOps.nilR ?_
      rcases oite h with ⟨hc152, h⟩ | ⟨hc152, h⟩
      · refine AW.condT (congrArg AV.bool hc152) ?_
        refine AW.seq ?_
        refine AW.region ?_
        refine AOps.pureR rfl rfl rfl rfl rfl (rfl : _ = (AV.bool false)) ?_
        refine AOps.nilR ?_
        cases h
        have hr := hR2 _ rfl
        cases hr
        have hr := hR1 _ rfl
        subst hr
        exact AW.ret ⟨rfl, _, _, rfl, rfl⟩
      refine AW.condF (congrArg AV.bool hc152) ?_
      refine AW.skip ?_
      refine AW.inBlock ?_
      refine AW.region ?_
      refine AOps.pureR rfl rfl rfl rfl rfl (rfl : _ = (AV.int .i64 (IntKind.wrap .i64 (t97 + 1)))) ?_
      refine AOps.pureR rfl rfl rfl rfl rfl (rfl : _ = (AV.int .i64 (IntKind.wrap .i64 (t97 + 1)))) ?_
      refine AOps.nilR ?_
      cases h
      exact AW.res [(1, (AV.eptr [(AV.int .i64 p1.Stack), (AV.int .i64 p1.Start), (AV.sl z2 f3 e4), (AV.sl z6 f7 e8), (AV.sl z10 f11 e12), (AV.sl z14 f15 e16)] 0)), (4, (AV.fn 91 [(AV.eptr [(AV.int .i64 p1.Stack), (AV.int .i64 p1.Start), (AV.sl z2 f3 e4), (AV.sl z6 f7 e8), (AV.sl z10 f11 e12), (AV.sl z14 f15 e16)] 0)])), (5, (AV.int .i64 t58)), (49, (AV.int .i64 y18)), (50, (AV.int .i64 t58)), (79, (AV.int .i64 (IntKind.wrap .i64 (t97 + 1))))] [] ⟨rfl, rfl, rfl, rfl, rfl, rfl, trivial⟩ trivial (hL2 _ rfl () _ _ trivial)
    refine AW.condF (congrArg AV.bool hc98) ?_
    refine AW.exit rfl ?_
    obtain ⟨r153, hm, hx⟩ := omap h
    clear h
    subst hx
    have hx := hR2 _ rfl
    rw [hx] at hm
    have h := hm
    exact AW.res [(1, (AV.eptr [(AV.int .i64 p1.Stack), (AV.int .i64 p1.Start), (AV.sl z2 f3 e4), (AV.sl z6 f7 e8), (AV.sl z10 f11 e12), (AV.sl z14 f15 e16)] 0)), (4, (AV.fn 91 [(AV.eptr [(AV.int .i64 p1.Stack), (AV.int .i64 p1.Start), (AV.sl z2 f3 e4), (AV.sl z6 f7 e8), (AV.sl z10 f11 e12), (AV.sl z14 f15 e16)] 0)])), (49, (AV.int .i64 y18)), (50, (AV.int .i64 t58))] [] ⟨rfl, rfl, rfl, rfl, trivial⟩ trivial (KJ96 () _ _ h)
  refine AW.condF (congrArg AV.bool hc59) ?_
  refine AW.exit rfl ?_
  obtain ⟨r154, hm, hx⟩ := omap h
  clear h
  subst hx
  have hx := hR1 _ rfl
  rw [hx] at hm
  have h := hm
  exact AW.res [] [] trivial trivial (KJ57 () _ _ h)
theorem impl_size_string_ok {list1 : List (List UInt8)} {z2 : Nat} {f3 : Bool} {e4 : List AV} {s : St} (h5 : LR rS 1 list1 z2 e4) {r : Int} (h : impl_size_string list1 = some r) (hs : WF s) : ACall Cf 45 [(AV.sl z2 f3 e4)] s fun v _ s' => (rI .i64) r v ∧ s' = s := by
  refine ACall.pure rfl rfl rfl .I ?_
  have hWF := hs.lo'
  unfold impl_size_string at h
  refine AW.seq ?_
  refine AW.region ?_
  refine AOps.pureR rfl rfl rfl rfl rfl (rfl : _ = (AV.int .i64 0)) ?_
  refine AOps.nilR ?_
  refine AW.seq ?_
  refine AW.region ?_
  refine AOps.pureR rfl rfl rfl rfl rfl (rfl : _ = (AV.sl z2 f3 e4)) ?_
  refine AOps.pureR rfl rfl rfl rfl rfl (len_eq h5) ?_
  refine AOps.assignR rfl rfl rfl (rfl : _ = (AV.int .i64 (list1.length : Int))) rfl ?_
  refine AOps.nilR ?_
  cases h
  exact AW.ret ⟨rfl, _, _, rfl, rfl⟩
theorem slices_IndexFunc_sstring_string_ok {s1 : List (List UInt8)} {f6 : (List UInt8) → Option Bool} {z2 : Nat} {f3 : Bool} {e4 : List AV} {g7 : Nat} {cap8 : List AV} {s : St} (h5 : LR rS 1 s1 z2 e4) (h9 : ∀ x vs y, Cs [rS x] vs → f6 x = some y → ∀ s, WF s → ACall Cf g7 (vs ++ cap8) s fun v _ s' => (rB) y v ∧ s' = s) {r : Int} (h : slices_IndexFunc_sstring_string s1 f6 = some r) (hs : WF s) : ACall Cf 96 [(AV.sl z2 f3 e4), (AV.fn g7 cap8)] s fun v _ s' => (rI .i64) r v ∧ s' = s := by
  refine ACall.pure rfl rfl rfl .I ?_
  have hWF := hs.lo'
  unfold slices_IndexFunc_sstring_string at h
  refine AW.seq ?_
  refine AW.region ?_
  refine AOps.pureR rfl rfl rfl rfl rfl (rfl : _ = (AV.int .i64 0)) ?_
  refine AOps.nilR ?_
  refine AW.seq ?_
  refine AW.seq ?_
  refine AW.region ?_
  refine AOps.pureR rfl rfl rfl rfl rfl (rfl : _ = (AV.sl z2 f3 e4)) ?_
  refine AOps.pureR rfl rfl rfl rfl rfl (len_eq h5) ?_
  refine AOps.pureR rfl rfl rfl rfl rfl (rfl : _ = (AV.int .i64 0)) ?_
  refine AOps.nilR ?_
  refine AW.meet (σ := Unit) (fun _ tm os => ⟨updL tm [], updL os [], { s with lo := s.n }⟩) (fun _ => slices_IndexFunc_sstring_string_J1 = some r) ?_ ?_
  · rintro _ tm os h
    unfold slices_IndexFunc_sstring_string_J1 at h
    refine AW.seq ?_
    refine AW.region ?_
    refine AOps.pureR rfl rfl rfl rfl rfl (rfl : _ = (AV.int .i64 (-1))) ?_
    refine AOps.nilR ?_
    cases h
    exact AW.ret ⟨rfl, _, _, rfl, rfl⟩
  intro KJ10
  refine AW.block ?_
  refine AW.res [(0, (AV.sl z2 f3 e4)), (1, (AV.fn g7 cap8)), (7, (AV.int .i64 (s1.length : Int))), (8, (AV.int .i64 0))] [] ⟨rfl, rfl, rfl, rfl, trivial⟩ trivial ?_
  refine AW.loopF (σ := Int) (τ := Unit) (fun t11 _ => True) (fun t11 _ tm os => ⟨updL tm [(0, (AV.sl z2 f3 e4)), (1, (AV.fn g7 cap8)), (7, (AV.int .i64 (s1.length : Int))), (8, (AV.int .i64 t11))], updL os [], { s with lo := s.n }⟩) ?_ (x := (0)) (y := ()) h trivial
  clear h
  rintro t11 _ tm os - e1 h hL1 hR1
  unfold slices_IndexFunc_sstring_string_S1 at h
  refine AW.seq ?_
  refine AW.region ?_
  refine AOps.pureR rfl rfl rfl rfl rfl (rfl : _ = (AV.bool (decide ((t11 : Int) < (s1.length : Int))))) ?_
  refine AOps.nilR ?_
  refine AW.seq ?_
  rcases oite h with ⟨hc12, h⟩ | ⟨hc12, h⟩
  · refine AW.condT (congrArg AV.bool hc12) ?_
    refine AW.skip ?_
    refine AW.seq ?_
    refine AW.block ?_
    refine AW.seq ?_
    refine AW.region ?_
    refine AOps.pureR rfl rfl rfl rfl rfl (rfl : _ = (AV.int .i64 t11)) ?_
    refine AOps.assignR rfl rfl rfl (rfl : _ = (AV.int .i64 t11)) rfl ?_
    refine AOps.nilR ?_
    refine AW.seq ?_
    refine AW.region ?_
    refine AOps.pureR rfl rfl rfl rfl rfl (rfl : _ = (AV.fn g7 cap8)) ?_
    refine AOps.pureR rfl rfl rfl rfl rfl (rfl : _ = (AV.sl z2 f3 e4)) ?_
    refine AOps.pureR rfl rfl rfl rfl rfl (rfl : _ = (AV.int .i64 t11)) ?_
    obtain ⟨x13, h14, h⟩ := obind h
    obtain ⟨v17, h15, h16⟩ := idx_sl h5 h14
    cases h15
    refine AOps.pureR rfl rfl rfl h16 rfl (rfl : _ = (AV.eptr [(AV.str x13)] 0)) ?_
    refine AOps.ldE (v := (AV.str x13)) rfl rfl rfl rfl rfl rfl ?_
    obtain ⟨y18, h19, h⟩ := obind h
    refine AOps.callP (g := g7) (args := ([(AV.str x13)] ++ cap8)) (p := (rB) y18) rfl rfl rfl (h9 x13 _ _ (.cons rfl .nil) h19 _ hWF) ?_
    intro _ o21 h20
    cases h20
    refine AOps.nilR ?_
    rcases oite h with ⟨hc22, h⟩ | ⟨hc22, h⟩
    · refine AW.condT (congrArg AV.bool hc22) ?_
      refine AW.seq ?_
      refine AW.region ?_
      refine AOps.pureR rfl rfl rfl rfl rfl (rfl : _ = (AV.int .i64 t11)) ?_
      refine AOps.assignR rfl rfl rfl (rfl : _ = (AV.int .i64 t11)) rfl ?_
      refine AOps.nilR ?_
      cases h
      have hr := hR1 _ rfl
      subst hr
      exact AW.ret ⟨rfl, _, _, rfl, rfl⟩
    refine AW.condF (congrArg AV.bool hc22) ?_
    refine AW.skip ?_
    refine AW.inBlock ?_
    refine AW.region ?_
    refine AOps.pureR rfl rfl rfl rfl rfl (rfl : _ = (AV.int .i64 (IntKind.wrap .i64 (t11 + 1)))) ?_
    refine AOps.pureR rfl rfl rfl rfl rfl (rfl : _ = (AV.int .i64 (IntKind.wrap .i64 (t11 + 1)))) ?_
    refine AOps.nilR ?_
    cases h
    exact AW.res [(0, (AV.sl z2 f3 e4)), (1, (AV.fn g7 cap8)), (7, (AV.int .i64 (s1.length : Int))), (8, (AV.int .i64 (IntKind.wrap .i64 (t11 + 1))))] [] ⟨rfl, rfl, rfl, rfl, trivial⟩ trivial (hL1 _ rfl () _ _ trivial)
  refine AW.condF (congrArg AV.bool hc12) ?_
  refine AW.exit rfl ?_
  obtain ⟨r23, hm, hx⟩ := omap h
  clear h
  subst hx
  have hx := hR1 _ rfl
  rw [hx] at hm
  have h := hm
  exact AW.res [] [] trivial trivial (KJ10 () _ _ h)
theorem slices_ContainsFunc_sstring_string_ok {s1 : List (List UInt8)} {f6 : (List UInt8) → Option Bool} {z2 : Nat} {f3 : Bool} {e4 : List AV} {g7 : Nat} {cap8 : List AV} {s : St} (h5 : LR rS 1 s1 z2 e4) (h9 : ∀ x vs y, Cs [rS x] vs → f6 x = some y → ∀ s, WF s → ACall Cf g7 (vs ++ cap8) s fun v _ s' => (rB) y v ∧ s' = s) {r : Bool} (h : slices_ContainsFunc_sstring_string s1 f6 = some r) (hs : WF s) : ACall Cf 46 [(AV.sl z2 f3 e4), (AV.fn g7 cap8)] s fun v _ s' => (rB) r v ∧ s' = s := by
  refine ACall.pure rfl rfl rfl .B ?_
  have hWF := hs.lo'
  unfold slices_ContainsFunc_sstring_string at h
  refine AW.seq ?_
  refine AW.region ?_
  refine AOps.pureR rfl rfl rfl rfl rfl (rfl : _ = (AV.bool false)) ?_
  refine AOps.nilR ?_
  refine AW.seq ?_
  refine AW.region ?_
  refine AOps.pureR rfl rfl rfl rfl rfl (rfl : _ = (AV.sl z2 f3 e4)) ?_
  refine AOps.pureR rfl rfl rfl rfl rfl (rfl : _ = (AV.fn g7 cap8)) ?_
  obtain ⟨y10, h11, h⟩ := obind h
  refine AOps.callP (g := 96) (args := [(AV.sl z2 f3 e4), (AV.fn g7 cap8)]) (p := (rI .i64) y10) rfl rfl rfl (slices_IndexFunc_sstring_string_ok h5 h9 h11 hWF) ?_
  intro _ o13 h12
  cases h12
  refine AOps.pureR rfl rfl rfl rfl rfl (rfl : _ = (AV.bool (decide ((y10 : Int) ≥ 0)))) ?_
  refine AOps.assignR rfl rfl rfl (rfl : _ = (AV.bool (decide ((y10 : Int) ≥ 0)))) rfl ?_
  refine AOps.nilR ?_
  cases h
  exact AW.ret ⟨rfl, _, _, rfl, rfl⟩
theorem internal_stringslite_IndexByte_ok {s1 : List UInt8} {c2 : Int} {s : St} {r : Int} (h : internal_stringslite_IndexByte s1 c2 = some r) (hs : WF s) : ACall Cf 120 [(AV.str s1), (AV.int .u8 c2)] s fun v _ s' => (rI .i64) r v ∧ s' = s := by
  refine ACall.pure rfl rfl rfl .I ?_
  have hWF := hs.lo'
  unfold internal_stringslite_IndexByte at h
  refine AW.seq ?_
  refine AW.region ?_
  refine AOps.pureR rfl rfl rfl rfl rfl (rfl : _ = (AV.int .i64 0)) ?_
  refine AOps.nilR ?_
  refine AW.seq ?_
  refine AW.region ?_
  refine AOps.pureR rfl rfl rfl rfl rfl (rfl : _ = (AV.str s1)) ?_
  refine AOps.pureR rfl rfl rfl rfl rfl (rfl : _ = (AV.int .u8 c2)) ?_
  obtain ⟨y3, h4, h⟩ := obind h
  refine AOps.callP (g := 139) (args := [(AV.str s1), (AV.int .u8 c2)]) (p := (rI .i64) y3) rfl rfl rfl (ext_byte_ok h4 hWF) ?_
  intro _ o6 h5
  cases h5
  refine AOps.assignR rfl rfl rfl (rfl : _ = (AV.int .i64 y3)) rfl ?_
  refine AOps.nilR ?_
  cases h
  exact AW.ret ⟨rfl, _, _, rfl, rfl⟩
theorem strings_IndexByte_ok {s1 : List UInt8} {c2 : Int} {s : St} {r : Int} (h : strings_IndexByte s1 c2 = some r) (hs : WF s) : ACall Cf 72 [(AV.str s1), (AV.int .u8 c2)] s fun v _ s' => (rI .i64) r v ∧ s' = s := by
  refine ACall.pure rfl rfl rfl .I ?_
  have hWF := hs.lo'
  unfold strings_IndexByte at h
  refine AW.seq ?_
  refine AW.region ?_
  refine AOps.pureR rfl rfl rfl rfl rfl (rfl : _ = (AV.int .i64 0)) ?_
  refine AOps.nilR ?_
  refine AW.seq ?_
  refine AW.region ?_
  refine AOps.pureR rfl rfl rfl rfl rfl (rfl : _ = (AV.str s1)) ?_
  refine AOps.pureR rfl rfl rfl rfl rfl (rfl : _ = (AV.int .u8 c2)) ?_
  obtain ⟨y3, h4, h⟩ := obind h
  refine AOps.callP (g := 120) (args := [(AV.str s1), (AV.int .u8 c2)]) (p := (rI .i64) y3) rfl rfl rfl (internal_stringslite_IndexByte_ok  h4 hWF) ?_
  intro _ o6 h5
  cases h5
  refine AOps.assignR rfl rfl rfl (rfl : _ = (AV.int .i64 y3)) rfl ?_
  refine AOps.nilR ?_
  cases h
  exact AW.ret ⟨rfl, _, _, rfl, rfl⟩
end Go.Proofs.Ytolbkojnnofnaaa.law
