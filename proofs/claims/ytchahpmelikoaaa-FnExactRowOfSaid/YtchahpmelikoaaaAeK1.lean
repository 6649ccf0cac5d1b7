import Derived.Test.YtchahpmelikoaaaAeD
import Derived.Test.YtchahpmelikoaaaAe4
set_option linter.unusedVariables false
set_option linter.unusedSimpArgs false
namespace Go.Proofs.Ytchahpmelikoaaa.law
open Go Go.Proofs Ae
set_option maxRecDepth 100000
set_option linter.unusedVariables false
theorem ext_byte_ok {s : List UInt8} {c r : Int} (h : ixByteM s c = some r) {st : St} (hs : WF st) : ACall Cf 86 [.str s, .int .u8 c] st fun v _ s' => rI .i64 r v ∧ s' = st := by
 cases h
 exact ⟨0, _, _, _, rfl, rfl, rfl⟩
theorem ext_clone93_ok {l : List Int} {z : Nat} {f : Bool} {e : List AV} (hL : LR (rI .i64) 1 l z e) {r : List Int} (h : cloneI l = some r) {st : St} (hs : WF st) : ACall Cf 93 [.sl z f e] st fun v o s' => (rL (rI .i64) 1 r v ∧ s' = st) ∧ o = true := by
 obtain ⟨h1, rfl⟩ := φClone_run hL h
 refine ⟨0, .sl 1 false e, true, st, ?_, ⟨⟨1, false, e, rfl, .inl rfl, hL.el⟩, rfl⟩, rfl⟩
 show (φClone [.sl z f e]).map _ = _
 rw [h1]
 rfl
noncomputable def oE4 : OT Bool := oLeaf rB false 1 4 Sh.B (fun _ => rfl) (fun _ => .B)
noncomputable def oE84 : OT Push := oLeaf rPush true 2 4 (Sh.A (f := csPush) (fun _ => ⟨(.cons (One.of Sh.I _) (.cons (One.of Sh.I _) .nil)), rfl⟩)) (fun h => by cases h) (fun _ => (.A (.cons .I (.cons .I .nil))))
noncomputable def oE81 : OT (List Push) := oSl oE84
noncomputable def oE2 : OT Int := oLeaf (rI .i64) false 1 4 Sh.I (fun _ => rfl) (fun _ => .I)
noncomputable def oE79 : OT (List Int) := oSl oE2
noncomputable def oE25 : OT (List (List Int)) := oSl oE79
noncomputable def oE55 : OT Context := oLeaf rContext true 2 4 (Sh.A (f := csContext) (fun _ => ⟨(.cons (One.of Sh.S _) (.cons (One.of Sh.S _) .nil)), rfl⟩)) (fun h => by cases h) (fun _ => (.A (.cons .S (.cons .S .nil))))
theorem laws_szBoolS_ok {a1 : List Bool} {left6 : Int} {z2 : Nat} {f3 : Bool} {e4 : List AV} {s : St} (h5 : LR rB 1 a1 z2 e4) {r : Int} (h : laws_szBoolS a1 left6 = some r) (hs : WF s) : ACall Cf 17 [(AV.sl z2 f3 e4), (AV.int .i64 left6)] s fun v _ s' => (rI .i64) r v ∧ s' = s := by
 refine ACall.pure rfl rfl rfl .I ?_
 have hWF := hs.lo'
 unfold laws_szBoolS at h
 refine AW.sr ?_
 refine AOps.p rfl (rfl : _ = (AV.int .i64 0)) ?_
 refine AOps.nilR ?_
 refine AW.sr ?_
 refine AOps.p rfl (rfl : _ = (AV.int .i64 left6)) ?_
 refine AOps.p rfl (rfl : _ = (AV.sl z2 f3 e4)) ?_
 refine AOps.p rfl (len_eq h5) ?_
 refine AOps.p rfl (rfl : _ = (AV.int .i64 (IntKind.wrap .i64 (left6 - (a1.length : Int))))) ?_
 refine AOps.assignR rfl rfl rfl (rfl : _ = (AV.int .i64 (IntKind.wrap .i64 (left6 - (a1.length : Int))))) rfl ?_
 refine AOps.nilR ?_
 refine AW.seq ?_
 refine AW.sr ?_
 refine AOps.p rfl (rfl : _ = (AV.int .i64 (IntKind.wrap .i64 (left6 - (a1.length : Int))))) ?_
 refine AOps.p rfl (rfl : _ = (AV.bool (decide ((IntKind.wrap .i64 (left6 - (a1.length : Int)) : Int) < 0)))) ?_
 refine AOps.nilR ?_
 rcases oite h with ⟨hc7, h⟩ | ⟨hc7, h⟩
 ·refine AW.condT (congrArg AV.bool hc7) ?_
  refine AW.sr ?_
  refine AOps.p rfl (rfl : _ = (AV.int .i64 (-1))) ?_
  refine AOps.nilR ?_
  cases h
  exact AW.ret ⟨rfl, _, _, rfl, rfl⟩
 refine AW.condF (congrArg AV.bool hc7) ?_
 refine AW.skip ?_
 refine AW.sr ?_
 refine AOps.p rfl (rfl : _ = (AV.int .i64 (IntKind.wrap .i64 (left6 - (a1.length : Int))))) ?_
 refine AOps.assignR rfl rfl rfl (rfl : _ = (AV.int .i64 (IntKind.wrap .i64 (left6 - (a1.length : Int))))) rfl ?_
 refine AOps.nilR ?_
 cases h
 exact AW.ret ⟨rfl, _, _, rfl, rfl⟩
theorem laws_szPushS_ok {a1 : List Push} {left6 : Int} {z2 : Nat} {f3 : Bool} {e4 : List AV} {s : St} (h5 : LR rPush 2 a1 z2 e4) {r : Int} (h : laws_szPushS a1 left6 = some r) (hs : WF s) : ACall Cf 45 [(AV.sl z2 f3 e4), (AV.int .i64 left6)] s fun v _ s' => (rI .i64) r v ∧ s' = s := by
 refine ACall.pure rfl rfl rfl .I ?_
 have hWF := hs.lo'
 unfold laws_szPushS at h
 refine AW.sr ?_
 refine AOps.p rfl (rfl : _ = (AV.int .i64 0)) ?_
 refine AOps.nilR ?_
 refine AW.sr ?_
 refine AOps.p rfl (rfl : _ = (AV.int .i64 left6)) ?_
 refine AOps.p rfl (rfl : _ = (AV.sl z2 f3 e4)) ?_
 refine AOps.p rfl (len_eq h5) ?_
 refine AOps.p rfl (rfl : _ = (AV.int .i64 (IntKind.wrap .i64 (left6 - (a1.length : Int))))) ?_
 refine AOps.assignR rfl rfl rfl (rfl : _ = (AV.int .i64 (IntKind.wrap .i64 (left6 - (a1.length : Int))))) rfl ?_
 refine AOps.nilR ?_
 refine AW.seq ?_
 refine AW.sr ?_
 refine AOps.p rfl (rfl : _ = (AV.int .i64 (IntKind.wrap .i64 (left6 - (a1.length : Int))))) ?_
 refine AOps.p rfl (rfl : _ = (AV.bool (decide ((IntKind.wrap .i64 (left6 - (a1.length : Int)) : Int) < 0)))) ?_
 refine AOps.nilR ?_
 rcases oite h with ⟨hc7, h⟩ | ⟨hc7, h⟩
 ·refine AW.condT (congrArg AV.bool hc7) ?_
  refine AW.sr ?_
  refine AOps.p rfl (rfl : _ = (AV.int .i64 (-1))) ?_
  refine AOps.nilR ?_
  cases h
  exact AW.ret ⟨rfl, _, _, rfl, rfl⟩
 refine AW.condF (congrArg AV.bool hc7) ?_
 refine AW.skip ?_
 refine AW.sr ?_
 refine AOps.p rfl (rfl : _ = (AV.int .i64 (IntKind.wrap .i64 (left6 - (a1.length : Int))))) ?_
 refine AOps.assignR rfl rfl rfl (rfl : _ = (AV.int .i64 (IntKind.wrap .i64 (left6 - (a1.length : Int))))) rfl ?_
 refine AOps.nilR ?_
 cases h
 exact AW.ret ⟨rfl, _, _, rfl, rfl⟩
theorem laws_szPushSS_ok {a1 : List (List Push)} {left6 : Int} {z2 : Nat} {f3 : Bool} {e4 : List AV} {s : St} (h5 : LR (rL rPush 2) 1 a1 z2 e4) {r : Int} (h : laws_szPushSS a1 left6 = some r) (hs : WF s) : ACall Cf 18 [(AV.sl z2 f3 e4), (AV.int .i64 left6)] s fun v _ s' => (rI .i64) r v ∧ s' = s := by
 refine ACall.pure rfl rfl rfl .I ?_
 have hWF := hs.lo'
 unfold laws_szPushSS at h
 refine AW.sr ?_
 refine AOps.p rfl (rfl : _ = (AV.int .i64 0)) ?_
 refine AOps.nilR ?_
 refine AW.sr ?_
 refine AOps.p rfl (rfl : _ = (AV.int .i64 left6)) ?_
 refine AOps.p rfl (rfl : _ = (AV.sl z2 f3 e4)) ?_
 refine AOps.p rfl (len_eq h5) ?_
 refine AOps.p rfl (rfl : _ = (AV.int .i64 (IntKind.wrap .i64 (left6 - (a1.length : Int))))) ?_
 refine AOps.assignR rfl rfl rfl (rfl : _ = (AV.int .i64 (IntKind.wrap .i64 (left6 - (a1.length : Int))))) rfl ?_
 refine AOps.nilR ?_
 refine AW.seq ?_
 refine AW.sr ?_
 refine AOps.p rfl (rfl : _ = (AV.int .i64 (IntKind.wrap .i64 (left6 - (a1.length : Int))))) ?_
 refine AOps.p rfl (rfl : _ = (AV.bool (decide ((IntKind.wrap .i64 (left6 - (a1.length : Int)) : Int) < 0)))) ?_
 refine AOps.nilR ?_
 rcases oite h with ⟨hc7, h⟩ | ⟨hc7, h⟩
 ·refine AW.condT (congrArg AV.bool hc7) ?_
  refine AW.sr ?_
  refine AOps.p rfl (rfl : _ = (AV.int .i64 (-1))) ?_
  refine AOps.nilR ?_
  cases h
  exact AW.ret ⟨rfl, _, _, rfl, rfl⟩
 refine AW.condF (congrArg AV.bool hc7) ?_
 refine AW.skip ?_
 refine AW.seq ?_
 refine AW.sr ?_
 refine AOps.p rfl (rfl : _ = (AV.int .i64 0)) ?_
 refine AOps.nilR ?_
 refine AW.meet (σ := Int) (fun left8 tm os => ⟨updL tm [(1, (AV.int .i64 left8))], updL os [], { s with lo := s.n }⟩) (fun left8 => laws_szPushSS_J1 left8 = some r) ?_ ?_
 ·rintro left8 tm os h
  unfold laws_szPushSS_J1 at h
  refine AW.sr ?_
  refine AOps.p rfl (rfl : _ = (AV.int .i64 left8)) ?_
  refine AOps.assignR rfl rfl rfl (rfl : _ = (AV.int .i64 left8)) rfl ?_
  refine AOps.nilR ?_
  cases h
  exact AW.ret ⟨rfl, _, _, rfl, rfl⟩
 intro KJ9
 refine AW.block ?_
 refine AW.res [(0, (AV.sl z2 f3 e4)), (1, (AV.int .i64 (IntKind.wrap .i64 (left6 - (a1.length : Int))))), (5, (AV.int .i64 0))] [] ⟨rfl, rfl, rfl, trivial⟩ trivial ?_
 refine AW.loopF (σ := Int × Int) (τ := Unit) (fun (left10, i11) _ => True) (fun (left10, i11) _ tm os => ⟨updL tm [(0, (AV.sl z2 f3 e4)), (1, (AV.int .i64 left10)), (5, (AV.int .i64 i11))], updL os [], { s with lo := s.n }⟩) ?_ (x := (IntKind.wrap .i64 (left6 - (a1.length : Int)), 0)) (y := ()) h trivial
 clear h
 rintro ⟨left10, i11⟩ _ tm os - e1 h hL1 hR1
 unfold laws_szPushSS_S1 at h
 dsimp only at h
 refine AW.seq ?_
 refine AW.sr ?_
 refine AOps.p rfl (rfl : _ = (AV.int .i64 i11)) ?_
 refine AOps.p rfl (rfl : _ = (AV.sl z2 f3 e4)) ?_
 refine AOps.p rfl (len_eq h5) ?_
 refine AOps.p rfl (rfl : _ = (AV.bool (decide ((i11 : Int) < (a1.length : Int))))) ?_
 refine AOps.nilR ?_
 rcases oite h with ⟨hc12, h⟩ | ⟨hc12, h⟩
 ·refine AW.condT (congrArg AV.bool hc12) ?_
  refine AW.skip ?_
  refine AW.seq ?_
  refine AW.block ?_
  refine AW.sr ?_
  refine AOps.p rfl (rfl : _ = (AV.sl z2 f3 e4)) ?_
  refine AOps.p rfl (rfl : _ = (AV.int .i64 i11)) ?_
  obtain ⟨x13, h14, h⟩ := obind h
  obtain ⟨v17, h15, h16⟩ := idx_sl h5 h14
  obtain ⟨z18, f19, e20, rfl, h21⟩ := h15
  refine AOps.pureR rfl rfl rfl h16 rfl (rfl : _ = (AV.eptr [(AV.sl z18 f19 e20)] 0)) ?_
  refine AOps.ldE (v := (AV.sl z18 f19 e20)) rfl rfl rfl rfl rfl rfl ?_
  refine AOps.p rfl (rfl : _ = (AV.int .i64 left10)) ?_
  obtain ⟨y22, h23, h⟩ := obind h
  refine AOps.callP (g := 45) (args := [(AV.sl z18 f19 e20), (AV.int .i64 left10)]) (p := (rI .i64) y22) rfl rfl rfl (laws_szPushS_ok h21 h23 hWF) ?_
  intro _ o25 h24
  cases h24
  refine AOps.assignR rfl rfl rfl (rfl : _ = (AV.int .i64 y22)) rfl ?_
  refine AOps.nilR ?_
  refine AW.sr ?_
  refine AOps.p rfl (rfl : _ = (AV.int .i64 y22)) ?_
  refine AOps.p rfl (rfl : _ = (AV.bool (decide ((y22 : Int) < 0)))) ?_
  refine AOps.nilR ?_
  rcases oite h with ⟨hc26, h⟩ | ⟨hc26, h⟩
  ·refine AW.condT (congrArg AV.bool hc26) ?_
   refine AW.sr ?_
   refine AOps.p rfl (rfl : _ = (AV.int .i64 (-1))) ?_
   refine AOps.nilR ?_
   cases h
   have hr := hR1 _ rfl
   subst hr
   exact AW.ret ⟨rfl, _, _, rfl, rfl⟩
  refine AW.condF (congrArg AV.bool hc26) ?_
  refine AW.skip ?_
  refine AW.inBlock ?_
  refine AW.region ?_
  refine AOps.p rfl (rfl : _ = (AV.int .i64 i11)) ?_
  refine AOps.p rfl (rfl : _ = (AV.int .i64 (IntKind.wrap .i64 (i11 + 1)))) ?_
  refine AOps.assignR rfl rfl rfl (rfl : _ = (AV.int .i64 (IntKind.wrap .i64 (i11 + 1)))) rfl ?_
  refine AOps.nilR ?_
  cases h
  exact AW.res [(0, (AV.sl z2 f3 e4)), (1, (AV.int .i64 y22)), (5, (AV.int .i64 (IntKind.wrap .i64 (i11 + 1))))] [] ⟨rfl, rfl, rfl, trivial⟩ trivial (hL1 _ rfl () _ _ trivial)
 refine AW.condF (congrArg AV.bool hc12) ?_
 refine AW.exit rfl ?_
 obtain ⟨r27, hm, hx⟩ := omap h
 clear h
 subst hx
 have hx := hR1 _ rfl
 rw [hx] at hm
 have h := hm
 exact AW.res [(1, (AV.int .i64 left10))] [] ⟨rfl, trivial⟩ trivial (KJ9 (left10) _ _ h)
theorem laws_szInt64S_ok {a1 : List Int} {left6 : Int} {z2 : Nat} {f3 : Bool} {e4 : List AV} {s : St} (h5 : LR (rI .i64) 1 a1 z2 e4) {r : Int} (h : laws_szInt64S a1 left6 = some r) (hs : WF s) : ACall Cf 46 [(AV.sl z2 f3 e4), (AV.int .i64 left6)] s fun v _ s' => (rI .i64) r v ∧ s' = s := by
 refine ACall.pure rfl rfl rfl .I ?_
 have hWF := hs.lo'
 unfold laws_szInt64S at h
 refine AW.sr ?_
 refine AOps.p rfl (rfl : _ = (AV.int .i64 0)) ?_
 refine AOps.nilR ?_
 refine AW.sr ?_
 refine AOps.p rfl (rfl : _ = (AV.int .i64 left6)) ?_
 refine AOps.p rfl (rfl : _ = (AV.sl z2 f3 e4)) ?_
 refine AOps.p rfl (len_eq h5) ?_
 refine AOps.p rfl (rfl : _ = (AV.int .i64 (IntKind.wrap .i64 (left6 - (a1.length : Int))))) ?_
 refine AOps.assignR rfl rfl rfl (rfl : _ = (AV.int .i64 (IntKind.wrap .i64 (left6 - (a1.length : Int))))) rfl ?_
 refine AOps.nilR ?_
 refine AW.seq ?_
 refine AW.sr ?_
 refine AOps.p rfl (rfl : _ = (AV.int .i64 (IntKind.wrap .i64 (left6 - (a1.length : Int))))) ?_
 refine AOps.p rfl (rfl : _ = (AV.bool (decide ((IntKind.wrap .i64 (left6 - (a1.length : Int)) : Int) < 0)))) ?_
 refine AOps.nilR ?_
 rcases oite h with ⟨hc7, h⟩ | ⟨hc7, h⟩
 ·refine AW.condT (congrArg AV.bool hc7) ?_
  refine AW.sr ?_
  refine AOps.p rfl (rfl : _ = (AV.int .i64 (-1))) ?_
  refine AOps.nilR ?_
  cases h
  exact AW.ret ⟨rfl, _, _, rfl, rfl⟩
 refine AW.condF (congrArg AV.bool hc7) ?_
 refine AW.skip ?_
 refine AW.sr ?_
 refine AOps.p rfl (rfl : _ = (AV.int .i64 (IntKind.wrap .i64 (left6 - (a1.length : Int))))) ?_
 refine AOps.assignR rfl rfl rfl (rfl : _ = (AV.int .i64 (IntKind.wrap .i64 (left6 - (a1.length : Int))))) rfl ?_
 refine AOps.nilR ?_
 cases h
 exact AW.ret ⟨rfl, _, _, rfl, rfl⟩
theorem laws_szInt64SS_ok {a1 : List (List Int)} {left6 : Int} {z2 : Nat} {f3 : Bool} {e4 : List AV} {s : St} (h5 : LR (rL (rI .i64) 1) 1 a1 z2 e4) {r : Int} (h : laws_szInt64SS a1 left6 = some r) (hs : WF s) : ACall Cf 20 [(AV.sl z2 f3 e4), (AV.int .i64 left6)] s fun v _ s' => (rI .i64) r v ∧ s' = s := by
 refine ACall.pure rfl rfl rfl .I ?_
 have hWF := hs.lo'
 unfold laws_szInt64SS at h
 refine AW.sr ?_
 refine AOps.p rfl (rfl : _ = (AV.int .i64 0)) ?_
 refine AOps.nilR ?_
 refine AW.sr ?_
 refine AOps.p rfl (rfl : _ = (AV.int .i64 left6)) ?_
 refine AOps.p rfl (rfl : _ = (AV.sl z2 f3 e4)) ?_
 refine AOps.p rfl (len_eq h5) ?_
 refine AOps.p rfl (rfl : _ = (AV.int .i64 (IntKind.wrap .i64 (left6 - (a1.length : Int))))) ?_
 refine AOps.assignR rfl rfl rfl (rfl : _ = (AV.int .i64 (IntKind.wrap .i64 (left6 - (a1.length : Int))))) rfl ?_
 refine AOps.nilR ?_
 refine AW.seq ?_
 refine AW.sr ?_
 refine AOps.p rfl (rfl : _ = (AV.int .i64 (IntKind.wrap .i64 (left6 - (a1.length : Int))))) ?_
 refine AOps.p rfl (rfl : _ = (AV.bool (decide ((IntKind.wrap .i64 (left6 - (a1.length : Int)) : Int) < 0)))) ?_
 refine AOps.nilR ?_
 rcases oite h with ⟨hc7, h⟩ | ⟨hc7, h⟩
 ·refine AW.condT (congrArg AV.bool hc7) ?_
  refine AW.sr ?_
  refine AOps.p rfl (rfl : _ = (AV.int .i64 (-1))) ?_
  refine AOps.nilR ?_
  cases h
  exact AW.ret ⟨rfl, _, _, rfl, rfl⟩
 refine AW.condF (congrArg AV.bool hc7) ?_
 refine AW.skip ?_
 refine AW.seq ?_
 refine AW.sr ?_
 refine AOps.p rfl (rfl : _ = (AV.int .i64 0)) ?_
 refine AOps.nilR ?_
 refine AW.meet (σ := Int) (fun left8 tm os => ⟨updL tm [(1, (AV.int .i64 left8))], updL os [], { s with lo := s.n }⟩) (fun left8 => laws_szInt64SS_J1 left8 = some r) ?_ ?_
 ·rintro left8 tm os h
  unfold laws_szInt64SS_J1 at h
  refine AW.sr ?_
  refine AOps.p rfl (rfl : _ = (AV.int .i64 left8)) ?_
  refine AOps.assignR rfl rfl rfl (rfl : _ = (AV.int .i64 left8)) rfl ?_
  refine AOps.nilR ?_
  cases h
  exact AW.ret ⟨rfl, _, _, rfl, rfl⟩
 intro KJ9
 refine AW.block ?_
 refine AW.res [(0, (AV.sl z2 f3 e4)), (1, (AV.int .i64 (IntKind.wrap .i64 (left6 - (a1.length : Int))))), (5, (AV.int .i64 0))] [] ⟨rfl, rfl, rfl, trivial⟩ trivial ?_
 refine AW.loopF (σ := Int × Int) (τ := Unit) (fun (left10, i11) _ => True) (fun (left10, i11) _ tm os => ⟨updL tm [(0, (AV.sl z2 f3 e4)), (1, (AV.int .i64 left10)), (5, (AV.int .i64 i11))], updL os [], { s with lo := s.n }⟩) ?_ (x := (IntKind.wrap .i64 (left6 - (a1.length : Int)), 0)) (y := ()) h trivial
 clear h
 rintro ⟨left10, i11⟩ _ tm os - e1 h hL1 hR1
 unfold laws_szInt64SS_S1 at h
 dsimp only at h
 refine AW.seq ?_
 refine AW.sr ?_
 refine AOps.p rfl (rfl : _ = (AV.int .i64 i11)) ?_
 refine AOps.p rfl (rfl : _ = (AV.sl z2 f3 e4)) ?_
 refine AOps.p rfl (len_eq h5) ?_
 refine AOps.p rfl (rfl : _ = (AV.bool (decide ((i11 : Int) < (a1.length : Int))))) ?_
 refine AOps.nilR ?_
 rcases oite h with ⟨hc12, h⟩ | ⟨hc12, h⟩
 ·refine AW.condT (congrArg AV.bool hc12) ?_
  refine AW.skip ?_
  refine AW.seq ?_
  refine AW.block ?_
  refine AW.sr ?_
  refine AOps.p rfl (rfl : _ = (AV.sl z2 f3 e4)) ?_
  refine AOps.p rfl (rfl : _ = (AV.int .i64 i11)) ?_
  obtain ⟨x13, h14, h⟩ := obind h
  obtain ⟨v17, h15, h16⟩ := idx_sl h5 h14
  obtain ⟨z18, f19, e20, rfl, h21⟩ := h15
  refine AOps.pureR rfl rfl rfl h16 rfl (rfl : _ = (AV.eptr [(AV.sl z18 f19 e20)] 0)) ?_
  refine AOps.ldE (v := (AV.sl z18 f19 e20)) rfl rfl rfl rfl rfl rfl ?_
  refine AOps.p rfl (rfl : _ = (AV.int .i64 left10)) ?_
  obtain ⟨y22, h23, h⟩ := obind h
  refine AOps.callP (g := 46) (args := [(AV.sl z18 f19 e20), (AV.int .i64 left10)]) (p := (rI .i64) y22) rfl rfl rfl (laws_szInt64S_ok h21 h23 hWF) ?_
  intro _ o25 h24
  cases h24
  refine AOps.assignR rfl rfl rfl (rfl : _ = (AV.int .i64 y22)) rfl ?_
  refine AOps.nilR ?_
  refine AW.sr ?_
  refine AOps.p rfl (rfl : _ = (AV.int .i64 y22)) ?_
  refine AOps.p rfl (rfl : _ = (AV.bool (decide ((y22 : Int) < 0)))) ?_
  refine AOps.nilR ?_
  rcases oite h with ⟨hc26, h⟩ | ⟨hc26, h⟩
  ·refine AW.condT (congrArg AV.bool hc26) ?_
   refine AW.sr ?_
   refine AOps.p rfl (rfl : _ = (AV.int .i64 (-1))) ?_
   refine AOps.nilR ?_
   cases h
   have hr := hR1 _ rfl
   subst hr
   exact AW.ret ⟨rfl, _, _, rfl, rfl⟩
  refine AW.condF (congrArg AV.bool hc26) ?_
  refine AW.skip ?_
  refine AW.inBlock ?_
  refine AW.region ?_
  refine AOps.p rfl (rfl : _ = (AV.int .i64 i11)) ?_
  refine AOps.p rfl (rfl : _ = (AV.int .i64 (IntKind.wrap .i64 (i11 + 1)))) ?_
  refine AOps.assignR rfl rfl rfl (rfl : _ = (AV.int .i64 (IntKind.wrap .i64 (i11 + 1)))) rfl ?_
  refine AOps.nilR ?_
  cases h
  exact AW.res [(0, (AV.sl z2 f3 e4)), (1, (AV.int .i64 y22)), (5, (AV.int .i64 (IntKind.wrap .i64 (i11 + 1))))] [] ⟨rfl, rfl, rfl, trivial⟩ trivial (hL1 _ rfl () _ _ trivial)
 refine AW.condF (congrArg AV.bool hc12) ?_
 refine AW.exit rfl ?_
 obtain ⟨r27, hm, hx⟩ := omap h
 clear h
 subst hx
 have hx := hR1 _ rfl
 rw [hx] at hm
 have h := hm
 exact AW.res [(1, (AV.int .i64 left10))] [] ⟨rfl, trivial⟩ trivial (KJ9 (left10) _ _ h)
theorem laws_szInt64SSS_ok {a1 : List (List (List Int))} {left6 : Int} {z2 : Nat} {f3 : Bool} {e4 : List AV} {s : St} (h5 : LR (rL (rL (rI .i64) 1) 1) 1 a1 z2 e4) {r : Int} (h : laws_szInt64SSS a1 left6 = some r) (hs : WF s) : ACall Cf 19 [(AV.sl z2 f3 e4), (AV.int .i64 left6)] s fun v _ s' => (rI .i64) r v ∧ s' = s := by
 refine ACall.pure rfl rfl rfl .I ?_
 have hWF := hs.lo'
 unfold laws_szInt64SSS at h
 refine AW.sr ?_
 refine AOps.p rfl (rfl : _ = (AV.int .i64 0)) ?_
 refine AOps.nilR ?_
 refine AW.sr ?_
 refine AOps.p rfl (rfl : _ = (AV.int .i64 left6)) ?_
 refine AOps.p rfl (rfl : _ = (AV.sl z2 f3 e4)) ?_
 refine AOps.p rfl (len_eq h5) ?_
 refine AOps.p rfl (rfl : _ = (AV.int .i64 (IntKind.wrap .i64 (left6 - (a1.length : Int))))) ?_
 refine AOps.assignR rfl rfl rfl (rfl : _ = (AV.int .i64 (IntKind.wrap .i64 (left6 - (a1.length : Int))))) rfl ?_
 refine AOps.nilR ?_
 refine AW.seq ?_
 refine AW.sr ?_
 refine AOps.p rfl (rfl : _ = (AV.int .i64 (IntKind.wrap .i64 (left6 - (a1.length : Int))))) ?_
 refine AOps.p rfl (rfl : _ = (AV.bool (decide ((IntKind.wrap .i64 (left6 - (a1.length : Int)) : Int) < 0)))) ?_
 refine AOps.nilR ?_
 rcases oite h with ⟨hc7, h⟩ | ⟨hc7, h⟩
 ·refine AW.condT (congrArg AV.bool hc7) ?_
  refine AW.sr ?_
  refine AOps.p rfl (rfl : _ = (AV.int .i64 (-1))) ?_
  refine AOps.nilR ?_
  cases h
  exact AW.ret ⟨rfl, _, _, rfl, rfl⟩
 refine AW.condF (congrArg AV.bool hc7) ?_
 refine AW.skip ?_
 refine AW.seq ?_
 refine AW.sr ?_
 refine AOps.p rfl (rfl : _ = (AV.int .i64 0)) ?_
 refine AOps.nilR ?_
 refine AW.meet (σ := Int) (fun left8 tm os => ⟨updL tm [(1, (AV.int .i64 left8))], updL os [], { s with lo := s.n }⟩) (fun left8 => laws_szInt64SSS_J1 left8 = some r) ?_ ?_
 ·rintro left8 tm os h
  unfold laws_szInt64SSS_J1 at h
  refine AW.sr ?_
  refine AOps.p rfl (rfl : _ = (AV.int .i64 left8)) ?_
  refine AOps.assignR rfl rfl rfl (rfl : _ = (AV.int .i64 left8)) rfl ?_
  refine AOps.nilR ?_
  cases h
  exact AW.ret ⟨rfl, _, _, rfl, rfl⟩
 intro KJ9
 refine AW.block ?_
 refine AW.res [(0, (AV.sl z2 f3 e4)), (1, (AV.int .i64 (IntKind.wrap .i64 (left6 - (a1.length : Int))))), (5, (AV.int .i64 0))] [] ⟨rfl, rfl, rfl, trivial⟩ trivial ?_
 refine AW.loopF (σ := Int × Int) (τ := Unit) (fun (left10, i11) _ => True) (fun (left10, i11) _ tm os => ⟨updL tm [(0, (AV.sl z2 f3 e4)), (1, (AV.int .i64 left10)), (5, (AV.int .i64 i11))], updL os [], { s with lo := s.n }⟩) ?_ (x := (IntKind.wrap .i64 (left6 - (a1.length : Int)), 0)) (y := ()) h trivial
 clear h
 rintro ⟨left10, i11⟩ _ tm os - e1 h hL1 hR1
 unfold laws_szInt64SSS_S1 at h
 dsimp only at h
 refine AW.seq ?_
 refine AW.sr ?_
 refine AOps.p rfl (rfl : _ = (AV.int .i64 i11)) ?_
 refine AOps.p rfl (rfl : _ = (AV.sl z2 f3 e4)) ?_
 refine AOps.p rfl (len_eq h5) ?_
 refine AOps.p rfl (rfl : _ = (AV.bool (decide ((i11 : Int) < (a1.length : Int))))) ?_
 refine AOps.nilR ?_
 rcases oite h with ⟨hc12, h⟩ | ⟨hc12, h⟩
 ·refine AW.condT (congrArg AV.bool hc12) ?_
  refine AW.skip ?_
  refine AW.seq ?_
  refine AW.block ?_
  refine AW.sr ?_
  refine AOps.p rfl (rfl : _ = (AV.sl z2 f3 e4)) ?_
  refine AOps.p rfl (rfl : _ = (AV.int .i64 i11)) ?_
  obtain ⟨x13, h14, h⟩ := obind h
  obtain ⟨v17, h15, h16⟩ := idx_sl h5 h14
  obtain ⟨z18, f19, e20, rfl, h21⟩ := h15
  refine AOps.pureR rfl rfl rfl h16 rfl (rfl : _ = (AV.eptr [(AV.sl z18 f19 e20)] 0)) ?_
  refine AOps.ldE (v := (AV.sl z18 f19 e20)) rfl rfl rfl rfl rfl rfl ?_
  refine AOps.p rfl (rfl : _ = (AV.int .i64 left10)) ?_
  obtain ⟨y22, h23, h⟩ := obind h
  refine AOps.callP (g := 20) (args := [(AV.sl z18 f19 e20), (AV.int .i64 left10)]) (p := (rI .i64) y22) rfl rfl rfl (laws_szInt64SS_ok h21 h23 hWF) ?_
  intro _ o25 h24
  cases h24
  refine AOps.assignR rfl rfl rfl (rfl : _ = (AV.int .i64 y22)) rfl ?_
  refine AOps.nilR ?_
  refine AW.sr ?_
  refine AOps.p rfl (rfl : _ = (AV.int .i64 y22)) ?_
  refine AOps.p rfl (rfl : _ = (AV.bool (decide ((y22 : Int) < 0)))) ?_
  refine AOps.nilR ?_
  rcases oite h with ⟨hc26, h⟩ | ⟨hc26, h⟩
  ·refine AW.condT (congrArg AV.bool hc26) ?_
   refine AW.sr ?_
   refine AOps.p rfl (rfl : _ = (AV.int .i64 (-1))) ?_
   refine AOps.nilR ?_
   cases h
   have hr := hR1 _ rfl
   subst hr
   exact AW.ret ⟨rfl, _, _, rfl, rfl⟩
  refine AW.condF (congrArg AV.bool hc26) ?_
  refine AW.skip ?_
  refine AW.inBlock ?_
  refine AW.region ?_
  refine AOps.p rfl (rfl : _ = (AV.int .i64 i11)) ?_
  refine AOps.p rfl (rfl : _ = (AV.int .i64 (IntKind.wrap .i64 (i11 + 1)))) ?_
  refine AOps.assignR rfl rfl rfl (rfl : _ = (AV.int .i64 (IntKind.wrap .i64 (i11 + 1)))) rfl ?_
  refine AOps.nilR ?_
  cases h
  exact AW.res [(0, (AV.sl z2 f3 e4)), (1, (AV.int .i64 y22)), (5, (AV.int .i64 (IntKind.wrap .i64 (i11 + 1))))] [] ⟨rfl, rfl, rfl, trivial⟩ trivial (hL1 _ rfl () _ _ trivial)
 refine AW.condF (congrArg AV.bool hc12) ?_
 refine AW.exit rfl ?_
 obtain ⟨r27, hm, hx⟩ := omap h
 clear h
 subst hx
 have hx := hR1 _ rfl
 rw [hx] at hm
 have h := hm
 exact AW.res [(1, (AV.int .i64 left10))] [] ⟨rfl, trivial⟩ trivial (KJ9 (left10) _ _ h)
theorem laws_szChecker_ok {a1 : Checker} {left18 : Int} {z2 : Nat} {f3 : Bool} {e4 : List AV} {z6 : Nat} {f7 : Bool} {e8 : List AV} {z10 : Nat} {f11 : Bool} {e12 : List AV} {z14 : Nat} {f15 : Bool} {e16 : List AV} {s : St} (h5 : LR rB 1 a1.Accept z2 e4) (h9 : LR (rL rPush 2) 1 a1.Call z6 e8) (h13 : LR (rL (rL (rI .i64) 1) 1) 1 a1.Return z10 e12) (h17 : LR (rL (rI .i64) 1) 1 a1.Inner z14 e16) {r : Int} (h : laws_szChecker a1 left18 = some r) (hs : WF s) : ACall Cf 4 [(AV.agg [(AV.int .i64 a1.Stack), (AV.int .i64 a1.Start), (AV.sl z2 f3 e4), (AV.sl z6 f7 e8), (AV.sl z10 f11 e12), (AV.sl z14 f15 e16)]), (AV.int .i64 left18)] s fun v _ s' => (rI .i64) r v ∧ s' = s := by
 refine ACall.pure rfl rfl rfl .I ?_
 have hWF := hs.lo'
 unfold laws_szChecker at h
 refine AW.sr ?_
 refine AOps.makeR rfl rfl rfl rfl rfl rfl (rfl : _ = (AV.eptr [(AV.int .i64 a1.Stack), (AV.int .i64 a1.Start), (AV.sl z2 f3 e4), (AV.sl z6 f7 e8), (AV.sl z10 f11 e12), (AV.sl z14 f15 e16)] 0)) ?_
 refine AOps.p rfl (rfl : _ = (AV.int .i64 0)) ?_
 refine AOps.nilR ?_
 refine AW.sr ?_
 refine AOps.p rfl (rfl : _ = (AV.eptr [(AV.int .i64 a1.Stack), (AV.int .i64 a1.Start), (AV.sl z2 f3 e4), (AV.sl z6 f7 e8), (AV.sl z10 f11 e12), (AV.sl z14 f15 e16)] 2)) ?_
 refine AOps.ldE (v := (AV.sl z2 f3 e4)) rfl rfl rfl rfl rfl rfl ?_
 refine AOps.p rfl (rfl : _ = (AV.int .i64 left18)) ?_
 obtain ⟨y19, h20, h⟩ := obind h
 refine AOps.callP (g := 17) (args := [(AV.sl z2 f3 e4), (AV.int .i64 left18)]) (p := (rI .i64) y19) rfl rfl rfl (laws_szBoolS_ok h5 h20 hWF) ?_
 intro _ o22 h21
 cases h21
 refine AOps.assignR rfl rfl rfl (rfl : _ = (AV.int .i64 y19)) rfl ?_
 refine AOps.nilR ?_
 refine AW.seq ?_
 refine AW.sr ?_
 refine AOps.p rfl (rfl : _ = (AV.int .i64 y19)) ?_
 refine AOps.p rfl (rfl : _ = (AV.bool (decide ((y19 : Int) < 0)))) ?_
 refine AOps.nilR ?_
 rcases oite h with ⟨hc23, h⟩ | ⟨hc23, h⟩
 ·refine AW.condT (congrArg AV.bool hc23) ?_
  refine AW.sr ?_
  refine AOps.p rfl (rfl : _ = (AV.int .i64 (-1))) ?_
  refine AOps.nilR ?_
  cases h
  exact AW.ret ⟨rfl, _, _, rfl, rfl⟩
 refine AW.condF (congrArg AV.bool hc23) ?_
 refine AW.skip ?_
 refine AW.sr ?_
 refine AOps.p rfl (rfl : _ = (AV.eptr [(AV.int .i64 a1.Stack), (AV.int .i64 a1.Start), (AV.sl z2 f3 e4), (AV.sl z6 f7 e8), (AV.sl z10 f11 e12), (AV.sl z14 f15 e16)] 3)) ?_
 refine AOps.ldE (v := (AV.sl z6 f7 e8)) rfl rfl rfl rfl rfl rfl ?_
 refine AOps.p rfl (rfl : _ = (AV.int .i64 y19)) ?_
 obtain ⟨y24, h25, h⟩ := obind h
 refine AOps.callP (g := 18) (args := [(AV.sl z6 f7 e8), (AV.int .i64 y19)]) (p := (rI .i64) y24) rfl rfl rfl (laws_szPushSS_ok h9 h25 hWF) ?_
 intro _ o27 h26
 cases h26
 refine AOps.assignR rfl rfl rfl (rfl : _ = (AV.int .i64 y24)) rfl ?_
 refine AOps.nilR ?_
 refine AW.seq ?_
 refine AW.sr ?_
 refine AOps.p rfl (rfl : _ = (AV.int .i64 y24)) ?_
 refine AOps.p rfl (rfl : _ = (AV.bool (decide ((y24 : Int) < 0)))) ?_
 refine AOps.nilR ?_
 rcases oite h with ⟨hc28, h⟩ | ⟨hc28, h⟩
 ·refine AW.condT (congrArg AV.bool hc28) ?_
  refine AW.sr ?_
  refine AOps.p rfl (rfl : _ = (AV.int .i64 (-1))) ?_
  refine AOps.nilR ?_
  cases h
  exact AW.ret ⟨rfl, _, _, rfl, rfl⟩
 refine AW.condF (congrArg AV.bool hc28) ?_
 refine AW.skip ?_
 refine AW.sr ?_
 refine AOps.p rfl (rfl : _ = (AV.eptr [(AV.int .i64 a1.Stack), (AV.int .i64 a1.Start), (AV.sl z2 f3 e4), (AV.sl z6 f7 e8), (AV.sl z10 f11 e12), (AV.sl z14 f15 e16)] 4)) ?_
 refine AOps.ldE (v := (AV.sl z10 f11 e12)) rfl rfl rfl rfl rfl rfl ?_
 refine AOps.p rfl (rfl : _ = (AV.int .i64 y24)) ?_
 obtain ⟨y29, h30, h⟩ := obind h
 refine AOps.callP (g := 19) (args := [(AV.sl z10 f11 e12), (AV.int .i64 y24)]) (p := (rI .i64) y29) rfl rfl rfl (laws_szInt64SSS_ok h13 h30 hWF) ?_
 intro _ o32 h31
 cases h31
 refine AOps.assignR rfl rfl rfl (rfl : _ = (AV.int .i64 y29)) rfl ?_
 refine AOps.nilR ?_
 refine AW.seq ?_
 refine AW.sr ?_
 refine AOps.p rfl (rfl : _ = (AV.int .i64 y29)) ?_
 refine AOps.p rfl (rfl : _ = (AV.bool (decide ((y29 : Int) < 0)))) ?_
 refine AOps.nilR ?_
 rcases oite h with ⟨hc33, h⟩ | ⟨hc33, h⟩
 ·refine AW.condT (congrArg AV.bool hc33) ?_
  refine AW.sr ?_
  refine AOps.p rfl (rfl : _ = (AV.int .i64 (-1))) ?_
  refine AOps.nilR ?_
  cases h
  exact AW.ret ⟨rfl, _, _, rfl, rfl⟩
 refine AW.condF (congrArg AV.bool hc33) ?_
 refine AW.skip ?_
 refine AW.sr ?_
 refine AOps.p rfl (rfl : _ = (AV.eptr [(AV.int .i64 a1.Stack), (AV.int .i64 a1.Start), (AV.sl z2 f3 e4), (AV.sl z6 f7 e8), (AV.sl z10 f11 e12), (AV.sl z14 f15 e16)] 5)) ?_
 refine AOps.ldE (v := (AV.sl z14 f15 e16)) rfl rfl rfl rfl rfl rfl ?_
 refine AOps.p rfl (rfl : _ = (AV.int .i64 y29)) ?_
 obtain ⟨y34, h35, h⟩ := obind h
 refine AOps.callP (g := 20) (args := [(AV.sl z14 f15 e16), (AV.int .i64 y29)]) (p := (rI .i64) y34) rfl rfl rfl (laws_szInt64SS_ok h17 h35 hWF) ?_
 intro _ o37 h36
 cases h36
 refine AOps.assignR rfl rfl rfl (rfl : _ = (AV.int .i64 y34)) rfl ?_
 refine AOps.nilR ?_
 refine AW.seq ?_
 refine AW.sr ?_
 refine AOps.p rfl (rfl : _ = (AV.int .i64 y34)) ?_
 refine AOps.p rfl (rfl : _ = (AV.bool (decide ((y34 : Int) < 0)))) ?_
 refine AOps.nilR ?_
 rcases oite h with ⟨hc38, h⟩ | ⟨hc38, h⟩
 ·refine AW.condT (congrArg AV.bool hc38) ?_
  refine AW.sr ?_
  refine AOps.p rfl (rfl : _ = (AV.int .i64 (-1))) ?_
  refine AOps.nilR ?_
  cases h
  exact AW.ret ⟨rfl, _, _, rfl, rfl⟩
 refine AW.condF (congrArg AV.bool hc38) ?_
 refine AW.skip ?_
 refine AW.sr ?_
 refine AOps.p rfl (rfl : _ = (AV.int .i64 y34)) ?_
 refine AOps.assignR rfl rfl rfl (rfl : _ = (AV.int .i64 y34)) rfl ?_
 refine AOps.nilR ?_
 cases h
 exact AW.ret ⟨rfl, _, _, rfl, rfl⟩
theorem laws_szContext_ok {a1 : Context} {left2 : Int} {s : St} {r : Int} (h : laws_szContext a1 left2 = some r) (hs : WF s) : ACall Cf 21 [(AV.agg [(AV.str a1.Front), (AV.str a1.Back)]), (AV.int .i64 left2)] s fun v _ s' => (rI .i64) r v ∧ s' = s := by
 refine ACall.pure rfl rfl rfl .I ?_
 have hWF := hs.lo'
 unfold laws_szContext at h
 refine AW.sr ?_
 refine AOps.makeR rfl rfl rfl rfl rfl rfl (rfl : _ = (AV.eptr [(AV.str a1.Front), (AV.str a1.Back)] 0)) ?_
 refine AOps.p rfl (rfl : _ = (AV.int .i64 0)) ?_
 refine AOps.nilR ?_
 refine AW.sr ?_
 refine AOps.p rfl (rfl : _ = (AV.int .i64 left2)) ?_
 refine AOps.p rfl (rfl : _ = (AV.eptr [(AV.str a1.Front), (AV.str a1.Back)] 0)) ?_
 refine AOps.ldE (v := (AV.str a1.Front)) rfl rfl rfl rfl rfl rfl ?_
 refine AOps.p rfl (rfl : _ = (AV.int .i64 (a1.Front.length : Int))) ?_
 refine AOps.p rfl (rfl : _ = (AV.int .i64 (IntKind.wrap .i64 (left2 - (a1.Front.length : Int))))) ?_
 refine AOps.assignR rfl rfl rfl (rfl : _ = (AV.int .i64 (IntKind.wrap .i64 (left2 - (a1.Front.length : Int))))) rfl ?_
 refine AOps.nilR ?_
 refine AW.seq ?_
 refine AW.sr ?_
 refine AOps.p rfl (rfl : _ = (AV.int .i64 (IntKind.wrap .i64 (left2 - (a1.Front.length : Int))))) ?_
 refine AOps.p rfl (rfl : _ = (AV.bool (decide ((IntKind.wrap .i64 (left2 - (a1.Front.length : Int)) : Int) < 0)))) ?_
 refine AOps.nilR ?_
 rcases oite h with ⟨hc3, h⟩ | ⟨hc3, h⟩
 ·refine AW.condT (congrArg AV.bool hc3) ?_
  refine AW.sr ?_
  refine AOps.p rfl (rfl : _ = (AV.int .i64 (-1))) ?_
  refine AOps.nilR ?_
  cases h
  exact AW.ret ⟨rfl, _, _, rfl, rfl⟩
 refine AW.condF (congrArg AV.bool hc3) ?_
 refine AW.skip ?_
 refine AW.sr ?_
 refine AOps.p rfl (rfl : _ = (AV.int .i64 (IntKind.wrap .i64 (left2 - (a1.Front.length : Int))))) ?_
 refine AOps.p rfl (rfl : _ = (AV.eptr [(AV.str a1.Front), (AV.str a1.Back)] 1)) ?_
 refine AOps.ldE (v := (AV.str a1.Back)) rfl rfl rfl rfl rfl rfl ?_
 refine AOps.p rfl (rfl : _ = (AV.int .i64 (a1.Back.length : Int))) ?_
 refine AOps.p rfl (rfl : _ = (AV.int .i64 (IntKind.wrap .i64 ((IntKind.wrap .i64 (left2 - (a1.Front.length : Int))) - (a1.Back.length : Int))))) ?_
 refine AOps.assignR rfl rfl rfl (rfl : _ = (AV.int .i64 (IntKind.wrap .i64 ((IntKind.wrap .i64 (left2 - (a1.Front.length : Int))) - (a1.Back.length : Int))))) rfl ?_
 refine AOps.nilR ?_
 refine AW.seq ?_
 refine AW.sr ?_
 refine AOps.p rfl (rfl : _ = (AV.int .i64 (IntKind.wrap .i64 ((IntKind.wrap .i64 (left2 - (a1.Front.length : Int))) - (a1.Back.length : Int))))) ?_
 refine AOps.p rfl (rfl : _ = (AV.bool (decide ((IntKind.wrap .i64 ((IntKind.wrap .i64 (left2 - (a1.Front.length : Int))) - (a1.Back.length : Int)) : Int) < 0)))) ?_
 refine AOps.nilR ?_
 rcases oite h with ⟨hc4, h⟩ | ⟨hc4, h⟩
 ·refine AW.condT (congrArg AV.bool hc4) ?_
  refine AW.sr ?_
  refine AOps.p rfl (rfl : _ = (AV.int .i64 (-1))) ?_
  refine AOps.nilR ?_
  cases h
  exact AW.ret ⟨rfl, _, _, rfl, rfl⟩
 refine AW.condF (congrArg AV.bool hc4) ?_
 refine AW.skip ?_
 refine AW.sr ?_
 refine AOps.p rfl (rfl : _ = (AV.int .i64 (IntKind.wrap .i64 ((IntKind.wrap .i64 (left2 - (a1.Front.length : Int))) - (a1.Back.length : Int))))) ?_
 refine AOps.assignR rfl rfl rfl (rfl : _ = (AV.int .i64 (IntKind.wrap .i64 ((IntKind.wrap .i64 (left2 - (a1.Front.length : Int))) - (a1.Back.length : Int))))) rfl ?_
 refine AOps.nilR ?_
 cases h
 exact AW.ret ⟨rfl, _, _, rfl, rfl⟩
theorem laws_szContextS_ok {a1 : List Context} {left6 : Int} {z2 : Nat} {f3 : Bool} {e4 : List AV} {s : St} (h5 : LR rContext 2 a1 z2 e4) {r : Int} (h : laws_szContextS a1 left6 = some r) (hs : WF s) : ACall Cf 5 [(AV.sl z2 f3 e4), (AV.int .i64 left6)] s fun v _ s' => (rI .i64) r v ∧ s' = s := by
 refine ACall.pure rfl rfl rfl .I ?_
 have hWF := hs.lo'
 unfold laws_szContextS at h
 refine AW.sr ?_
 refine AOps.p rfl (rfl : _ = (AV.int .i64 0)) ?_
 refine AOps.nilR ?_
 refine AW.sr ?_
 refine AOps.p rfl (rfl : _ = (AV.int .i64 left6)) ?_
 refine AOps.p rfl (rfl : _ = (AV.sl z2 f3 e4)) ?_
 refine AOps.p rfl (len_eq h5) ?_
 refine AOps.p rfl (rfl : _ = (AV.int .i64 (IntKind.wrap .i64 (left6 - (a1.length : Int))))) ?_
 refine AOps.assignR rfl rfl rfl (rfl : _ = (AV.int .i64 (IntKind.wrap .i64 (left6 - (a1.length : Int))))) rfl ?_
 refine AOps.nilR ?_
 refine AW.seq ?_
 refine AW.sr ?_
 refine AOps.p rfl (rfl : _ = (AV.int .i64 (IntKind.wrap .i64 (left6 - (a1.length : Int))))) ?_
 refine AOps.p rfl (rfl : _ = (AV.bool (decide ((IntKind.wrap .i64 (left6 - (a1.length : Int)) : Int) < 0)))) ?_
 refine AOps.nilR ?_
 rcases oite h with ⟨hc7, h⟩ | ⟨hc7, h⟩
 ·refine AW.condT (congrArg AV.bool hc7) ?_
  refine AW.sr ?_
  refine AOps.p rfl (rfl : _ = (AV.int .i64 (-1))) ?_
  refine AOps.nilR ?_
  cases h
  exact AW.ret ⟨rfl, _, _, rfl, rfl⟩
 refine AW.condF (congrArg AV.bool hc7) ?_
 refine AW.skip ?_
 refine AW.seq ?_
 refine AW.sr ?_
 refine AOps.p rfl (rfl : _ = (AV.int .i64 0)) ?_
 refine AOps.nilR ?_
 refine AW.meet (σ := Int) (fun left8 tm os => ⟨updL tm [(1, (AV.int .i64 left8))], updL os [], { s with lo := s.n }⟩) (fun left8 => laws_szContextS_J1 left8 = some r) ?_ ?_
 ·rintro left8 tm os h
  unfold laws_szContextS_J1 at h
  refine AW.sr ?_
  refine AOps.p rfl (rfl : _ = (AV.int .i64 left8)) ?_
  refine AOps.assignR rfl rfl rfl (rfl : _ = (AV.int .i64 left8)) rfl ?_
  refine AOps.nilR ?_
  cases h
  exact AW.ret ⟨rfl, _, _, rfl, rfl⟩
 intro KJ9
 refine AW.block ?_
 refine AW.res [(0, (AV.sl z2 f3 e4)), (1, (AV.int .i64 (IntKind.wrap .i64 (left6 - (a1.length : Int))))), (5, (AV.int .i64 0))] [] ⟨rfl, rfl, rfl, trivial⟩ trivial ?_
 refine AW.loopF (σ := Int × Int) (τ := Unit) (fun (left10, i11) _ => True) (fun (left10, i11) _ tm os => ⟨updL tm [(0, (AV.sl z2 f3 e4)), (1, (AV.int .i64 left10)), (5, (AV.int .i64 i11))], updL os [], { s with lo := s.n }⟩) ?_ (x := (IntKind.wrap .i64 (left6 - (a1.length : Int)), 0)) (y := ()) h trivial
 clear h
 rintro ⟨left10, i11⟩ _ tm os - e1 h hL1 hR1
 unfold laws_szContextS_S1 at h
 dsimp only at h
 refine AW.seq ?_
 refine AW.sr ?_
 refine AOps.p rfl (rfl : _ = (AV.int .i64 i11)) ?_
 refine AOps.p rfl (rfl : _ = (AV.sl z2 f3 e4)) ?_
 refine AOps.p rfl (len_eq h5) ?_
 refine AOps.p rfl (rfl : _ = (AV.bool (decide ((i11 : Int) < (a1.length : Int))))) ?_
 refine AOps.nilR ?_
 rcases oite h with ⟨hc12, h⟩ | ⟨hc12, h⟩
 ·refine AW.condT (congrArg AV.bool hc12) ?_
  refine AW.skip ?_
  refine AW.seq ?_
  refine AW.block ?_
  refine AW.sr ?_
  refine AOps.p rfl (rfl : _ = (AV.sl z2 f3 e4)) ?_
  refine AOps.p rfl (rfl : _ = (AV.int .i64 i11)) ?_
  obtain ⟨x13, h14, h⟩ := obind h
  obtain ⟨v17, h15, h16⟩ := idx_sl h5 h14
  obtain ⟨_, rfl, h18⟩ := h15
  obtain ⟨_, _, rfl, h19, h20⟩ := Cs_cons h18
  cases h19
  obtain ⟨_, _, rfl, h21, h22⟩ := Cs_cons h20
  cases h21
  cases Cs_nil h22
  refine AOps.pureR rfl rfl rfl h16 rfl (rfl : _ = (AV.eptr [(AV.str x13.Front), (AV.str x13.Back)] 0)) ?_
  refine AOps.ldE (v := (AV.agg [(AV.str x13.Front), (AV.str x13.Back)])) rfl rfl rfl rfl rfl rfl ?_
  refine AOps.p rfl (rfl : _ = (AV.int .i64 left10)) ?_
  obtain ⟨y23, h24, h⟩ := obind h
  refine AOps.callP (g := 21) (args := [(AV.agg [(AV.str x13.Front), (AV.str x13.Back)]), (AV.int .i64 left10)]) (p := (rI .i64) y23) rfl rfl rfl (laws_szContext_ok  h24 hWF) ?_
  intro _ o26 h25
  cases h25
  refine AOps.assignR rfl rfl rfl (rfl : _ = (AV.int .i64 y23)) rfl ?_
  refine AOps.nilR ?_
  refine AW.sr ?_
  refine AOps.p rfl (rfl : _ = (AV.int .i64 y23)) ?_
  refine AOps.p rfl (rfl : _ = (AV.bool (decide ((y23 : Int) < 0)))) ?_
  refine AOps.nilR ?_
  rcases oite h with ⟨hc27, h⟩ | ⟨hc27, h⟩
  ·refine AW.condT (congrArg AV.bool hc27) ?_
   refine AW.sr ?_
   refine AOps.p rfl (rfl : _ = (AV.int .i64 (-1))) ?_
   refine AOps.nilR ?_
   cases h
   have hr := hR1 _ rfl
   subst hr
   exact AW.ret ⟨rfl, _, _, rfl, rfl⟩
  refine AW.condF (congrArg AV.bool hc27) ?_
  refine AW.skip ?_
  refine AW.inBlock ?_
  refine AW.region ?_
  refine AOps.p rfl (rfl : _ = (AV.int .i64 i11)) ?_
  refine AOps.p rfl (rfl : _ = (AV.int .i64 (IntKind.wrap .i64 (i11 + 1)))) ?_
  refine AOps.assignR rfl rfl rfl (rfl : _ = (AV.int .i64 (IntKind.wrap .i64 (i11 + 1)))) rfl ?_
  refine AOps.nilR ?_
  cases h
  exact AW.res [(0, (AV.sl z2 f3 e4)), (1, (AV.int .i64 y23)), (5, (AV.int .i64 (IntKind.wrap .i64 (i11 + 1))))] [] ⟨rfl, rfl, rfl, trivial⟩ trivial (hL1 _ rfl () _ _ trivial)
 refine AW.condF (congrArg AV.bool hc12) ?_
 refine AW.exit rfl ?_
 obtain ⟨r28, hm, hx⟩ := omap h
 clear h
 subst hx
 have hx := hR1 _ rfl
 rw [hx] at hm
 have h := hm
 exact AW.res [(1, (AV.int .i64 left10))] [] ⟨rfl, trivial⟩ trivial (KJ9 (left10) _ _ h)
theorem laws_toBoolS_ok {a1 : List Bool} {z2 : Nat} {f3 : Bool} {e4 : List AV} {s : St} (h5 : LR rB 1 a1 z2 e4) {r : (List Bool)} (h : laws_toBoolS a1 = some r) (hs : WF s) : ACall Cf 26 [(AV.sl z2 f3 e4)] s fun v _ s' => (rL rB 1) r v ∧ s' = s := by
 refine ACall.boxes rfl rfl rfl ?_
 have hH0 := HS.init hs
 unfold laws_toBoolS at h
 refine AW.sr ?_
 refine AOps.p rfl (rfl : _ = (AV.sl 0 true [])) ?_
 refine AOps.nilR ?_
 refine AW.sr ?_
 refine AOps.p rfl (rfl : _ = (AV.sl z2 f3 e4)) ?_
 refine AOps.p rfl (len_eq h5) ?_
 obtain ⟨l6, h7, h⟩ := obind h
 refine AOps.mkS (r := rB) hH0 rfl rfl rfl rfl rfl rfl rfl ⟨rfl, rfl, by decide⟩ h7 rfl (Sh.B (false : Bool) _ rfl) rfl ?_
 intro b8 s9 cs10 h11 hH12
 change HS [] false s s9 [⟨some b8, cs10, fun _ => false⟩] at hH12
 refine AOps.assignR rfl rfl rfl (rfl : _ = (AV.ms false 1 b8 0 (Int.toNat (a1.length : Int)))) rfl ?_
 refine AOps.nilR ?_
 refine AW.seq ?_
 refine AW.sr ?_
 refine AOps.p rfl (rfl : _ = (AV.int .i64 0)) ?_
 refine AOps.nilR ?_
 refine AW.meet (σ := (List Bool) × BX × Nat × Nat × St) (fun (out13, x14, b15, n17, s19) tm os => ⟨updL tm [(3, (AV.ms false 1 b15 0 n17))], updL os [], s19⟩) (fun (out13, x14, b15, n17, s19) => (x14.b = some b15) ∧ (MS rB false 1 out13 n17 x14.cs) ∧ (HS [] false s s19 [x14]) ∧ laws_toBoolS_J1 out13 = some r) ?_ ?_
 ·rintro ⟨out13, x14, b15, n17, s19⟩ tm os ⟨h16, h18, hH20, h⟩
  unfold laws_toBoolS_J1 at h
  refine AW.sr ?_
  refine AOps.p rfl (rfl : _ = (AV.ms false 1 b15 0 n17)) ?_
  refine AOps.assignR rfl rfl rfl (rfl : _ = (AV.ms false 1 b15 0 n17)) rfl ?_
  refine AOps.nilR ?_
  cases h
  exact AW.ret ⟨⟨_, hH20⟩, _, _, rfl, (Fin.ms (r := rB) hH20 (i := 0) rfl h16 h18 (fun _ => .B) (fun _ => rfl)).2⟩
 intro KJ21
 refine AW.block ?_
 refine AW.res [(0, (AV.sl z2 f3 e4)), (3, (AV.ms false 1 b8 0 (Int.toNat (a1.length : Int)))), (4, (AV.int .i64 0))] [] ⟨rfl, rfl, rfl, trivial⟩ trivial ?_
 refine AW.loopF (σ := (List Bool) × Int) (τ := BX × Nat × Nat × St) (fun (out22, i28) (x23, b24, n26, s29) => (x23.b = some b24) ∧ (MS rB false 1 out22 n26 x23.cs) ∧ (HS [] false s s29 [x23])) (fun (out22, i28) (x23, b24, n26, s29) tm os => ⟨updL tm [(0, (AV.sl z2 f3 e4)), (3, (AV.ms false 1 b24 0 n26)), (4, (AV.int .i64 i28))], updL os [], s29⟩) ?_ (x := (l6, 0)) (y := (⟨some b8, cs10, fun _ => false⟩, b8, Int.toNat (a1.length : Int), s9)) h ⟨rfl, h11, (HS.sel hH12 [some 0] (by decide))⟩
 clear h
 rintro ⟨out22, i28⟩ ⟨x23, b24, n26, s29⟩ tm os ⟨h25, h27, hH30⟩ e1 h hL1 hR1
 unfold laws_toBoolS_S1 at h
 dsimp only at h
 refine AW.seq ?_
 refine AW.sr ?_
 refine AOps.p rfl (rfl : _ = (AV.int .i64 i28)) ?_
 refine AOps.p rfl (rfl : _ = (AV.sl z2 f3 e4)) ?_
 refine AOps.p rfl (len_eq h5) ?_
 refine AOps.p rfl (rfl : _ = (AV.bool (decide ((i28 : Int) < (a1.length : Int))))) ?_
 refine AOps.nilR ?_
 rcases oite h with ⟨hc31, h⟩ | ⟨hc31, h⟩
 ·refine AW.condT (congrArg AV.bool hc31) ?_
  refine AW.skip ?_
  refine AW.seq ?_
  refine AW.block ?_
  refine AW.region ?_
  refine AOps.p rfl (rfl : _ = (AV.ms false 1 b24 0 n26)) ?_
  refine AOps.p rfl (rfl : _ = (AV.int .i64 i28)) ?_
  refine AOps.p rfl (rfl : _ = (AV.sl z2 f3 e4)) ?_
  refine AOps.p rfl (rfl : _ = (AV.int .i64 i28)) ?_
  obtain ⟨x32, h33, h⟩ := obind h
  obtain ⟨v36, h34, h35⟩ := idx_sl h5 h33
  cases h34
  refine AOps.pureR rfl rfl rfl h35 rfl (rfl : _ = (AV.eptr [(AV.bool x32)] 0)) ?_
  refine AOps.ldE (v := (AV.bool x32)) rfl rfl rfl rfl rfl rfl ?_
  obtain ⟨x37, h38, h⟩ := obind h
  refine AOps.pureR rfl rfl rfl (idx_ms h27 h38) rfl (rfl : _ = (AV.ptr b24 (0 + Int.toNat i28 * 1))) ?_
  refine AOps.stM (i := 0) (r := rB) (v := (AV.bool x32)) (y := x32) hH30 rfl h25 h27 h38 rfl rfl rfl rfl rfl rfl (Sh.B x32 _ rfl) rfl rfl (lt_b rfl) rfl rfl ?_
  intro cs39 w40 s41 h42 hH43
  change HS [] false s s41 [⟨some b24, cs39, w40⟩] at hH43
  refine AOps.nilR ?_
  refine AW.inBlock ?_
  refine AW.region ?_
  refine AOps.p rfl (rfl : _ = (AV.int .i64 i28)) ?_
  refine AOps.p rfl (rfl : _ = (AV.int .i64 (IntKind.wrap .i64 (i28 + 1)))) ?_
  refine AOps.assignR rfl rfl rfl (rfl : _ = (AV.int .i64 (IntKind.wrap .i64 (i28 + 1)))) rfl ?_
  refine AOps.nilR ?_
  cases h
  exact AW.res [(0, (AV.sl z2 f3 e4)), (3, (AV.ms false 1 b24 0 n26)), (4, (AV.int .i64 (IntKind.wrap .i64 (i28 + 1))))] [] ⟨rfl, rfl, rfl, trivial⟩ trivial (hL1 _ rfl (⟨some b24, cs39, w40⟩, b24, n26, s41) _ _ ⟨rfl, h42, (HS.sel hH43 [some 0] (by decide))⟩)
 refine AW.condF (congrArg AV.bool hc31) ?_
 refine AW.exit rfl ?_
 obtain ⟨r44, hm, hx⟩ := omap h
 clear h
 subst hx
 have hx := hR1 _ rfl
 rw [hx] at hm
 have h := hm
 exact AW.res [(3, (AV.ms false 1 b24 0 n26))] [] ⟨rfl, trivial⟩ trivial (KJ21 (out22, x23, b24, n26, s29) _ _ ⟨h25, h27, (HS.sel hH30 [some 0] (by decide)), h⟩)
theorem laws_toPush_ok {a1 : Push} {s : St} {r : Push} (h : laws_toPush a1 = some r) (hs : WF s) : ACall Cf 78 [(AV.agg [(AV.int .i64 a1.To), (AV.int .i64 a1.Put)])] s fun v _ s' => (rPush) r v ∧ s' = s := by
 refine ACall.boxes rfl rfl rfl ?_
 have hH0 := HS.init hs
 unfold laws_toPush at h
 refine AW.sr ?_
 refine AOps.makeR rfl rfl rfl rfl rfl rfl (rfl : _ = (AV.eptr [(AV.int .i64 a1.To), (AV.int .i64 a1.Put)] 0)) ?_
 refine AOps.allocP rfl rfl rfl rfl ⟨rfl, rfl⟩ rfl ?_
 refine AOps.nilR ?_
 refine AW.sr ?_
 refine AOps.alloc1 hH0 rfl rfl rfl rfl rfl rfl ?_
 intro b2 s3 hH4
 change HS [] false s s3 [⟨some b2, [(AV.int .i64 0), (AV.int .i64 0)], (fun _ => false)⟩] at hH4
 refine AOps.nilR ?_
 refine AW.sr ?_
 refine AOps.p rfl (rfl : _ = (AV.eptr [(AV.int .i64 a1.To), (AV.int .i64 a1.Put)] 0)) ?_
 refine AOps.ldE (v := (AV.int .i64 a1.To)) rfl rfl rfl rfl rfl rfl ?_
 refine AOps.p rfl (rfl : _ = (AV.ptr b2 0)) ?_
 refine AOps.stB (i := 0) (v := (AV.int .i64 a1.To)) hH4 rfl rfl rfl rfl rfl rfl rfl rfl rfl (lt_b rfl) (le_b rfl) rfl ?_
 intro w5 s6 h7 h8 hH9
 change HS [] false s s6 [⟨some b2, [(AV.int .i64 a1.To), (AV.int .i64 0)], w5⟩] at hH9
 refine AOps.nilR ?_
 refine AW.sr ?_
 refine AOps.p rfl (rfl : _ = (AV.eptr [(AV.int .i64 a1.To), (AV.int .i64 a1.Put)] 1)) ?_
 refine AOps.ldE (v := (AV.int .i64 a1.Put)) rfl rfl rfl rfl rfl rfl ?_
 refine AOps.p rfl (rfl : _ = (AV.ptr b2 1)) ?_
 refine AOps.stB (i := 0) (v := (AV.int .i64 a1.Put)) hH9 rfl rfl rfl rfl rfl rfl rfl rfl rfl (lt_b rfl) (le_b rfl) rfl ?_
 intro w10 s11 h12 h13 hH14
 change HS [] false s s11 [⟨some b2, [(AV.int .i64 a1.To), (AV.int .i64 a1.Put)], w10⟩] at hH14
 refine AOps.nilR ?_
 refine AW.sr ?_
 refine AOps.ldB (i := 0) (v := (AV.agg [(AV.int .i64 a1.To), (AV.int .i64 a1.Put)])) hH14 rfl rfl rfl rfl rfl rfl rfl rfl rfl ?_
 refine AOps.stP (v := (AV.agg [(AV.int .i64 a1.To), (AV.int .i64 a1.Put)])) rfl rfl rfl rfl rfl rfl rfl rfl rfl (lt_b rfl) rfl ?_
 refine AOps.nilR ?_
 cases h
 exact AW.ret ⟨⟨_, hH14⟩, _, _, rfl, (Fin.of (p := (rPush) a1) (.A (.cons .I (.cons .I .nil))) (⟨_, rfl, (.cons rfl (.cons rfl .nil))⟩)).2⟩
theorem laws_toPushS_ok {a1 : List Push} {z2 : Nat} {f3 : Bool} {e4 : List AV} {s : St} (h5 : LR rPush 2 a1 z2 e4) {r : (List Push)} (h : laws_toPushS a1 = some r) (hs : WF s) : ACall Cf 52 [(AV.sl z2 f3 e4)] s fun v _ s' => (rL rPush 2) r v ∧ s' = s := by
 refine ACall.boxes rfl rfl rfl ?_
 have hH0 := HS.init hs
 unfold laws_toPushS at h
 refine AW.sr ?_
 refine AOps.p rfl (rfl : _ = (AV.sl 0 true [])) ?_
 refine AOps.nilR ?_
 refine AW.sr ?_
 refine AOps.p rfl (rfl : _ = (AV.sl z2 f3 e4)) ?_
 refine AOps.p rfl (len_eq h5) ?_
 obtain ⟨l6, h7, h⟩ := obind h
 refine AOps.mkS (r := rPush) hH0 rfl rfl rfl rfl rfl rfl rfl ⟨rfl, rfl, by decide⟩ h7 ⟨_, rfl, (.cons rfl (.cons rfl .nil))⟩ ((Sh.A (f := csPush) (fun _ => ⟨(.cons (One.of Sh.I _) (.cons (One.of Sh.I _) .nil)), rfl⟩)) ((⟨0, 0⟩ : Push) : Push) _ ⟨_, rfl, (.cons rfl (.cons rfl .nil))⟩) rfl ?_
 intro b8 s9 cs10 h11 hH12
 change HS [] false s s9 [⟨some b8, cs10, fun _ => false⟩] at hH12
 refine AOps.assignR rfl rfl rfl (rfl : _ = (AV.ms true 2 b8 0 (Int.toNat (a1.length : Int)))) rfl ?_
 refine AOps.nilR ?_
 refine AW.seq ?_
 refine AW.sr ?_
 refine AOps.p rfl (rfl : _ = (AV.int .i64 0)) ?_
 refine AOps.nilR ?_
 refine AW.meet (σ := (List Push) × BX × Nat × Nat × St) (fun (out13, x14, b15, n17, s19) tm os => ⟨updL tm [(3, (AV.ms true 2 b15 0 n17))], updL os [], s19⟩) (fun (out13, x14, b15, n17, s19) => (x14.b = some b15) ∧ (MS rPush true 2 out13 n17 x14.cs) ∧ (HS [] false s s19 [x14]) ∧ laws_toPushS_J1 out13 = some r) ?_ ?_
 ·rintro ⟨out13, x14, b15, n17, s19⟩ tm os ⟨h16, h18, hH20, h⟩
  unfold laws_toPushS_J1 at h
  refine AW.sr ?_
  refine AOps.p rfl (rfl : _ = (AV.ms true 2 b15 0 n17)) ?_
  refine AOps.assignR rfl rfl rfl (rfl : _ = (AV.ms true 2 b15 0 n17)) rfl ?_
  refine AOps.nilR ?_
  cases h
  exact AW.ret ⟨⟨_, hH20⟩, _, _, rfl, (Fin.ms (r := rPush) hH20 (i := 0) rfl h16 h18 (fun _ => (.A (.cons .I (.cons .I .nil)))) (fun h => by cases h)).2⟩
 intro KJ21
 refine AW.block ?_
 refine AW.res [(0, (AV.sl z2 f3 e4)), (3, (AV.ms true 2 b8 0 (Int.toNat (a1.length : Int)))), (4, (AV.int .i64 0))] [] ⟨rfl, rfl, rfl, trivial⟩ trivial ?_
 refine AW.loopF (σ := (List Push) × Int) (τ := BX × Nat × Nat × St) (fun (out22, i28) (x23, b24, n26, s29) => (x23.b = some b24) ∧ (MS rPush true 2 out22 n26 x23.cs) ∧ (HS [] false s s29 [x23])) (fun (out22, i28) (x23, b24, n26, s29) tm os => ⟨updL tm [(0, (AV.sl z2 f3 e4)), (3, (AV.ms true 2 b24 0 n26)), (4, (AV.int .i64 i28))], updL os [], s29⟩) ?_ (x := (l6, 0)) (y := (⟨some b8, cs10, fun _ => false⟩, b8, Int.toNat (a1.length : Int), s9)) h ⟨rfl, h11, (HS.sel hH12 [some 0] (by decide))⟩
 clear h
 rintro ⟨out22, i28⟩ ⟨x23, b24, n26, s29⟩ tm os ⟨h25, h27, hH30⟩ e1 h hL1 hR1
 unfold laws_toPushS_S1 at h
 dsimp only at h
 refine AW.seq ?_
 refine AW.sr ?_
 refine AOps.p rfl (rfl : _ = (AV.int .i64 i28)) ?_
 refine AOps.p rfl (rfl : _ = (AV.sl z2 f3 e4)) ?_
 refine AOps.p rfl (len_eq h5) ?_
 refine AOps.p rfl (rfl : _ = (AV.bool (decide ((i28 : Int) < (a1.length : Int))))) ?_
 refine AOps.nilR ?_
 rcases oite h with ⟨hc31, h⟩ | ⟨hc31, h⟩
 ·refine AW.condT (congrArg AV.bool hc31) ?_
  refine AW.skip ?_
  refine AW.seq ?_
  refine AW.block ?_
  refine AW.region ?_
  refine AOps.p rfl (rfl : _ = (AV.ms true 2 b24 0 n26)) ?_
  refine AOps.p rfl (rfl : _ = (AV.int .i64 i28)) ?_
  refine AOps.p rfl (rfl : _ = (AV.sl z2 f3 e4)) ?_
  refine AOps.p rfl (rfl : _ = (AV.int .i64 i28)) ?_
  obtain ⟨x32, h33, h⟩ := obind h
  obtain ⟨v36, h34, h35⟩ := idx_sl h5 h33
  obtain ⟨_, rfl, h37⟩ := h34
  obtain ⟨_, _, rfl, h38, h39⟩ := Cs_cons h37
  cases h38
  obtain ⟨_, _, rfl, h40, h41⟩ := Cs_cons h39
  cases h40
  cases Cs_nil h41
  refine AOps.pureR rfl rfl rfl h35 rfl (rfl : _ = (AV.eptr [(AV.int .i64 x32.To), (AV.int .i64 x32.Put)] 0)) ?_
  refine AOps.ldE (v := (AV.agg [(AV.int .i64 x32.To), (AV.int .i64 x32.Put)])) rfl rfl rfl rfl rfl rfl ?_
  obtain ⟨y42, h43, h⟩ := obind h
  refine AOps.callP (g := 78) (args := [(AV.agg [(AV.int .i64 x32.To), (AV.int .i64 x32.Put)])]) (p := (rPush) y42) rfl rfl rfl (laws_toPush_ok  h43 (HS.wf' hH30)) ?_
  intro _ o50 h44
  obtain ⟨_, rfl, h45⟩ := h44
  obtain ⟨_, _, rfl, h46, h47⟩ := Cs_cons h45
  cases h46
  obtain ⟨_, _, rfl, h48, h49⟩ := Cs_cons h47
  cases h48
  cases Cs_nil h49
  obtain ⟨x51, h52, h⟩ := obind h
  refine AOps.pureR rfl rfl rfl (idx_ms h27 h52) rfl (rfl : _ = (AV.ptr b24 (0 + Int.toNat i28 * 2))) ?_
  refine AOps.stM (i := 0) (r := rPush) (v := (AV.agg [(AV.int .i64 y42.To), (AV.int .i64 y42.Put)])) (y := y42) hH30 rfl h25 h27 h52 rfl rfl rfl rfl rfl ⟨_, rfl, (.cons rfl (.cons rfl .nil))⟩ ((Sh.A (f := csPush) (fun _ => ⟨(.cons (One.of Sh.I _) (.cons (One.of Sh.I _) .nil)), rfl⟩)) y42 _ ⟨_, rfl, (.cons rfl (.cons rfl .nil))⟩) rfl rfl (lt_b rfl) rfl rfl ?_
  intro cs53 w54 s55 h56 hH57
  change HS [] false s s55 [⟨some b24, cs53, w54⟩] at hH57
  refine AOps.nilR ?_
  refine AW.inBlock ?_
  refine AW.region ?_
  refine AOps.p rfl (rfl : _ = (AV.int .i64 i28)) ?_
  refine AOps.p rfl (rfl : _ = (AV.int .i64 (IntKind.wrap .i64 (i28 + 1)))) ?_
  refine AOps.assignR rfl rfl rfl (rfl : _ = (AV.int .i64 (IntKind.wrap .i64 (i28 + 1)))) rfl ?_
  refine AOps.nilR ?_
  cases h
  exact AW.res [(0, (AV.sl z2 f3 e4)), (3, (AV.ms true 2 b24 0 n26)), (4, (AV.int .i64 (IntKind.wrap .i64 (i28 + 1))))] [] ⟨rfl, rfl, rfl, trivial⟩ trivial (hL1 _ rfl (⟨some b24, cs53, w54⟩, b24, n26, s55) _ _ ⟨rfl, h56, (HS.sel hH57 [some 0] (by decide))⟩)
 refine AW.condF (congrArg AV.bool hc31) ?_
 refine AW.exit rfl ?_
 obtain ⟨r58, hm, hx⟩ := omap h
 clear h
 subst hx
 have hx := hR1 _ rfl
 rw [hx] at hm
 have h := hm
 exact AW.res [(3, (AV.ms true 2 b24 0 n26))] [] ⟨rfl, trivial⟩ trivial (KJ21 (out22, x23, b24, n26, s29) _ _ ⟨h25, h27, (HS.sel hH30 [some 0] (by decide)), h⟩)
theorem laws_toPushSS_ok {a1 : List (List Push)} {z2 : Nat} {f3 : Bool} {e4 : List AV} {s : St} (h5 : LR (rL rPush 2) 1 a1 z2 e4) {r : (List (List Push))} (h : laws_toPushSS a1 = some r) (hs : WF s) : ACall Cf 27 [(AV.sl z2 f3 e4)] s fun v _ s' => (rL (rL rPush 2) 1) r v ∧ s' = s := by
 refine ACall.boxes rfl rfl rfl ?_
 have hH0 := HS.init hs
 unfold laws_toPushSS at h
 refine AW.sr ?_
 refine AOps.p rfl (rfl : _ = (AV.sl 0 true [])) ?_
 refine AOps.nilR ?_
 refine AW.sr ?_
 refine AOps.p rfl (rfl : _ = (AV.sl z2 f3 e4)) ?_
 refine AOps.p rfl (len_eq h5) ?_
 obtain ⟨l6, h7, h⟩ := obind h
 refine AOps.mkS (r := rL rPush 2) hH0 rfl rfl rfl rfl rfl rfl rfl ⟨rfl, rfl, by decide⟩ h7 ⟨_, _, _, rfl, ⟨.inr ⟨rfl, rfl⟩, .nil⟩⟩ ((Sh.L (r := rPush) (sz := 2)) (([] : List Push) : List Push) _ ⟨_, _, _, rfl, ⟨.inr ⟨rfl, rfl⟩, .nil⟩⟩) rfl ?_
 intro b8 s9 cs10 h11 hH12
 change HS [] false s s9 [⟨some b8, cs10, fun _ => false⟩] at hH12
 refine AOps.assignR rfl rfl rfl (rfl : _ = (AV.ms false 1 b8 0 (Int.toNat (a1.length : Int)))) rfl ?_
 refine AOps.nilR ?_
 refine AW.seq ?_
 refine AW.sr ?_
 refine AOps.p rfl (rfl : _ = (AV.int .i64 0)) ?_
 refine AOps.nilR ?_
 refine AW.meet (σ := (List (List Push)) × BX × Nat × Nat × St) (fun (out13, x14, b15, n17, s19) tm os => ⟨updL tm [(3, (AV.ms false 1 b15 0 n17))], updL os [], s19⟩) (fun (out13, x14, b15, n17, s19) => (x14.b = some b15) ∧ (MS (rL rPush 2) false 1 out13 n17 x14.cs) ∧ (HS [] false s s19 [x14]) ∧ laws_toPushSS_J1 out13 = some r) ?_ ?_
 ·rintro ⟨out13, x14, b15, n17, s19⟩ tm os ⟨h16, h18, hH20, h⟩
  unfold laws_toPushSS_J1 at h
  refine AW.sr ?_
  refine AOps.p rfl (rfl : _ = (AV.ms false 1 b15 0 n17)) ?_
  refine AOps.assignR rfl rfl rfl (rfl : _ = (AV.ms false 1 b15 0 n17)) rfl ?_
  refine AOps.nilR ?_
  cases h
  exact AW.ret ⟨⟨_, hH20⟩, _, _, rfl, (Fin.ms (r := rL rPush 2) hH20 (i := 0) rfl h16 h18 (fun _ => (.L fun _ => (.A (.cons .I (.cons .I .nil))))) (fun _ => rfl)).2⟩
 intro KJ21
 refine AW.block ?_
 refine AW.res [(0, (AV.sl z2 f3 e4)), (3, (AV.ms false 1 b8 0 (Int.toNat (a1.length : Int)))), (4, (AV.int .i64 0))] [] ⟨rfl, rfl, rfl, trivial⟩ trivial ?_
 refine AW.loopF (σ := (List (List Push)) × Int) (τ := BX × Nat × Nat × St) (fun (out22, i28) (x23, b24, n26, s29) => (x23.b = some b24) ∧ (MS (rL rPush 2) false 1 out22 n26 x23.cs) ∧ (HS [] false s s29 [x23])) (fun (out22, i28) (x23, b24, n26, s29) tm os => ⟨updL tm [(0, (AV.sl z2 f3 e4)), (3, (AV.ms false 1 b24 0 n26)), (4, (AV.int .i64 i28))], updL os [], s29⟩) ?_ (x := (l6, 0)) (y := (⟨some b8, cs10, fun _ => false⟩, b8, Int.toNat (a1.length : Int), s9)) h ⟨rfl, h11, (HS.sel hH12 [some 0] (by decide))⟩
 clear h
 rintro ⟨out22, i28⟩ ⟨x23, b24, n26, s29⟩ tm os ⟨h25, h27, hH30⟩ e1 h hL1 hR1
 unfold laws_toPushSS_S1 at h
 dsimp only at h
 refine AW.seq ?_
 refine AW.sr ?_
 refine AOps.p rfl (rfl : _ = (AV.int .i64 i28)) ?_
 refine AOps.p rfl (rfl : _ = (AV.sl z2 f3 e4)) ?_
 refine AOps.p rfl (len_eq h5) ?_
 refine AOps.p rfl (rfl : _ = (AV.bool (decide ((i28 : Int) < (a1.length : Int))))) ?_
 refine AOps.nilR ?_
 rcases oite h with ⟨hc31, h⟩ | ⟨hc31, h⟩
 ·refine AW.condT (congrArg AV.bool hc31) ?_
  refine AW.skip ?_
  refine AW.seq ?_
  refine AW.block ?_
  refine AW.region ?_
  refine AOps.p rfl (rfl : _ = (AV.ms false 1 b24 0 n26)) ?_
  refine AOps.p rfl (rfl : _ = (AV.int .i64 i28)) ?_
  refine AOps.p rfl (rfl : _ = (AV.sl z2 f3 e4)) ?_
  refine AOps.p rfl (rfl : _ = (AV.int .i64 i28)) ?_
  obtain ⟨x32, h33, h⟩ := obind h
  obtain ⟨v36, h34, h35⟩ := idx_sl h5 h33
  obtain ⟨z37, f38, e39, rfl, h40⟩ := h34
  refine AOps.pureR rfl rfl rfl h35 rfl (rfl : _ = (AV.eptr [(AV.sl z37 f38 e39)] 0)) ?_
  refine AOps.ldE (v := (AV.sl z37 f38 e39)) rfl rfl rfl rfl rfl rfl ?_
  obtain ⟨y41, h42, h⟩ := obind h
  refine AOps.callP (g := 52) (args := [(AV.sl z37 f38 e39)]) (p := (rL rPush 2) y41) rfl rfl rfl (laws_toPushS_ok h40 h42 (HS.wf' hH30)) ?_
  intro _ o48 h43
  obtain ⟨z44, f45, e46, rfl, h47⟩ := h43
  obtain ⟨x49, h50, h⟩ := obind h
  refine AOps.pureR rfl rfl rfl (idx_ms h27 h50) rfl (rfl : _ = (AV.ptr b24 (0 + Int.toNat i28 * 1))) ?_
  refine AOps.stM (i := 0) (r := rL rPush 2) (v := (AV.sl z44 f45 e46)) (y := y41) hH30 rfl h25 h27 h50 rfl rfl rfl rfl rfl ⟨_, _, _, rfl, h47⟩ ((Sh.L (r := rPush) (sz := 2)) y41 _ ⟨_, _, _, rfl, h47⟩) rfl rfl (lt_b rfl) rfl rfl ?_
  intro cs51 w52 s53 h54 hH55
  change HS [] false s s53 [⟨some b24, cs51, w52⟩] at hH55
  refine AOps.nilR ?_
  refine AW.inBlock ?_
  refine AW.region ?_
  refine AOps.p rfl (rfl : _ = (AV.int .i64 i28)) ?_
  refine AOps.p rfl (rfl : _ = (AV.int .i64 (IntKind.wrap .i64 (i28 + 1)))) ?_
  refine AOps.assignR rfl rfl rfl (rfl : _ = (AV.int .i64 (IntKind.wrap .i64 (i28 + 1)))) rfl ?_
  refine AOps.nilR ?_
  cases h
  exact AW.res [(0, (AV.sl z2 f3 e4)), (3, (AV.ms false 1 b24 0 n26)), (4, (AV.int .i64 (IntKind.wrap .i64 (i28 + 1))))] [] ⟨rfl, rfl, rfl, trivial⟩ trivial (hL1 _ rfl (⟨some b24, cs51, w52⟩, b24, n26, s53) _ _ ⟨rfl, h54, (HS.sel hH55 [some 0] (by decide))⟩)
 refine AW.condF (congrArg AV.bool hc31) ?_
 refine AW.exit rfl ?_
 obtain ⟨r56, hm, hx⟩ := omap h
 clear h
 subst hx
 have hx := hR1 _ rfl
 rw [hx] at hm
 have h := hm
 exact AW.res [(3, (AV.ms false 1 b24 0 n26))] [] ⟨rfl, trivial⟩ trivial (KJ21 (out22, x23, b24, n26, s29) _ _ ⟨h25, h27, (HS.sel hH30 [some 0] (by decide)), h⟩)
theorem laws_toInt64S_ok {a1 : List Int} {z2 : Nat} {f3 : Bool} {e4 : List AV} {s : St} (h5 : LR (rI .i64) 1 a1 z2 e4) {r : (List Int)} (h : laws_toInt64S a1 = some r) (hs : WF s) : ACall Cf 53 [(AV.sl z2 f3 e4)] s fun v _ s' => (rL (rI .i64) 1) r v ∧ s' = s := by
 refine ACall.boxes rfl rfl rfl ?_
 have hH0 := HS.init hs
 unfold laws_toInt64S at h
 refine AW.sr ?_
 refine AOps.p rfl (rfl : _ = (AV.sl 0 true [])) ?_
 refine AOps.nilR ?_
 refine AW.sr ?_
 refine AOps.p rfl (rfl : _ = (AV.sl z2 f3 e4)) ?_
 refine AOps.p rfl (len_eq h5) ?_
 obtain ⟨l6, h7, h⟩ := obind h
 refine AOps.mkS (r := rI .i64) hH0 rfl rfl rfl rfl rfl rfl rfl ⟨rfl, rfl, by decide⟩ h7 rfl (Sh.I (0 : Int) _ rfl) rfl ?_
 intro b8 s9 cs10 h11 hH12
 change HS [] false s s9 [⟨some b8, cs10, fun _ => false⟩] at hH12
 refine AOps.assignR rfl rfl rfl (rfl : _ = (AV.ms false 1 b8 0 (Int.toNat (a1.length : Int)))) rfl ?_
 refine AOps.nilR ?_
 refine AW.seq ?_
 refine AW.sr ?_
 refine AOps.p rfl (rfl : _ = (AV.int .i64 0)) ?_
 refine AOps.nilR ?_
 refine AW.meet (σ := (List Int) × BX × Nat × Nat × St) (fun (out13, x14, b15, n17, s19) tm os => ⟨updL tm [(3, (AV.ms false 1 b15 0 n17))], updL os [], s19⟩) (fun (out13, x14, b15, n17, s19) => (x14.b = some b15) ∧ (MS (rI .i64) false 1 out13 n17 x14.cs) ∧ (HS [] false s s19 [x14]) ∧ laws_toInt64S_J1 out13 = some r) ?_ ?_
 ·rintro ⟨out13, x14, b15, n17, s19⟩ tm os ⟨h16, h18, hH20, h⟩
  unfold laws_toInt64S_J1 at h
  refine AW.sr ?_
  refine AOps.p rfl (rfl : _ = (AV.ms false 1 b15 0 n17)) ?_
  refine AOps.assignR rfl rfl rfl (rfl : _ = (AV.ms false 1 b15 0 n17)) rfl ?_
  refine AOps.nilR ?_
  cases h
  exact AW.ret ⟨⟨_, hH20⟩, _, _, rfl, (Fin.ms (r := rI .i64) hH20 (i := 0) rfl h16 h18 (fun _ => .I) (fun _ => rfl)).2⟩
 intro KJ21
 refine AW.block ?_
 refine AW.res [(0, (AV.sl z2 f3 e4)), (3, (AV.ms false 1 b8 0 (Int.toNat (a1.length : Int)))), (4, (AV.int .i64 0))] [] ⟨rfl, rfl, rfl, trivial⟩ trivial ?_
 refine AW.loopF (σ := (List Int) × Int) (τ := BX × Nat × Nat × St) (fun (out22, i28) (x23, b24, n26, s29) => (x23.b = some b24) ∧ (MS (rI .i64) false 1 out22 n26 x23.cs) ∧ (HS [] false s s29 [x23])) (fun (out22, i28) (x23, b24, n26, s29) tm os => ⟨updL tm [(0, (AV.sl z2 f3 e4)), (3, (AV.ms false 1 b24 0 n26)), (4, (AV.int .i64 i28))], updL os [], s29⟩) ?_ (x := (l6, 0)) (y := (⟨some b8, cs10, fun _ => false⟩, b8, Int.toNat (a1.length : Int), s9)) h ⟨rfl, h11, (HS.sel hH12 [some 0] (by decide))⟩
 clear h
 rintro ⟨out22, i28⟩ ⟨x23, b24, n26, s29⟩ tm os ⟨h25, h27, hH30⟩ e1 h hL1 hR1
 unfold laws_toInt64S_S1 at h
 dsimp only at h
 refine AW.seq ?_
 refine AW.sr ?_
 refine AOps.p rfl (rfl : _ = (AV.int .i64 i28)) ?_
 refine AOps.p rfl (rfl : _ = (AV.sl z2 f3 e4)) ?_
 refine AOps.p rfl (len_eq h5) ?_
 refine AOps.p rfl (rfl : _ = (AV.bool (decide ((i28 : Int) < (a1.length : Int))))) ?_
 refine AOps.nilR ?_
 rcases oite h with ⟨hc31, h⟩ | ⟨hc31, h⟩
 ·refine AW.condT (congrArg AV.bool hc31) ?_
  refine AW.skip ?_
  refine AW.seq ?_
  refine AW.block ?_
  refine AW.region ?_
  refine AOps.p rfl (rfl : _ = (AV.ms false 1 b24 0 n26)) ?_
  refine AOps.p rfl (rfl : _ = (AV.int .i64 i28)) ?_
  refine AOps.p rfl (rfl : _ = (AV.sl z2 f3 e4)) ?_
  refine AOps.p rfl (rfl : _ = (AV.int .i64 i28)) ?_
  obtain ⟨x32, h33, h⟩ := obind h
  obtain ⟨v36, h34, h35⟩ := idx_sl h5 h33
  cases h34
  refine AOps.pureR rfl rfl rfl h35 rfl (rfl : _ = (AV.eptr [(AV.int .i64 x32)] 0)) ?_
  refine AOps.ldE (v := (AV.int .i64 x32)) rfl rfl rfl rfl rfl rfl ?_
  obtain ⟨x37, h38, h⟩ := obind h
  refine AOps.pureR rfl rfl rfl (idx_ms h27 h38) rfl (rfl : _ = (AV.ptr b24 (0 + Int.toNat i28 * 1))) ?_
  refine AOps.stM (i := 0) (r := rI .i64) (v := (AV.int .i64 x32)) (y := x32) hH30 rfl h25 h27 h38 rfl rfl rfl rfl rfl rfl (Sh.I x32 _ rfl) rfl rfl (lt_b rfl) rfl rfl ?_
  intro cs39 w40 s41 h42 hH43
  change HS [] false s s41 [⟨some b24, cs39, w40⟩] at hH43
  refine AOps.nilR ?_
  refine AW.inBlock ?_
  refine AW.region ?_
  refine AOps.p rfl (rfl : _ = (AV.int .i64 i28)) ?_
  refine AOps.p rfl (rfl : _ = (AV.int .i64 (IntKind.wrap .i64 (i28 + 1)))) ?_
  refine AOps.assignR rfl rfl rfl (rfl : _ = (AV.int .i64 (IntKind.wrap .i64 (i28 + 1)))) rfl ?_
  refine AOps.nilR ?_
  cases h
  exact AW.res [(0, (AV.sl z2 f3 e4)), (3, (AV.ms false 1 b24 0 n26)), (4, (AV.int .i64 (IntKind.wrap .i64 (i28 + 1))))] [] ⟨rfl, rfl, rfl, trivial⟩ trivial (hL1 _ rfl (⟨some b24, cs39, w40⟩, b24, n26, s41) _ _ ⟨rfl, h42, (HS.sel hH43 [some 0] (by decide))⟩)
 refine AW.condF (congrArg AV.bool hc31) ?_
 refine AW.exit rfl ?_
 obtain ⟨r44, hm, hx⟩ := omap h
 clear h
 subst hx
 have hx := hR1 _ rfl
 rw [hx] at hm
 have h := hm
 exact AW.res [(3, (AV.ms false 1 b24 0 n26))] [] ⟨rfl, trivial⟩ trivial (KJ21 (out22, x23, b24, n26, s29) _ _ ⟨h25, h27, (HS.sel hH30 [some 0] (by decide)), h⟩)
theorem laws_toInt64SS_ok {a1 : List (List Int)} {z2 : Nat} {f3 : Bool} {e4 : List AV} {s : St} (h5 : LR (rL (rI .i64) 1) 1 a1 z2 e4) {r : (List (List Int))} (h : laws_toInt64SS a1 = some r) (hs : WF s) : ACall Cf 29 [(AV.sl z2 f3 e4)] s fun v _ s' => (rL (rL (rI .i64) 1) 1) r v ∧ s' = s := by
 refine ACall.boxes rfl rfl rfl ?_
 have hH0 := HS.init hs
 unfold laws_toInt64SS at h
 refine AW.sr ?_
 refine AOps.p rfl (rfl : _ = (AV.sl 0 true [])) ?_
 refine AOps.nilR ?_
 refine AW.sr ?_
 refine AOps.p rfl (rfl : _ = (AV.sl z2 f3 e4)) ?_
 refine AOps.p rfl (len_eq h5) ?_
 obtain ⟨l6, h7, h⟩ := obind h
 refine AOps.mkS (r := rL (rI .i64) 1) hH0 rfl rfl rfl rfl rfl rfl rfl ⟨rfl, rfl, by decide⟩ h7 ⟨_, _, _, rfl, ⟨.inr ⟨rfl, rfl⟩, .nil⟩⟩ ((Sh.L (r := rI .i64) (sz := 1)) (([] : List Int) : List Int) _ ⟨_, _, _, rfl, ⟨.inr ⟨rfl, rfl⟩, .nil⟩⟩) rfl ?_
 intro b8 s9 cs10 h11 hH12
 change HS [] false s s9 [⟨some b8, cs10, fun _ => false⟩] at hH12
 refine AOps.assignR rfl rfl rfl (rfl : _ = (AV.ms false 1 b8 0 (Int.toNat (a1.length : Int)))) rfl ?_
 refine AOps.nilR ?_
 refine AW.seq ?_
 refine AW.sr ?_
 refine AOps.p rfl (rfl : _ = (AV.int .i64 0)) ?_
 refine AOps.nilR ?_
 refine AW.meet (σ := (List (List Int)) × BX × Nat × Nat × St) (fun (out13, x14, b15, n17, s19) tm os => ⟨updL tm [(3, (AV.ms false 1 b15 0 n17))], updL os [], s19⟩) (fun (out13, x14, b15, n17, s19) => (x14.b = some b15) ∧ (MS (rL (rI .i64) 1) false 1 out13 n17 x14.cs) ∧ (HS [] false s s19 [x14]) ∧ laws_toInt64SS_J1 out13 = some r) ?_ ?_
 ·rintro ⟨out13, x14, b15, n17, s19⟩ tm os ⟨h16, h18, hH20, h⟩
  unfold laws_toInt64SS_J1 at h
  refine AW.sr ?_
  refine AOps.p rfl (rfl : _ = (AV.ms false 1 b15 0 n17)) ?_
  refine AOps.assignR rfl rfl rfl (rfl : _ = (AV.ms false 1 b15 0 n17)) rfl ?_
  refine AOps.nilR ?_
  cases h
  exact AW.ret ⟨⟨_, hH20⟩, _, _, rfl, (Fin.ms (r := rL (rI .i64) 1) hH20 (i := 0) rfl h16 h18 (fun _ => (.L fun _ => .I)) (fun _ => rfl)).2⟩
 intro KJ21
 refine AW.block ?_
 refine AW.res [(0, (AV.sl z2 f3 e4)), (3, (AV.ms false 1 b8 0 (Int.toNat (a1.length : Int)))), (4, (AV.int .i64 0))] [] ⟨rfl, rfl, rfl, trivial⟩ trivial ?_
 refine AW.loopF (σ := (List (List Int)) × Int) (τ := BX × Nat × Nat × St) (fun (out22, i28) (x23, b24, n26, s29) => (x23.b = some b24) ∧ (MS (rL (rI .i64) 1) false 1 out22 n26 x23.cs) ∧ (HS [] false s s29 [x23])) (fun (out22, i28) (x23, b24, n26, s29) tm os => ⟨updL tm [(0, (AV.sl z2 f3 e4)), (3, (AV.ms false 1 b24 0 n26)), (4, (AV.int .i64 i28))], updL os [], s29⟩) ?_ (x := (l6, 0)) (y := (⟨some b8, cs10, fun _ => false⟩, b8, Int.toNat (a1.length : Int), s9)) h ⟨rfl, h11, (HS.sel hH12 [some 0] (by decide))⟩
 clear h
 rintro ⟨out22, i28⟩ ⟨x23, b24, n26, s29⟩ tm os ⟨h25, h27, hH30⟩ e1 h hL1 hR1
 unfold laws_toInt64SS_S1 at h
 dsimp only at h
 refine AW.seq ?_
 refine AW.sr ?_
 refine AOps.p rfl (rfl : _ = (AV.int .i64 i28)) ?_
 refine AOps.p rfl (rfl : _ = (AV.sl z2 f3 e4)) ?_
 refine AOps.p rfl (len_eq h5) ?_
 refine AOps.p rfl (rfl : _ = (AV.bool (decide ((i28 : Int) < (a1.length : Int))))) ?_
 refine AOps.nilR ?_
 rcases oite h with ⟨hc31, h⟩ | ⟨hc31, h⟩
 ·refine AW.condT (congrArg AV.bool hc31) ?_
  refine AW.skip ?_
  refine AW.seq ?_
  refine AW.block ?_
  refine AW.region ?_
  refine AOps.p rfl (rfl : _ = (AV.ms false 1 b24 0 n26)) ?_
  refine AOps.p rfl (rfl : _ = (AV.int .i64 i28)) ?_
  refine AOps.p rfl (rfl : _ = (AV.sl z2 f3 e4)) ?_
  refine AOps.p rfl (rfl : _ = (AV.int .i64 i28)) ?_
  obtain ⟨x32, h33, h⟩ := obind h
  obtain ⟨v36, h34, h35⟩ := idx_sl h5 h33
  obtain ⟨z37, f38, e39, rfl, h40⟩ := h34
  refine AOps.pureR rfl rfl rfl h35 rfl (rfl : _ = (AV.eptr [(AV.sl z37 f38 e39)] 0)) ?_
  refine AOps.ldE (v := (AV.sl z37 f38 e39)) rfl rfl rfl rfl rfl rfl ?_
  obtain ⟨y41, h42, h⟩ := obind h
  refine AOps.callP (g := 53) (args := [(AV.sl z37 f38 e39)]) (p := (rL (rI .i64) 1) y41) rfl rfl rfl (laws_toInt64S_ok h40 h42 (HS.wf' hH30)) ?_
  intro _ o48 h43
  obtain ⟨z44, f45, e46, rfl, h47⟩ := h43
  obtain ⟨x49, h50, h⟩ := obind h
  refine AOps.pureR rfl rfl rfl (idx_ms h27 h50) rfl (rfl : _ = (AV.ptr b24 (0 + Int.toNat i28 * 1))) ?_
  refine AOps.stM (i := 0) (r := rL (rI .i64) 1) (v := (AV.sl z44 f45 e46)) (y := y41) hH30 rfl h25 h27 h50 rfl rfl rfl rfl rfl ⟨_, _, _, rfl, h47⟩ ((Sh.L (r := rI .i64) (sz := 1)) y41 _ ⟨_, _, _, rfl, h47⟩) rfl rfl (lt_b rfl) rfl rfl ?_
  intro cs51 w52 s53 h54 hH55
  change HS [] false s s53 [⟨some b24, cs51, w52⟩] at hH55
  refine AOps.nilR ?_
  refine AW.inBlock ?_
  refine AW.region ?_
  refine AOps.p rfl (rfl : _ = (AV.int .i64 i28)) ?_
  refine AOps.p rfl (rfl : _ = (AV.int .i64 (IntKind.wrap .i64 (i28 + 1)))) ?_
  refine AOps.assignR rfl rfl rfl (rfl : _ = (AV.int .i64 (IntKind.wrap .i64 (i28 + 1)))) rfl ?_
  refine AOps.nilR ?_
  cases h
  exact AW.res [(0, (AV.sl z2 f3 e4)), (3, (AV.ms false 1 b24 0 n26)), (4, (AV.int .i64 (IntKind.wrap .i64 (i28 + 1))))] [] ⟨rfl, rfl, rfl, trivial⟩ trivial (hL1 _ rfl (⟨some b24, cs51, w52⟩, b24, n26, s53) _ _ ⟨rfl, h54, (HS.sel hH55 [some 0] (by decide))⟩)
 refine AW.condF (congrArg AV.bool hc31) ?_
 refine AW.exit rfl ?_
 obtain ⟨r56, hm, hx⟩ := omap h
 clear h
 subst hx
 have hx := hR1 _ rfl
 rw [hx] at hm
 have h := hm
 exact AW.res [(3, (AV.ms false 1 b24 0 n26))] [] ⟨rfl, trivial⟩ trivial (KJ21 (out22, x23, b24, n26, s29) _ _ ⟨h25, h27, (HS.sel hH30 [some 0] (by decide)), h⟩)
theorem laws_toInt64SSS_ok {a1 : List (List (List Int))} {z2 : Nat} {f3 : Bool} {e4 : List AV} {s : St} (h5 : LR (rL (rL (rI .i64) 1) 1) 1 a1 z2 e4) {r : (List (List (List Int)))} (h : laws_toInt64SSS a1 = some r) (hs : WF s) : ACall Cf 28 [(AV.sl z2 f3 e4)] s fun v _ s' => (rL (rL (rL (rI .i64) 1) 1) 1) r v ∧ s' = s := by
 refine ACall.boxes rfl rfl rfl ?_
 have hH0 := HS.init hs
 unfold laws_toInt64SSS at h
 refine AW.sr ?_
 refine AOps.p rfl (rfl : _ = (AV.sl 0 true [])) ?_
 refine AOps.nilR ?_
 refine AW.sr ?_
 refine AOps.p rfl (rfl : _ = (AV.sl z2 f3 e4)) ?_
 refine AOps.p rfl (len_eq h5) ?_
 obtain ⟨l6, h7, h⟩ := obind h
 refine AOps.mkS (r := rL (rL (rI .i64) 1) 1) hH0 rfl rfl rfl rfl rfl rfl rfl ⟨rfl, rfl, by decide⟩ h7 ⟨_, _, _, rfl, ⟨.inr ⟨rfl, rfl⟩, .nil⟩⟩ ((Sh.L (r := rL (rI .i64) 1) (sz := 1)) (([] : List (List Int)) : List (List Int)) _ ⟨_, _, _, rfl, ⟨.inr ⟨rfl, rfl⟩, .nil⟩⟩) rfl ?_
 intro b8 s9 cs10 h11 hH12
 change HS [] false s s9 [⟨some b8, cs10, fun _ => false⟩] at hH12
 refine AOps.assignR rfl rfl rfl (rfl : _ = (AV.ms false 1 b8 0 (Int.toNat (a1.length : Int)))) rfl ?_
 refine AOps.nilR ?_
 refine AW.seq ?_
 refine AW.sr ?_
 refine AOps.p rfl (rfl : _ = (AV.int .i64 0)) ?_
 refine AOps.nilR ?_
 refine AW.meet (σ := (List (List (List Int))) × BX × Nat × Nat × St) (fun (out13, x14, b15, n17, s19) tm os => ⟨updL tm [(3, (AV.ms false 1 b15 0 n17))], updL os [], s19⟩) (fun (out13, x14, b15, n17, s19) => (x14.b = some b15) ∧ (MS (rL (rL (rI .i64) 1) 1) false 1 out13 n17 x14.cs) ∧ (HS [] false s s19 [x14]) ∧ laws_toInt64SSS_J1 out13 = some r) ?_ ?_
 ·rintro ⟨out13, x14, b15, n17, s19⟩ tm os ⟨h16, h18, hH20, h⟩
  unfold laws_toInt64SSS_J1 at h
  refine AW.sr ?_
  refine AOps.p rfl (rfl : _ = (AV.ms false 1 b15 0 n17)) ?_
  refine AOps.assignR rfl rfl rfl (rfl : _ = (AV.ms false 1 b15 0 n17)) rfl ?_
  refine AOps.nilR ?_
  cases h
  exact AW.ret ⟨⟨_, hH20⟩, _, _, rfl, (Fin.ms (r := rL (rL (rI .i64) 1) 1) hH20 (i := 0) rfl h16 h18 (fun _ => (.L fun _ => (.L fun _ => .I))) (fun _ => rfl)).2⟩
 intro KJ21
 refine AW.block ?_
 refine AW.res [(0, (AV.sl z2 f3 e4)), (3, (AV.ms false 1 b8 0 (Int.toNat (a1.length : Int)))), (4, (AV.int .i64 0))] [] ⟨rfl, rfl, rfl, trivial⟩ trivial ?_
 refine AW.loopF (σ := (List (List (List Int))) × Int) (τ := BX × Nat × Nat × St) (fun (out22, i28) (x23, b24, n26, s29) => (x23.b = some b24) ∧ (MS (rL (rL (rI .i64) 1) 1) false 1 out22 n26 x23.cs) ∧ (HS [] false s s29 [x23])) (fun (out22, i28) (x23, b24, n26, s29) tm os => ⟨updL tm [(0, (AV.sl z2 f3 e4)), (3, (AV.ms false 1 b24 0 n26)), (4, (AV.int .i64 i28))], updL os [], s29⟩) ?_ (x := (l6, 0)) (y := (⟨some b8, cs10, fun _ => false⟩, b8, Int.toNat (a1.length : Int), s9)) h ⟨rfl, h11, (HS.sel hH12 [some 0] (by decide))⟩
 clear h
 rintro ⟨out22, i28⟩ ⟨x23, b24, n26, s29⟩ tm os ⟨h25, h27, hH30⟩ e1 h hL1 hR1
 unfold laws_toInt64SSS_S1 at h
 dsimp only at h
 refine AW.seq ?_
 refine AW.sr ?_
 refine AOps.p rfl (rfl : _ = (AV.int .i64 i28)) ?_
 refine AOps.p rfl (rfl : _ = (AV.sl z2 f3 e4)) ?_
 refine AOps.p rfl (len_eq h5) ?_
 refine AOps.p rfl (rfl : _ = (AV.bool (decide ((i28 : Int) < (a1.length : Int))))) ?_
 refine AOps.nilR ?_
 rcases oite h with ⟨hc31, h⟩ | ⟨hc31, h⟩
 ·refine AW.condT (congrArg AV.bool hc31) ?_
  refine AW.skip ?_
  refine AW.seq ?_
  refine AW.block ?_
  refine AW.region ?_
  refine AOps.p rfl (rfl : _ = (AV.ms false 1 b24 0 n26)) ?_
  refine AOps.p rfl (rfl : _ = (AV.int .i64 i28)) ?_
  refine AOps.p rfl (rfl : _ = (AV.sl z2 f3 e4)) ?_
  refine AOps.p rfl (rfl : _ = (AV.int .i64 i28)) ?_
  obtain ⟨x32, h33, h⟩ := obind h
  obtain ⟨v36, h34, h35⟩ := idx_sl h5 h33
  obtain ⟨z37, f38, e39, rfl, h40⟩ := h34
  refine AOps.pureR rfl rfl rfl h35 rfl (rfl : _ = (AV.eptr [(AV.sl z37 f38 e39)] 0)) ?_
  refine AOps.ldE (v := (AV.sl z37 f38 e39)) rfl rfl rfl rfl rfl rfl ?_
  obtain ⟨y41, h42, h⟩ := obind h
  refine AOps.callP (g := 29) (args := [(AV.sl z37 f38 e39)]) (p := (rL (rL (rI .i64) 1) 1) y41) rfl rfl rfl (laws_toInt64SS_ok h40 h42 (HS.wf' hH30)) ?_
  intro _ o48 h43
  obtain ⟨z44, f45, e46, rfl, h47⟩ := h43
  obtain ⟨x49, h50, h⟩ := obind h
  refine AOps.pureR rfl rfl rfl (idx_ms h27 h50) rfl (rfl : _ = (AV.ptr b24 (0 + Int.toNat i28 * 1))) ?_
  refine AOps.stM (i := 0) (r := rL (rL (rI .i64) 1) 1) (v := (AV.sl z44 f45 e46)) (y := y41) hH30 rfl h25 h27 h50 rfl rfl rfl rfl rfl ⟨_, _, _, rfl, h47⟩ ((Sh.L (r := rL (rI .i64) 1) (sz := 1)) y41 _ ⟨_, _, _, rfl, h47⟩) rfl rfl (lt_b rfl) rfl rfl ?_
  intro cs51 w52 s53 h54 hH55
  change HS [] false s s53 [⟨some b24, cs51, w52⟩] at hH55
  refine AOps.nilR ?_
  refine AW.inBlock ?_
  refine AW.region ?_
  refine AOps.p rfl (rfl : _ = (AV.int .i64 i28)) ?_
  refine AOps.p rfl (rfl : _ = (AV.int .i64 (IntKind.wrap .i64 (i28 + 1)))) ?_
  refine AOps.assignR rfl rfl rfl (rfl : _ = (AV.int .i64 (IntKind.wrap .i64 (i28 + 1)))) rfl ?_
  refine AOps.nilR ?_
  cases h
  exact AW.res [(0, (AV.sl z2 f3 e4)), (3, (AV.ms false 1 b24 0 n26)), (4, (AV.int .i64 (IntKind.wrap .i64 (i28 + 1))))] [] ⟨rfl, rfl, rfl, trivial⟩ trivial (hL1 _ rfl (⟨some b24, cs51, w52⟩, b24, n26, s53) _ _ ⟨rfl, h54, (HS.sel hH55 [some 0] (by decide))⟩)
 refine AW.condF (congrArg AV.bool hc31) ?_
 refine AW.exit rfl ?_
 obtain ⟨r56, hm, hx⟩ := omap h
 clear h
 subst hx
 have hx := hR1 _ rfl
 rw [hx] at hm
 have h := hm
 exact AW.res [(3, (AV.ms false 1 b24 0 n26))] [] ⟨rfl, trivial⟩ trivial (KJ21 (out22, x23, b24, n26, s29) _ _ ⟨h25, h27, (HS.sel hH30 [some 0] (by decide)), h⟩)
theorem laws_toChecker_ok {a1 : Checker} {z2 : Nat} {f3 : Bool} {e4 : List AV} {z6 : Nat} {f7 : Bool} {e8 : List AV} {z10 : Nat} {f11 : Bool} {e12 : List AV} {z14 : Nat} {f15 : Bool} {e16 : List AV} {s : St} (h5 : LR rB 1 a1.Accept z2 e4) (h9 : LR (rL rPush 2) 1 a1.Call z6 e8) (h13 : LR (rL (rL (rI .i64) 1) 1) 1 a1.Return z10 e12) (h17 : LR (rL (rI .i64) 1) 1 a1.Inner z14 e16) {r : Checker} (h : laws_toChecker a1 = some r) (hs : WF s) : ACall Cf 7 [(AV.agg [(AV.int .i64 a1.Stack), (AV.int .i64 a1.Start), (AV.sl z2 f3 e4), (AV.sl z6 f7 e8), (AV.sl z10 f11 e12), (AV.sl z14 f15 e16)])] s fun v _ s' => (rChecker) r v ∧ s' = s := by
 refine ACall.boxes rfl rfl rfl ?_
 have hH0 := HS.init hs
 unfold laws_toChecker at h
 refine AW.sr ?_
 refine AOps.makeR rfl rfl rfl rfl rfl rfl (rfl : _ = (AV.eptr [(AV.int .i64 a1.Stack), (AV.int .i64 a1.Start), (AV.sl z2 f3 e4), (AV.sl z6 f7 e8), (AV.sl z10 f11 e12), (AV.sl z14 f15 e16)] 0)) ?_
 refine AOps.allocP rfl rfl rfl rfl ⟨rfl, rfl⟩ rfl ?_
 refine AOps.nilR ?_
 refine AW.sr ?_
 refine AOps.alloc1 hH0 rfl rfl rfl rfl rfl rfl ?_
 intro b18 s19 hH20
 change HS [] false s s19 [⟨some b18, [(AV.int .i64 0), (AV.int .i64 0), (AV.sl 0 true []), (AV.sl 0 true []), (AV.sl 0 true []), (AV.sl 0 true [])], (fun _ => false)⟩] at hH20
 refine AOps.nilR ?_
 refine AW.sr ?_
 refine AOps.p rfl (rfl : _ = (AV.eptr [(AV.int .i64 a1.Stack), (AV.int .i64 a1.Start), (AV.sl z2 f3 e4), (AV.sl z6 f7 e8), (AV.sl z10 f11 e12), (AV.sl z14 f15 e16)] 0)) ?_
 refine AOps.ldE (v := (AV.int .i64 a1.Stack)) rfl rfl rfl rfl rfl rfl ?_
 refine AOps.p rfl (rfl : _ = (AV.ptr b18 0)) ?_
 refine AOps.stB (i := 0) (v := (AV.int .i64 a1.Stack)) hH20 rfl rfl rfl rfl rfl rfl rfl rfl rfl (lt_b rfl) (le_b rfl) rfl ?_
 intro w21 s22 h23 h24 hH25
 change HS [] false s s22 [⟨some b18, [(AV.int .i64 a1.Stack), (AV.int .i64 0), (AV.sl 0 true []), (AV.sl 0 true []), (AV.sl 0 true []), (AV.sl 0 true [])], w21⟩] at hH25
 refine AOps.nilR ?_
 refine AW.sr ?_
 refine AOps.p rfl (rfl : _ = (AV.eptr [(AV.int .i64 a1.Stack), (AV.int .i64 a1.Start), (AV.sl z2 f3 e4), (AV.sl z6 f7 e8), (AV.sl z10 f11 e12), (AV.sl z14 f15 e16)] 1)) ?_
 refine AOps.ldE (v := (AV.int .i64 a1.Start)) rfl rfl rfl rfl rfl rfl ?_
 refine AOps.p rfl (rfl : _ = (AV.ptr b18 1)) ?_
 refine AOps.stB (i := 0) (v := (AV.int .i64 a1.Start)) hH25 rfl rfl rfl rfl rfl rfl rfl rfl rfl (lt_b rfl) (le_b rfl) rfl ?_
 intro w26 s27 h28 h29 hH30
 change HS [] false s s27 [⟨some b18, [(AV.int .i64 a1.Stack), (AV.int .i64 a1.Start), (AV.sl 0 true []), (AV.sl 0 true []), (AV.sl 0 true []), (AV.sl 0 true [])], w26⟩] at hH30
 refine AOps.nilR ?_
 refine AW.sr ?_
 refine AOps.p rfl (rfl : _ = (AV.eptr [(AV.int .i64 a1.Stack), (AV.int .i64 a1.Start), (AV.sl z2 f3 e4), (AV.sl z6 f7 e8), (AV.sl z10 f11 e12), (AV.sl z14 f15 e16)] 2)) ?_
 refine AOps.ldE (v := (AV.sl z2 f3 e4)) rfl rfl rfl rfl rfl rfl ?_
 obtain ⟨y31, h32, h⟩ := obind h
 refine AOps.callP (g := 26) (args := [(AV.sl z2 f3 e4)]) (p := (rL rB 1) y31) rfl rfl rfl (laws_toBoolS_ok h5 h32 (HS.wf' hH30)) ?_
 intro _ o38 h33
 obtain ⟨z34, f35, e36, rfl, h37⟩ := h33
 refine AOps.p rfl (rfl : _ = (AV.ptr b18 2)) ?_
 refine AOps.stB (i := 0) (v := (AV.sl z34 f35 e36)) hH30 rfl rfl rfl rfl rfl rfl rfl rfl rfl (lt_b rfl) (le_b rfl) rfl ?_
 intro w39 s40 h41 h42 hH43
 change HS [] false s s40 [⟨some b18, [(AV.int .i64 a1.Stack), (AV.int .i64 a1.Start), (AV.sl z34 f35 e36), (AV.sl 0 true []), (AV.sl 0 true []), (AV.sl 0 true [])], w39⟩] at hH43
 refine AOps.nilR ?_
 refine AW.sr ?_
 refine AOps.p rfl (rfl : _ = (AV.eptr [(AV.int .i64 a1.Stack), (AV.int .i64 a1.Start), (AV.sl z2 f3 e4), (AV.sl z6 f7 e8), (AV.sl z10 f11 e12), (AV.sl z14 f15 e16)] 3)) ?_
 refine AOps.ldE (v := (AV.sl z6 f7 e8)) rfl rfl rfl rfl rfl rfl ?_
 obtain ⟨y44, h45, h⟩ := obind h
 refine AOps.callP (g := 27) (args := [(AV.sl z6 f7 e8)]) (p := (rL (rL rPush 2) 1) y44) rfl rfl rfl (laws_toPushSS_ok h9 h45 (HS.wf' hH43)) ?_
 intro _ o51 h46
 obtain ⟨z47, f48, e49, rfl, h50⟩ := h46
 refine AOps.p rfl (rfl : _ = (AV.ptr b18 3)) ?_
 refine AOps.stB (i := 0) (v := (AV.sl z47 f48 e49)) hH43 rfl rfl rfl rfl rfl rfl rfl rfl rfl (lt_b rfl) (le_b rfl) rfl ?_
 intro w52 s53 h54 h55 hH56
 change HS [] false s s53 [⟨some b18, [(AV.int .i64 a1.Stack), (AV.int .i64 a1.Start), (AV.sl z34 f35 e36), (AV.sl z47 f48 e49), (AV.sl 0 true []), (AV.sl 0 true [])], w52⟩] at hH56
 refine AOps.nilR ?_
 refine AW.sr ?_
 refine AOps.p rfl (rfl : _ = (AV.eptr [(AV.int .i64 a1.Stack), (AV.int .i64 a1.Start), (AV.sl z2 f3 e4), (AV.sl z6 f7 e8), (AV.sl z10 f11 e12), (AV.sl z14 f15 e16)] 4)) ?_
 refine AOps.ldE (v := (AV.sl z10 f11 e12)) rfl rfl rfl rfl rfl rfl ?_
 obtain ⟨y57, h58, h⟩ := obind h
 refine AOps.callP (g := 28) (args := [(AV.sl z10 f11 e12)]) (p := (rL (rL (rL (rI .i64) 1) 1) 1) y57) rfl rfl rfl (laws_toInt64SSS_ok h13 h58 (HS.wf' hH56)) ?_
 intro _ o64 h59
 obtain ⟨z60, f61, e62, rfl, h63⟩ := h59
 refine AOps.p rfl (rfl : _ = (AV.ptr b18 4)) ?_
 refine AOps.stB (i := 0) (v := (AV.sl z60 f61 e62)) hH56 rfl rfl rfl rfl rfl rfl rfl rfl rfl (lt_b rfl) (le_b rfl) rfl ?_
 intro w65 s66 h67 h68 hH69
 change HS [] false s s66 [⟨some b18, [(AV.int .i64 a1.Stack), (AV.int .i64 a1.Start), (AV.sl z34 f35 e36), (AV.sl z47 f48 e49), (AV.sl z60 f61 e62), (AV.sl 0 true [])], w65⟩] at hH69
 refine AOps.nilR ?_
 refine AW.sr ?_
 refine AOps.p rfl (rfl : _ = (AV.eptr [(AV.int .i64 a1.Stack), (AV.int .i64 a1.Start), (AV.sl z2 f3 e4), (AV.sl z6 f7 e8), (AV.sl z10 f11 e12), (AV.sl z14 f15 e16)] 5)) ?_
 refine AOps.ldE (v := (AV.sl z14 f15 e16)) rfl rfl rfl rfl rfl rfl ?_
 obtain ⟨y70, h71, h⟩ := obind h
 refine AOps.callP (g := 29) (args := [(AV.sl z14 f15 e16)]) (p := (rL (rL (rI .i64) 1) 1) y70) rfl rfl rfl (laws_toInt64SS_ok h17 h71 (HS.wf' hH69)) ?_
 intro _ o77 h72
 obtain ⟨z73, f74, e75, rfl, h76⟩ := h72
 refine AOps.p rfl (rfl : _ = (AV.ptr b18 5)) ?_
 refine AOps.stB (i := 0) (v := (AV.sl z73 f74 e75)) hH69 rfl rfl rfl rfl rfl rfl rfl rfl rfl (lt_b rfl) (le_b rfl) rfl ?_
 intro w78 s79 h80 h81 hH82
 change HS [] false s s79 [⟨some b18, [(AV.int .i64 a1.Stack), (AV.int .i64 a1.Start), (AV.sl z34 f35 e36), (AV.sl z47 f48 e49), (AV.sl z60 f61 e62), (AV.sl z73 f74 e75)], w78⟩] at hH82
 refine AOps.nilR ?_
 refine AW.sr ?_
 refine AOps.ldB (i := 0) (v := (AV.agg [(AV.int .i64 a1.Stack), (AV.int .i64 a1.Start), (AV.sl z34 f35 e36), (AV.sl z47 f48 e49), (AV.sl z60 f61 e62), (AV.sl z73 f74 e75)])) hH82 rfl rfl rfl rfl rfl rfl rfl rfl rfl ?_
 refine AOps.stP (v := (AV.agg [(AV.int .i64 a1.Stack), (AV.int .i64 a1.Start), (AV.sl z34 f35 e36), (AV.sl z47 f48 e49), (AV.sl z60 f61 e62), (AV.sl z73 f74 e75)])) rfl rfl rfl rfl rfl rfl rfl rfl rfl (lt_b rfl) rfl ?_
 refine AOps.nilR ?_
 cases h
 exact AW.ret ⟨⟨_, hH82⟩, _, _, rfl, (Fin.of (p := (rChecker) (⟨a1.Stack, a1.Start, y31, y44, y57, y70⟩ : Checker)) (.A (.cons .I (.cons .I (.cons (.L fun _ => .B) (.cons (.L fun _ => (.L fun _ => (.A (.cons .I (.cons .I .nil))))) (.cons (.L fun _ => (.L fun _ => (.L fun _ => .I))) (.cons (.L fun _ => (.L fun _ => .I)) .nil))))))) (⟨_, rfl, (.cons rfl (.cons rfl (.cons ⟨_, _, _, rfl, h37⟩ (.cons ⟨_, _, _, rfl, h50⟩ (.cons ⟨_, _, _, rfl, h63⟩ (.cons ⟨_, _, _, rfl, h76⟩ .nil))))))⟩)).2⟩
theorem laws_toContext_ok {a1 : Context} {s : St} {r : Context} (h : laws_toContext a1 = some r) (hs : WF s) : ACall Cf 30 [(AV.agg [(AV.str a1.Front), (AV.str a1.Back)])] s fun v _ s' => (rContext) r v ∧ s' = s := by
 refine ACall.boxes rfl rfl rfl ?_
 have hH0 := HS.init hs
 unfold laws_toContext at h
 refine AW.sr ?_
 refine AOps.makeR rfl rfl rfl rfl rfl rfl (rfl : _ = (AV.eptr [(AV.str a1.Front), (AV.str a1.Back)] 0)) ?_
 refine AOps.allocP rfl rfl rfl rfl ⟨rfl, rfl⟩ rfl ?_
 refine AOps.nilR ?_
 refine AW.sr ?_
 refine AOps.alloc1 hH0 rfl rfl rfl rfl rfl rfl ?_
 intro b2 s3 hH4
 change HS [] false s s3 [⟨some b2, [(AV.str ([] : List UInt8)), (AV.str ([] : List UInt8))], (fun _ => false)⟩] at hH4
 refine AOps.nilR ?_
 refine AW.sr ?_
 refine AOps.p rfl (rfl : _ = (AV.eptr [(AV.str a1.Front), (AV.str a1.Back)] 0)) ?_
 refine AOps.ldE (v := (AV.str a1.Front)) rfl rfl rfl rfl rfl rfl ?_
 refine AOps.p rfl (rfl : _ = (AV.ptr b2 0)) ?_
 refine AOps.stB (i := 0) (v := (AV.str a1.Front)) hH4 rfl rfl rfl rfl rfl rfl rfl rfl rfl (lt_b rfl) (le_b rfl) rfl ?_
 intro w5 s6 h7 h8 hH9
 change HS [] false s s6 [⟨some b2, [(AV.str a1.Front), (AV.str ([] : List UInt8))], w5⟩] at hH9
 refine AOps.nilR ?_
 refine AW.sr ?_
 refine AOps.p rfl (rfl : _ = (AV.eptr [(AV.str a1.Front), (AV.str a1.Back)] 1)) ?_
 refine AOps.ldE (v := (AV.str a1.Back)) rfl rfl rfl rfl rfl rfl ?_
 refine AOps.p rfl (rfl : _ = (AV.ptr b2 1)) ?_
 refine AOps.stB (i := 0) (v := (AV.str a1.Back)) hH9 rfl rfl rfl rfl rfl rfl rfl rfl rfl (lt_b rfl) (le_b rfl) rfl ?_
 intro w10 s11 h12 h13 hH14
 change HS [] false s s11 [⟨some b2, [(AV.str a1.Front), (AV.str a1.Back)], w10⟩] at hH14
 refine AOps.nilR ?_
 refine AW.sr ?_
 refine AOps.ldB (i := 0) (v := (AV.agg [(AV.str a1.Front), (AV.str a1.Back)])) hH14 rfl rfl rfl rfl rfl rfl rfl rfl rfl ?_
 refine AOps.stP (v := (AV.agg [(AV.str a1.Front), (AV.str a1.Back)])) rfl rfl rfl rfl rfl rfl rfl rfl rfl (lt_b rfl) rfl ?_
 refine AOps.nilR ?_
 cases h
 exact AW.ret ⟨⟨_, hH14⟩, _, _, rfl, (Fin.of (p := (rContext) a1) (.A (.cons .S (.cons .S .nil))) (⟨_, rfl, (.cons rfl (.cons rfl .nil))⟩)).2⟩
theorem laws_toContextS_ok {a1 : List Context} {z2 : Nat} {f3 : Bool} {e4 : List AV} {s : St} (h5 : LR rContext 2 a1 z2 e4) {r : (List Context)} (h : laws_toContextS a1 = some r) (hs : WF s) : ACall Cf 8 [(AV.sl z2 f3 e4)] s fun v _ s' => (rL rContext 2) r v ∧ s' = s := by
 refine ACall.boxes rfl rfl rfl ?_
 have hH0 := HS.init hs
 unfold laws_toContextS at h
 refine AW.sr ?_
 refine AOps.p rfl (rfl : _ = (AV.sl 0 true [])) ?_
 refine AOps.nilR ?_
 refine AW.sr ?_
 refine AOps.p rfl (rfl : _ = (AV.sl z2 f3 e4)) ?_
 refine AOps.p rfl (len_eq h5) ?_
 obtain ⟨l6, h7, h⟩ := obind h
 refine AOps.mkS (r := rContext) hH0 rfl rfl rfl rfl rfl rfl rfl ⟨rfl, rfl, by decide⟩ h7 ⟨_, rfl, (.cons rfl (.cons rfl .nil))⟩ ((Sh.A (f := csContext) (fun _ => ⟨(.cons (One.of Sh.S _) (.cons (One.of Sh.S _) .nil)), rfl⟩)) ((⟨([] : List UInt8), ([] : List UInt8)⟩ : Context) : Context) _ ⟨_, rfl, (.cons rfl (.cons rfl .nil))⟩) rfl ?_
 intro b8 s9 cs10 h11 hH12
 change HS [] false s s9 [⟨some b8, cs10, fun _ => false⟩] at hH12
 refine AOps.assignR rfl rfl rfl (rfl : _ = (AV.ms true 2 b8 0 (Int.toNat (a1.length : Int)))) rfl ?_
 refine AOps.nilR ?_
 refine AW.seq ?_
 refine AW.sr ?_
 refine AOps.p rfl (rfl : _ = (AV.int .i64 0)) ?_
 refine AOps.nilR ?_
 refine AW.meet (σ := (List Context) × BX × Nat × Nat × St) (fun (out13, x14, b15, n17, s19) tm os => ⟨updL tm [(3, (AV.ms true 2 b15 0 n17))], updL os [], s19⟩) (fun (out13, x14, b15, n17, s19) => (x14.b = some b15) ∧ (MS rContext true 2 out13 n17 x14.cs) ∧ (HS [] false s s19 [x14]) ∧ laws_toContextS_J1 out13 = some r) ?_ ?_
 ·rintro ⟨out13, x14, b15, n17, s19⟩ tm os ⟨h16, h18, hH20, h⟩
  unfold laws_toContextS_J1 at h
  refine AW.sr ?_
  refine AOps.p rfl (rfl : _ = (AV.ms true 2 b15 0 n17)) ?_
  refine AOps.assignR rfl rfl rfl (rfl : _ = (AV.ms true 2 b15 0 n17)) rfl ?_
  refine AOps.nilR ?_
  cases h
  exact AW.ret ⟨⟨_, hH20⟩, _, _, rfl, (Fin.ms (r := rContext) hH20 (i := 0) rfl h16 h18 (fun _ => (.A (.cons .S (.cons .S .nil)))) (fun h => by cases h)).2⟩
 intro KJ21
 refine AW.block ?_
 refine AW.res [(0, (AV.sl z2 f3 e4)), (3, (AV.ms true 2 b8 0 (Int.toNat (a1.length : Int)))), (4, (AV.int .i64 0))] [] ⟨rfl, rfl, rfl, trivial⟩ trivial ?_
 refine AW.loopF (σ := (List Context) × Int) (τ := BX × Nat × Nat × St) (fun (out22, i28) (x23, b24, n26, s29) => (x23.b = some b24) ∧ (MS rContext true 2 out22 n26 x23.cs) ∧ (HS [] false s s29 [x23])) (fun (out22, i28) (x23, b24, n26, s29) tm os => ⟨updL tm [(0, (AV.sl z2 f3 e4)), (3, (AV.ms true 2 b24 0 n26)), (4, (AV.int .i64 i28))], updL os [], s29⟩) ?_ (x := (l6, 0)) (y := (⟨some b8, cs10, fun _ => false⟩, b8, Int.toNat (a1.length : Int), s9)) h ⟨rfl, h11, (HS.sel hH12 [some 0] (by decide))⟩
 clear h
 rintro ⟨out22, i28⟩ ⟨x23, b24, n26, s29⟩ tm os ⟨h25, h27, hH30⟩ e1 h hL1 hR1
 unfold laws_toContextS_S1 at h
 dsimp only at h
 refine AW.seq ?_
 refine AW.sr ?_
 refine AOps.p rfl (rfl : _ = (AV.int .i64 i28)) ?_
 refine AOps.p rfl (rfl : _ = (AV.sl z2 f3 e4)) ?_
 refine AOps.p rfl (len_eq h5) ?_
 refine AOps.p rfl (rfl : _ = (AV.bool (decide ((i28 : Int) < (a1.length : Int))))) ?_
 refine AOps.nilR ?_
 rcases oite h with ⟨hc31, h⟩ | ⟨hc31, h⟩
 ·refine AW.condT (congrArg AV.bool hc31) ?_
  refine AW.skip ?_
  refine AW.seq ?_
  refine AW.block ?_
  refine AW.region ?_
  refine AOps.p rfl (rfl : _ = (AV.ms true 2 b24 0 n26)) ?_
  refine AOps.p rfl (rfl : _ = (AV.int .i64 i28)) ?_
  refine AOps.p rfl (rfl : _ = (AV.sl z2 f3 e4)) ?_
  refine AOps.p rfl (rfl : _ = (AV.int .i64 i28)) ?_
  obtain ⟨x32, h33, h⟩ := obind h
  obtain ⟨v36, h34, h35⟩ := idx_sl h5 h33
  obtain ⟨_, rfl, h37⟩ := h34
  obtain ⟨_, _, rfl, h38, h39⟩ := Cs_cons h37
  cases h38
  obtain ⟨_, _, rfl, h40, h41⟩ := Cs_cons h39
  cases h40
  cases Cs_nil h41
  refine AOps.pureR rfl rfl rfl h35 rfl (rfl : _ = (AV.eptr [(AV.str x32.Front), (AV.str x32.Back)] 0)) ?_
  refine AOps.ldE (v := (AV.agg [(AV.str x32.Front), (AV.str x32.Back)])) rfl rfl rfl rfl rfl rfl ?_
  obtain ⟨y42, h43, h⟩ := obind h
  refine AOps.callP (g := 30) (args := [(AV.agg [(AV.str x32.Front), (AV.str x32.Back)])]) (p := (rContext) y42) rfl rfl rfl (laws_toContext_ok  h43 (HS.wf' hH30)) ?_
  intro _ o50 h44
  obtain ⟨_, rfl, h45⟩ := h44
  obtain ⟨_, _, rfl, h46, h47⟩ := Cs_cons h45
  cases h46
  obtain ⟨_, _, rfl, h48, h49⟩ := Cs_cons h47
  cases h48
  cases Cs_nil h49
  obtain ⟨x51, h52, h⟩ := obind h
  refine AOps.pureR rfl rfl rfl (idx_ms h27 h52) rfl (rfl : _ = (AV.ptr b24 (0 + Int.toNat i28 * 2))) ?_
  refine AOps.stM (i := 0) (r := rContext) (v := (AV.agg [(AV.str y42.Front), (AV.str y42.Back)])) (y := y42) hH30 rfl h25 h27 h52 rfl rfl rfl rfl rfl ⟨_, rfl, (.cons rfl (.cons rfl .nil))⟩ ((Sh.A (f := csContext) (fun _ => ⟨(.cons (One.of Sh.S _) (.cons (One.of Sh.S _) .nil)), rfl⟩)) y42 _ ⟨_, rfl, (.cons rfl (.cons rfl .nil))⟩) rfl rfl (lt_b rfl) rfl rfl ?_
  intro cs53 w54 s55 h56 hH57
  change HS [] false s s55 [⟨some b24, cs53, w54⟩] at hH57
  refine AOps.nilR ?_
  refine AW.inBlock ?_
  refine AW.region ?_
  refine AOps.p rfl (rfl : _ = (AV.int .i64 i28)) ?_
  refine AOps.p rfl (rfl : _ = (AV.int .i64 (IntKind.wrap .i64 (i28 + 1)))) ?_
  refine AOps.assignR rfl rfl rfl (rfl : _ = (AV.int .i64 (IntKind.wrap .i64 (i28 + 1)))) rfl ?_
  refine AOps.nilR ?_
  cases h
  exact AW.res [(0, (AV.sl z2 f3 e4)), (3, (AV.ms true 2 b24 0 n26)), (4, (AV.int .i64 (IntKind.wrap .i64 (i28 + 1))))] [] ⟨rfl, rfl, rfl, trivial⟩ trivial (hL1 _ rfl (⟨some b24, cs53, w54⟩, b24, n26, s55) _ _ ⟨rfl, h56, (HS.sel hH57 [some 0] (by decide))⟩)
 refine AW.condF (congrArg AV.bool hc31) ?_
 refine AW.exit rfl ?_
 obtain ⟨r58, hm, hx⟩ := omap h
 clear h
 subst hx
 have hx := hR1 _ rfl
 rw [hx] at hm
 have h := hm
 exact AW.res [(3, (AV.ms true 2 b24 0 n26))] [] ⟨rfl, trivial⟩ trivial (KJ21 (out22, x23, b24, n26, s29) _ _ ⟨h25, h27, (HS.sel hH30 [some 0] (by decide)), h⟩)
theorem spec_l00In_ok {n1 : Int} {low2 : Int} {high3 : Int} {s : St} {r : Bool} (h : spec_l00In n1 low2 high3 = some r) (hs : WF s) : ACall Cf 47 [(AV.int .i64 n1), (AV.int .i64 low2), (AV.int .i64 high3)] s fun v _ s' => (rB) r v ∧ s' = s := by
 refine ACall.pure rfl rfl rfl .B ?_
 have hWF := hs.lo'
 unfold spec_l00In at h
 refine AW.sr ?_
 refine AOps.p rfl (rfl : _ = (AV.bool false)) ?_
 refine AOps.nilR ?_
 refine AW.sr ?_
 refine AOps.p rfl (rfl : _ = (AV.int .i64 n1)) ?_
 refine AOps.p rfl (rfl : _ = (AV.int .i64 low2)) ?_
 refine AOps.p rfl (rfl : _ = (AV.bool (decide ((n1 : Int) ≥ low2)))) ?_
 refine AOps.p rfl (rfl : _ = (AV.bool (decide ((n1 : Int) ≥ low2)))) ?_
 refine AOps.split 4 (fun f' => ∃ tm' os', f' = ⟨updL tm' [(14, (AV.bool ((decide ((n1 : Int) ≥ low2)) && (decide ((n1 : Int) ≤ high3)))))], updL os' [], { s with lo := s.n }⟩) ?_ ?_
 ·rcases Bool.eq_false_or_eq_true (decide ((n1 : Int) ≥ low2)) with hc4 | hc4
  ·refine AOps.know (d := 10) rfl hc4 ?_
   refine AOps.p rfl (rfl : _ = (AV.int .i64 n1)) ?_
   refine AOps.p rfl (rfl : _ = (AV.int .i64 high3)) ?_
   refine AOps.p rfl (rfl : _ = (AV.bool (decide ((n1 : Int) ≤ high3)))) ?_
   refine AOps.p rfl (rfl : _ = (AV.bool (decide ((n1 : Int) ≤ high3)))) ?_
   refine AOps.resR [(14, (AV.bool ((decide ((n1 : Int) ≥ low2)) && (decide ((n1 : Int) ≤ high3)))))] [] ?_ ?_ _ ⟨_, _, rfl⟩
   ·exact ⟨congrArg AV.bool (and_t hc4), trivial⟩
   exact trivial
  ·refine AOps.know (d := 10) rfl hc4 ?_
   refine AOps.skipR rfl rfl ?_
   refine AOps.skipR rfl rfl ?_
   refine AOps.skipR rfl rfl ?_
   refine AOps.p rfl (rfl : _ = (AV.bool false)) ?_
   refine AOps.resR [(14, (AV.bool ((decide ((n1 : Int) ≥ low2)) && (decide ((n1 : Int) ≤ high3)))))] [] ?_ ?_ _ ⟨_, _, rfl⟩
   ·exact ⟨congrArg AV.bool (and_f hc4), trivial⟩
   exact trivial
 rintro _ ⟨tm, os, rfl⟩
 refine AOps.assignR rfl rfl rfl (rfl : _ = (AV.bool ((decide ((n1 : Int) ≥ low2)) && (decide ((n1 : Int) ≤ high3))))) rfl ?_
 refine AOps.nilR ?_
 cases h
 exact AW.ret ⟨rfl, _, _, rfl, rfl⟩
theorem spec_l02List_ok {list1 : List Int} {length6 : Int} {n7 : Int} {z2 : Nat} {f3 : Bool} {e4 : List AV} {s : St} (h5 : LR (rI .i64) 1 list1 z2 e4) {r : Bool} (h : spec_l02List list1 length6 n7 = some r) (hs : WF s) : ACall Cf 48 [(AV.sl z2 f3 e4), (AV.int .i64 length6), (AV.int .i64 n7)] s fun v _ s' => (rB) r v ∧ s' = s := by
 refine ACall.pure rfl rfl rfl .B ?_
 have hWF := hs.lo'
 unfold spec_l02List at h
 refine AW.sr ?_
 refine AOps.p rfl (rfl : _ = (AV.bool false)) ?_
 refine AOps.nilR ?_
 refine AW.seq ?_
 refine AW.sr ?_
 refine AOps.p rfl (rfl : _ = (AV.sl z2 f3 e4)) ?_
 refine AOps.p rfl (len_eq h5) ?_
 refine AOps.p rfl (rfl : _ = (AV.int .i64 length6)) ?_
 refine AOps.p rfl (rfl : _ = (AV.bool ((list1.length : Int) != length6))) ?_
 refine AOps.nilR ?_
 rcases oite h with ⟨hc8, h⟩ | ⟨hc8, h⟩
 ·refine AW.condT (congrArg AV.bool hc8) ?_
  refine AW.sr ?_
  refine AOps.p rfl (rfl : _ = (AV.bool false)) ?_
  refine AOps.nilR ?_
  cases h
  exact AW.ret ⟨rfl, _, _, rfl, rfl⟩
 refine AW.condF (congrArg AV.bool hc8) ?_
 refine AW.skip ?_
 refine AW.seq ?_
 refine AW.sr ?_
 refine AOps.p rfl (rfl : _ = (AV.int .i64 0)) ?_
 refine AOps.nilR ?_
 refine AW.meet (σ := Unit) (fun _ tm os => ⟨updL tm [], updL os [], { s with lo := s.n }⟩) (fun _ => spec_l02List_J1 = some r) ?_ ?_
 ·rintro _ tm os h
  unfold spec_l02List_J1 at h
  refine AW.sr ?_
  refine AOps.p rfl (rfl : _ = (AV.bool true)) ?_
  refine AOps.nilR ?_
  cases h
  exact AW.ret ⟨rfl, _, _, rfl, rfl⟩
 intro KJ9
 refine AW.block ?_
 refine AW.res [(0, (AV.sl z2 f3 e4)), (2, (AV.int .i64 n7)), (7, (AV.int .i64 0))] [] ⟨rfl, rfl, rfl, trivial⟩ trivial ?_
 refine AW.loopF (σ := Int) (τ := Unit) (fun i10 _ => True) (fun i10 _ tm os => ⟨updL tm [(0, (AV.sl z2 f3 e4)), (2, (AV.int .i64 n7)), (7, (AV.int .i64 i10))], updL os [], { s with lo := s.n }⟩) ?_ (x := (0)) (y := ()) h trivial
 clear h
 rintro i10 _ tm os - e1 h hL1 hR1
 unfold spec_l02List_S1 at h
 refine AW.seq ?_
 refine AW.sr ?_
 refine AOps.p rfl (rfl : _ = (AV.int .i64 i10)) ?_
 refine AOps.p rfl (rfl : _ = (AV.sl z2 f3 e4)) ?_
 refine AOps.p rfl (len_eq h5) ?_
 refine AOps.p rfl (rfl : _ = (AV.bool (decide ((i10 : Int) < (list1.length : Int))))) ?_
 refine AOps.nilR ?_
 rcases oite h with ⟨hc11, h⟩ | ⟨hc11, h⟩
 ·refine AW.condT (congrArg AV.bool hc11) ?_
  refine AW.skip ?_
  refine AW.seq ?_
  refine AW.block ?_
  refine AW.sr ?_
  refine AOps.p rfl (rfl : _ = (AV.sl z2 f3 e4)) ?_
  refine AOps.p rfl (rfl : _ = (AV.int .i64 i10)) ?_
  obtain ⟨x12, h13, h⟩ := obind h
  obtain ⟨v16, h14, h15⟩ := idx_sl h5 h13
  cases h14
  refine AOps.pureR rfl rfl rfl h15 rfl (rfl : _ = (AV.eptr [(AV.int .i64 x12)] 0)) ?_
  refine AOps.ldE (v := (AV.int .i64 x12)) rfl rfl rfl rfl rfl rfl ?_
  refine AOps.p rfl (rfl : _ = (AV.int .i64 n7)) ?_
  refine AOps.p rfl (rfl : _ = (AV.int .i64 (IntKind.wrap .i64 (n7 - 1)))) ?_
  obtain ⟨y17, h18, h⟩ := obind h
  refine AOps.callP (g := 47) (args := [(AV.int .i64 x12), (AV.int .i64 0), (AV.int .i64 (IntKind.wrap .i64 (n7 - 1)))]) (p := (rB) y17) rfl rfl rfl (spec_l00In_ok  h18 hWF) ?_
  intro _ o20 h19
  cases h19
  refine AOps.p rfl (rfl : _ = (AV.bool (!y17))) ?_
  refine AOps.nilR ?_
  rcases oite h with ⟨hc21, h⟩ | ⟨hc21, h⟩
  ·refine AW.condT (congrArg AV.bool hc21) ?_
   refine AW.sr ?_
   refine AOps.p rfl (rfl : _ = (AV.bool false)) ?_
   refine AOps.nilR ?_
   cases h
   have hr := hR1 _ rfl
   subst hr
   exact AW.ret ⟨rfl, _, _, rfl, rfl⟩
  refine AW.condF (congrArg AV.bool hc21) ?_
  refine AW.skip ?_
  refine AW.inBlock ?_
  refine AW.region ?_
  refine AOps.p rfl (rfl : _ = (AV.int .i64 i10)) ?_
  refine AOps.p rfl (rfl : _ = (AV.int .i64 (IntKind.wrap .i64 (i10 + 1)))) ?_
  refine AOps.assignR rfl rfl rfl (rfl : _ = (AV.int .i64 (IntKind.wrap .i64 (i10 + 1)))) rfl ?_
  refine AOps.nilR ?_
  cases h
  exact AW.res [(0, (AV.sl z2 f3 e4)), (2, (AV.int .i64 n7)), (7, (AV.int .i64 (IntKind.wrap .i64 (i10 + 1))))] [] ⟨rfl, rfl, rfl, trivial⟩ trivial (hL1 _ rfl () _ _ trivial)
 refine AW.condF (congrArg AV.bool hc11) ?_
 refine AW.exit rfl ?_
 obtain ⟨r22, hm, hx⟩ := omap h
 clear h
 subst hx
 have hx := hR1 _ rfl
 rw [hx] at hm
 have h := hm
 exact AW.res [] [] trivial trivial (KJ9 () _ _ h)
theorem spec_l02Ok_ok {p1 : Checker} {z2 : Nat} {f3 : Bool} {e4 : List AV} {z6 : Nat} {f7 : Bool} {e8 : List AV} {z10 : Nat} {f11 : Bool} {e12 : List AV} {z14 : Nat} {f15 : Bool} {e16 : List AV} {s : St} (h5 : LR rB 1 p1.Accept z2 e4) (h9 : LR (rL rPush 2) 1 p1.Call z6 e8) (h13 : LR (rL (rL (rI .i64) 1) 1) 1 p1.Return z10 e12) (h17 : LR (rL (rI .i64) 1) 1 p1.Inner z14 e16) {r : Bool} (h : spec_l02Ok p1 = some r) (hs : WF s) : ACall Cf 22 [(AV.eptr [(AV.int .i64 p1.Stack), (AV.int .i64 p1.Start), (AV.sl z2 f3 e4), (AV.sl z6 f7 e8), (AV.sl z10 f11 e12), (AV.sl z14 f15 e16)] 0)] s fun v _ s' => (rB) r v ∧ s' = s := by
 refine ACall.pure rfl rfl rfl .B ?_
 have hWF := hs.lo'
 unfold spec_l02Ok at h
 refine AW.sr ?_
 refine AOps.p rfl (rfl : _ = (AV.bool false)) ?_
 refine AOps.nilR ?_
 refine AW.sr ?_
 refine AOps.p rfl (rfl : _ = (AV.eptr [(AV.int .i64 p1.Stack), (AV.int .i64 p1.Start), (AV.sl z2 f3 e4), (AV.sl z6 f7 e8), (AV.sl z10 f11 e12), (AV.sl z14 f15 e16)] 0)) ?_
 refine AOps.p rfl (rfl : _ = (AV.eptr [(AV.int .i64 p1.Stack), (AV.int .i64 p1.Start), (AV.sl z2 f3 e4), (AV.sl z6 f7 e8), (AV.sl z10 f11 e12), (AV.sl z14 f15 e16)] 0)) ?_
 refine AOps.p rfl (rfl : _ = (AV.eptr [(AV.int .i64 p1.Stack), (AV.int .i64 p1.Start), (AV.sl z2 f3 e4), (AV.sl z6 f7 e8), (AV.sl z10 f11 e12), (AV.sl z14 f15 e16)] 2)) ?_
 refine AOps.ldE (v := (AV.sl z2 f3 e4)) rfl rfl rfl rfl rfl rfl ?_
 refine AOps.p rfl (len_eq h5) ?_
 refine AOps.assignR rfl rfl rfl (rfl : _ = (AV.int .i64 (p1.Accept.length : Int))) rfl ?_
 refine AOps.nilR ?_
 refine AW.seq ?_
 refine AW.sr ?_
 refine AOps.p rfl (rfl : _ = (AV.int .i64 (p1.Accept.length : Int))) ?_
 obtain ⟨y18, h19, h⟩ := obind h
 refine AOps.callP (g := 47) (args := [(AV.int .i64 (p1.Accept.length : Int)), (AV.int .i64 1), (AV.int .i64 40)]) (p := (rB) y18) rfl rfl rfl (spec_l00In_ok  h19 hWF) ?_
 intro _ o21 h20
 cases h20
 refine AOps.p rfl (rfl : _ = (AV.bool (!y18))) ?_
 refine AOps.p rfl (rfl : _ = (AV.bool (!y18))) ?_
 obtain ⟨b23, hb, h⟩ := obind h
 refine AOps.split 7 (fun f' => ∃ tm' os', f' = ⟨updL tm' [(0, (AV.eptr [(AV.int .i64 p1.Stack), (AV.int .i64 p1.Start), (AV.sl z2 f3 e4), (AV.sl z6 f7 e8), (AV.sl z10 f11 e12), (AV.sl z14 f15 e16)] 0)), (3, (AV.int .i64 (p1.Accept.length : Int))), (21, (AV.bool b23))], updL os' [], { s with lo := s.n }⟩) ?_ ?_
 ·rcases oite hb with ⟨hc22, hb⟩ | ⟨hc22, hb⟩
  ·refine AOps.know (d := 14) rfl hc22 ?_
   refine AOps.skipR rfl rfl ?_
   refine AOps.skipR rfl rfl ?_
   refine AOps.skipR rfl rfl ?_
   refine AOps.skipR rfl rfl ?_
   refine AOps.skipR rfl rfl ?_
   refine AOps.skipR rfl rfl ?_
   refine AOps.p rfl (rfl : _ = (AV.bool true)) ?_
   refine AOps.resR [(0, (AV.eptr [(AV.int .i64 p1.Stack), (AV.int .i64 p1.Start), (AV.sl z2 f3 e4), (AV.sl z6 f7 e8), (AV.sl z10 f11 e12), (AV.sl z14 f15 e16)] 0)), (3, (AV.int .i64 (p1.Accept.length : Int))), (21, (AV.bool b23))] [] ?_ ?_ _ ⟨_, _, rfl⟩
   ·exact ⟨rfl, rfl, congrArg AV.bool (Option.some.inj hb), trivial⟩
   exact trivial
  ·have h := hb
   refine AOps.know (d := 14) rfl hc22 ?_
   refine AOps.p rfl (rfl : _ = (AV.eptr [(AV.int .i64 p1.Stack), (AV.int .i64 p1.Start), (AV.sl z2 f3 e4), (AV.sl z6 f7 e8), (AV.sl z10 f11 e12), (AV.sl z14 f15 e16)] 0)) ?_
   refine AOps.p rfl (rfl : _ = (AV.eptr [(AV.int .i64 p1.Stack), (AV.int .i64 p1.Start), (AV.sl z2 f3 e4), (AV.sl z6 f7 e8), (AV.sl z10 f11 e12), (AV.sl z14 f15 e16)] 0)) ?_
   refine AOps.p rfl (rfl : _ = (AV.eptr [(AV.int .i64 p1.Stack), (AV.int .i64 p1.Start), (AV.sl z2 f3 e4), (AV.sl z6 f7 e8), (AV.sl z10 f11 e12), (AV.sl z14 f15 e16)] 0)) ?_
   refine AOps.ldE (v := (AV.int .i64 p1.Stack)) rfl rfl rfl rfl rfl rfl ?_
   obtain ⟨y24, h25, h⟩ := obind h
   refine AOps.callP (g := 47) (args := [(AV.int .i64 p1.Stack), (AV.int .i64 1), (AV.int .i64 80)]) (p := (rB) y24) rfl rfl rfl (spec_l00In_ok  h25 hWF) ?_
   intro _ o27 h26
   cases h26
   refine AOps.p rfl (rfl : _ = (AV.bool (!y24))) ?_
   refine AOps.p rfl (rfl : _ = (AV.bool (!y24))) ?_
   refine AOps.resR [(0, (AV.eptr [(AV.int .i64 p1.Stack), (AV.int .i64 p1.Start), (AV.sl z2 f3 e4), (AV.sl z6 f7 e8), (AV.sl z10 f11 e12), (AV.sl z14 f15 e16)] 0)), (3, (AV.int .i64 (p1.Accept.length : Int))), (21, (AV.bool b23))] [] ?_ ?_ _ ⟨_, _, rfl⟩
   ·exact ⟨rfl, rfl, congrArg AV.bool (Option.some.inj h), trivial⟩
   exact trivial
 rintro _ ⟨tm, os, rfl⟩
 refine AOps.p rfl (rfl : _ = (AV.bool b23)) ?_
 obtain ⟨b29, hb, h⟩ := obind h
 refine AOps.split 9 (fun f' => ∃ tm' os', f' = ⟨updL tm' [(0, (AV.eptr [(AV.int .i64 p1.Stack), (AV.int .i64 p1.Start), (AV.sl z2 f3 e4), (AV.sl z6 f7 e8), (AV.sl z10 f11 e12), (AV.sl z14 f15 e16)] 0)), (3, (AV.int .i64 (p1.Accept.length : Int))), (31, (AV.bool b29))], updL os' [], { s with lo := s.n }⟩) ?_ ?_
 ·rcases oite hb with ⟨hc28, hb⟩ | ⟨hc28, hb⟩
  ·refine AOps.know (d := 22) rfl hc28 ?_
   refine AOps.skipR rfl rfl ?_
   refine AOps.skipR rfl rfl ?_
   refine AOps.skipR rfl rfl ?_
   refine AOps.skipR rfl rfl ?_
   refine AOps.skipR rfl rfl ?_
   refine AOps.skipR rfl rfl ?_
   refine AOps.skipR rfl rfl ?_
   refine AOps.skipR rfl rfl ?_
   refine AOps.p rfl (rfl : _ = (AV.bool true)) ?_
   refine AOps.resR [(0, (AV.eptr [(AV.int .i64 p1.Stack), (AV.int .i64 p1.Start), (AV.sl z2 f3 e4), (AV.sl z6 f7 e8), (AV.sl z10 f11 e12), (AV.sl z14 f15 e16)] 0)), (3, (AV.int .i64 (p1.Accept.length : Int))), (31, (AV.bool b29))] [] ?_ ?_ _ ⟨_, _, rfl⟩
   ·exact ⟨rfl, rfl, congrArg AV.bool (Option.some.inj hb), trivial⟩
   exact trivial
  ·have h := hb
   refine AOps.know (d := 22) rfl hc28 ?_
   refine AOps.p rfl (rfl : _ = (AV.eptr [(AV.int .i64 p1.Stack), (AV.int .i64 p1.Start), (AV.sl z2 f3 e4), (AV.sl z6 f7 e8), (AV.sl z10 f11 e12), (AV.sl z14 f15 e16)] 0)) ?_
   refine AOps.p rfl (rfl : _ = (AV.eptr [(AV.int .i64 p1.Stack), (AV.int .i64 p1.Start), (AV.sl z2 f3 e4), (AV.sl z6 f7 e8), (AV.sl z10 f11 e12), (AV.sl z14 f15 e16)] 0)) ?_
   refine AOps.p rfl (rfl : _ = (AV.eptr [(AV.int .i64 p1.Stack), (AV.int .i64 p1.Start), (AV.sl z2 f3 e4), (AV.sl z6 f7 e8), (AV.sl z10 f11 e12), (AV.sl z14 f15 e16)] 1)) ?_
   refine AOps.ldE (v := (AV.int .i64 p1.Start)) rfl rfl rfl rfl rfl rfl ?_
   refine AOps.p rfl (rfl : _ = (AV.int .i64 (p1.Accept.length : Int))) ?_
   refine AOps.p rfl (rfl : _ = (AV.int .i64 (IntKind.wrap .i64 ((p1.Accept.length : Int) - 1)))) ?_
   obtain ⟨y30, h31, h⟩ := obind h
   refine AOps.callP (g := 47) (args := [(AV.int .i64 p1.Start), (AV.int .i64 0), (AV.int .i64 (IntKind.wrap .i64 ((p1.Accept.length : Int) - 1)))]) (p := (rB) y30) rfl rfl rfl (spec_l00In_ok  h31 hWF) ?_
   intro _ o33 h32
   cases h32
   refine AOps.p rfl (rfl : _ = (AV.bool (!y30))) ?_
   refine AOps.p rfl (rfl : _ = (AV.bool (!y30))) ?_
   refine AOps.resR [(0, (AV.eptr [(AV.int .i64 p1.Stack), (AV.int .i64 p1.Start), (AV.sl z2 f3 e4), (AV.sl z6 f7 e8), (AV.sl z10 f11 e12), (AV.sl z14 f15 e16)] 0)), (3, (AV.int .i64 (p1.Accept.length : Int))), (31, (AV.bool b29))] [] ?_ ?_ _ ⟨_, _, rfl⟩
   ·exact ⟨rfl, rfl, congrArg AV.bool (Option.some.inj h), trivial⟩
   exact trivial
 rintro _ ⟨tm, os, rfl⟩
 refine AOps.p rfl (rfl : _ = (AV.bool b29)) ?_
 refine AOps.split 8 (fun f' => ∃ tm' os', f' = ⟨updL tm' [(0, (AV.eptr [(AV.int .i64 p1.Stack), (AV.int .i64 p1.Start), (AV.sl z2 f3 e4), (AV.sl z6 f7 e8), (AV.sl z10 f11 e12), (AV.sl z14 f15 e16)] 0)), (3, (AV.int .i64 (p1.Accept.length : Int))), (40, (AV.bool (b29 || ((p1.Call.length : Int) != (p1.Accept.length : Int)))))], updL os' [], { s with lo := s.n }⟩) ?_ ?_
 ·rcases Bool.eq_false_or_eq_true b29 with hc34 | hc34
  ·refine AOps.know (d := 32) rfl hc34 ?_
   refine AOps.skipR rfl rfl ?_
   refine AOps.skipR rfl rfl ?_
   refine AOps.skipR rfl rfl ?_
   refine AOps.skipR rfl rfl ?_
   refine AOps.skipR rfl rfl ?_
   refine AOps.skipR rfl rfl ?_
   refine AOps.skipR rfl rfl ?_
   refine AOps.p rfl (rfl : _ = (AV.bool true)) ?_
   refine AOps.resR [(0, (AV.eptr [(AV.int .i64 p1.Stack), (AV.int .i64 p1.Start), (AV.sl z2 f3 e4), (AV.sl z6 f7 e8), (AV.sl z10 f11 e12), (AV.sl z14 f15 e16)] 0)), (3, (AV.int .i64 (p1.Accept.length : Int))), (40, (AV.bool (b29 || ((p1.Call.length : Int) != (p1.Accept.length : Int)))))] [] ?_ ?_ _ ⟨_, _, rfl⟩
   ·exact ⟨rfl, rfl, congrArg AV.bool (or_t hc34), trivial⟩
   exact trivial
  ·refine AOps.know (d := 32) rfl hc34 ?_
   refine AOps.p rfl (rfl : _ = (AV.eptr [(AV.int .i64 p1.Stack), (AV.int .i64 p1.Start), (AV.sl z2 f3 e4), (AV.sl z6 f7 e8), (AV.sl z10 f11 e12), (AV.sl z14 f15 e16)] 0)) ?_
   refine AOps.p rfl (rfl : _ = (AV.eptr [(AV.int .i64 p1.Stack), (AV.int .i64 p1.Start), (AV.sl z2 f3 e4), (AV.sl z6 f7 e8), (AV.sl z10 f11 e12), (AV.sl z14 f15 e16)] 0)) ?_
   refine AOps.p rfl (rfl : _ = (AV.eptr [(AV.int .i64 p1.Stack), (AV.int .i64 p1.Start), (AV.sl z2 f3 e4), (AV.sl z6 f7 e8), (AV.sl z10 f11 e12), (AV.sl z14 f15 e16)] 3)) ?_
   refine AOps.ldE (v := (AV.sl z6 f7 e8)) rfl rfl rfl rfl rfl rfl ?_
   refine AOps.p rfl (len_eq h9) ?_
   refine AOps.p rfl (rfl : _ = (AV.int .i64 (p1.Accept.length : Int))) ?_
   refine AOps.p rfl (rfl : _ = (AV.bool ((p1.Call.length : Int) != (p1.Accept.length : Int)))) ?_
   refine AOps.p rfl (rfl : _ = (AV.bool ((p1.Call.length : Int) != (p1.Accept.length : Int)))) ?_
   refine AOps.resR [(0, (AV.eptr [(AV.int .i64 p1.Stack), (AV.int .i64 p1.Start), (AV.sl z2 f3 e4), (AV.sl z6 f7 e8), (AV.sl z10 f11 e12), (AV.sl z14 f15 e16)] 0)), (3, (AV.int .i64 (p1.Accept.length : Int))), (40, (AV.bool (b29 || ((p1.Call.length : Int) != (p1.Accept.length : Int)))))] [] ?_ ?_ _ ⟨_, _, rfl⟩
   ·exact ⟨rfl, rfl, congrArg AV.bool (or_f hc34), trivial⟩
   exact trivial
 rintro _ ⟨tm, os, rfl⟩
 refine AOps.p rfl (rfl : _ = (AV.bool (b29 || ((p1.Call.length : Int) != (p1.Accept.length : Int))))) ?_
 refine AOps.split 8 (fun f' => ∃ tm' os', f' = ⟨updL tm' [(0, (AV.eptr [(AV.int .i64 p1.Stack), (AV.int .i64 p1.Start), (AV.sl z2 f3 e4), (AV.sl z6 f7 e8), (AV.sl z10 f11 e12), (AV.sl z14 f15 e16)] 0)), (3, (AV.int .i64 (p1.Accept.length : Int))), (49, (AV.bool ((b29 || ((p1.Call.length : Int) != (p1.Accept.length : Int))) || ((p1.Return.length : Int) != (p1.Accept.length : Int)))))], updL os' [], { s with lo := s.n }⟩) ?_ ?_
 ·rcases Bool.eq_false_or_eq_true (b29 || ((p1.Call.length : Int) != (p1.Accept.length : Int))) with hc35 | hc35
  ·refine AOps.know (d := 41) rfl hc35 ?_
   refine AOps.skipR rfl rfl ?_
   refine AOps.skipR rfl rfl ?_
   refine AOps.skipR rfl rfl ?_
   refine AOps.skipR rfl rfl ?_
   refine AOps.skipR rfl rfl ?_
   refine AOps.skipR rfl rfl ?_
   refine AOps.skipR rfl rfl ?_
   refine AOps.p rfl (rfl : _ = (AV.bool true)) ?_
   refine AOps.resR [(0, (AV.eptr [(AV.int .i64 p1.Stack), (AV.int .i64 p1.Start), (AV.sl z2 f3 e4), (AV.sl z6 f7 e8), (AV.sl z10 f11 e12), (AV.sl z14 f15 e16)] 0)), (3, (AV.int .i64 (p1.Accept.length : Int))), (49, (AV.bool ((b29 || ((p1.Call.length : Int) != (p1.Accept.length : Int))) || ((p1.Return.length : Int) != (p1.Accept.length : Int)))))] [] ?_ ?_ _ ⟨_, _, rfl⟩
   ·exact ⟨rfl, rfl, congrArg AV.bool (or_t hc35), trivial⟩
   exact trivial
  ·refine AOps.know (d := 41) rfl hc35 ?_
   refine AOps.p rfl (rfl : _ = (AV.eptr [(AV.int .i64 p1.Stack), (AV.int .i64 p1.Start), (AV.sl z2 f3 e4), (AV.sl z6 f7 e8), (AV.sl z10 f11 e12), (AV.sl z14 f15 e16)] 0)) ?_
   refine AOps.p rfl (rfl : _ = (AV.eptr [(AV.int .i64 p1.Stack), (AV.int .i64 p1.Start), (AV.sl z2 f3 e4), (AV.sl z6 f7 e8), (AV.sl z10 f11 e12), (AV.sl z14 f15 e16)] 0)) ?_
   refine AOps.p rfl (rfl : _ = (AV.eptr [(AV.int .i64 p1.Stack), (AV.int .i64 p1.Start), (AV.sl z2 f3 e4), (AV.sl z6 f7 e8), (AV.sl z10 f11 e12), (AV.sl z14 f15 e16)] 4)) ?_
   refine AOps.ldE (v := (AV.sl z10 f11 e12)) rfl rfl rfl rfl rfl rfl ?_
   refine AOps.p rfl (len_eq h13) ?_
   refine AOps.p rfl (rfl : _ = (AV.int .i64 (p1.Accept.length : Int))) ?_
   refine AOps.p rfl (rfl : _ = (AV.bool ((p1.Return.length : Int) != (p1.Accept.length : Int)))) ?_
   refine AOps.p rfl (rfl : _ = (AV.bool ((p1.Return.length : Int) != (p1.Accept.length : Int)))) ?_
   refine AOps.resR [(0, (AV.eptr [(AV.int .i64 p1.Stack), (AV.int .i64 p1.Start), (AV.sl z2 f3 e4), (AV.sl z6 f7 e8), (AV.sl z10 f11 e12), (AV.sl z14 f15 e16)] 0)), (3, (AV.int .i64 (p1.Accept.length : Int))), (49, (AV.bool ((b29 || ((p1.Call.length : Int) != (p1.Accept.length : Int))) || ((p1.Return.length : Int) != (p1.Accept.length : Int)))))] [] ?_ ?_ _ ⟨_, _, rfl⟩
   ·exact ⟨rfl, rfl, congrArg AV.bool (or_f hc35), trivial⟩
   exact trivial
 rintro _ ⟨tm, os, rfl⟩
 refine AOps.p rfl (rfl : _ = (AV.bool ((b29 || ((p1.Call.length : Int) != (p1.Accept.length : Int))) || ((p1.Return.length : Int) != (p1.Accept.length : Int))))) ?_
 refine AOps.split 8 (fun f' => ∃ tm' os', f' = ⟨updL tm' [(0, (AV.eptr [(AV.int .i64 p1.Stack), (AV.int .i64 p1.Start), (AV.sl z2 f3 e4), (AV.sl z6 f7 e8), (AV.sl z10 f11 e12), (AV.sl z14 f15 e16)] 0)), (3, (AV.int .i64 (p1.Accept.length : Int))), (58, (AV.bool (((b29 || ((p1.Call.length : Int) != (p1.Accept.length : Int))) || ((p1.Return.length : Int) != (p1.Accept.length : Int))) || ((p1.Inner.length : Int) != (p1.Accept.length : Int)))))], updL os' [], { s with lo := s.n }⟩) ?_ ?_
 ·rcases Bool.eq_false_or_eq_true ((b29 || ((p1.Call.length : Int) != (p1.Accept.length : Int))) || ((p1.Return.length : Int) != (p1.Accept.length : Int))) with hc36 | hc36
  ·refine AOps.know (d := 50) rfl hc36 ?_
   refine AOps.skipR rfl rfl ?_
   refine AOps.skipR rfl rfl ?_
   refine AOps.skipR rfl rfl ?_
   refine AOps.skipR rfl rfl ?_
   refine AOps.skipR rfl rfl ?_
   refine AOps.skipR rfl rfl ?_
   refine AOps.skipR rfl rfl ?_
   refine AOps.p rfl (rfl : _ = (AV.bool true)) ?_
   refine AOps.resR [(0, (AV.eptr [(AV.int .i64 p1.Stack), (AV.int .i64 p1.Start), (AV.sl z2 f3 e4), (AV.sl z6 f7 e8), (AV.sl z10 f11 e12), (AV.sl z14 f15 e16)] 0)), (3, (AV.int .i64 (p1.Accept.length : Int))), (58, (AV.bool (((b29 || ((p1.Call.length : Int) != (p1.Accept.length : Int))) || ((p1.Return.length : Int) != (p1.Accept.length : Int))) || ((p1.Inner.length : Int) != (p1.Accept.length : Int)))))] [] ?_ ?_ _ ⟨_, _, rfl⟩
   ·exact ⟨rfl, rfl, congrArg AV.bool (or_t hc36), trivial⟩
   exact trivial
  ·refine AOps.know (d := 50) rfl hc36 ?_
   refine AOps.p rfl (rfl : _ = (AV.eptr [(AV.int .i64 p1.Stack), (AV.int .i64 p1.Start), (AV.sl z2 f3 e4), (AV.sl z6 f7 e8), (AV.sl z10 f11 e12), (AV.sl z14 f15 e16)] 0)) ?_
   refine AOps.p rfl (rfl : _ = (AV.eptr [(AV.int .i64 p1.Stack), (AV.int .i64 p1.Start), (AV.sl z2 f3 e4), (AV.sl z6 f7 e8), (AV.sl z10 f11 e12), (AV.sl z14 f15 e16)] 0)) ?_
   refine AOps.p rfl (rfl : _ = (AV.eptr [(AV.int .i64 p1.Stack), (AV.int .i64 p1.Start), (AV.sl z2 f3 e4), (AV.sl z6 f7 e8), (AV.sl z10 f11 e12), (AV.sl z14 f15 e16)] 5)) ?_
   refine AOps.ldE (v := (AV.sl z14 f15 e16)) rfl rfl rfl rfl rfl rfl ?_
   refine AOps.p rfl (len_eq h17) ?_
   refine AOps.p rfl (rfl : _ = (AV.int .i64 (p1.Accept.length : Int))) ?_
   refine AOps.p rfl (rfl : _ = (AV.bool ((p1.Inner.length : Int) != (p1.Accept.length : Int)))) ?_
   refine AOps.p rfl (rfl : _ = (AV.bool ((p1.Inner.length : Int) != (p1.Accept.length : Int)))) ?_
   refine AOps.resR [(0, (AV.eptr [(AV.int .i64 p1.Stack), (AV.int .i64 p1.Start), (AV.sl z2 f3 e4), (AV.sl z6 f7 e8), (AV.sl z10 f11 e12), (AV.sl z14 f15 e16)] 0)), (3, (AV.int .i64 (p1.Accept.length : Int))), (58, (AV.bool (((b29 || ((p1.Call.length : Int) != (p1.Accept.length : Int))) || ((p1.Return.length : Int) != (p1.Accept.length : Int))) || ((p1.Inner.length : Int) != (p1.Accept.length : Int)))))] [] ?_ ?_ _ ⟨_, _, rfl⟩
   ·exact ⟨rfl, rfl, congrArg AV.bool (or_f hc36), trivial⟩
   exact trivial
 rintro _ ⟨tm, os, rfl⟩
 refine AOps.nilR ?_
 rcases oite h with ⟨hc37, h⟩ | ⟨hc37, h⟩
 ·refine AW.condT (congrArg AV.bool hc37) ?_
  refine AW.sr ?_
  refine AOps.p rfl (rfl : _ = (AV.bool false)) ?_
  refine AOps.nilR ?_
  cases h
  exact AW.ret ⟨rfl, _, _, rfl, rfl⟩
 refine AW.condF (congrArg AV.bool hc37) ?_
 refine AW.skip ?_
 refine AW.seq ?_
 refine AW.sr ?_
 refine AOps.p rfl (rfl : _ = (AV.int .i64 0)) ?_
 refine AOps.nilR ?_
 refine AW.meet (σ := Unit) (fun _ tm os => ⟨updL tm [], updL os [], { s with lo := s.n }⟩) (fun _ => spec_l02Ok_J1 = some r) ?_ ?_
 ·rintro _ tm os h
  unfold spec_l02Ok_J1 at h
  refine AW.sr ?_
  refine AOps.p rfl (rfl : _ = (AV.bool true)) ?_
  refine AOps.nilR ?_
  cases h
  exact AW.ret ⟨rfl, _, _, rfl, rfl⟩
 intro KJ38
 refine AW.block ?_
 refine AW.res [(0, (AV.eptr [(AV.int .i64 p1.Stack), (AV.int .i64 p1.Start), (AV.sl z2 f3 e4), (AV.sl z6 f7 e8), (AV.sl z10 f11 e12), (AV.sl z14 f15 e16)] 0)), (3, (AV.int .i64 (p1.Accept.length : Int))), (4, (AV.int .i64 0))] [] ⟨rfl, rfl, rfl, trivial⟩ trivial ?_
 refine AW.loopF (σ := Int) (τ := Unit) (fun t39 _ => True) (fun t39 _ tm os => ⟨updL tm [(0, (AV.eptr [(AV.int .i64 p1.Stack), (AV.int .i64 p1.Start), (AV.sl z2 f3 e4), (AV.sl z6 f7 e8), (AV.sl z10 f11 e12), (AV.sl z14 f15 e16)] 0)), (3, (AV.int .i64 (p1.Accept.length : Int))), (4, (AV.int .i64 t39))], updL os [], { s with lo := s.n }⟩) ?_ (x := (0)) (y := ()) h trivial
 clear h
 rintro t39 _ tm os - e1 h hL1 hR1
 unfold spec_l02Ok_S1 at h
 refine AW.seq ?_
 refine AW.sr ?_
 refine AOps.p rfl (rfl : _ = (AV.int .i64 t39)) ?_
 refine AOps.p rfl (rfl : _ = (AV.int .i64 (p1.Accept.length : Int))) ?_
 refine AOps.p rfl (rfl : _ = (AV.bool (decide ((t39 : Int) < (p1.Accept.length : Int))))) ?_
 refine AOps.nilR ?_
 rcases oite h with ⟨hc40, h⟩ | ⟨hc40, h⟩
 ·refine AW.condT (congrArg AV.bool hc40) ?_
  refine AW.skip ?_
  refine AW.seq ?_
  refine AW.block ?_
  refine AW.seq ?_
  refine AW.sr ?_
  refine AOps.p rfl (rfl : _ = (AV.eptr [(AV.int .i64 p1.Stack), (AV.int .i64 p1.Start), (AV.sl z2 f3 e4), (AV.sl z6 f7 e8), (AV.sl z10 f11 e12), (AV.sl z14 f15 e16)] 0)) ?_
  refine AOps.p rfl (rfl : _ = (AV.eptr [(AV.int .i64 p1.Stack), (AV.int .i64 p1.Start), (AV.sl z2 f3 e4), (AV.sl z6 f7 e8), (AV.sl z10 f11 e12), (AV.sl z14 f15 e16)] 0)) ?_
  refine AOps.p rfl (rfl : _ = (AV.eptr [(AV.int .i64 p1.Stack), (AV.int .i64 p1.Start), (AV.sl z2 f3 e4), (AV.sl z6 f7 e8), (AV.sl z10 f11 e12), (AV.sl z14 f15 e16)] 3)) ?_
  refine AOps.ldE (v := (AV.sl z6 f7 e8)) rfl rfl rfl rfl rfl rfl ?_
  refine AOps.p rfl (rfl : _ = (AV.int .i64 t39)) ?_
  obtain ⟨x41, h42, h⟩ := obind h
  obtain ⟨v45, h43, h44⟩ := idx_sl h9 h42
  obtain ⟨z46, f47, e48, rfl, h49⟩ := h43
  refine AOps.pureR rfl rfl rfl h44 rfl (rfl : _ = (AV.eptr [(AV.sl z46 f47 e48)] 0)) ?_
  refine AOps.ldE (v := (AV.sl z46 f47 e48)) rfl rfl rfl rfl rfl rfl ?_
  refine AOps.p rfl (len_eq h49) ?_
  refine AOps.p rfl (rfl : _ = (AV.bool ((x41.length : Int) != 2))) ?_
  refine AOps.p rfl (rfl : _ = (AV.bool ((x41.length : Int) != 2))) ?_
  obtain ⟨b51, hb, h⟩ := obind h
  refine AOps.split 10 (fun f' => ∃ tm' os', f' = ⟨updL tm' [(0, (AV.eptr [(AV.int .i64 p1.Stack), (AV.int .i64 p1.Start), (AV.sl z2 f3 e4), (AV.sl z6 f7 e8), (AV.sl z10 f11 e12), (AV.sl z14 f15 e16)] 0)), (3, (AV.int .i64 (p1.Accept.length : Int))), (4, (AV.int .i64 t39)), (83, (AV.bool b51))], updL os' [], { s with lo := s.n }⟩) ?_ ?_
  ·rcases oite hb with ⟨hc50, hb⟩ | ⟨hc50, hb⟩
   ·refine AOps.know (d := 73) rfl hc50 ?_
    refine AOps.skipR rfl rfl ?_
    refine AOps.skipR rfl rfl ?_
    refine AOps.skipR rfl rfl ?_
    refine AOps.skipR rfl rfl ?_
    refine AOps.skipR rfl rfl ?_
    refine AOps.skipR rfl rfl ?_
    refine AOps.skipR rfl rfl ?_
    refine AOps.skipR rfl rfl ?_
    refine AOps.skipR rfl rfl ?_
    refine AOps.p rfl (rfl : _ = (AV.bool true)) ?_
    refine AOps.resR [(0, (AV.eptr [(AV.int .i64 p1.Stack), (AV.int .i64 p1.Start), (AV.sl z2 f3 e4), (AV.sl z6 f7 e8), (AV.sl z10 f11 e12), (AV.sl z14 f15 e16)] 0)), (3, (AV.int .i64 (p1.Accept.length : Int))), (4, (AV.int .i64 t39)), (83, (AV.bool b51))] [] ?_ ?_ _ ⟨_, _, rfl⟩
    ·exact ⟨rfl, rfl, rfl, congrArg AV.bool (Option.some.inj hb), trivial⟩
    exact trivial
   ·have h := hb
    refine AOps.know (d := 73) rfl hc50 ?_
    refine AOps.p rfl (rfl : _ = (AV.eptr [(AV.int .i64 p1.Stack), (AV.int .i64 p1.Start), (AV.sl z2 f3 e4), (AV.sl z6 f7 e8), (AV.sl z10 f11 e12), (AV.sl z14 f15 e16)] 0)) ?_
    refine AOps.p rfl (rfl : _ = (AV.eptr [(AV.int .i64 p1.Stack), (AV.int .i64 p1.Start), (AV.sl z2 f3 e4), (AV.sl z6 f7 e8), (AV.sl z10 f11 e12), (AV.sl z14 f15 e16)] 0)) ?_
    refine AOps.p rfl (rfl : _ = (AV.eptr [(AV.int .i64 p1.Stack), (AV.int .i64 p1.Start), (AV.sl z2 f3 e4), (AV.sl z6 f7 e8), (AV.sl z10 f11 e12), (AV.sl z14 f15 e16)] 4)) ?_
    refine AOps.ldE (v := (AV.sl z10 f11 e12)) rfl rfl rfl rfl rfl rfl ?_
    refine AOps.p rfl (rfl : _ = (AV.int .i64 t39)) ?_
    obtain ⟨x52, h53, h⟩ := obind h
    obtain ⟨v56, h54, h55⟩ := idx_sl h13 h53
    obtain ⟨z57, f58, e59, rfl, h60⟩ := h54
    refine AOps.pureR rfl rfl rfl h55 rfl (rfl : _ = (AV.eptr [(AV.sl z57 f58 e59)] 0)) ?_
    refine AOps.ldE (v := (AV.sl z57 f58 e59)) rfl rfl rfl rfl rfl rfl ?_
    refine AOps.p rfl (len_eq h60) ?_
    refine AOps.p rfl (rfl : _ = (AV.bool ((x52.length : Int) != 2))) ?_
    refine AOps.p rfl (rfl : _ = (AV.bool ((x52.length : Int) != 2))) ?_
    refine AOps.resR [(0, (AV.eptr [(AV.int .i64 p1.Stack), (AV.int .i64 p1.Start), (AV.sl z2 f3 e4), (AV.sl z6 f7 e8), (AV.sl z10 f11 e12), (AV.sl z14 f15 e16)] 0)), (3, (AV.int .i64 (p1.Accept.length : Int))), (4, (AV.int .i64 t39)), (83, (AV.bool b51))] [] ?_ ?_ _ ⟨_, _, rfl⟩
    ·exact ⟨rfl, rfl, rfl, congrArg AV.bool (Option.some.inj h), trivial⟩
    exact trivial
  rintro _ ⟨tm, os, rfl⟩
  refine AOps.p rfl (rfl : _ = (AV.bool b51)) ?_
  obtain ⟨b62, hb, h⟩ := obind h
  refine AOps.split 11 (fun f' => ∃ tm' os', f' = ⟨updL tm' [(0, (AV.eptr [(AV.int .i64 p1.Stack), (AV.int .i64 p1.Start), (AV.sl z2 f3 e4), (AV.sl z6 f7 e8), (AV.sl z10 f11 e12), (AV.sl z14 f15 e16)] 0)), (3, (AV.int .i64 (p1.Accept.length : Int))), (4, (AV.int .i64 t39)), (95, (AV.bool b62))], updL os' [], { s with lo := s.n }⟩) ?_ ?_
  ·rcases oite hb with ⟨hc61, hb⟩ | ⟨hc61, hb⟩
   ·refine AOps.know (d := 84) rfl hc61 ?_
    refine AOps.skipR rfl rfl ?_
    refine AOps.skipR rfl rfl ?_
    refine AOps.skipR rfl rfl ?_
    refine AOps.skipR rfl rfl ?_
    refine AOps.skipR rfl rfl ?_
    refine AOps.skipR rfl rfl ?_
    refine AOps.skipR rfl rfl ?_
    refine AOps.skipR rfl rfl ?_
    refine AOps.skipR rfl rfl ?_
    refine AOps.skipR rfl rfl ?_
    refine AOps.p rfl (rfl : _ = (AV.bool true)) ?_
    refine AOps.resR [(0, (AV.eptr [(AV.int .i64 p1.Stack), (AV.int .i64 p1.Start), (AV.sl z2 f3 e4), (AV.sl z6 f7 e8), (AV.sl z10 f11 e12), (AV.sl z14 f15 e16)] 0)), (3, (AV.int .i64 (p1.Accept.length : Int))), (4, (AV.int .i64 t39)), (95, (AV.bool b62))] [] ?_ ?_ _ ⟨_, _, rfl⟩
    ·exact ⟨rfl, rfl, rfl, congrArg AV.bool (Option.some.inj hb), trivial⟩
    exact trivial
   ·have h := hb
    refine AOps.know (d := 84) rfl hc61 ?_
    refine AOps.p rfl (rfl : _ = (AV.eptr [(AV.int .i64 p1.Stack), (AV.int .i64 p1.Start), (AV.sl z2 f3 e4), (AV.sl z6 f7 e8), (AV.sl z10 f11 e12), (AV.sl z14 f15 e16)] 0)) ?_
    refine AOps.p rfl (rfl : _ = (AV.eptr [(AV.int .i64 p1.Stack), (AV.int .i64 p1.Start), (AV.sl z2 f3 e4), (AV.sl z6 f7 e8), (AV.sl z10 f11 e12), (AV.sl z14 f15 e16)] 0)) ?_
    refine AOps.p rfl (rfl : _ = (AV.eptr [(AV.int .i64 p1.Stack), (AV.int .i64 p1.Start), (AV.sl z2 f3 e4), (AV.sl z6 f7 e8), (AV.sl z10 f11 e12), (AV.sl z14 f15 e16)] 5)) ?_
    refine AOps.ldE (v := (AV.sl z14 f15 e16)) rfl rfl rfl rfl rfl rfl ?_
    refine AOps.p rfl (rfl : _ = (AV.int .i64 t39)) ?_
    obtain ⟨x63, h64, h⟩ := obind h
    obtain ⟨v67, h65, h66⟩ := idx_sl h17 h64
    obtain ⟨z68, f69, e70, rfl, h71⟩ := h65
    refine AOps.pureR rfl rfl rfl h66 rfl (rfl : _ = (AV.eptr [(AV.sl z68 f69 e70)] 0)) ?_
    refine AOps.ldE (v := (AV.sl z68 f69 e70)) rfl rfl rfl rfl rfl rfl ?_
    refine AOps.p rfl (rfl : _ = (AV.int .i64 (p1.Accept.length : Int))) ?_
    obtain ⟨y72, h73, h⟩ := obind h
    refine AOps.callP (g := 48) (args := [(AV.sl z68 f69 e70), (AV.int .i64 2), (AV.int .i64 (p1.Accept.length : Int))]) (p := (rB) y72) rfl rfl rfl (spec_l02List_ok h71 h73 hWF) ?_
    intro _ o75 h74
    cases h74
    refine AOps.p rfl (rfl : _ = (AV.bool (!y72))) ?_
    refine AOps.p rfl (rfl : _ = (AV.bool (!y72))) ?_
    refine AOps.resR [(0, (AV.eptr [(AV.int .i64 p1.Stack), (AV.int .i64 p1.Start), (AV.sl z2 f3 e4), (AV.sl z6 f7 e8), (AV.sl z10 f11 e12), (AV.sl z14 f15 e16)] 0)), (3, (AV.int .i64 (p1.Accept.length : Int))), (4, (AV.int .i64 t39)), (95, (AV.bool b62))] [] ?_ ?_ _ ⟨_, _, rfl⟩
    ·exact ⟨rfl, rfl, rfl, congrArg AV.bool (Option.some.inj h), trivial⟩
    exact trivial
  rintro _ ⟨tm, os, rfl⟩
  refine AOps.nilR ?_
  rcases oite h with ⟨hc76, h⟩ | ⟨hc76, h⟩
  ·refine AW.condT (congrArg AV.bool hc76) ?_
   refine AW.sr ?_
   refine AOps.p rfl (rfl : _ = (AV.bool false)) ?_
   refine AOps.nilR ?_
   cases h
   have hr := hR1 _ rfl
   subst hr
   exact AW.ret ⟨rfl, _, _, rfl, rfl⟩
  refine AW.condF (congrArg AV.bool hc76) ?_
  refine AW.skip ?_
  refine AW.sr ?_
  refine AOps.p rfl (rfl : _ = (AV.int .i64 0)) ?_
  refine AOps.nilR ?_
  refine AW.meet (σ := Unit) (fun _ tm os => ⟨updL tm [(0, (AV.eptr [(AV.int .i64 p1.Stack), (AV.int .i64 p1.Start), (AV.sl z2 f3 e4), (AV.sl z6 f7 e8), (AV.sl z10 f11 e12), (AV.sl z14 f15 e16)] 0)), (3, (AV.int .i64 (p1.Accept.length : Int))), (4, (AV.int .i64 t39))], updL os [], { s with lo := s.n }⟩) (fun _ => spec_l02Ok_J2 t39 = some e1) ?_ ?_
  ·rintro _ tm os h
   unfold spec_l02Ok_J2 at h
   refine AW.inBlock ?_
   refine AW.region ?_
   refine AOps.p rfl (rfl : _ = (AV.int .i64 t39)) ?_
   refine AOps.p rfl (rfl : _ = (AV.int .i64 (IntKind.wrap .i64 (t39 + 1)))) ?_
   refine AOps.assignR rfl rfl rfl (rfl : _ = (AV.int .i64 (IntKind.wrap .i64 (t39 + 1)))) rfl ?_
   refine AOps.nilR ?_
   cases h
   exact AW.res [(0, (AV.eptr [(AV.int .i64 p1.Stack), (AV.int .i64 p1.Start), (AV.sl z2 f3 e4), (AV.sl z6 f7 e8), (AV.sl z10 f11 e12), (AV.sl z14 f15 e16)] 0)), (3, (AV.int .i64 (p1.Accept.length : Int))), (4, (AV.int .i64 (IntKind.wrap .i64 (t39 + 1))))] [] ⟨rfl, rfl, rfl, trivial⟩ trivial (hL1 _ rfl () _ _ trivial)
  intro KJ77
  refine AW.block ?_
  refine AW.res [(0, (AV.eptr [(AV.int .i64 p1.Stack), (AV.int .i64 p1.Start), (AV.sl z2 f3 e4), (AV.sl z6 f7 e8), (AV.sl z10 f11 e12), (AV.sl z14 f15 e16)] 0)), (3, (AV.int .i64 (p1.Accept.length : Int))), (4, (AV.int .i64 t39)), (5, (AV.int .i64 0))] [] ⟨rfl, rfl, rfl, rfl, trivial⟩ trivial ?_
  refine AW.loopF (σ := Int) (τ := Unit) (fun t78 _ => True) (fun t78 _ tm os => ⟨updL tm [(0, (AV.eptr [(AV.int .i64 p1.Stack), (AV.int .i64 p1.Start), (AV.sl z2 f3 e4), (AV.sl z6 f7 e8), (AV.sl z10 f11 e12), (AV.sl z14 f15 e16)] 0)), (3, (AV.int .i64 (p1.Accept.length : Int))), (4, (AV.int .i64 t39)), (5, (AV.int .i64 t78))], updL os [], { s with lo := s.n }⟩) ?_ (x := (0)) (y := ()) h trivial
  clear h
  rintro t78 _ tm os - e2 h hL2 hR2
  unfold spec_l02Ok_S2 at h
  refine AW.seq ?_
  refine AW.sr ?_
  refine AOps.p rfl (rfl : _ = (AV.int .i64 t78)) ?_
  refine AOps.p rfl (rfl : _ = (AV.bool (decide ((t78 : Int) < 2)))) ?_
  refine AOps.nilR ?_
  rcases oite h with ⟨hc79, h⟩ | ⟨hc79, h⟩
  ·refine AW.condT (congrArg AV.bool hc79) ?_
   refine AW.skip ?_
   refine AW.seq ?_
   refine AW.block ?_
   refine AW.sr ?_
   refine AOps.p rfl (rfl : _ = (AV.eptr [(AV.int .i64 p1.Stack), (AV.int .i64 p1.Start), (AV.sl z2 f3 e4), (AV.sl z6 f7 e8), (AV.sl z10 f11 e12), (AV.sl z14 f15 e16)] 0)) ?_
   refine AOps.p rfl (rfl : _ = (AV.eptr [(AV.int .i64 p1.Stack), (AV.int .i64 p1.Start), (AV.sl z2 f3 e4), (AV.sl z6 f7 e8), (AV.sl z10 f11 e12), (AV.sl z14 f15 e16)] 0)) ?_
   refine AOps.p rfl (rfl : _ = (AV.eptr [(AV.int .i64 p1.Stack), (AV.int .i64 p1.Start), (AV.sl z2 f3 e4), (AV.sl z6 f7 e8), (AV.sl z10 f11 e12), (AV.sl z14 f15 e16)] 3)) ?_
   refine AOps.ldE (v := (AV.sl z6 f7 e8)) rfl rfl rfl rfl rfl rfl ?_
   refine AOps.p rfl (rfl : _ = (AV.int .i64 t39)) ?_
   obtain ⟨x80, h81, h⟩ := obind h
   obtain ⟨v84, h82, h83⟩ := idx_sl h9 h81
   obtain ⟨z85, f86, e87, rfl, h88⟩ := h82
   refine AOps.pureR rfl rfl rfl h83 rfl (rfl : _ = (AV.eptr [(AV.sl z85 f86 e87)] 0)) ?_
   refine AOps.ldE (v := (AV.sl z85 f86 e87)) rfl rfl rfl rfl rfl rfl ?_
   refine AOps.p rfl (rfl : _ = (AV.int .i64 t78)) ?_
   obtain ⟨x89, h90, h⟩ := obind h
   obtain ⟨v93, h91, h92⟩ := idx_sl h88 h90
   obtain ⟨_, rfl, h94⟩ := h91
   obtain ⟨_, _, rfl, h95, h96⟩ := Cs_cons h94
   cases h95
   obtain ⟨_, _, rfl, h97, h98⟩ := Cs_cons h96
   cases h97
   cases Cs_nil h98
   refine AOps.pureR rfl rfl rfl h92 rfl (rfl : _ = (AV.eptr [(AV.int .i64 x89.To), (AV.int .i64 x89.Put)] 0)) ?_
   refine AOps.p rfl (rfl : _ = (AV.eptr [(AV.int .i64 x89.To), (AV.int .i64 x89.Put)] 0)) ?_
   refine AOps.ldE (v := (AV.int .i64 x89.To)) rfl rfl rfl rfl rfl rfl ?_
   refine AOps.p rfl (rfl : _ = (AV.int .i64 (p1.Accept.length : Int))) ?_
   refine AOps.p rfl (rfl : _ = (AV.int .i64 (IntKind.wrap .i64 ((p1.Accept.length : Int) - 1)))) ?_
   obtain ⟨y99, h100, h⟩ := obind h
   refine AOps.callDP (g := 47) (args := [(AV.int .i64 x89.To), (AV.int .i64 0), (AV.int .i64 (IntKind.wrap .i64 ((p1.Accept.length : Int) - 1)))]) (p := (rB) y99) rfl rfl rfl (spec_l00In_ok  h100 hWF.still) (fun v hv => Nice.pure (k := FINK) (p := (rB) y99) .B _ v hv) ?_
   intro _ o102 h101
   cases h101
   refine AOps.p rfl (rfl : _ = (AV.bool (!y99))) ?_
   refine AOps.p rfl (rfl : _ = (AV.bool (!y99))) ?_
   obtain ⟨b104, hb, h⟩ := obind h
   refine AOps.split 19 (fun f' => ∃ tm' os', f' = ⟨updL tm' [(0, (AV.eptr [(AV.int .i64 p1.Stack), (AV.int .i64 p1.Start), (AV.sl z2 f3 e4), (AV.sl z6 f7 e8), (AV.sl z10 f11 e12), (AV.sl z14 f15 e16)] 0)), (3, (AV.int .i64 (p1.Accept.length : Int))), (4, (AV.int .i64 t39)), (5, (AV.int .i64 t78)), (134, (AV.bool b104))], updL os' [], { s with lo := s.n }⟩) ?_ ?_
   ·rcases oite hb with ⟨hc103, hb⟩ | ⟨hc103, hb⟩
    ·refine AOps.know (d := 115) rfl hc103 ?_
     refine AOps.skipR rfl rfl ?_
     refine AOps.skipR rfl rfl ?_
     refine AOps.skipR rfl rfl ?_
     refine AOps.skipR rfl rfl ?_
     refine AOps.skipR rfl rfl ?_
     refine AOps.skipR rfl rfl ?_
     refine AOps.skipR rfl rfl ?_
     refine AOps.skipR rfl rfl ?_
     refine AOps.skipR rfl rfl ?_
     refine AOps.skipR rfl rfl ?_
     refine AOps.skipR rfl rfl ?_
     refine AOps.skipR rfl rfl ?_
     refine AOps.skipR rfl rfl ?_
     refine AOps.skipR rfl rfl ?_
     refine AOps.skipR rfl rfl ?_
     refine AOps.skipR rfl rfl ?_
     refine AOps.skipR rfl rfl ?_
     refine AOps.skipR rfl rfl ?_
     refine AOps.p rfl (rfl : _ = (AV.bool true)) ?_
     refine AOps.resR [(0, (AV.eptr [(AV.int .i64 p1.Stack), (AV.int .i64 p1.Start), (AV.sl z2 f3 e4), (AV.sl z6 f7 e8), (AV.sl z10 f11 e12), (AV.sl z14 f15 e16)] 0)), (3, (AV.int .i64 (p1.Accept.length : Int))), (4, (AV.int .i64 t39)), (5, (AV.int .i64 t78)), (134, (AV.bool b104))] [] ?_ ?_ _ ⟨_, _, rfl⟩
     ·exact ⟨rfl, rfl, rfl, rfl, congrArg AV.bool (Option.some.inj hb), trivial⟩
     exact trivial
    ·have h := hb
     refine AOps.know (d := 115) rfl hc103 ?_
     refine AOps.p rfl (rfl : _ = (AV.eptr [(AV.int .i64 p1.Stack), (AV.int .i64 p1.Start), (AV.sl z2 f3 e4), (AV.sl z6 f7 e8), (AV.sl z10 f11 e12), (AV.sl z14 f15 e16)] 0)) ?_
     refine AOps.p rfl (rfl : _ = (AV.eptr [(AV.int .i64 p1.Stack), (AV.int .i64 p1.Start), (AV.sl z2 f3 e4), (AV.sl z6 f7 e8), (AV.sl z10 f11 e12), (AV.sl z14 f15 e16)] 0)) ?_
     refine AOps.p rfl (rfl : _ = (AV.eptr [(AV.int .i64 p1.Stack), (AV.int .i64 p1.Start), (AV.sl z2 f3 e4), (AV.sl z6 f7 e8), (AV.sl z10 f11 e12), (AV.sl z14 f15 e16)] 3)) ?_
     refine AOps.ldE (v := (AV.sl z6 f7 e8)) rfl rfl rfl rfl rfl rfl ?_
     refine AOps.p rfl (rfl : _ = (AV.int .i64 t39)) ?_
     obtain ⟨x105, h106, h⟩ := obind h
     obtain ⟨v109, h107, h108⟩ := idx_sl h9 h106
     obtain ⟨z110, f111, e112, rfl, h113⟩ := h107
     refine AOps.pureR rfl rfl rfl h108 rfl (rfl : _ = (AV.eptr [(AV.sl z110 f111 e112)] 0)) ?_
     refine AOps.ldE (v := (AV.sl z110 f111 e112)) rfl rfl rfl rfl rfl rfl ?_
     refine AOps.p rfl (rfl : _ = (AV.int .i64 t78)) ?_
     obtain ⟨x114, h115, h⟩ := obind h
     obtain ⟨v118, h116, h117⟩ := idx_sl h113 h115
     obtain ⟨_, rfl, h119⟩ := h116
     obtain ⟨_, _, rfl, h120, h121⟩ := Cs_cons h119
     cases h120
     obtain ⟨_, _, rfl, h122, h123⟩ := Cs_cons h121
     cases h122
     cases Cs_nil h123
     refine AOps.pureR rfl rfl rfl h117 rfl (rfl : _ = (AV.eptr [(AV.int .i64 x114.To), (AV.int .i64 x114.Put)] 0)) ?_
     refine AOps.p rfl (rfl : _ = (AV.eptr [(AV.int .i64 x114.To), (AV.int .i64 x114.Put)] 1)) ?_
     refine AOps.ldE (v := (AV.int .i64 x114.Put)) rfl rfl rfl rfl rfl rfl ?_
     refine AOps.p rfl (rfl : _ = (AV.eptr [(AV.int .i64 p1.Stack), (AV.int .i64 p1.Start), (AV.sl z2 f3 e4), (AV.sl z6 f7 e8), (AV.sl z10 f11 e12), (AV.sl z14 f15 e16)] 0)) ?_
     refine AOps.p rfl (rfl : _ = (AV.eptr [(AV.int .i64 p1.Stack), (AV.int .i64 p1.Start), (AV.sl z2 f3 e4), (AV.sl z6 f7 e8), (AV.sl z10 f11 e12), (AV.sl z14 f15 e16)] 0)) ?_
     refine AOps.p rfl (rfl : _ = (AV.eptr [(AV.int .i64 p1.Stack), (AV.int .i64 p1.Start), (AV.sl z2 f3 e4), (AV.sl z6 f7 e8), (AV.sl z10 f11 e12), (AV.sl z14 f15 e16)] 0)) ?_
     refine AOps.ldE (v := (AV.int .i64 p1.Stack)) rfl rfl rfl rfl rfl rfl ?_
     refine AOps.p rfl (rfl : _ = (AV.int .i64 (IntKind.wrap .i64 (p1.Stack - 1)))) ?_
     obtain ⟨y124, h125, h⟩ := obind h
     refine AOps.callDP (g := 47) (args := [(AV.int .i64 x114.Put), (AV.int .i64 0), (AV.int .i64 (IntKind.wrap .i64 (p1.Stack - 1)))]) (p := (rB) y124) rfl rfl rfl (spec_l00In_ok  h125 hWF.still) (fun v hv => Nice.pure (k := FINK) (p := (rB) y124) .B _ v hv) ?_
     intro _ o127 h126
     cases h126
     refine AOps.p rfl (rfl : _ = (AV.bool (!y124))) ?_
     refine AOps.p rfl (rfl : _ = (AV.bool (!y124))) ?_
     refine AOps.resR [(0, (AV.eptr [(AV.int .i64 p1.Stack), (AV.int .i64 p1.Start), (AV.sl z2 f3 e4), (AV.sl z6 f7 e8), (AV.sl z10 f11 e12), (AV.sl z14 f15 e16)] 0)), (3, (AV.int .i64 (p1.Accept.length : Int))), (4, (AV.int .i64 t39)), (5, (AV.int .i64 t78)), (134, (AV.bool b104))] [] ?_ ?_ _ ⟨_, _, rfl⟩
     ·exact ⟨rfl, rfl, rfl, rfl, congrArg AV.bool (Option.some.inj h), trivial⟩
     exact trivial
   rintro _ ⟨tm, os, rfl⟩
   refine AOps.p rfl (rfl : _ = (AV.bool b104)) ?_
   obtain ⟨b129, hb, h⟩ := obind h
   refine AOps.split 19 (fun f' => ∃ tm' os', f' = ⟨updL tm' [(0, (AV.eptr [(AV.int .i64 p1.Stack), (AV.int .i64 p1.Start), (AV.sl z2 f3 e4), (AV.sl z6 f7 e8), (AV.sl z10 f11 e12), (AV.sl z14 f15 e16)] 0)), (3, (AV.int .i64 (p1.Accept.length : Int))), (4, (AV.int .i64 t39)), (5, (AV.int .i64 t78)), (154, (AV.bool b129))], updL os' [], { s with lo := s.n }⟩) ?_ ?_
   ·rcases oite hb with ⟨hc128, hb⟩ | ⟨hc128, hb⟩
    ·refine AOps.know (d := 135) rfl hc128 ?_
     refine AOps.skipR rfl rfl ?_
     refine AOps.skipR rfl rfl ?_
     refine AOps.skipR rfl rfl ?_
     refine AOps.skipR rfl rfl ?_
     refine AOps.skipR rfl rfl ?_
     refine AOps.skipR rfl rfl ?_
     refine AOps.skipR rfl rfl ?_
     refine AOps.skipR rfl rfl ?_
     refine AOps.skipR rfl rfl ?_
     refine AOps.skipR rfl rfl ?_
     refine AOps.skipR rfl rfl ?_
     refine AOps.skipR rfl rfl ?_
     refine AOps.skipR rfl rfl ?_
     refine AOps.skipR rfl rfl ?_
     refine AOps.skipR rfl rfl ?_
     refine AOps.skipR rfl rfl ?_
     refine AOps.skipR rfl rfl ?_
     refine AOps.skipR rfl rfl ?_
     refine AOps.p rfl (rfl : _ = (AV.bool true)) ?_
     refine AOps.resR [(0, (AV.eptr [(AV.int .i64 p1.Stack), (AV.int .i64 p1.Start), (AV.sl z2 f3 e4), (AV.sl z6 f7 e8), (AV.sl z10 f11 e12), (AV.sl z14 f15 e16)] 0)), (3, (AV.int .i64 (p1.Accept.length : Int))), (4, (AV.int .i64 t39)), (5, (AV.int .i64 t78)), (154, (AV.bool b129))] [] ?_ ?_ _ ⟨_, _, rfl⟩
     ·exact ⟨rfl, rfl, rfl, rfl, congrArg AV.bool (Option.some.inj hb), trivial⟩
     exact trivial
    ·have h := hb
     refine AOps.know (d := 135) rfl hc128 ?_
     refine AOps.p rfl (rfl : _ = (AV.eptr [(AV.int .i64 p1.Stack), (AV.int .i64 p1.Start), (AV.sl z2 f3 e4), (AV.sl z6 f7 e8), (AV.sl z10 f11 e12), (AV.sl z14 f15 e16)] 0)) ?_
     refine AOps.p rfl (rfl : _ = (AV.eptr [(AV.int .i64 p1.Stack), (AV.int .i64 p1.Start), (AV.sl z2 f3 e4), (AV.sl z6 f7 e8), (AV.sl z10 f11 e12), (AV.sl z14 f15 e16)] 0)) ?_
     refine AOps.p rfl (rfl : _ = (AV.eptr [(AV.int .i64 p1.Stack), (AV.int .i64 p1.Start), (AV.sl z2 f3 e4), (AV.sl z6 f7 e8), (AV.sl z10 f11 e12), (AV.sl z14 f15 e16)] 4)) ?_
     refine AOps.ldE (v := (AV.sl z10 f11 e12)) rfl rfl rfl rfl rfl rfl ?_
     refine AOps.p rfl (rfl : _ = (AV.int .i64 t39)) ?_
     obtain ⟨x130, h131, h⟩ := obind h
     obtain ⟨v134, h132, h133⟩ := idx_sl h13 h131
     obtain ⟨z135, f136, e137, rfl, h138⟩ := h132
     refine AOps.pureR rfl rfl rfl h133 rfl (rfl : _ = (AV.eptr [(AV.sl z135 f136 e137)] 0)) ?_
     refine AOps.ldE (v := (AV.sl z135 f136 e137)) rfl rfl rfl rfl rfl rfl ?_
     refine AOps.p rfl (rfl : _ = (AV.int .i64 t78)) ?_
     obtain ⟨x139, h140, h⟩ := obind h
     obtain ⟨v143, h141, h142⟩ := idx_sl h138 h140
     obtain ⟨z144, f145, e146, rfl, h147⟩ := h141
     refine AOps.pureR rfl rfl rfl h142 rfl (rfl : _ = (AV.eptr [(AV.sl z144 f145 e146)] 0)) ?_
     refine AOps.ldE (v := (AV.sl z144 f145 e146)) rfl rfl rfl rfl rfl rfl ?_
     refine AOps.p rfl (rfl : _ = (AV.eptr [(AV.int .i64 p1.Stack), (AV.int .i64 p1.Start), (AV.sl z2 f3 e4), (AV.sl z6 f7 e8), (AV.sl z10 f11 e12), (AV.sl z14 f15 e16)] 0)) ?_
     refine AOps.p rfl (rfl : _ = (AV.eptr [(AV.int .i64 p1.Stack), (AV.int .i64 p1.Start), (AV.sl z2 f3 e4), (AV.sl z6 f7 e8), (AV.sl z10 f11 e12), (AV.sl z14 f15 e16)] 0)) ?_
     refine AOps.p rfl (rfl : _ = (AV.eptr [(AV.int .i64 p1.Stack), (AV.int .i64 p1.Start), (AV.sl z2 f3 e4), (AV.sl z6 f7 e8), (AV.sl z10 f11 e12), (AV.sl z14 f15 e16)] 0)) ?_
     refine AOps.ldE (v := (AV.int .i64 p1.Stack)) rfl rfl rfl rfl rfl rfl ?_
     refine AOps.p rfl (rfl : _ = (AV.int .i64 (IntKind.wrap .i64 (p1.Stack + 1)))) ?_
     refine AOps.p rfl (rfl : _ = (AV.int .i64 (p1.Accept.length : Int))) ?_
     obtain ⟨y148, h149, h⟩ := obind h
     refine AOps.callDP (g := 48) (args := [(AV.sl z144 f145 e146), (AV.int .i64 (IntKind.wrap .i64 (p1.Stack + 1))), (AV.int .i64 (p1.Accept.length : Int))]) (p := (rB) y148) rfl rfl rfl (spec_l02List_ok h147 h149 hWF.still) (fun v hv => Nice.pure (k := FINK) (p := (rB) y148) .B _ v hv) ?_
     intro _ o151 h150
     cases h150
     refine AOps.p rfl (rfl : _ = (AV.bool (!y148))) ?_
     refine AOps.p rfl (rfl : _ = (AV.bool (!y148))) ?_
     refine AOps.resR [(0, (AV.eptr [(AV.int .i64 p1.Stack), (AV.int .i64 p1.Start), (AV.sl z2 f3 e4), (AV.sl z6 f7 e8), (AV.sl z10 f11 e12), (AV.sl z14 f15 e16)] 0)), (3, (AV.int .i64 (p1.Accept.length : Int))), (4, (AV.int .i64 t39)), (5, (AV.int .i64 t78)), (154, (AV.bool b129))] [] ?_ ?_ _ ⟨_, _, rfl⟩
     ·exact ⟨rfl, rfl, rfl, rfl, congrArg AV.bool (Option.some.inj h), trivial⟩
     exact trivial
   rintro _ ⟨tm, os, rfl⟩
   refine AOps.nilR ?_
   rcases oite h with ⟨hc152, h⟩ | ⟨hc152, h⟩
   ·refine AW.condT (congrArg AV.bool hc152) ?_
    refine AW.sr ?_
    refine AOps.p rfl (rfl : _ = (AV.bool false)) ?_
    refine AOps.nilR ?_
    cases h
    have hr := hR2 _ rfl
    cases hr
    have hr := hR1 _ rfl
    subst hr
    exact AW.ret ⟨rfl, _, _, rfl, rfl⟩
   refine AW.condF (congrArg AV.bool hc152) ?_
   refine AW.skip ?_
   refine AW.inBlock ?_
   refine AW.region ?_
   refine AOps.p rfl (rfl : _ = (AV.int .i64 t78)) ?_
   refine AOps.p rfl (rfl : _ = (AV.int .i64 (IntKind.wrap .i64 (t78 + 1)))) ?_
   refine AOps.assignR rfl rfl rfl (rfl : _ = (AV.int .i64 (IntKind.wrap .i64 (t78 + 1)))) rfl ?_
   refine AOps.nilR ?_
   cases h
   exact AW.res [(0, (AV.eptr [(AV.int .i64 p1.Stack), (AV.int .i64 p1.Start), (AV.sl z2 f3 e4), (AV.sl z6 f7 e8), (AV.sl z10 f11 e12), (AV.sl z14 f15 e16)] 0)), (3, (AV.int .i64 (p1.Accept.length : Int))), (4, (AV.int .i64 t39)), (5, (AV.int .i64 (IntKind.wrap .i64 (t78 + 1))))] [] ⟨rfl, rfl, rfl, rfl, trivial⟩ trivial (hL2 _ rfl () _ _ trivial)
  refine AW.condF (congrArg AV.bool hc79) ?_
  refine AW.exit rfl ?_
  obtain ⟨r153, hm, hx⟩ := omap h
  clear h
  subst hx
  have hx := hR2 _ rfl
  rw [hx] at hm
  have h := hm
  exact AW.res [(0, (AV.eptr [(AV.int .i64 p1.Stack), (AV.int .i64 p1.Start), (AV.sl z2 f3 e4), (AV.sl z6 f7 e8), (AV.sl z10 f11 e12), (AV.sl z14 f15 e16)] 0)), (3, (AV.int .i64 (p1.Accept.length : Int))), (4, (AV.int .i64 t39))] [] ⟨rfl, rfl, rfl, trivial⟩ trivial (KJ77 () _ _ h)
 refine AW.condF (congrArg AV.bool hc40) ?_
 refine AW.exit rfl ?_
 obtain ⟨r154, hm, hx⟩ := omap h
 clear h
 subst hx
 have hx := hR1 _ rfl
 rw [hx] at hm
 have h := hm
 exact AW.res [] [] trivial trivial (KJ38 () _ _ h)
theorem spec_l01Symbol_ok {b1 : Int} {s : St} {r : Int} (h : spec_l01Symbol b1 = some r) (hs : WF s) : ACall Cf 49 [(AV.int .u8 b1)] s fun v _ s' => (rI .i64) r v ∧ s' = s := by
 refine ACall.pure rfl rfl rfl .I ?_
 have hWF := hs.lo'
 unfold spec_l01Symbol at h
 refine AW.sr ?_
 refine AOps.p rfl (rfl : _ = (AV.int .i64 0)) ?_
 refine AOps.nilR ?_
 refine AW.seq ?_
 refine AW.sr ?_
 refine AOps.p rfl (rfl : _ = (AV.int .i64 0)) ?_
 refine AOps.nilR ?_
 refine AW.meet (σ := Unit) (fun _ tm os => ⟨updL tm [], updL os [], { s with lo := s.n }⟩) (fun _ => spec_l01Symbol_J1 = some r) ?_ ?_
 ·rintro _ tm os h
  unfold spec_l01Symbol_J1 at h
  refine AW.sr ?_
  refine AOps.p rfl (rfl : _ = (AV.int .i64 (-1))) ?_
  refine AOps.nilR ?_
  cases h
  exact AW.ret ⟨rfl, _, _, rfl, rfl⟩
 intro KJ2
 refine AW.block ?_
 refine AW.res [(0, (AV.int .u8 b1)), (3, (AV.int .i64 0))] [] ⟨rfl, rfl, trivial⟩ trivial ?_
 refine AW.loopF (σ := Int) (τ := Unit) (fun k3 _ => True) (fun k3 _ tm os => ⟨updL tm [(0, (AV.int .u8 b1)), (3, (AV.int .i64 k3))], updL os [], { s with lo := s.n }⟩) ?_ (x := (0)) (y := ()) h trivial
 clear h
 rintro k3 _ tm os - e1 h hL1 hR1
 unfold spec_l01Symbol_S1 at h
 refine AW.seq ?_
 refine AW.sr ?_
 refine AOps.p rfl (rfl : _ = (AV.int .i64 k3)) ?_
 refine AOps.p rfl (rfl : _ = (AV.bool (decide ((k3 : Int) < 6)))) ?_
 refine AOps.nilR ?_
 rcases oite h with ⟨hc4, h⟩ | ⟨hc4, h⟩
 ·refine AW.condT (congrArg AV.bool hc4) ?_
  refine AW.skip ?_
  refine AW.seq ?_
  refine AW.block ?_
  refine AW.sr ?_
  refine AOps.p rfl (rfl : _ = (AV.int .i64 k3)) ?_
  obtain ⟨c5, h6, h⟩ := obind h
  refine AOps.pureR rfl rfl rfl (chr_str h6) rfl (rfl : _ = (AV.int .u8 c5)) ?_
  refine AOps.p rfl (rfl : _ = (AV.int .u8 b1)) ?_
  refine AOps.p rfl (rfl : _ = (AV.bool (c5 == b1))) ?_
  refine AOps.nilR ?_
  rcases oite h with ⟨hc7, h⟩ | ⟨hc7, h⟩
  ·refine AW.condT (congrArg AV.bool hc7) ?_
   refine AW.sr ?_
   refine AOps.p rfl (rfl : _ = (AV.int .i64 k3)) ?_
   refine AOps.assignR rfl rfl rfl (rfl : _ = (AV.int .i64 k3)) rfl ?_
   refine AOps.nilR ?_
   cases h
   have hr := hR1 _ rfl
   subst hr
   exact AW.ret ⟨rfl, _, _, rfl, rfl⟩
  refine AW.condF (congrArg AV.bool hc7) ?_
  refine AW.skip ?_
  refine AW.inBlock ?_
  refine AW.region ?_
  refine AOps.p rfl (rfl : _ = (AV.int .i64 k3)) ?_
  refine AOps.p rfl (rfl : _ = (AV.int .i64 (IntKind.wrap .i64 (k3 + 1)))) ?_
  refine AOps.assignR rfl rfl rfl (rfl : _ = (AV.int .i64 (IntKind.wrap .i64 (k3 + 1)))) rfl ?_
  refine AOps.nilR ?_
  cases h
  exact AW.res [(0, (AV.int .u8 b1)), (3, (AV.int .i64 (IntKind.wrap .i64 (k3 + 1))))] [] ⟨rfl, rfl, trivial⟩ trivial (hL1 _ rfl () _ _ trivial)
 refine AW.condF (congrArg AV.bool hc4) ?_
 refine AW.exit rfl ?_
 obtain ⟨r8, hm, hx⟩ := omap h
 clear h
 subst hx
 have hx := hR1 _ rfl
 rw [hx] at hm
 have h := hm
 exact AW.res [] [] trivial trivial (KJ2 () _ _ h)
theorem spec_l01Ok_ok {w1 : List UInt8} {s : St} {r : Bool} (h : spec_l01Ok w1 = some r) (hs : WF s) : ACall Cf 23 [(AV.str w1)] s fun v _ s' => (rB) r v ∧ s' = s := by
 refine ACall.pure rfl rfl rfl .B ?_
 have hWF := hs.lo'
 unfold spec_l01Ok at h
 refine AW.sr ?_
 refine AOps.p rfl (rfl : _ = (AV.bool false)) ?_
 refine AOps.nilR ?_
 refine AW.seq ?_
 refine AW.sr ?_
 refine AOps.p rfl (rfl : _ = (AV.int .i64 0)) ?_
 refine AOps.nilR ?_
 refine AW.meet (σ := Unit) (fun _ tm os => ⟨updL tm [(0, (AV.str w1))], updL os [], { s with lo := s.n }⟩) (fun _ => spec_l01Ok_J1 w1 = some r) ?_ ?_
 ·rintro _ tm os h
  unfold spec_l01Ok_J1 at h
  refine AW.sr ?_
  refine AOps.p rfl (rfl : _ = (AV.str w1)) ?_
  refine AOps.p rfl (rfl : _ = (AV.int .i64 (w1.length : Int))) ?_
  refine AOps.p rfl (rfl : _ = (AV.bool (decide (((w1.length : Int) : Int) ≤ 60)))) ?_
  refine AOps.assignR rfl rfl rfl (rfl : _ = (AV.bool (decide (((w1.length : Int) : Int) ≤ 60)))) rfl ?_
  refine AOps.nilR ?_
  cases h
  exact AW.ret ⟨rfl, _, _, rfl, rfl⟩
 intro KJ2
 refine AW.block ?_
 refine AW.res [(0, (AV.str w1)), (3, (AV.int .i64 0))] [] ⟨rfl, rfl, trivial⟩ trivial ?_
 refine AW.loopF (σ := Int) (τ := Unit) (fun i3 _ => True) (fun i3 _ tm os => ⟨updL tm [(0, (AV.str w1)), (3, (AV.int .i64 i3))], updL os [], { s with lo := s.n }⟩) ?_ (x := (0)) (y := ()) h trivial
 clear h
 rintro i3 _ tm os - e1 h hL1 hR1
 unfold spec_l01Ok_S1 at h
 refine AW.seq ?_
 refine AW.sr ?_
 refine AOps.p rfl (rfl : _ = (AV.int .i64 i3)) ?_
 refine AOps.p rfl (rfl : _ = (AV.str w1)) ?_
 refine AOps.p rfl (rfl : _ = (AV.int .i64 (w1.length : Int))) ?_
 refine AOps.p rfl (rfl : _ = (AV.bool (decide ((i3 : Int) < (w1.length : Int))))) ?_
 refine AOps.nilR ?_
 rcases oite h with ⟨hc4, h⟩ | ⟨hc4, h⟩
 ·refine AW.condT (congrArg AV.bool hc4) ?_
  refine AW.skip ?_
  refine AW.seq ?_
  refine AW.block ?_
  refine AW.sr ?_
  refine AOps.p rfl (rfl : _ = (AV.str w1)) ?_
  refine AOps.p rfl (rfl : _ = (AV.int .i64 i3)) ?_
  obtain ⟨c5, h6, h⟩ := obind h
  refine AOps.pureR rfl rfl rfl (chr_str h6) rfl (rfl : _ = (AV.int .u8 c5)) ?_
  obtain ⟨y7, h8, h⟩ := obind h
  refine AOps.callP (g := 49) (args := [(AV.int .u8 c5)]) (p := (rI .i64) y7) rfl rfl rfl (spec_l01Symbol_ok  h8 hWF) ?_
  intro _ o10 h9
  cases h9
  refine AOps.p rfl (rfl : _ = (AV.bool (decide ((y7 : Int) < 0)))) ?_
  refine AOps.nilR ?_
  rcases oite h with ⟨hc11, h⟩ | ⟨hc11, h⟩
  ·refine AW.condT (congrArg AV.bool hc11) ?_
   refine AW.sr ?_
   refine AOps.p rfl (rfl : _ = (AV.bool false)) ?_
   refine AOps.nilR ?_
   cases h
   have hr := hR1 _ rfl
   subst hr
   exact AW.ret ⟨rfl, _, _, rfl, rfl⟩
  refine AW.condF (congrArg AV.bool hc11) ?_
  refine AW.skip ?_
  refine AW.inBlock ?_
  refine AW.region ?_
  refine AOps.p rfl (rfl : _ = (AV.int .i64 i3)) ?_
  refine AOps.p rfl (rfl : _ = (AV.int .i64 (IntKind.wrap .i64 (i3 + 1)))) ?_
  refine AOps.assignR rfl rfl rfl (rfl : _ = (AV.int .i64 (IntKind.wrap .i64 (i3 + 1)))) rfl ?_
  refine AOps.nilR ?_
  cases h
  exact AW.res [(0, (AV.str w1)), (3, (AV.int .i64 (IntKind.wrap .i64 (i3 + 1))))] [] ⟨rfl, rfl, trivial⟩ trivial (hL1 _ rfl () _ _ trivial)
 refine AW.condF (congrArg AV.bool hc4) ?_
 refine AW.exit rfl ?_
 obtain ⟨r12, hm, hx⟩ := omap h
 clear h
 subst hx
 have hx := hR1 _ rfl
 rw [hx] at hm
 have h := hm
 exact AW.res [(0, (AV.str w1))] [] ⟨rfl, trivial⟩ trivial (KJ2 () _ _ h)
theorem spec_l01Call_ok {b1 : Int} {s : St} {r : Bool} (h : spec_l01Call b1 = some r) (hs : WF s) : ACall Cf 76 [(AV.int .u8 b1)] s fun v _ s' => (rB) r v ∧ s' = s := by
 refine ACall.pure rfl rfl rfl .B ?_
 have hWF := hs.lo'
 unfold spec_l01Call at h
 refine AW.sr ?_
 refine AOps.p rfl (rfl : _ = (AV.bool false)) ?_
 refine AOps.nilR ?_
 refine AW.sr ?_
 refine AOps.p rfl (rfl : _ = (AV.int .u8 b1)) ?_
 refine AOps.p rfl (rfl : _ = (AV.bool (b1 == 40))) ?_
 refine AOps.p rfl (rfl : _ = (AV.bool (b1 == 40))) ?_
 refine AOps.split 3 (fun f' => ∃ tm' os', f' = ⟨updL tm' [(8, (AV.bool ((b1 == 40) || (b1 == 91))))], updL os' [], { s with lo := s.n }⟩) ?_ ?_
 ·rcases Bool.eq_false_or_eq_true (b1 == 40) with hc2 | hc2
  ·refine AOps.know (d := 5) rfl hc2 ?_
   refine AOps.skipR rfl rfl ?_
   refine AOps.skipR rfl rfl ?_
   refine AOps.p rfl (rfl : _ = (AV.bool true)) ?_
   refine AOps.resR [(8, (AV.bool ((b1 == 40) || (b1 == 91))))] [] ?_ ?_ _ ⟨_, _, rfl⟩
   ·exact ⟨congrArg AV.bool (or_t hc2), trivial⟩
   exact trivial
  ·refine AOps.know (d := 5) rfl hc2 ?_
   refine AOps.p rfl (rfl : _ = (AV.int .u8 b1)) ?_
   refine AOps.p rfl (rfl : _ = (AV.bool (b1 == 91))) ?_
   refine AOps.p rfl (rfl : _ = (AV.bool (b1 == 91))) ?_
   refine AOps.resR [(8, (AV.bool ((b1 == 40) || (b1 == 91))))] [] ?_ ?_ _ ⟨_, _, rfl⟩
   ·exact ⟨congrArg AV.bool (or_f hc2), trivial⟩
   exact trivial
 rintro _ ⟨tm, os, rfl⟩
 refine AOps.assignR rfl rfl rfl (rfl : _ = (AV.bool ((b1 == 40) || (b1 == 91)))) rfl ?_
 refine AOps.nilR ?_
 cases h
 exact AW.ret ⟨rfl, _, _, rfl, rfl⟩
theorem spec_l01Return_ok {b1 : Int} {s : St} {r : Bool} (h : spec_l01Return b1 = some r) (hs : WF s) : ACall Cf 75 [(AV.int .u8 b1)] s fun v _ s' => (rB) r v ∧ s' = s := by
 refine ACall.pure rfl rfl rfl .B ?_
 have hWF := hs.lo'
 unfold spec_l01Return at h
 refine AW.sr ?_
 refine AOps.p rfl (rfl : _ = (AV.bool false)) ?_
 refine AOps.nilR ?_
 refine AW.sr ?_
 refine AOps.p rfl (rfl : _ = (AV.int .u8 b1)) ?_
 refine AOps.p rfl (rfl : _ = (AV.bool (b1 == 41))) ?_
 refine AOps.p rfl (rfl : _ = (AV.bool (b1 == 41))) ?_
 refine AOps.split 3 (fun f' => ∃ tm' os', f' = ⟨updL tm' [(8, (AV.bool ((b1 == 41) || (b1 == 93))))], updL os' [], { s with lo := s.n }⟩) ?_ ?_
 ·rcases Bool.eq_false_or_eq_true (b1 == 41) with hc2 | hc2
  ·refine AOps.know (d := 5) rfl hc2 ?_
   refine AOps.skipR rfl rfl ?_
   refine AOps.skipR rfl rfl ?_
   refine AOps.p rfl (rfl : _ = (AV.bool true)) ?_
   refine AOps.resR [(8, (AV.bool ((b1 == 41) || (b1 == 93))))] [] ?_ ?_ _ ⟨_, _, rfl⟩
   ·exact ⟨congrArg AV.bool (or_t hc2), trivial⟩
   exact trivial
  ·refine AOps.know (d := 5) rfl hc2 ?_
   refine AOps.p rfl (rfl : _ = (AV.int .u8 b1)) ?_
   refine AOps.p rfl (rfl : _ = (AV.bool (b1 == 93))) ?_
   refine AOps.p rfl (rfl : _ = (AV.bool (b1 == 93))) ?_
   refine AOps.resR [(8, (AV.bool ((b1 == 41) || (b1 == 93))))] [] ?_ ?_ _ ⟨_, _, rfl⟩
   ·exact ⟨congrArg AV.bool (or_f hc2), trivial⟩
   exact trivial
 rintro _ ⟨tm, os, rfl⟩
 refine AOps.assignR rfl rfl rfl (rfl : _ = (AV.bool ((b1 == 41) || (b1 == 93)))) rfl ?_
 refine AOps.nilR ?_
 cases h
 exact AW.ret ⟨rfl, _, _, rfl, rfl⟩
theorem spec_l01Partners_ok {p1 : List UInt8} {s : St} {r : (List Int)} (h : spec_l01Partners p1 = some r) (hs : WF s) : ACall Cf 74 [(AV.str p1)] s fun v _ s' => (rL (rI .i64) 1) r v ∧ s' = s := by
 refine ACall.boxes rfl rfl rfl ?_
 have hH0 := HS.init hs
 unfold spec_l01Partners at h
 refine AW.sr ?_
 refine AOps.p rfl (rfl : _ = (AV.sl 0 true [])) ?_
 refine AOps.nilR ?_
 refine AW.sr ?_
 refine AOps.makeR rfl rfl rfl rfl rfl rfl (rfl : _ = (AV.sl 1 true [])) ?_
 refine AOps.assignR rfl rfl rfl (rfl : _ = (AV.sl 1 true [])) rfl ?_
 refine AOps.nilR ?_
 refine AW.sr ?_
 refine AOps.makeR rfl rfl rfl rfl rfl rfl (rfl : _ = (AV.sl 1 true [])) ?_
 refine AOps.assignR rfl rfl rfl (rfl : _ = (AV.sl 1 true [])) rfl ?_
 refine AOps.nilR ?_
 refine AW.seq ?_
 refine AW.sr ?_
 refine AOps.p rfl (rfl : _ = (AV.int .i64 0)) ?_
 refine AOps.nilR ?_
 refine AW.meet (σ := (List Int) × BX × AV × St) (fun (t2, x3, v4, s6) tm os => ⟨updL tm [(3, v4)], updL os [], s6⟩) (fun (t2, x3, v4, s6) => (DY (rI .i64) false 1 t2 v4 x3) ∧ (HS [] false s s6 [x3]) ∧ spec_l01Partners_J1 t2 = some r) ?_ ?_
 ·rintro ⟨t2, x3, v4, s6⟩ tm os ⟨h5, hH7, h⟩
  unfold spec_l01Partners_J1 at h
  refine AW.sr ?_
  refine AOps.p rfl (rfl : _ = v4) ?_
  refine AOps.assignR rfl rfl rfl (rfl : _ = v4) rfl ?_
  refine AOps.nilR ?_
  cases h
  exact AW.ret ⟨⟨_, hH7⟩, resA_dy (k := 8) (r := rI .i64) rfl rfl hH7 (i := 0) rfl h5 (fun _ => .I) (fun _ => rfl)⟩
 intro KJ8
 refine AW.block ?_
 refine AW.res [(0, (AV.str p1)), (3, (AV.sl 1 true [])), (4, (AV.sl 1 true [])), (5, (AV.int .i64 0))] [] ⟨rfl, rfl, rfl, rfl, trivial⟩ trivial ?_
 refine AW.loopF (σ := (List Int) × (List Int) × Int) (τ := BX × AV × BX × AV × St) (fun (t9, t13, t17) (x10, v11, x14, v15, s18) => (DY (rI .i64) false 1 t9 v11 x10) ∧ (DY (rI .i64) false 1 t13 v15 x14) ∧ (HS [] false s s18 [x10, x14])) (fun (t9, t13, t17) (x10, v11, x14, v15, s18) tm os => ⟨updL tm [(0, (AV.str p1)), (3, v11), (4, v15), (5, (AV.int .i64 t17))], updL os [], s18⟩) ?_ (x := (([] : List Int), ([] : List Int), 0)) (y := (noBX, (AV.sl 1 true []), noBX, (AV.sl 1 true []), { s with lo := s.n })) h ⟨DY.nil', DY.nil', (HS.sel hH0 [none, none] (by decide))⟩
 clear h
 rintro ⟨t9, t13, t17⟩ ⟨x10, v11, x14, v15, s18⟩ tm os ⟨h12, h16, hH19⟩ e1 h hL1 hR1
 unfold spec_l01Partners_S1 at h
 dsimp only at h
 refine AW.seq ?_
 refine AW.sr ?_
 refine AOps.p rfl (rfl : _ = (AV.int .i64 t17)) ?_
 refine AOps.p rfl (rfl : _ = (AV.str p1)) ?_
 refine AOps.p rfl (rfl : _ = (AV.int .i64 (p1.length : Int))) ?_
 refine AOps.p rfl (rfl : _ = (AV.bool (decide ((t17 : Int) < (p1.length : Int))))) ?_
 refine AOps.nilR ?_
 rcases oite h with ⟨hc20, h⟩ | ⟨hc20, h⟩
 ·refine AW.condT (congrArg AV.bool hc20) ?_
  refine AW.skip ?_
  refine AW.seq ?_
  refine AW.block ?_
  refine AW.block ?_
  refine AW.sr ?_
  refine AOps.p rfl (rfl : _ = (AV.str p1)) ?_
  refine AOps.p rfl (rfl : _ = (AV.int .i64 t17)) ?_
  obtain ⟨c21, h22, h⟩ := obind h
  refine AOps.pureR rfl rfl rfl (chr_str h22) rfl (rfl : _ = (AV.int .u8 c21)) ?_
  obtain ⟨y23, h24, h⟩ := obind h
  refine AOps.callP (g := 76) (args := [(AV.int .u8 c21)]) (p := (rB) y23) rfl rfl rfl (spec_l01Call_ok  h24 (HS.wf' hH19)) ?_
  intro _ o26 h25
  cases h25
  refine AOps.assignR rfl rfl rfl (rfl : _ = (AV.bool y23)) rfl ?_
  refine AOps.nilR ?_
  refine AW.meet (σ := (List Int) × (List Int) × BX × Nat × Nat × BX × AV × St) (fun (t27, t33, x28, b29, n31, x34, v35, s37) tm os => ⟨updL tm [(0, (AV.str p1)), (3, (AV.ms false 1 b29 0 n31)), (4, v35), (5, (AV.int .i64 t17))], updL os [], s37⟩) (fun (t27, t33, x28, b29, n31, x34, v35, s37) => (x28.b = some b29) ∧ (MS (rI .i64) false 1 t27 n31 x28.cs) ∧ (DY (rI .i64) false 1 t33 v35 x34) ∧ (HS [] false s s37 [x28, x34]) ∧ spec_l01Partners_J2 t17 t27 t33 = some e1) ?_ ?_
  ·rintro ⟨t27, t33, x28, b29, n31, x34, v35, s37⟩ tm os ⟨h30, h32, h36, hH38, h⟩
   unfold spec_l01Partners_J2 at h
   refine AW.inBlock ?_
   refine AW.inBlock ?_
   refine AW.region ?_
   refine AOps.p rfl (rfl : _ = (AV.int .i64 t17)) ?_
   refine AOps.p rfl (rfl : _ = (AV.int .i64 (IntKind.wrap .i64 (t17 + 1)))) ?_
   refine AOps.assignR rfl rfl rfl (rfl : _ = (AV.int .i64 (IntKind.wrap .i64 (t17 + 1)))) rfl ?_
   refine AOps.nilR ?_
   cases h
   exact AW.res [(0, (AV.str p1)), (3, (AV.ms false 1 b29 0 n31)), (4, v35), (5, (AV.int .i64 (IntKind.wrap .i64 (t17 + 1))))] [] ⟨rfl, rfl, rfl, rfl, trivial⟩ trivial (hL1 _ rfl (x28, (AV.ms false 1 b29 0 n31), x34, v35, s37) _ _ ⟨(DY.ms h30 h32), h36, (HS.sel hH38 [some 0, some 1] (by decide))⟩)
  intro KJ39
  rcases oite h with ⟨hc40, h⟩ | ⟨hc40, h⟩
  ·refine AW.condT (congrArg AV.bool hc40) ?_
   refine AW.sr ?_
   refine AOps.p rfl (rfl : _ = v11) ?_
   refine AOps.makeR rfl rfl rfl rfl rfl rfl (rfl : _ = (AV.sl 1 true [(AV.int .i64 (-2))])) ?_
   obtain ⟨l41, h42, h⟩ := obind h
   refine AOps.appD (i := 0) (r := rI .i64) (ei := ty2) (z' := 1) (f' := true) (e' := [(AV.int .i64 (-2))]) hH19 rfl h12 Sh.I rfl rfl rfl rfl rfl rfl rfl (appSrc_sl (LR.z (LR.lit (r := rI .i64) (sz := 1) (.cons rfl .nil))) rfl) (LR.el (LR.lit (r := rI .i64) (sz := 1) (.cons rfl .nil))) rfl ⟨by decide, by decide, rfl, rfl⟩ rfl rfl h42 ?_
   intro b43 n44 cs45 s46 h47 hH48
   change HS [] false s s46 [⟨some b43, cs45, fun _ => false⟩, x14] at hH48
   refine AOps.assignR rfl rfl rfl (rfl : _ = (AV.ms false 1 b43 0 n44)) rfl ?_
   refine AOps.nilR ?_
   refine AW.region ?_
   refine AOps.p rfl (rfl : _ = v15) ?_
   refine AOps.p rfl (rfl : _ = (AV.int .i64 t17)) ?_
   refine AOps.makeR rfl rfl rfl rfl rfl rfl (rfl : _ = (AV.sl 1 true [(AV.int .i64 t17)])) ?_
   obtain ⟨l49, h50, h⟩ := obind h
   refine AOps.appD (i := 1) (r := rI .i64) (ei := ty3) (z' := 1) (f' := true) (e' := [(AV.int .i64 t17)]) hH48 rfl h16 Sh.I rfl rfl rfl rfl rfl rfl rfl (appSrc_sl (LR.z (LR.lit (r := rI .i64) (sz := 1) (.cons rfl .nil))) rfl) (LR.el (LR.lit (r := rI .i64) (sz := 1) (.cons rfl .nil))) rfl ⟨by decide, by decide, rfl, rfl⟩ rfl rfl h50 ?_
   intro b51 n52 cs53 s54 h55 hH56
   change HS [] false s s54 [⟨some b43, cs45, fun _ => false⟩, ⟨some b51, cs53, fun _ => false⟩] at hH56
   refine AOps.assignR rfl rfl rfl (rfl : _ = (AV.ms false 1 b51 0 n52)) rfl ?_
   refine AOps.nilR ?_
   exact AW.res [(0, (AV.str p1)), (3, (AV.ms false 1 b43 0 n44)), (4, (AV.ms false 1 b51 0 n52)), (5, (AV.int .i64 t17))] [] ⟨rfl, rfl, rfl, rfl, trivial⟩ trivial (KJ39 (l41, l49, ⟨some b43, cs45, fun _ => false⟩, b43, n44, ⟨some b51, cs53, fun _ => false⟩, (AV.ms false 1 b51 0 n52), s54) _ _ ⟨rfl, h47, (DY.ms rfl h55), (HS.sel hH56 [some 0, some 1] (by decide)), h⟩)
  refine AW.condF (congrArg AV.bool hc40) ?_
  refine AW.sr ?_
  refine AOps.p rfl (rfl : _ = (AV.str p1)) ?_
  refine AOps.p rfl (rfl : _ = (AV.int .i64 t17)) ?_
  obtain ⟨c57, h58, h⟩ := obind h
  refine AOps.pureR rfl rfl rfl (chr_str h58) rfl (rfl : _ = (AV.int .u8 c57)) ?_
  obtain ⟨y59, h60, h⟩ := obind h
  refine AOps.callP (g := 75) (args := [(AV.int .u8 c57)]) (p := (rB) y59) rfl rfl rfl (spec_l01Return_ok  h60 (HS.wf' hH19)) ?_
  intro _ o62 h61
  cases h61
  refine AOps.p rfl (rfl : _ = (AV.bool y59)) ?_
  refine AOps.split 4 (fun f' => ∃ tm' os', f' = ⟨updL tm' [(0, (AV.str p1)), (3, v11), (4, v15), (5, (AV.int .i64 t17)), (39, (AV.bool (y59 && (decide (((t13.length : Int) : Int) > 0)))))], updL os' [], s18⟩) ?_ ?_
  ·rcases Bool.eq_false_or_eq_true y59 with hc63 | hc63
   ·refine AOps.know (d := 35) rfl hc63 ?_
    refine AOps.p rfl (rfl : _ = v15) ?_
    refine AOps.pureR rfl rfl rfl (DY.len h16 rfl rfl rfl) rfl (rfl : _ = (AV.int .i64 (t13.length : Int))) ?_
    refine AOps.p rfl (rfl : _ = (AV.bool (decide (((t13.length : Int) : Int) > 0)))) ?_
    refine AOps.p rfl (rfl : _ = (AV.bool (decide (((t13.length : Int) : Int) > 0)))) ?_
    refine AOps.resR [(0, (AV.str p1)), (3, v11), (4, v15), (5, (AV.int .i64 t17)), (39, (AV.bool (y59 && (decide (((t13.length : Int) : Int) > 0)))))] [] ?_ ?_ _ ⟨_, _, rfl⟩
    ·exact ⟨rfl, rfl, rfl, rfl, congrArg AV.bool (and_t hc63), trivial⟩
    exact trivial
   ·refine AOps.know (d := 35) rfl hc63 ?_
    refine AOps.skipR rfl rfl ?_
    refine AOps.skipR rfl rfl ?_
    refine AOps.skipR rfl rfl ?_
    refine AOps.p rfl (rfl : _ = (AV.bool false)) ?_
    refine AOps.resR [(0, (AV.str p1)), (3, v11), (4, v15), (5, (AV.int .i64 t17)), (39, (AV.bool (y59 && (decide (((t13.length : Int) : Int) > 0)))))] [] ?_ ?_ _ ⟨_, _, rfl⟩
    ·exact ⟨rfl, rfl, rfl, rfl, congrArg AV.bool (and_f hc63), trivial⟩
    exact trivial
  rintro _ ⟨tm, os, rfl⟩
  refine AOps.assignR rfl rfl rfl (rfl : _ = (AV.bool (y59 && (decide (((t13.length : Int) : Int) > 0))))) rfl ?_
  refine AOps.nilR ?_
  rcases oite h with ⟨hc64, h⟩ | ⟨hc64, h⟩
  ·refine AW.condT (congrArg AV.bool hc64) ?_
   refine AW.sr ?_
   refine AOps.p rfl (rfl : _ = v15) ?_
   refine AOps.p rfl (rfl : _ = v15) ?_
   refine AOps.pureR rfl rfl rfl (DY.len h16 rfl rfl rfl) rfl (rfl : _ = (AV.int .i64 (t13.length : Int))) ?_
   refine AOps.p rfl (rfl : _ = (AV.int .i64 (IntKind.wrap .i64 ((t13.length : Int) - 1)))) ?_
   obtain ⟨x65, h66, h⟩ := obind h
   obtain ⟨b67, n68, h69, h71, h70⟩ := DY.has h16 h66
   subst h71
   refine AOps.pureR rfl rfl rfl (idx_ms h70 h66) rfl (rfl : _ = (AV.ptr b67 (0 + Int.toNat (IntKind.wrap .i64 ((t13.length : Int) - 1)) * 1))) ?_
   refine AOps.ldM (i := 1) (r := rI .i64) (off := 0) hH19 rfl h69 h70 h66 rfl rfl rfl rfl rfl (lt_b rfl) (le_b rfl) rfl rfl ?_ (fun c hr hs => by cases hr; exact ⟨_, rfl⟩)
   intro c72 h73 h74 v75 h76
   cases h73
   cases h76
   refine AOps.assignR rfl rfl rfl (rfl : _ = (AV.int .i64 x65)) rfl ?_
   refine AOps.nilR ?_
   refine AW.sr ?_
   refine AOps.p rfl (rfl : _ = (AV.ms false 1 b67 0 n68)) ?_
   refine AOps.p rfl (rfl : _ = (AV.ms false 1 b67 0 n68)) ?_
   refine AOps.p rfl (len_ms h70) ?_
   refine AOps.p rfl (rfl : _ = (AV.int .i64 (IntKind.wrap .i64 ((t13.length : Int) - 1)))) ?_
   obtain ⟨l77, h78, h⟩ := obind h
   obtain ⟨h79, h80⟩ := MS.cut (b := b67) (k := .i64) h70 h78
   refine AOps.pureR rfl rfl rfl h80 rfl (rfl : _ = (AV.ms false 1 b67 0 (Int.toNat (IntKind.wrap .i64 ((t13.length : Int) - 1))))) ?_
   refine AOps.assignR rfl rfl rfl (rfl : _ = (AV.ms false 1 b67 0 (Int.toNat (IntKind.wrap .i64 ((t13.length : Int) - 1))))) rfl ?_
   refine AOps.nilR ?_
   refine AW.sr ?_
   refine AOps.p rfl (rfl : _ = v11) ?_
   refine AOps.p rfl (rfl : _ = (AV.int .i64 x65)) ?_
   refine AOps.p rfl (rfl : _ = (AV.int .i64 t17)) ?_
   obtain ⟨x81, h82, h⟩ := obind h
   obtain ⟨b83, n84, h85, h87, h86⟩ := DY.has h12 h82
   subst h87
   refine AOps.pureR rfl rfl rfl (idx_ms h86 h82) rfl (rfl : _ = (AV.ptr b83 (0 + Int.toNat x65 * 1))) ?_
   refine AOps.stM (i := 0) (r := rI .i64) (v := (AV.int .i64 t17)) (y := t17) hH19 rfl h85 h86 h82 rfl rfl rfl rfl rfl rfl (Sh.I t17 _ rfl) rfl rfl (lt_b rfl) rfl rfl ?_
   intro cs88 w89 s90 h91 hH92
   change HS [] false s s90 [⟨some b83, cs88, w89⟩, x14] at hH92
   refine AOps.nilR ?_
   refine AW.region ?_
   refine AOps.p rfl (rfl : _ = (AV.ms false 1 b83 0 n84)) ?_
   refine AOps.p rfl (rfl : _ = (AV.int .i64 x65)) ?_
   refine AOps.makeR rfl rfl rfl rfl rfl rfl (rfl : _ = (AV.sl 1 true [(AV.int .i64 x65)])) ?_
   obtain ⟨l93, h94, h⟩ := obind h
   refine AOps.appB' (i := 0) (r := rI .i64) (ei := ty2) (z' := 1) (f' := true) (e' := [(AV.int .i64 x65)]) hH92 rfl rfl h91 Sh.I rfl rfl rfl rfl rfl rfl rfl (appSrc_sl (LR.z (LR.lit (r := rI .i64) (sz := 1) (.cons rfl .nil))) rfl) (LR.el (LR.lit (r := rI .i64) (sz := 1) (.cons rfl .nil))) ⟨by decide, by decide, rfl, rfl⟩ rfl rfl h94 ?_
   intro b95 n96 cs97 s98 h99 hH100
   change HS [] false s s98 [⟨some b95, cs97, fun _ => false⟩, x14] at hH100
   refine AOps.assignR rfl rfl rfl (rfl : _ = (AV.ms false 1 b95 0 n96)) rfl ?_
   refine AOps.nilR ?_
   exact AW.res [(0, (AV.str p1)), (3, (AV.ms false 1 b95 0 n96)), (4, (AV.ms false 1 b67 0 (Int.toNat (IntKind.wrap .i64 ((t13.length : Int) - 1))))), (5, (AV.int .i64 t17))] [] ⟨rfl, rfl, rfl, rfl, trivial⟩ trivial (KJ39 (l93, l77, ⟨some b95, cs97, fun _ => false⟩, b95, n96, x14, (AV.ms false 1 b67 0 (Int.toNat (IntKind.wrap .i64 ((t13.length : Int) - 1)))), s98) _ _ ⟨rfl, h99, (DY.ms h69 h79), (HS.sel hH100 [some 0, some 1] (by decide)), h⟩)
  refine AW.condF (congrArg AV.bool hc64) ?_
  refine AW.sr ?_
  refine AOps.p rfl (rfl : _ = (AV.str p1)) ?_
  refine AOps.p rfl (rfl : _ = (AV.int .i64 t17)) ?_
  obtain ⟨c101, h102, h⟩ := obind h
  refine AOps.pureR rfl rfl rfl (chr_str h102) rfl (rfl : _ = (AV.int .u8 c101)) ?_
  obtain ⟨y103, h104, h⟩ := obind h
  refine AOps.callP (g := 75) (args := [(AV.int .u8 c101)]) (p := (rB) y103) rfl rfl rfl (spec_l01Return_ok  h104 (HS.wf' hH19)) ?_
  intro _ o106 h105
  cases h105
  refine AOps.assignR rfl rfl rfl (rfl : _ = (AV.bool y103)) rfl ?_
  refine AOps.nilR ?_
  rcases oite h with ⟨hc107, h⟩ | ⟨hc107, h⟩
  ·refine AW.condT (congrArg AV.bool hc107) ?_
   refine AW.region ?_
   refine AOps.p rfl (rfl : _ = v11) ?_
   refine AOps.makeR rfl rfl rfl rfl rfl rfl (rfl : _ = (AV.sl 1 true [(AV.int .i64 (-2))])) ?_
   obtain ⟨l108, h109, h⟩ := obind h
   refine AOps.appD (i := 0) (r := rI .i64) (ei := ty2) (z' := 1) (f' := true) (e' := [(AV.int .i64 (-2))]) hH19 rfl h12 Sh.I rfl rfl rfl rfl rfl rfl rfl (appSrc_sl (LR.z (LR.lit (r := rI .i64) (sz := 1) (.cons rfl .nil))) rfl) (LR.el (LR.lit (r := rI .i64) (sz := 1) (.cons rfl .nil))) rfl ⟨by decide, by decide, rfl, rfl⟩ rfl rfl h109 ?_
   intro b110 n111 cs112 s113 h114 hH115
   change HS [] false s s113 [⟨some b110, cs112, fun _ => false⟩, x14] at hH115
   refine AOps.assignR rfl rfl rfl (rfl : _ = (AV.ms false 1 b110 0 n111)) rfl ?_
   refine AOps.nilR ?_
   exact AW.res [(0, (AV.str p1)), (3, (AV.ms false 1 b110 0 n111)), (4, v15), (5, (AV.int .i64 t17))] [] ⟨rfl, rfl, rfl, rfl, trivial⟩ trivial (KJ39 (l108, t13, ⟨some b110, cs112, fun _ => false⟩, b110, n111, x14, v15, s113) _ _ ⟨rfl, h114, h16, (HS.sel hH115 [some 0, some 1] (by decide)), h⟩)
  refine AW.condF (congrArg AV.bool hc107) ?_
  refine AW.region ?_
  refine AOps.p rfl (rfl : _ = v11) ?_
  refine AOps.makeR rfl rfl rfl rfl rfl rfl (rfl : _ = (AV.sl 1 true [(AV.int .i64 (-1))])) ?_
  obtain ⟨l116, h117, h⟩ := obind h
  refine AOps.appD (i := 0) (r := rI .i64) (ei := ty2) (z' := 1) (f' := true) (e' := [(AV.int .i64 (-1))]) hH19 rfl h12 Sh.I rfl rfl rfl rfl rfl rfl rfl (appSrc_sl (LR.z (LR.lit (r := rI .i64) (sz := 1) (.cons rfl .nil))) rfl) (LR.el (LR.lit (r := rI .i64) (sz := 1) (.cons rfl .nil))) rfl ⟨by decide, by decide, rfl, rfl⟩ rfl rfl h117 ?_
  intro b118 n119 cs120 s121 h122 hH123
  change HS [] false s s121 [⟨some b118, cs120, fun _ => false⟩, x14] at hH123
  refine AOps.assignR rfl rfl rfl (rfl : _ = (AV.ms false 1 b118 0 n119)) rfl ?_
  refine AOps.nilR ?_
  exact AW.res [(0, (AV.str p1)), (3, (AV.ms false 1 b118 0 n119)), (4, v15), (5, (AV.int .i64 t17))] [] ⟨rfl, rfl, rfl, rfl, trivial⟩ trivial (KJ39 (l116, t13, ⟨some b118, cs120, fun _ => false⟩, b118, n119, x14, v15, s121) _ _ ⟨rfl, h122, h16, (HS.sel hH123 [some 0, some 1] (by decide)), h⟩)
 refine AW.condF (congrArg AV.bool hc20) ?_
 refine AW.exit rfl ?_
 obtain ⟨r124, hm, hx⟩ := omap h
 clear h
 subst hx
 have hx := hR1 _ rfl
 rw [hx] at hm
 have h := hm
 exact AW.res [(3, v11)] [] ⟨rfl, trivial⟩ trivial (KJ8 (t9, x10, v11, s18) _ _ ⟨h12, (HS.sel hH19 [some 0] (by decide)), h⟩)
theorem spec_l01Pending_ok {w1 : List UInt8} {s : St} {r : Int × Int} (h : spec_l01Pending w1 = some r) (hs : WF s) : ACall Cf 50 [(AV.str w1)] s fun v _ s' => (fun x => rT [(rI .i64) x.1, (rI .i64) x.2]) r v ∧ s' = s := by
 refine ACall.pure rfl rfl rfl (.T (.cons .I (.cons .I .nil))) ?_
 have hWF := hs.lo'
 unfold spec_l01Pending at h
 refine AW.sr ?_
 refine AOps.p rfl (rfl : _ = (AV.int .i64 0)) ?_
 refine AOps.p rfl (rfl : _ = (AV.int .i64 0)) ?_
 refine AOps.nilR ?_
 refine AW.sr ?_
 refine AOps.p rfl (rfl : _ = (AV.str w1)) ?_
 obtain ⟨y2, h3, h⟩ := obind h
 refine AOps.callP (g := 74) (args := [(AV.str w1)]) (p := (rL (rI .i64) 1) y2) rfl rfl rfl (spec_l01Partners_ok  h3 hWF) ?_
 intro _ o9 h4
 obtain ⟨z5, f6, e7, rfl, h8⟩ := h4
 refine AOps.assignR rfl rfl rfl (rfl : _ = (AV.sl z5 f6 e7)) rfl ?_
 refine AOps.nilR ?_
 refine AW.sr ?_
 refine AOps.p rfl (rfl : _ = (AV.int .i64 0)) ?_
 refine AOps.nilR ?_
 refine AW.sr ?_
 refine AOps.p rfl (rfl : _ = (AV.int .i64 0)) ?_
 refine AOps.nilR ?_
 refine AW.seq ?_
 refine AW.sr ?_
 refine AOps.p rfl (rfl : _ = (AV.int .i64 0)) ?_
 refine AOps.nilR ?_
 refine AW.meet (σ := Int × Int) (fun (returns10, calls11) tm os => ⟨updL tm [(5, (AV.int .i64 returns10)), (6, (AV.int .i64 calls11))], updL os [], { s with lo := s.n }⟩) (fun (returns10, calls11) => spec_l01Pending_J1 returns10 calls11 = some r) ?_ ?_
 ·rintro ⟨returns10, calls11⟩ tm os h
  unfold spec_l01Pending_J1 at h
  refine AW.sr ?_
  refine AOps.p rfl (rfl : _ = (AV.int .i64 returns10)) ?_
  refine AOps.p rfl (rfl : _ = (AV.int .i64 calls11)) ?_
  refine AOps.assignR rfl rfl rfl (rfl : _ = (AV.int .i64 returns10)) rfl ?_
  refine AOps.assignR rfl rfl rfl (rfl : _ = (AV.int .i64 calls11)) rfl ?_
  refine AOps.nilR ?_
  cases h
  exact AW.ret ⟨rfl, _, _, rfl, ⟨_, rfl, (.cons rfl (.cons rfl .nil))⟩⟩
 intro KJ12
 refine AW.block ?_
 refine AW.res [(0, (AV.str w1)), (4, (AV.sl z5 f6 e7)), (5, (AV.int .i64 0)), (6, (AV.int .i64 0)), (7, (AV.int .i64 0))] [] ⟨rfl, rfl, rfl, rfl, rfl, trivial⟩ trivial ?_
 refine AW.loopF (σ := Int × Int × Int) (τ := Unit) (fun (returns13, calls14, i15) _ => True) (fun (returns13, calls14, i15) _ tm os => ⟨updL tm [(0, (AV.str w1)), (4, (AV.sl z5 f6 e7)), (5, (AV.int .i64 returns13)), (6, (AV.int .i64 calls14)), (7, (AV.int .i64 i15))], updL os [], { s with lo := s.n }⟩) ?_ (x := (0, 0, 0)) (y := ()) h trivial
 clear h
 rintro ⟨returns13, calls14, i15⟩ _ tm os - e1 h hL1 hR1
 unfold spec_l01Pending_S1 at h
 dsimp only at h
 refine AW.seq ?_
 refine AW.sr ?_
 refine AOps.p rfl (rfl : _ = (AV.int .i64 i15)) ?_
 refine AOps.p rfl (rfl : _ = (AV.str w1)) ?_
 refine AOps.p rfl (rfl : _ = (AV.int .i64 (w1.length : Int))) ?_
 refine AOps.p rfl (rfl : _ = (AV.bool (decide ((i15 : Int) < (w1.length : Int))))) ?_
 refine AOps.nilR ?_
 rcases oite h with ⟨hc16, h⟩ | ⟨hc16, h⟩
 ·refine AW.condT (congrArg AV.bool hc16) ?_
  refine AW.skip ?_
  refine AW.seq ?_
  refine AW.block ?_
  refine AW.seq ?_
  refine AW.sr ?_
  refine AOps.p rfl (rfl : _ = (AV.sl z5 f6 e7)) ?_
  refine AOps.p rfl (rfl : _ = (AV.int .i64 i15)) ?_
  obtain ⟨x17, h18, h⟩ := obind h
  obtain ⟨v21, h19, h20⟩ := idx_sl h8 h18
  cases h19
  refine AOps.pureR rfl rfl rfl h20 rfl (rfl : _ = (AV.eptr [(AV.int .i64 x17)] 0)) ?_
  refine AOps.ldE (v := (AV.int .i64 x17)) rfl rfl rfl rfl rfl rfl ?_
  refine AOps.p rfl (rfl : _ = (AV.bool (x17 == (-2)))) ?_
  refine AOps.p rfl (rfl : _ = (AV.bool (x17 == (-2)))) ?_
  obtain ⟨b23, hb, h⟩ := obind h
  refine AOps.split 5 (fun f' => ∃ tm' os', f' = ⟨updL tm' [(0, (AV.str w1)), (4, (AV.sl z5 f6 e7)), (5, (AV.int .i64 returns13)), (6, (AV.int .i64 calls14)), (7, (AV.int .i64 i15)), (26, (AV.bool b23))], updL os' [], { s with lo := s.n }⟩) ?_ ?_
  ·rcases oite hb with ⟨hc22, hb⟩ | ⟨hc22, hb⟩
   ·have h := hb
    refine AOps.know (d := 21) rfl hc22 ?_
    refine AOps.p rfl (rfl : _ = (AV.str w1)) ?_
    refine AOps.p rfl (rfl : _ = (AV.int .i64 i15)) ?_
    obtain ⟨c24, h25, h⟩ := obind h
    refine AOps.pureR rfl rfl rfl (chr_str h25) rfl (rfl : _ = (AV.int .u8 c24)) ?_
    obtain ⟨y26, h27, h⟩ := obind h
    refine AOps.callP (g := 75) (args := [(AV.int .u8 c24)]) (p := (rB) y26) rfl rfl rfl (spec_l01Return_ok  h27 hWF) ?_
    intro _ o29 h28
    cases h28
    refine AOps.p rfl (rfl : _ = (AV.bool y26)) ?_
    refine AOps.resR [(0, (AV.str w1)), (4, (AV.sl z5 f6 e7)), (5, (AV.int .i64 returns13)), (6, (AV.int .i64 calls14)), (7, (AV.int .i64 i15)), (26, (AV.bool b23))] [] ?_ ?_ _ ⟨_, _, rfl⟩
    ·exact ⟨rfl, rfl, rfl, rfl, rfl, congrArg AV.bool (Option.some.inj h), trivial⟩
    exact trivial
   ·refine AOps.know (d := 21) rfl hc22 ?_
    refine AOps.skipR rfl rfl ?_
    refine AOps.skipR rfl rfl ?_
    refine AOps.skipR rfl rfl ?_
    refine AOps.skipR rfl rfl ?_
    refine AOps.p rfl (rfl : _ = (AV.bool false)) ?_
    refine AOps.resR [(0, (AV.str w1)), (4, (AV.sl z5 f6 e7)), (5, (AV.int .i64 returns13)), (6, (AV.int .i64 calls14)), (7, (AV.int .i64 i15)), (26, (AV.bool b23))] [] ?_ ?_ _ ⟨_, _, rfl⟩
    ·exact ⟨rfl, rfl, rfl, rfl, rfl, congrArg AV.bool (Option.some.inj hb), trivial⟩
    exact trivial
  rintro _ ⟨tm, os, rfl⟩
  refine AOps.nilR ?_
  refine AW.meet (σ := Int) (fun returns30 tm os => ⟨updL tm [(0, (AV.str w1)), (4, (AV.sl z5 f6 e7)), (5, (AV.int .i64 returns30)), (6, (AV.int .i64 calls14)), (7, (AV.int .i64 i15))], updL os [], { s with lo := s.n }⟩) (fun returns30 => spec_l01Pending_J2 w1 y2 calls14 i15 returns30 = some e1) ?_ ?_
  ·rintro returns30 tm os h
   unfold spec_l01Pending_J2 at h
   refine AW.sr ?_
   refine AOps.p rfl (rfl : _ = (AV.sl z5 f6 e7)) ?_
   refine AOps.p rfl (rfl : _ = (AV.int .i64 i15)) ?_
   obtain ⟨x32, h33, h⟩ := obind h
   obtain ⟨v36, h34, h35⟩ := idx_sl h8 h33
   cases h34
   refine AOps.pureR rfl rfl rfl h35 rfl (rfl : _ = (AV.eptr [(AV.int .i64 x32)] 0)) ?_
   refine AOps.ldE (v := (AV.int .i64 x32)) rfl rfl rfl rfl rfl rfl ?_
   refine AOps.p rfl (rfl : _ = (AV.bool (x32 == (-2)))) ?_
   refine AOps.p rfl (rfl : _ = (AV.bool (x32 == (-2)))) ?_
   obtain ⟨b38, hb, h⟩ := obind h
   refine AOps.split 5 (fun f' => ∃ tm' os', f' = ⟨updL tm' [(0, (AV.str w1)), (4, (AV.sl z5 f6 e7)), (5, (AV.int .i64 returns30)), (6, (AV.int .i64 calls14)), (7, (AV.int .i64 i15)), (39, (AV.bool b38))], updL os' [], { s with lo := s.n }⟩) ?_ ?_
   ·rcases oite hb with ⟨hc37, hb⟩ | ⟨hc37, hb⟩
    ·have h := hb
     refine AOps.know (d := 34) rfl hc37 ?_
     refine AOps.p rfl (rfl : _ = (AV.str w1)) ?_
     refine AOps.p rfl (rfl : _ = (AV.int .i64 i15)) ?_
     obtain ⟨c39, h40, h⟩ := obind h
     refine AOps.pureR rfl rfl rfl (chr_str h40) rfl (rfl : _ = (AV.int .u8 c39)) ?_
     obtain ⟨y41, h42, h⟩ := obind h
     refine AOps.callP (g := 76) (args := [(AV.int .u8 c39)]) (p := (rB) y41) rfl rfl rfl (spec_l01Call_ok  h42 hWF) ?_
     intro _ o44 h43
     cases h43
     refine AOps.p rfl (rfl : _ = (AV.bool y41)) ?_
     refine AOps.resR [(0, (AV.str w1)), (4, (AV.sl z5 f6 e7)), (5, (AV.int .i64 returns30)), (6, (AV.int .i64 calls14)), (7, (AV.int .i64 i15)), (39, (AV.bool b38))] [] ?_ ?_ _ ⟨_, _, rfl⟩
     ·exact ⟨rfl, rfl, rfl, rfl, rfl, congrArg AV.bool (Option.some.inj h), trivial⟩
     exact trivial
    ·refine AOps.know (d := 34) rfl hc37 ?_
     refine AOps.skipR rfl rfl ?_
     refine AOps.skipR rfl rfl ?_
     refine AOps.skipR rfl rfl ?_
     refine AOps.skipR rfl rfl ?_
     refine AOps.p rfl (rfl : _ = (AV.bool false)) ?_
     refine AOps.resR [(0, (AV.str w1)), (4, (AV.sl z5 f6 e7)), (5, (AV.int .i64 returns30)), (6, (AV.int .i64 calls14)), (7, (AV.int .i64 i15)), (39, (AV.bool b38))] [] ?_ ?_ _ ⟨_, _, rfl⟩
     ·exact ⟨rfl, rfl, rfl, rfl, rfl, congrArg AV.bool (Option.some.inj hb), trivial⟩
     exact trivial
   rintro _ ⟨tm, os, rfl⟩
   refine AOps.nilR ?_
   refine AW.meet (σ := Int) (fun calls45 tm os => ⟨updL tm [(0, (AV.str w1)), (4, (AV.sl z5 f6 e7)), (5, (AV.int .i64 returns30)), (6, (AV.int .i64 calls45)), (7, (AV.int .i64 i15))], updL os [], { s with lo := s.n }⟩) (fun calls45 => spec_l01Pending_J3 i15 returns30 calls45 = some e1) ?_ ?_
   ·rintro calls45 tm os h
    unfold spec_l01Pending_J3 at h
    refine AW.inBlock ?_
    refine AW.region ?_
    refine AOps.p rfl (rfl : _ = (AV.int .i64 i15)) ?_
    refine AOps.p rfl (rfl : _ = (AV.int .i64 (IntKind.wrap .i64 (i15 + 1)))) ?_
    refine AOps.assignR rfl rfl rfl (rfl : _ = (AV.int .i64 (IntKind.wrap .i64 (i15 + 1)))) rfl ?_
    refine AOps.nilR ?_
    cases h
    exact AW.res [(0, (AV.str w1)), (4, (AV.sl z5 f6 e7)), (5, (AV.int .i64 returns30)), (6, (AV.int .i64 calls45)), (7, (AV.int .i64 (IntKind.wrap .i64 (i15 + 1))))] [] ⟨rfl, rfl, rfl, rfl, rfl, trivial⟩ trivial (hL1 _ rfl () _ _ trivial)
   intro KJ46
   rcases oite h with ⟨hc47, h⟩ | ⟨hc47, h⟩
   ·refine AW.condT (congrArg AV.bool hc47) ?_
    refine AW.region ?_
    refine AOps.p rfl (rfl : _ = (AV.int .i64 calls14)) ?_
    refine AOps.p rfl (rfl : _ = (AV.int .i64 (IntKind.wrap .i64 (calls14 + 1)))) ?_
    refine AOps.assignR rfl rfl rfl (rfl : _ = (AV.int .i64 (IntKind.wrap .i64 (calls14 + 1)))) rfl ?_
    refine AOps.nilR ?_
    exact AW.res [(0, (AV.str w1)), (4, (AV.sl z5 f6 e7)), (5, (AV.int .i64 returns30)), (6, (AV.int .i64 (IntKind.wrap .i64 (calls14 + 1)))), (7, (AV.int .i64 i15))] [] ⟨rfl, rfl, rfl, rfl, rfl, trivial⟩ trivial (KJ46 (IntKind.wrap .i64 (calls14 + 1)) _ _ h)
   refine AW.condF (congrArg AV.bool hc47) ?_
   refine AW.skip ?_
   exact AW.res [(0, (AV.str w1)), (4, (AV.sl z5 f6 e7)), (5, (AV.int .i64 returns30)), (6, (AV.int .i64 calls14)), (7, (AV.int .i64 i15))] [] ⟨rfl, rfl, rfl, rfl, rfl, trivial⟩ trivial (KJ46 (calls14) _ _ h)
  intro KJ31
  rcases oite h with ⟨hc48, h⟩ | ⟨hc48, h⟩
  ·refine AW.condT (congrArg AV.bool hc48) ?_
   refine AW.region ?_
   refine AOps.p rfl (rfl : _ = (AV.int .i64 returns13)) ?_
   refine AOps.p rfl (rfl : _ = (AV.int .i64 (IntKind.wrap .i64 (returns13 + 1)))) ?_
   refine AOps.assignR rfl rfl rfl (rfl : _ = (AV.int .i64 (IntKind.wrap .i64 (returns13 + 1)))) rfl ?_
   refine AOps.nilR ?_
   exact AW.res [(0, (AV.str w1)), (4, (AV.sl z5 f6 e7)), (5, (AV.int .i64 (IntKind.wrap .i64 (returns13 + 1)))), (6, (AV.int .i64 calls14)), (7, (AV.int .i64 i15))] [] ⟨rfl, rfl, rfl, rfl, rfl, trivial⟩ trivial (KJ31 (IntKind.wrap .i64 (returns13 + 1)) _ _ h)
  refine AW.condF (congrArg AV.bool hc48) ?_
  refine AW.skip ?_
  exact AW.res [(0, (AV.str w1)), (4, (AV.sl z5 f6 e7)), (5, (AV.int .i64 returns13)), (6, (AV.int .i64 calls14)), (7, (AV.int .i64 i15))] [] ⟨rfl, rfl, rfl, rfl, rfl, trivial⟩ trivial (KJ31 (returns13) _ _ h)
 refine AW.condF (congrArg AV.bool hc16) ?_
 refine AW.exit rfl ?_
 obtain ⟨r49, hm, hx⟩ := omap h
 clear h
 subst hx
 have hx := hR1 _ rfl
 rw [hx] at hm
 have h := hm
 exact AW.res [(5, (AV.int .i64 returns13)), (6, (AV.int .i64 calls14))] [] ⟨rfl, rfl, trivial⟩ trivial (KJ12 (returns13, calls14) _ _ h)
theorem spec_l01Matched_ok {w1 : List UInt8} {s : St} {r : Bool} (h : spec_l01Matched w1 = some r) (hs : WF s) : ACall Cf 24 [(AV.str w1)] s fun v _ s' => (rB) r v ∧ s' = s := by
 refine ACall.pure rfl rfl rfl .B ?_
 have hWF := hs.lo'
 unfold spec_l01Matched at h
 refine AW.sr ?_
 refine AOps.p rfl (rfl : _ = (AV.bool false)) ?_
 refine AOps.nilR ?_
 refine AW.sr ?_
 refine AOps.p rfl (rfl : _ = (AV.str w1)) ?_
 obtain ⟨y2, h3, h⟩ := obind h
 refine AOps.callP (g := 50) (args := [(AV.str w1)]) (p := (fun x => rT [(rI .i64) x.1, (rI .i64) x.2]) y2) rfl rfl rfl (spec_l01Pending_ok  h3 hWF) ?_
 intro _ o10 h4
 obtain ⟨_, rfl, h5⟩ := h4
 obtain ⟨_, _, rfl, h6, h7⟩ := Cs_cons h5
 cases h6
 obtain ⟨_, _, rfl, h8, h9⟩ := Cs_cons h7
 cases h8
 cases Cs_nil h9
 refine AOps.p rfl (rfl : _ = (AV.tup [(AV.int .i64 y2.1), (AV.int .i64 y2.2)])) ?_
 refine AOps.p rfl (rfl : _ = (AV.int .i64 y2.1)) ?_
 refine AOps.p rfl (rfl : _ = (AV.int .i64 y2.2)) ?_
 refine AOps.assignR rfl rfl rfl (rfl : _ = (AV.int .i64 y2.1)) rfl ?_
 refine AOps.assignR rfl rfl rfl (rfl : _ = (AV.int .i64 y2.2)) rfl ?_
 refine AOps.nilR ?_
 refine AW.sr ?_
 refine AOps.p rfl (rfl : _ = (AV.int .i64 y2.1)) ?_
 refine AOps.p rfl (rfl : _ = (AV.int .i64 y2.2)) ?_
 refine AOps.p rfl (rfl : _ = (AV.int .i64 (IntKind.wrap .i64 (y2.1 + y2.2)))) ?_
 refine AOps.p rfl (rfl : _ = (AV.bool ((IntKind.wrap .i64 (y2.1 + y2.2)) == 0))) ?_
 refine AOps.assignR rfl rfl rfl (rfl : _ = (AV.bool ((IntKind.wrap .i64 (y2.1 + y2.2)) == 0))) rfl ?_
 refine AOps.nilR ?_
 cases h
 exact AW.ret ⟨rfl, _, _, rfl, rfl⟩
theorem spec_l00Own_okO {list1 : List Int} {z2 : Nat} {f3 : Bool} {e4 : List AV} {s : St} (h5 : LR (rI .i64) 1 list1 z2 e4) {r : (List Int)} (h : spec_l00Own list1 = some r) (hs : WF s) : ACall Cf 88 [(AV.sl z2 f3 e4)] s fun v o s' => ((rL (rI .i64) 1) r v ∧ s' = s) ∧ o = true := by
 refine ACall.pureO rfl rfl rfl (.L fun _ => .I) ?_
 have hWF := hs.lo'
 unfold spec_l00Own at h
 refine AW.sr ?_
 refine AOps.p rfl (rfl : _ = (AV.sl 0 true [])) ?_
 refine AOps.nilR ?_
 refine AW.sr ?_
 refine AOps.makeR rfl rfl rfl rfl rfl rfl (rfl : _ = (AV.sl 1 true [])) ?_
 refine AOps.p rfl (rfl : _ = (AV.sl z2 f3 e4)) ?_
 obtain ⟨l6, h7, h⟩ := obind h
 obtain ⟨h8, h9⟩ := app_LR (show LR (rI .i64) 1 (([] : List Int) : List Int) 1 [] from ⟨.inl rfl, .nil⟩) h5 h7
 refine AOps.appL (z := 1) (f := true) (e := []) (z' := z2) (f' := f3) (e' := e4) rfl rfl rfl rfl rfl rfl rfl (appSrc_sl (LR.z h5) rfl) (LR.z (show LR (rI .i64) 1 (([] : List Int) : List Int) 1 [] from ⟨.inl rfl, .nil⟩)) ⟨by decide, by decide, rfl, rfl⟩ rfl rfl h9 (Or.inl rfl) ?_
 refine AOps.assignR rfl rfl rfl (rfl : _ = (AV.sl 1 false ([] ++ e4))) rfl ?_
 refine AOps.nilR ?_
 cases h
 exact AW.ret ⟨rfl, _, _, rfl, ⟨_, _, _, rfl, h8⟩, orT (Or.inr rfl)⟩
theorem spec_l00Own_ok {list1 : List Int} {z2 : Nat} {f3 : Bool} {e4 : List AV} {s : St} (h5 : LR (rI .i64) 1 list1 z2 e4) {r : (List Int)} (h : spec_l00Own list1 = some r) (hs : WF s) : ACall Cf 88 [(AV.sl z2 f3 e4)] s fun v _ s' => (rL (rI .i64) 1) r v ∧ s' = s := (spec_l00Own_okO h5 h hs).mono fun _ _ _ h => h.1
theorem spec_l02Step_ok {p1 : Checker} {p1_18 : Int} {p2_19 : List Int} {p3_24 : Int} {z2 : Nat} {f3 : Bool} {e4 : List AV} {z6 : Nat} {f7 : Bool} {e8 : List AV} {z10 : Nat} {f11 : Bool} {e12 : List AV} {z14 : Nat} {f15 : Bool} {e16 : List AV} {z20 : Nat} {f21 : Bool} {e22 : List AV} {s : St} (h5 : LR rB 1 p1.Accept z2 e4) (h9 : LR (rL rPush 2) 1 p1.Call z6 e8) (h13 : LR (rL (rL (rI .i64) 1) 1) 1 p1.Return z10 e12) (h17 : LR (rL (rI .i64) 1) 1 p1.Inner z14 e16) (h23 : LR (rI .i64) 1 p2_19 z20 e22) {r : Int × (List Int)} (h : spec_l02Step p1 p1_18 p2_19 p3_24 = some r) (hs : WF s) : ACall Cf 85 [(AV.eptr [(AV.int .i64 p1.Stack), (AV.int .i64 p1.Start), (AV.sl z2 f3 e4), (AV.sl z6 f7 e8), (AV.sl z10 f11 e12), (AV.sl z14 f15 e16)] 0), (AV.int .i64 p1_18), (AV.sl z20 f21 e22), (AV.int .u8 p3_24)] s fun v _ s' => (fun x => rT [(rI .i64) x.1, (rL (rI .i64) 1) x.2]) r v ∧ s' = s := by
 refine ACall.pure rfl rfl rfl (.T (.cons .I (.cons (.L fun _ => .I) .nil))) ?_
 have hWF := hs.lo'
 unfold spec_l02Step at h
 refine AW.sr ?_
 refine AOps.p rfl (rfl : _ = (AV.int .i64 0)) ?_
 refine AOps.p rfl (rfl : _ = (AV.sl 0 true [])) ?_
 refine AOps.nilR ?_
 refine AW.sr ?_
 refine AOps.p rfl (rfl : _ = (AV.int .u8 p3_24)) ?_
 obtain ⟨y25, h26, h⟩ := obind h
 refine AOps.callP (g := 49) (args := [(AV.int .u8 p3_24)]) (p := (rI .i64) y25) rfl rfl rfl (spec_l01Symbol_ok  h26 hWF) ?_
 intro _ o28 h27
 cases h27
 refine AOps.assignR rfl rfl rfl (rfl : _ = (AV.int .i64 y25)) rfl ?_
 refine AOps.nilR ?_
 refine AW.seq ?_
 refine AW.block ?_
 refine AW.sr ?_
 refine AOps.p rfl (rfl : _ = (AV.int .i64 y25)) ?_
 refine AOps.p rfl (rfl : _ = (AV.bool (decide ((y25 : Int) < 2)))) ?_
 refine AOps.assignR rfl rfl rfl (rfl : _ = (AV.bool (decide ((y25 : Int) < 2)))) rfl ?_
 refine AOps.nilR ?_
 rcases oite h with ⟨hc29, h⟩ | ⟨hc29, h⟩
 ·refine AW.condT (congrArg AV.bool hc29) ?_
  refine AW.sr ?_
  refine AOps.p rfl (rfl : _ = (AV.eptr [(AV.int .i64 p1.Stack), (AV.int .i64 p1.Start), (AV.sl z2 f3 e4), (AV.sl z6 f7 e8), (AV.sl z10 f11 e12), (AV.sl z14 f15 e16)] 0)) ?_
  refine AOps.p rfl (rfl : _ = (AV.eptr [(AV.int .i64 p1.Stack), (AV.int .i64 p1.Start), (AV.sl z2 f3 e4), (AV.sl z6 f7 e8), (AV.sl z10 f11 e12), (AV.sl z14 f15 e16)] 0)) ?_
  refine AOps.p rfl (rfl : _ = (AV.eptr [(AV.int .i64 p1.Stack), (AV.int .i64 p1.Start), (AV.sl z2 f3 e4), (AV.sl z6 f7 e8), (AV.sl z10 f11 e12), (AV.sl z14 f15 e16)] 3)) ?_
  refine AOps.ldE (v := (AV.sl z6 f7 e8)) rfl rfl rfl rfl rfl rfl ?_
  refine AOps.p rfl (rfl : _ = (AV.int .i64 p1_18)) ?_
  obtain ⟨x30, h31, h⟩ := obind h
  obtain ⟨v34, h32, h33⟩ := idx_sl h9 h31
  obtain ⟨z35, f36, e37, rfl, h38⟩ := h32
  refine AOps.pureR rfl rfl rfl h33 rfl (rfl : _ = (AV.eptr [(AV.sl z35 f36 e37)] 0)) ?_
  refine AOps.ldE (v := (AV.sl z35 f36 e37)) rfl rfl rfl rfl rfl rfl ?_
  refine AOps.p rfl (rfl : _ = (AV.int .i64 y25)) ?_
  obtain ⟨x39, h40, h⟩ := obind h
  obtain ⟨v43, h41, h42⟩ := idx_sl h38 h40
  obtain ⟨_, rfl, h44⟩ := h41
  obtain ⟨_, _, rfl, h45, h46⟩ := Cs_cons h44
  cases h45
  obtain ⟨_, _, rfl, h47, h48⟩ := Cs_cons h46
  cases h47
  cases Cs_nil h48
  refine AOps.pureR rfl rfl rfl h42 rfl (rfl : _ = (AV.eptr [(AV.int .i64 x39.To), (AV.int .i64 x39.Put)] 0)) ?_
  refine AOps.ldE (v := (AV.agg [(AV.int .i64 x39.To), (AV.int .i64 x39.Put)])) rfl rfl rfl rfl rfl rfl ?_
  refine AOps.allocP rfl rfl rfl rfl ⟨rfl, rfl⟩ rfl ?_
  refine AOps.stP (v := (AV.agg [(AV.int .i64 x39.To), (AV.int .i64 x39.Put)])) rfl rfl rfl rfl rfl rfl rfl rfl rfl (lt_b rfl) rfl ?_
  refine AOps.nilR ?_
  refine AW.sr ?_
  refine AOps.p rfl (rfl : _ = (AV.eptr [(AV.int .i64 x39.To), (AV.int .i64 x39.Put)] 0)) ?_
  refine AOps.ldE (v := (AV.int .i64 x39.To)) rfl rfl rfl rfl rfl rfl ?_
  refine AOps.p rfl (rfl : _ = (AV.sl z20 f21 e22)) ?_
  obtain ⟨y49, h50, h⟩ := obind h
  refine AOps.callDPO (g := 88) (args := [(AV.sl z20 f21 e22)]) (p := (rL (rI .i64) 1) y49) rfl rfl rfl (spec_l00Own_okO h23 h50 hWF.still) (fun v hv => Nice.pure (k := FINK) (p := (rL (rI .i64) 1) y49) (.L fun _ => .I) _ v hv) ?_
  intro _ h51
  obtain ⟨z52, f53, e54, rfl, h55⟩ := h51
  refine AOps.p rfl (rfl : _ = (AV.eptr [(AV.int .i64 x39.To), (AV.int .i64 x39.Put)] 1)) ?_
  refine AOps.ldE (v := (AV.int .i64 x39.Put)) rfl rfl rfl rfl rfl rfl ?_
  refine AOps.makeR rfl rfl rfl rfl rfl rfl (rfl : _ = (AV.sl 1 true [(AV.int .i64 x39.Put)])) ?_
  obtain ⟨l57, h58, h⟩ := obind h
  obtain ⟨h59, h60⟩ := app_LR h55 (LR.lit (r := rI .i64) (sz := 1) (.cons rfl .nil)) h58
  refine AOps.appL (z := z52) (f := f53) (e := e54) (z' := 1) (f' := true) (e' := [(AV.int .i64 x39.Put)]) rfl rfl rfl rfl rfl rfl rfl (appSrc_sl (LR.z (LR.lit (r := rI .i64) (sz := 1) (.cons rfl .nil))) rfl) (LR.z h55) ⟨by decide, by decide, rfl, rfl⟩ rfl rfl h60 (Or.inr ⟨30, rfl, rfl⟩) ?_
  refine AOps.assignR rfl rfl rfl (rfl : _ = (AV.int .i64 x39.To)) rfl ?_
  refine AOps.assignR rfl rfl rfl (rfl : _ = (AV.sl 1 false (e54 ++ [(AV.int .i64 x39.Put)]))) rfl ?_
  refine AOps.nilR ?_
  cases h
  exact AW.ret ⟨rfl, _, _, rfl, ⟨_, rfl, (.cons rfl (.cons ⟨_, _, _, rfl, h59⟩ .nil))⟩⟩
 refine AW.condF (congrArg AV.bool hc29) ?_
 refine AW.sr ?_
 refine AOps.p rfl (rfl : _ = (AV.int .i64 y25)) ?_
 refine AOps.p rfl (rfl : _ = (AV.bool (decide ((y25 : Int) < 4)))) ?_
 refine AOps.p rfl (rfl : _ = (AV.bool (decide ((y25 : Int) < 4)))) ?_
 refine AOps.split 4 (fun f' => ∃ tm' os', f' = ⟨updL tm' [(0, (AV.eptr [(AV.int .i64 p1.Stack), (AV.int .i64 p1.Start), (AV.sl z2 f3 e4), (AV.sl z6 f7 e8), (AV.sl z10 f11 e12), (AV.sl z14 f15 e16)] 0)), (1, (AV.int .i64 p1_18)), (2, (AV.sl z20 f21 e22)), (10, (AV.int .i64 y25)), (42, (AV.bool ((decide ((y25 : Int) < 4)) && ((p2_19.length : Int) == 0))))], updL os' [], { s with lo := s.n }⟩) ?_ ?_
 ·rcases Bool.eq_false_or_eq_true (decide ((y25 : Int) < 4)) with hc61 | hc61
  ·refine AOps.know (d := 38) rfl hc61 ?_
   refine AOps.p rfl (rfl : _ = (AV.sl z20 f21 e22)) ?_
   refine AOps.p rfl (len_eq h23) ?_
   refine AOps.p rfl (rfl : _ = (AV.bool ((p2_19.length : Int) == 0))) ?_
   refine AOps.p rfl (rfl : _ = (AV.bool ((p2_19.length : Int) == 0))) ?_
   refine AOps.resR [(0, (AV.eptr [(AV.int .i64 p1.Stack), (AV.int .i64 p1.Start), (AV.sl z2 f3 e4), (AV.sl z6 f7 e8), (AV.sl z10 f11 e12), (AV.sl z14 f15 e16)] 0)), (1, (AV.int .i64 p1_18)), (2, (AV.sl z20 f21 e22)), (10, (AV.int .i64 y25)), (42, (AV.bool ((decide ((y25 : Int) < 4)) && ((p2_19.length : Int) == 0))))] [] ?_ ?_ _ ⟨_, _, rfl⟩
   ·exact ⟨rfl, rfl, rfl, rfl, congrArg AV.bool (and_t hc61), trivial⟩
   exact trivial
  ·refine AOps.know (d := 38) rfl hc61 ?_
   refine AOps.skipR rfl rfl ?_
   refine AOps.skipR rfl rfl ?_
   refine AOps.skipR rfl rfl ?_
   refine AOps.p rfl (rfl : _ = (AV.bool false)) ?_
   refine AOps.resR [(0, (AV.eptr [(AV.int .i64 p1.Stack), (AV.int .i64 p1.Start), (AV.sl z2 f3 e4), (AV.sl z6 f7 e8), (AV.sl z10 f11 e12), (AV.sl z14 f15 e16)] 0)), (1, (AV.int .i64 p1_18)), (2, (AV.sl z20 f21 e22)), (10, (AV.int .i64 y25)), (42, (AV.bool ((decide ((y25 : Int) < 4)) && ((p2_19.length : Int) == 0))))] [] ?_ ?_ _ ⟨_, _, rfl⟩
   ·exact ⟨rfl, rfl, rfl, rfl, congrArg AV.bool (and_f hc61), trivial⟩
   exact trivial
 rintro _ ⟨tm, os, rfl⟩
 refine AOps.assignR rfl rfl rfl (rfl : _ = (AV.bool ((decide ((y25 : Int) < 4)) && ((p2_19.length : Int) == 0)))) rfl ?_
 refine AOps.nilR ?_
 rcases oite h with ⟨hc62, h⟩ | ⟨hc62, h⟩
 ·refine AW.condT (congrArg AV.bool hc62) ?_
  refine AW.sr ?_
  refine AOps.p rfl (rfl : _ = (AV.eptr [(AV.int .i64 p1.Stack), (AV.int .i64 p1.Start), (AV.sl z2 f3 e4), (AV.sl z6 f7 e8), (AV.sl z10 f11 e12), (AV.sl z14 f15 e16)] 0)) ?_
  refine AOps.p rfl (rfl : _ = (AV.eptr [(AV.int .i64 p1.Stack), (AV.int .i64 p1.Start), (AV.sl z2 f3 e4), (AV.sl z6 f7 e8), (AV.sl z10 f11 e12), (AV.sl z14 f15 e16)] 0)) ?_
  refine AOps.p rfl (rfl : _ = (AV.eptr [(AV.int .i64 p1.Stack), (AV.int .i64 p1.Start), (AV.sl z2 f3 e4), (AV.sl z6 f7 e8), (AV.sl z10 f11 e12), (AV.sl z14 f15 e16)] 4)) ?_
  refine AOps.ldE (v := (AV.sl z10 f11 e12)) rfl rfl rfl rfl rfl rfl ?_
  refine AOps.p rfl (rfl : _ = (AV.int .i64 p1_18)) ?_
  obtain ⟨x63, h64, h⟩ := obind h
  obtain ⟨v67, h65, h66⟩ := idx_sl h13 h64
  obtain ⟨z68, f69, e70, rfl, h71⟩ := h65
  refine AOps.pureR rfl rfl rfl h66 rfl (rfl : _ = (AV.eptr [(AV.sl z68 f69 e70)] 0)) ?_
  refine AOps.ldE (v := (AV.sl z68 f69 e70)) rfl rfl rfl rfl rfl rfl ?_
  refine AOps.p rfl (rfl : _ = (AV.int .i64 y25)) ?_
  refine AOps.p rfl (rfl : _ = (AV.int .i64 (IntKind.wrap .i64 (y25 - 2)))) ?_
  obtain ⟨x72, h73, h⟩ := obind h
  obtain ⟨v76, h74, h75⟩ := idx_sl h71 h73
  obtain ⟨z77, f78, e79, rfl, h80⟩ := h74
  refine AOps.pureR rfl rfl rfl h75 rfl (rfl : _ = (AV.eptr [(AV.sl z77 f78 e79)] 0)) ?_
  refine AOps.ldE (v := (AV.sl z77 f78 e79)) rfl rfl rfl rfl rfl rfl ?_
  refine AOps.p rfl (rfl : _ = (AV.eptr [(AV.int .i64 p1.Stack), (AV.int .i64 p1.Start), (AV.sl z2 f3 e4), (AV.sl z6 f7 e8), (AV.sl z10 f11 e12), (AV.sl z14 f15 e16)] 0)) ?_
  refine AOps.p rfl (rfl : _ = (AV.eptr [(AV.int .i64 p1.Stack), (AV.int .i64 p1.Start), (AV.sl z2 f3 e4), (AV.sl z6 f7 e8), (AV.sl z10 f11 e12), (AV.sl z14 f15 e16)] 0)) ?_
  refine AOps.p rfl (rfl : _ = (AV.eptr [(AV.int .i64 p1.Stack), (AV.int .i64 p1.Start), (AV.sl z2 f3 e4), (AV.sl z6 f7 e8), (AV.sl z10 f11 e12), (AV.sl z14 f15 e16)] 0)) ?_
  refine AOps.ldE (v := (AV.int .i64 p1.Stack)) rfl rfl rfl rfl rfl rfl ?_
  obtain ⟨x81, h82, h⟩ := obind h
  obtain ⟨v85, h83, h84⟩ := idx_sl h80 h82
  cases h83
  refine AOps.pureR rfl rfl rfl h84 rfl (rfl : _ = (AV.eptr [(AV.int .i64 x81)] 0)) ?_
  refine AOps.ldE (v := (AV.int .i64 x81)) rfl rfl rfl rfl rfl rfl ?_
  refine AOps.makeR rfl rfl rfl rfl rfl rfl (rfl : _ = (AV.sl 1 true [])) ?_
  refine AOps.assignR rfl rfl rfl (rfl : _ = (AV.int .i64 x81)) rfl ?_
  refine AOps.assignR rfl rfl rfl (rfl : _ = (AV.sl 1 true [])) rfl ?_
  refine AOps.nilR ?_
  cases h
  exact AW.ret ⟨rfl, _, _, rfl, ⟨_, rfl, (.cons rfl (.cons ⟨_, _, _, rfl, ⟨.inl rfl, .nil⟩⟩ .nil))⟩⟩
 refine AW.condF (congrArg AV.bool hc62) ?_
 refine AW.sr ?_
 refine AOps.p rfl (rfl : _ = (AV.int .i64 y25)) ?_
 refine AOps.p rfl (rfl : _ = (AV.bool (decide ((y25 : Int) < 4)))) ?_
 refine AOps.assignR rfl rfl rfl (rfl : _ = (AV.bool (decide ((y25 : Int) < 4)))) rfl ?_
 refine AOps.nilR ?_
 rcases oite h with ⟨hc86, h⟩ | ⟨hc86, h⟩
 ·refine AW.condT (congrArg AV.bool hc86) ?_
  refine AW.sr ?_
  refine AOps.p rfl (rfl : _ = (AV.eptr [(AV.int .i64 p1.Stack), (AV.int .i64 p1.Start), (AV.sl z2 f3 e4), (AV.sl z6 f7 e8), (AV.sl z10 f11 e12), (AV.sl z14 f15 e16)] 0)) ?_
  refine AOps.p rfl (rfl : _ = (AV.eptr [(AV.int .i64 p1.Stack), (AV.int .i64 p1.Start), (AV.sl z2 f3 e4), (AV.sl z6 f7 e8), (AV.sl z10 f11 e12), (AV.sl z14 f15 e16)] 0)) ?_
  refine AOps.p rfl (rfl : _ = (AV.eptr [(AV.int .i64 p1.Stack), (AV.int .i64 p1.Start), (AV.sl z2 f3 e4), (AV.sl z6 f7 e8), (AV.sl z10 f11 e12), (AV.sl z14 f15 e16)] 4)) ?_
  refine AOps.ldE (v := (AV.sl z10 f11 e12)) rfl rfl rfl rfl rfl rfl ?_
  refine AOps.p rfl (rfl : _ = (AV.int .i64 p1_18)) ?_
  obtain ⟨x87, h88, h⟩ := obind h
  obtain ⟨v91, h89, h90⟩ := idx_sl h13 h88
  obtain ⟨z92, f93, e94, rfl, h95⟩ := h89
  refine AOps.pureR rfl rfl rfl h90 rfl (rfl : _ = (AV.eptr [(AV.sl z92 f93 e94)] 0)) ?_
  refine AOps.ldE (v := (AV.sl z92 f93 e94)) rfl rfl rfl rfl rfl rfl ?_
  refine AOps.p rfl (rfl : _ = (AV.int .i64 y25)) ?_
  refine AOps.p rfl (rfl : _ = (AV.int .i64 (IntKind.wrap .i64 (y25 - 2)))) ?_
  obtain ⟨x96, h97, h⟩ := obind h
  obtain ⟨v100, h98, h99⟩ := idx_sl h95 h97
  obtain ⟨z101, f102, e103, rfl, h104⟩ := h98
  refine AOps.pureR rfl rfl rfl h99 rfl (rfl : _ = (AV.eptr [(AV.sl z101 f102 e103)] 0)) ?_
  refine AOps.ldE (v := (AV.sl z101 f102 e103)) rfl rfl rfl rfl rfl rfl ?_
  refine AOps.p rfl (rfl : _ = (AV.sl z20 f21 e22)) ?_
  refine AOps.p rfl (rfl : _ = (AV.sl z20 f21 e22)) ?_
  refine AOps.p rfl (len_eq h23) ?_
  refine AOps.p rfl (rfl : _ = (AV.int .i64 (IntKind.wrap .i64 ((p2_19.length : Int) - 1)))) ?_
  obtain ⟨x105, h106, h⟩ := obind h
  obtain ⟨v109, h107, h108⟩ := idx_sl h23 h106
  cases h107
  refine AOps.pureR rfl rfl rfl h108 rfl (rfl : _ = (AV.eptr [(AV.int .i64 x105)] 0)) ?_
  refine AOps.ldE (v := (AV.int .i64 x105)) rfl rfl rfl rfl rfl rfl ?_
  obtain ⟨x110, h111, h⟩ := obind h
  obtain ⟨v114, h112, h113⟩ := idx_sl h104 h111
  cases h112
  refine AOps.pureR rfl rfl rfl h113 rfl (rfl : _ = (AV.eptr [(AV.int .i64 x110)] 0)) ?_
  refine AOps.ldE (v := (AV.int .i64 x110)) rfl rfl rfl rfl rfl rfl ?_
  refine AOps.p rfl (rfl : _ = (AV.sl z20 f21 e22)) ?_
  refine AOps.p rfl (rfl : _ = (AV.sl z20 f21 e22)) ?_
  refine AOps.p rfl (len_eq h23) ?_
  refine AOps.p rfl (rfl : _ = (AV.int .i64 (IntKind.wrap .i64 ((p2_19.length : Int) - 1)))) ?_
  obtain ⟨l115, h116, h⟩ := obind h
  obtain ⟨f117, e118, h119, h120⟩ := cut_slH f21 h23 h116
  refine AOps.pureR rfl rfl rfl h120 rfl (rfl : _ = (AV.sl z20 f117 e118)) ?_
  obtain ⟨y121, h122, h⟩ := obind h
  refine AOps.callDPO (g := 88) (args := [(AV.sl z20 f117 e118)]) (p := (rL (rI .i64) 1) y121) rfl rfl rfl (spec_l00Own_okO h119 h122 hWF.still) (fun v hv => Nice.pure (k := FINK) (p := (rL (rI .i64) 1) y121) (.L fun _ => .I) _ v hv) ?_
  intro _ h123
  obtain ⟨z124, f125, e126, rfl, h127⟩ := h123
  refine AOps.assignR rfl rfl rfl (rfl : _ = (AV.int .i64 x110)) rfl ?_
  refine AOps.assignR rfl rfl rfl (rfl : _ = (AV.sl z124 f125 e126)) rfl ?_
  refine AOps.nilR ?_
  cases h
  exact AW.ret ⟨rfl, _, _, rfl, ⟨_, rfl, (.cons rfl (.cons ⟨_, _, _, rfl, h127⟩ .nil))⟩⟩
 refine AW.condF (congrArg AV.bool hc86) ?_
 refine AW.skip ?_
 refine AW.inBlock ?_
 refine AW.sr ?_
 refine AOps.p rfl (rfl : _ = (AV.eptr [(AV.int .i64 p1.Stack), (AV.int .i64 p1.Start), (AV.sl z2 f3 e4), (AV.sl z6 f7 e8), (AV.sl z10 f11 e12), (AV.sl z14 f15 e16)] 0)) ?_
 refine AOps.p rfl (rfl : _ = (AV.eptr [(AV.int .i64 p1.Stack), (AV.int .i64 p1.Start), (AV.sl z2 f3 e4), (AV.sl z6 f7 e8), (AV.sl z10 f11 e12), (AV.sl z14 f15 e16)] 0)) ?_
 refine AOps.p rfl (rfl : _ = (AV.eptr [(AV.int .i64 p1.Stack), (AV.int .i64 p1.Start), (AV.sl z2 f3 e4), (AV.sl z6 f7 e8), (AV.sl z10 f11 e12), (AV.sl z14 f15 e16)] 5)) ?_
 refine AOps.ldE (v := (AV.sl z14 f15 e16)) rfl rfl rfl rfl rfl rfl ?_
 refine AOps.p rfl (rfl : _ = (AV.int .i64 p1_18)) ?_
 obtain ⟨x129, h130, h⟩ := obind h
 obtain ⟨v133, h131, h132⟩ := idx_sl h17 h130
 obtain ⟨z134, f135, e136, rfl, h137⟩ := h131
 refine AOps.pureR rfl rfl rfl h132 rfl (rfl : _ = (AV.eptr [(AV.sl z134 f135 e136)] 0)) ?_
 refine AOps.ldE (v := (AV.sl z134 f135 e136)) rfl rfl rfl rfl rfl rfl ?_
 refine AOps.p rfl (rfl : _ = (AV.int .i64 y25)) ?_
 refine AOps.p rfl (rfl : _ = (AV.int .i64 (IntKind.wrap .i64 (y25 - 4)))) ?_
 obtain ⟨x138, h139, h⟩ := obind h
 obtain ⟨v142, h140, h141⟩ := idx_sl h137 h139
 cases h140
 refine AOps.pureR rfl rfl rfl h141 rfl (rfl : _ = (AV.eptr [(AV.int .i64 x138)] 0)) ?_
 refine AOps.ldE (v := (AV.int .i64 x138)) rfl rfl rfl rfl rfl rfl ?_
 refine AOps.p rfl (rfl : _ = (AV.sl z20 f21 e22)) ?_
 refine AOps.assignR rfl rfl rfl (rfl : _ = (AV.int .i64 x138)) rfl ?_
 refine AOps.assignR rfl rfl rfl (rfl : _ = (AV.sl z20 f21 e22)) rfl ?_
 refine AOps.nilR ?_
 cases h
 exact AW.ret ⟨rfl, _, _, rfl, ⟨_, rfl, (.cons rfl (.cons ⟨_, _, _, rfl, h23⟩ .nil))⟩⟩
theorem spec_l02Go_ok {c1 : Checker} {state18 : Int} {stack19 : List Int} {w24 : List UInt8} {z2 : Nat} {f3 : Bool} {e4 : List AV} {z6 : Nat} {f7 : Bool} {e8 : List AV} {z10 : Nat} {f11 : Bool} {e12 : List AV} {z14 : Nat} {f15 : Bool} {e16 : List AV} {z20 : Nat} {f21 : Bool} {e22 : List AV} {s : St} (h5 : LR rB 1 c1.Accept z2 e4) (h9 : LR (rL rPush 2) 1 c1.Call z6 e8) (h13 : LR (rL (rL (rI .i64) 1) 1) 1 c1.Return z10 e12) (h17 : LR (rL (rI .i64) 1) 1 c1.Inner z14 e16) (h23 : LR (rI .i64) 1 stack19 z20 e22) {r : Int × (List Int)} (h : spec_l02Go c1 state18 stack19 w24 = some r) (hs : WF s) : ACall Cf 77 [(AV.eptr [(AV.int .i64 c1.Stack), (AV.int .i64 c1.Start), (AV.sl z2 f3 e4), (AV.sl z6 f7 e8), (AV.sl z10 f11 e12), (AV.sl z14 f15 e16)] 0), (AV.int .i64 state18), (AV.sl z20 f21 e22), (AV.str w24)] s fun v _ s' => (fun x => rT [(rI .i64) x.1, (rL (rI .i64) 1) x.2]) r v ∧ s' = s := by
 refine ACall.pure rfl rfl rfl (.T (.cons .I (.cons (.L fun _ => .I) .nil))) ?_
 have hWF := hs.lo'
 unfold spec_l02Go at h
 refine AW.sr ?_
 refine AOps.p rfl (rfl : _ = (AV.int .i64 0)) ?_
 refine AOps.p rfl (rfl : _ = (AV.sl 0 true [])) ?_
 refine AOps.nilR ?_
 refine AW.seq ?_
 refine AW.sr ?_
 refine AOps.p rfl (rfl : _ = (AV.int .i64 0)) ?_
 refine AOps.nilR ?_
 refine AW.meet (σ := Int × (List Int) × Nat × Bool × (List AV)) (fun (state25, stack26, z27, f28, e29) tm os => ⟨updL tm [(1, (AV.int .i64 state25)), (2, (AV.sl z27 f28 e29))], updL os [], { s with lo := s.n }⟩) (fun (state25, stack26, z27, f28, e29) => (LR (rI .i64) 1 stack26 z27 e29) ∧ spec_l02Go_J1 state25 stack26 = some r) ?_ ?_
 ·rintro ⟨state25, stack26, z27, f28, e29⟩ tm os ⟨h30, h⟩
  unfold spec_l02Go_J1 at h
  refine AW.sr ?_
  refine AOps.p rfl (rfl : _ = (AV.int .i64 state25)) ?_
  refine AOps.p rfl (rfl : _ = (AV.sl z27 f28 e29)) ?_
  refine AOps.assignR rfl rfl rfl (rfl : _ = (AV.int .i64 state25)) rfl ?_
  refine AOps.assignR rfl rfl rfl (rfl : _ = (AV.sl z27 f28 e29)) rfl ?_
  refine AOps.nilR ?_
  cases h
  exact AW.ret ⟨rfl, _, _, rfl, ⟨_, rfl, (.cons rfl (.cons ⟨_, _, _, rfl, h30⟩ .nil))⟩⟩
 intro KJ31
 refine AW.block ?_
 refine AW.res [(0, (AV.eptr [(AV.int .i64 c1.Stack), (AV.int .i64 c1.Start), (AV.sl z2 f3 e4), (AV.sl z6 f7 e8), (AV.sl z10 f11 e12), (AV.sl z14 f15 e16)] 0)), (1, (AV.int .i64 state18)), (2, (AV.sl z20 f21 e22)), (3, (AV.str w24)), (10, (AV.int .i64 0))] [] ⟨rfl, rfl, rfl, rfl, rfl, trivial⟩ trivial ?_
 refine AW.loopF (σ := Int × (List Int) × Int) (τ := Nat × Bool × (List AV)) (fun (state32, stack33, i38) (z34, f35, e36) => (LR (rI .i64) 1 stack33 z34 e36)) (fun (state32, stack33, i38) (z34, f35, e36) tm os => ⟨updL tm [(0, (AV.eptr [(AV.int .i64 c1.Stack), (AV.int .i64 c1.Start), (AV.sl z2 f3 e4), (AV.sl z6 f7 e8), (AV.sl z10 f11 e12), (AV.sl z14 f15 e16)] 0)), (1, (AV.int .i64 state32)), (2, (AV.sl z34 f35 e36)), (3, (AV.str w24)), (10, (AV.int .i64 i38))], updL os [], { s with lo := s.n }⟩) ?_ (x := (state18, stack19, 0)) (y := (z20, f21, e22)) h h23
 clear h
 rintro ⟨state32, stack33, i38⟩ ⟨z34, f35, e36⟩ tm os h37 e1 h hL1 hR1
 unfold spec_l02Go_S1 at h
 dsimp only at h
 refine AW.seq ?_
 refine AW.sr ?_
 refine AOps.p rfl (rfl : _ = (AV.int .i64 i38)) ?_
 refine AOps.p rfl (rfl : _ = (AV.str w24)) ?_
 refine AOps.p rfl (rfl : _ = (AV.int .i64 (w24.length : Int))) ?_
 refine AOps.p rfl (rfl : _ = (AV.bool (decide ((i38 : Int) < (w24.length : Int))))) ?_
 refine AOps.nilR ?_
 rcases oite h with ⟨hc39, h⟩ | ⟨hc39, h⟩
 ·refine AW.condT (congrArg AV.bool hc39) ?_
  refine AW.skip ?_
  refine AW.seq ?_
  refine AW.block ?_
  refine AW.region ?_
  refine AOps.p rfl (rfl : _ = (AV.eptr [(AV.int .i64 c1.Stack), (AV.int .i64 c1.Start), (AV.sl z2 f3 e4), (AV.sl z6 f7 e8), (AV.sl z10 f11 e12), (AV.sl z14 f15 e16)] 0)) ?_
  refine AOps.p rfl (rfl : _ = (AV.int .i64 state32)) ?_
  refine AOps.p rfl (rfl : _ = (AV.sl z34 f35 e36)) ?_
  refine AOps.p rfl (rfl : _ = (AV.str w24)) ?_
  refine AOps.p rfl (rfl : _ = (AV.int .i64 i38)) ?_
  obtain ⟨c40, h41, h⟩ := obind h
  refine AOps.pureR rfl rfl rfl (chr_str h41) rfl (rfl : _ = (AV.int .u8 c40)) ?_
  obtain ⟨y42, h43, h⟩ := obind h
  refine AOps.callP (g := 85) (args := [(AV.eptr [(AV.int .i64 c1.Stack), (AV.int .i64 c1.Start), (AV.sl z2 f3 e4), (AV.sl z6 f7 e8), (AV.sl z10 f11 e12), (AV.sl z14 f15 e16)] 0), (AV.int .i64 state32), (AV.sl z34 f35 e36), (AV.int .u8 c40)]) (p := (fun x => rT [(rI .i64) x.1, (rL (rI .i64) 1) x.2]) y42) rfl rfl rfl (spec_l02Step_ok h5 h9 h13 h17 h37 h43 hWF) ?_
  intro _ o54 h44
  obtain ⟨_, rfl, h45⟩ := h44
  obtain ⟨_, _, rfl, h46, h47⟩ := Cs_cons h45
  cases h46
  obtain ⟨_, _, rfl, h48, h49⟩ := Cs_cons h47
  obtain ⟨z50, f51, e52, rfl, h53⟩ := h48
  cases Cs_nil h49
  refine AOps.p rfl (rfl : _ = (AV.tup [(AV.int .i64 y42.1), (AV.sl z50 f51 e52)])) ?_
  refine AOps.p rfl (rfl : _ = (AV.int .i64 y42.1)) ?_
  refine AOps.p rfl (rfl : _ = (AV.sl z50 f51 e52)) ?_
  refine AOps.assignR rfl rfl rfl (rfl : _ = (AV.int .i64 y42.1)) rfl ?_
  refine AOps.assignR rfl rfl rfl (rfl : _ = (AV.sl z50 f51 e52)) rfl ?_
  refine AOps.nilR ?_
  refine AW.inBlock ?_
  refine AW.region ?_
  refine AOps.p rfl (rfl : _ = (AV.int .i64 i38)) ?_
  refine AOps.p rfl (rfl : _ = (AV.int .i64 (IntKind.wrap .i64 (i38 + 1)))) ?_
  refine AOps.assignR rfl rfl rfl (rfl : _ = (AV.int .i64 (IntKind.wrap .i64 (i38 + 1)))) rfl ?_
  refine AOps.nilR ?_
  cases h
  exact AW.res [(0, (AV.eptr [(AV.int .i64 c1.Stack), (AV.int .i64 c1.Start), (AV.sl z2 f3 e4), (AV.sl z6 f7 e8), (AV.sl z10 f11 e12), (AV.sl z14 f15 e16)] 0)), (1, (AV.int .i64 y42.1)), (2, (AV.sl z50 f51 e52)), (3, (AV.str w24)), (10, (AV.int .i64 (IntKind.wrap .i64 (i38 + 1))))] [] ⟨rfl, rfl, rfl, rfl, rfl, trivial⟩ trivial (hL1 _ rfl (z50, f51, e52) _ _ h53)
 refine AW.condF (congrArg AV.bool hc39) ?_
 refine AW.exit rfl ?_
 obtain ⟨r55, hm, hx⟩ := omap h
 clear h
 subst hx
 have hx := hR1 _ rfl
 rw [hx] at hm
 have h := hm
 exact AW.res [(1, (AV.int .i64 state32)), (2, (AV.sl z34 f35 e36))] [] ⟨rfl, rfl, trivial⟩ trivial (KJ31 (state32, stack33, z34, f35, e36) _ _ ⟨h37, h⟩)
theorem spec_l02Takes_ok {c1 : Checker} {w18 : List UInt8} {z2 : Nat} {f3 : Bool} {e4 : List AV} {z6 : Nat} {f7 : Bool} {e8 : List AV} {z10 : Nat} {f11 : Bool} {e12 : List AV} {z14 : Nat} {f15 : Bool} {e16 : List AV} {s : St} (h5 : LR rB 1 c1.Accept z2 e4) (h9 : LR (rL rPush 2) 1 c1.Call z6 e8) (h13 : LR (rL (rL (rI .i64) 1) 1) 1 c1.Return z10 e12) (h17 : LR (rL (rI .i64) 1) 1 c1.Inner z14 e16) {r : Bool} (h : spec_l02Takes c1 w18 = some r) (hs : WF s) : ACall Cf 51 [(AV.eptr [(AV.int .i64 c1.Stack), (AV.int .i64 c1.Start), (AV.sl z2 f3 e4), (AV.sl z6 f7 e8), (AV.sl z10 f11 e12), (AV.sl z14 f15 e16)] 0), (AV.str w18)] s fun v _ s' => (rB) r v ∧ s' = s := by
 refine ACall.pure rfl rfl rfl .B ?_
 have hWF := hs.lo'
 unfold spec_l02Takes at h
 refine AW.sr ?_
 refine AOps.p rfl (rfl : _ = (AV.bool false)) ?_
 refine AOps.nilR ?_
 refine AW.sr ?_
 refine AOps.p rfl (rfl : _ = (AV.eptr [(AV.int .i64 c1.Stack), (AV.int .i64 c1.Start), (AV.sl z2 f3 e4), (AV.sl z6 f7 e8), (AV.sl z10 f11 e12), (AV.sl z14 f15 e16)] 0)) ?_
 refine AOps.p rfl (rfl : _ = (AV.eptr [(AV.int .i64 c1.Stack), (AV.int .i64 c1.Start), (AV.sl z2 f3 e4), (AV.sl z6 f7 e8), (AV.sl z10 f11 e12), (AV.sl z14 f15 e16)] 0)) ?_
 refine AOps.p rfl (rfl : _ = (AV.eptr [(AV.int .i64 c1.Stack), (AV.int .i64 c1.Start), (AV.sl z2 f3 e4), (AV.sl z6 f7 e8), (AV.sl z10 f11 e12), (AV.sl z14 f15 e16)] 0)) ?_
 refine AOps.p rfl (rfl : _ = (AV.eptr [(AV.int .i64 c1.Stack), (AV.int .i64 c1.Start), (AV.sl z2 f3 e4), (AV.sl z6 f7 e8), (AV.sl z10 f11 e12), (AV.sl z14 f15 e16)] 1)) ?_
 refine AOps.ldE (v := (AV.int .i64 c1.Start)) rfl rfl rfl rfl rfl rfl ?_
 refine AOps.makeR rfl rfl rfl rfl rfl rfl (rfl : _ = (AV.sl 1 true [])) ?_
 refine AOps.p rfl (rfl : _ = (AV.str w18)) ?_
 obtain ⟨y19, h20, h⟩ := obind h
 refine AOps.callP (g := 77) (args := [(AV.eptr [(AV.int .i64 c1.Stack), (AV.int .i64 c1.Start), (AV.sl z2 f3 e4), (AV.sl z6 f7 e8), (AV.sl z10 f11 e12), (AV.sl z14 f15 e16)] 0), (AV.int .i64 c1.Start), (AV.sl 1 true []), (AV.str w18)]) (p := (fun x => rT [(rI .i64) x.1, (rL (rI .i64) 1) x.2]) y19) rfl rfl rfl (spec_l02Go_ok h5 h9 h13 h17 (⟨.inl rfl, .nil⟩) h20 hWF) ?_
 intro _ o31 h21
 obtain ⟨_, rfl, h22⟩ := h21
 obtain ⟨_, _, rfl, h23, h24⟩ := Cs_cons h22
 cases h23
 obtain ⟨_, _, rfl, h25, h26⟩ := Cs_cons h24
 obtain ⟨z27, f28, e29, rfl, h30⟩ := h25
 cases Cs_nil h26
 refine AOps.p rfl (rfl : _ = (AV.tup [(AV.int .i64 y19.1), (AV.sl z27 f28 e29)])) ?_
 refine AOps.p rfl (rfl : _ = (AV.int .i64 y19.1)) ?_
 refine AOps.p rfl (rfl : _ = (AV.sl z27 f28 e29)) ?_
 refine AOps.assignR rfl rfl rfl (rfl : _ = (AV.int .i64 y19.1)) rfl ?_
 refine AOps.assignR rfl rfl rfl (rfl : _ = (AV.sl z27 f28 e29)) rfl ?_
 refine AOps.nilR ?_
 refine AW.sr ?_
 refine AOps.p rfl (rfl : _ = (AV.eptr [(AV.int .i64 c1.Stack), (AV.int .i64 c1.Start), (AV.sl z2 f3 e4), (AV.sl z6 f7 e8), (AV.sl z10 f11 e12), (AV.sl z14 f15 e16)] 0)) ?_
 refine AOps.p rfl (rfl : _ = (AV.eptr [(AV.int .i64 c1.Stack), (AV.int .i64 c1.Start), (AV.sl z2 f3 e4), (AV.sl z6 f7 e8), (AV.sl z10 f11 e12), (AV.sl z14 f15 e16)] 0)) ?_
 refine AOps.p rfl (rfl : _ = (AV.eptr [(AV.int .i64 c1.Stack), (AV.int .i64 c1.Start), (AV.sl z2 f3 e4), (AV.sl z6 f7 e8), (AV.sl z10 f11 e12), (AV.sl z14 f15 e16)] 2)) ?_
 refine AOps.ldE (v := (AV.sl z2 f3 e4)) rfl rfl rfl rfl rfl rfl ?_
 refine AOps.p rfl (rfl : _ = (AV.int .i64 y19.1)) ?_
 obtain ⟨x32, h33, h⟩ := obind h
 obtain ⟨v36, h34, h35⟩ := idx_sl h5 h33
 cases h34
 refine AOps.pureR rfl rfl rfl h35 rfl (rfl : _ = (AV.eptr [(AV.bool x32)] 0)) ?_
 refine AOps.ldE (v := (AV.bool x32)) rfl rfl rfl rfl rfl rfl ?_
 refine AOps.assignR rfl rfl rfl (rfl : _ = (AV.bool x32)) rfl ?_
 refine AOps.nilR ?_
 cases h
 exact AW.ret ⟨rfl, _, _, rfl, rfl⟩
theorem spec_l04Row_ok {c1 : Checker} {u18 : List UInt8} {list19 : List Context} {z2 : Nat} {f3 : Bool} {e4 : List AV} {z6 : Nat} {f7 : Bool} {e8 : List AV} {z10 : Nat} {f11 : Bool} {e12 : List AV} {z14 : Nat} {f15 : Bool} {e16 : List AV} {z20 : Nat} {f21 : Bool} {e22 : List AV} {s : St} (h5 : LR rB 1 c1.Accept z2 e4) (h9 : LR (rL rPush 2) 1 c1.Call z6 e8) (h13 : LR (rL (rL (rI .i64) 1) 1) 1 c1.Return z10 e12) (h17 : LR (rL (rI .i64) 1) 1 c1.Inner z14 e16) (h23 : LR rContext 2 list19 z20 e22) {r : (List Bool) × Bool} (h : spec_l04Row c1 u18 list19 = some r) (hs : WF s) : ACall Cf 25 [(AV.eptr [(AV.int .i64 c1.Stack), (AV.int .i64 c1.Start), (AV.sl z2 f3 e4), (AV.sl z6 f7 e8), (AV.sl z10 f11 e12), (AV.sl z14 f15 e16)] 0), (AV.str u18), (AV.sl z20 f21 e22)] s fun v _ s' => (fun x => rT [(rL rB 1) x.1, rB x.2]) r v ∧ s' = s := by
 refine ACall.pure rfl rfl rfl (.T (.cons (.L fun _ => .B) (.cons .B .nil))) ?_
 have hWF := hs.lo'
 unfold spec_l04Row at h
 refine AW.sr ?_
 refine AOps.p rfl (rfl : _ = (AV.sl 0 true [])) ?_
 refine AOps.p rfl (rfl : _ = (AV.bool false)) ?_
 refine AOps.nilR ?_
 refine AW.sr ?_
 refine AOps.makeR rfl rfl rfl rfl rfl rfl (rfl : _ = (AV.sl 1 true [])) ?_
 refine AOps.assignR rfl rfl rfl (rfl : _ = (AV.sl 1 true [])) rfl ?_
 refine AOps.nilR ?_
 refine AW.seq ?_
 refine AW.sr ?_
 refine AOps.p rfl (rfl : _ = (AV.int .i64 0)) ?_
 refine AOps.nilR ?_
 refine AW.meet (σ := (List Bool) × Nat × Bool × (List AV) × Bool) (fun (out24, z25, f26, e27, o29) tm os => ⟨updL tm [(8, (AV.sl z25 f26 e27))], updL os [(8, o29)], { s with lo := s.n }⟩) (fun (out24, z25, f26, e27, o29) => (LR rB 1 out24 z25 e27) ∧ (f26 = true ∨ o29 = true) ∧ spec_l04Row_J1 out24 = some r) ?_ ?_
 ·rintro ⟨out24, z25, f26, e27, o29⟩ tm os ⟨h28, h30, h⟩
  unfold spec_l04Row_J1 at h
  refine AW.sr ?_
  refine AOps.p rfl (rfl : _ = (AV.sl z25 f26 e27)) ?_
  refine AOps.assignR rfl rfl rfl (rfl : _ = (AV.sl z25 f26 e27)) rfl ?_
  refine AOps.p rfl (rfl : _ = (AV.bool true)) ?_
  refine AOps.nilR ?_
  cases h
  exact AW.ret ⟨rfl, _, _, rfl, ⟨_, rfl, (.cons ⟨_, _, _, rfl, h28⟩ (.cons rfl .nil))⟩⟩
 intro KJ31
 refine AW.block ?_
 refine AW.res [(0, (AV.eptr [(AV.int .i64 c1.Stack), (AV.int .i64 c1.Start), (AV.sl z2 f3 e4), (AV.sl z6 f7 e8), (AV.sl z10 f11 e12), (AV.sl z14 f15 e16)] 0)), (1, (AV.str u18)), (2, (AV.sl z20 f21 e22)), (8, (AV.sl 1 true [])), (9, (AV.int .i64 0))] [(8, false)] ⟨rfl, rfl, rfl, rfl, rfl, trivial⟩ ⟨rfl, trivial⟩ ?_
 refine AW.loopF (σ := (List Bool) × Int) (τ := Nat × Bool × (List AV) × Bool) (fun (out32, i39) (z33, f34, e35, o37) => (LR rB 1 out32 z33 e35) ∧ (f34 = true ∨ o37 = true)) (fun (out32, i39) (z33, f34, e35, o37) tm os => ⟨updL tm [(0, (AV.eptr [(AV.int .i64 c1.Stack), (AV.int .i64 c1.Start), (AV.sl z2 f3 e4), (AV.sl z6 f7 e8), (AV.sl z10 f11 e12), (AV.sl z14 f15 e16)] 0)), (1, (AV.str u18)), (2, (AV.sl z20 f21 e22)), (8, (AV.sl z33 f34 e35)), (9, (AV.int .i64 i39))], updL os [(8, o37)], { s with lo := s.n }⟩) ?_ (x := (([] : List Bool), 0)) (y := (1, true, [], false)) h ⟨⟨.inl rfl, .nil⟩, (Or.inl rfl)⟩
 clear h
 rintro ⟨out32, i39⟩ ⟨z33, f34, e35, o37⟩ tm os ⟨h36, h38⟩ e1 h hL1 hR1
 unfold spec_l04Row_S1 at h
 dsimp only at h
 refine AW.seq ?_
 refine AW.sr ?_
 refine AOps.p rfl (rfl : _ = (AV.int .i64 i39)) ?_
 refine AOps.p rfl (rfl : _ = (AV.sl z20 f21 e22)) ?_
 refine AOps.p rfl (len_eq h23) ?_
 refine AOps.p rfl (rfl : _ = (AV.bool (decide ((i39 : Int) < (list19.length : Int))))) ?_
 refine AOps.nilR ?_
 rcases oite h with ⟨hc40, h⟩ | ⟨hc40, h⟩
 ·refine AW.condT (congrArg AV.bool hc40) ?_
  refine AW.skip ?_
  refine AW.seq ?_
  refine AW.block ?_
  refine AW.sr ?_
  refine AOps.p rfl (rfl : _ = (AV.sl z20 f21 e22)) ?_
  refine AOps.p rfl (rfl : _ = (AV.int .i64 i39)) ?_
  obtain ⟨x41, h42, h⟩ := obind h
  obtain ⟨v45, h43, h44⟩ := idx_sl h23 h42
  obtain ⟨_, rfl, h46⟩ := h43
  obtain ⟨_, _, rfl, h47, h48⟩ := Cs_cons h46
  cases h47
  obtain ⟨_, _, rfl, h49, h50⟩ := Cs_cons h48
  cases h49
  cases Cs_nil h50
  refine AOps.pureR rfl rfl rfl h44 rfl (rfl : _ = (AV.eptr [(AV.str x41.Front), (AV.str x41.Back)] 0)) ?_
  refine AOps.p rfl (rfl : _ = (AV.eptr [(AV.str x41.Front), (AV.str x41.Back)] 0)) ?_
  refine AOps.ldE (v := (AV.str x41.Front)) rfl rfl rfl rfl rfl rfl ?_
  refine AOps.p rfl (rfl : _ = (AV.str u18)) ?_
  obtain ⟨w51, h52, h⟩ := obind h
  refine AOps.pureR rfl rfl rfl (add_str h52) rfl (rfl : _ = (AV.str w51)) ?_
  refine AOps.p rfl (rfl : _ = (AV.sl z20 f21 e22)) ?_
  refine AOps.p rfl (rfl : _ = (AV.int .i64 i39)) ?_
  obtain ⟨x53, h54, h⟩ := obind h
  obtain ⟨v57, h55, h56⟩ := idx_sl h23 h54
  obtain ⟨_, rfl, h58⟩ := h55
  obtain ⟨_, _, rfl, h59, h60⟩ := Cs_cons h58
  cases h59
  obtain ⟨_, _, rfl, h61, h62⟩ := Cs_cons h60
  cases h61
  cases Cs_nil h62
  refine AOps.pureR rfl rfl rfl h56 rfl (rfl : _ = (AV.eptr [(AV.str x53.Front), (AV.str x53.Back)] 0)) ?_
  refine AOps.p rfl (rfl : _ = (AV.eptr [(AV.str x53.Front), (AV.str x53.Back)] 1)) ?_
  refine AOps.ldE (v := (AV.str x53.Back)) rfl rfl rfl rfl rfl rfl ?_
  obtain ⟨w63, h64, h⟩ := obind h
  refine AOps.pureR rfl rfl rfl (add_str h64) rfl (rfl : _ = (AV.str w63)) ?_
  refine AOps.assignR rfl rfl rfl (rfl : _ = (AV.str w63)) rfl ?_
  refine AOps.nilR ?_
  refine AW.seq ?_
  refine AW.sr ?_
  refine AOps.p rfl (rfl : _ = (AV.str w63)) ?_
  refine AOps.p rfl (rfl : _ = (AV.int .i64 (w63.length : Int))) ?_
  refine AOps.p rfl (rfl : _ = (AV.bool (decide (((w63.length : Int) : Int) > 60)))) ?_
  refine AOps.nilR ?_
  rcases oite h with ⟨hc65, h⟩ | ⟨hc65, h⟩
  ·refine AW.condT (congrArg AV.bool hc65) ?_
   refine AW.sr ?_
   refine AOps.makeR rfl rfl rfl rfl rfl rfl (rfl : _ = (AV.sl 1 true [])) ?_
   refine AOps.assignR rfl rfl rfl (rfl : _ = (AV.sl 1 true [])) rfl ?_
   refine AOps.p rfl (rfl : _ = (AV.bool false)) ?_
   refine AOps.nilR ?_
   cases h
   have hr := hR1 _ rfl
   subst hr
   exact AW.ret ⟨rfl, _, _, rfl, ⟨_, rfl, (.cons ⟨_, _, _, rfl, ⟨.inl rfl, .nil⟩⟩ (.cons rfl .nil))⟩⟩
  refine AW.condF (congrArg AV.bool hc65) ?_
  refine AW.skip ?_
  refine AW.region ?_
  refine AOps.moveR rfl rfl rfl rfl (rfl : _ = (AV.sl z33 f34 e35)) rfl ?_
  refine AOps.p rfl (rfl : _ = (AV.eptr [(AV.int .i64 c1.Stack), (AV.int .i64 c1.Start), (AV.sl z2 f3 e4), (AV.sl z6 f7 e8), (AV.sl z10 f11 e12), (AV.sl z14 f15 e16)] 0)) ?_
  refine AOps.p rfl (rfl : _ = (AV.str w63)) ?_
  obtain ⟨y66, h67, h⟩ := obind h
  refine AOps.callP (g := 51) (args := [(AV.eptr [(AV.int .i64 c1.Stack), (AV.int .i64 c1.Start), (AV.sl z2 f3 e4), (AV.sl z6 f7 e8), (AV.sl z10 f11 e12), (AV.sl z14 f15 e16)] 0), (AV.str w63)]) (p := (rB) y66) rfl rfl rfl (spec_l02Takes_ok h5 h9 h13 h17 h67 hWF) ?_
  intro _ o69 h68
  cases h68
  refine AOps.makeR rfl rfl rfl rfl rfl rfl (rfl : _ = (AV.sl 1 true [(AV.bool y66)])) ?_
  obtain ⟨l70, h71, h⟩ := obind h
  obtain ⟨h72, h73⟩ := app_LR h36 (LR.lit (r := rB) (sz := 1) (.cons rfl .nil)) h71
  refine AOps.appL (z := z33) (f := f34) (e := e35) (z' := 1) (f' := true) (e' := [(AV.bool y66)]) rfl rfl rfl rfl rfl rfl rfl (appSrc_sl (LR.z (LR.lit (r := rB) (sz := 1) (.cons rfl .nil))) rfl) (LR.z h36) ⟨by decide, by decide, rfl, rfl⟩ rfl rfl h73 (own_tmp h38 rfl rfl) ?_
  refine AOps.assignR rfl rfl rfl (rfl : _ = (AV.sl 1 false (e35 ++ [(AV.bool y66)]))) rfl ?_
  refine AOps.nilR ?_
  refine AW.inBlock ?_
  refine AW.region ?_
  refine AOps.p rfl (rfl : _ = (AV.int .i64 i39)) ?_
  refine AOps.p rfl (rfl : _ = (AV.int .i64 (IntKind.wrap .i64 (i39 + 1)))) ?_
  refine AOps.assignR rfl rfl rfl (rfl : _ = (AV.int .i64 (IntKind.wrap .i64 (i39 + 1)))) rfl ?_
  refine AOps.nilR ?_
  cases h
  exact AW.res [(0, (AV.eptr [(AV.int .i64 c1.Stack), (AV.int .i64 c1.Start), (AV.sl z2 f3 e4), (AV.sl z6 f7 e8), (AV.sl z10 f11 e12), (AV.sl z14 f15 e16)] 0)), (1, (AV.str u18)), (2, (AV.sl z20 f21 e22)), (8, (AV.sl 1 false (e35 ++ [(AV.bool y66)]))), (9, (AV.int .i64 (IntKind.wrap .i64 (i39 + 1))))] [(8, true)] ⟨rfl, rfl, rfl, rfl, rfl, trivial⟩ ⟨rfl, trivial⟩ (hL1 _ rfl (1, false, (e35 ++ [(AV.bool y66)]), true) _ _ ⟨h72, (Or.inr rfl)⟩)
 refine AW.condF (congrArg AV.bool hc40) ?_
 refine AW.exit rfl ?_
 obtain ⟨r74, hm, hx⟩ := omap h
 clear h
 subst hx
 have hx := hR1 _ rfl
 rw [hx] at hm
 have h := hm
 exact AW.res [(8, (AV.sl z33 f34 e35))] [(8, o37)] ⟨rfl, trivial⟩ ⟨rfl, trivial⟩ (KJ31 (out32, z33, f34, e35, o37) _ _ ⟨h36, h38, h⟩)
theorem spec_RowOf_ok {c1 : Checker} {u18 : List UInt8} {list19 : List Context} {z2 : Nat} {f3 : Bool} {e4 : List AV} {z6 : Nat} {f7 : Bool} {e8 : List AV} {z10 : Nat} {f11 : Bool} {e12 : List AV} {z14 : Nat} {f15 : Bool} {e16 : List AV} {z20 : Nat} {f21 : Bool} {e22 : List AV} {s : St} (h5 : LR rB 1 c1.Accept z2 e4) (h9 : LR (rL rPush 2) 1 c1.Call z6 e8) (h13 : LR (rL (rL (rI .i64) 1) 1) 1 c1.Return z10 e12) (h17 : LR (rL (rI .i64) 1) 1 c1.Inner z14 e16) (h23 : LR rContext 2 list19 z20 e22) {r : (List Bool) × Int} (h : spec_RowOf c1 u18 list19 = some r) (hs : WF s) : ACall Cf 6 [(AV.agg [(AV.int .i64 c1.Stack), (AV.int .i64 c1.Start), (AV.sl z2 f3 e4), (AV.sl z6 f7 e8), (AV.sl z10 f11 e12), (AV.sl z14 f15 e16)]), (AV.str u18), (AV.sl z20 f21 e22)] s fun v _ s' => (fun x => rT [(rL rB 1) x.1, (rI .i64) x.2]) r v ∧ s' = s := by
 refine ACall.pure rfl rfl rfl (.T (.cons (.L fun _ => .B) (.cons .I .nil))) ?_
 have hWF := hs.lo'
 unfold spec_RowOf at h
 refine AW.sr ?_
 refine AOps.makeR rfl rfl rfl rfl rfl rfl (rfl : _ = (AV.eptr [(AV.int .i64 c1.Stack), (AV.int .i64 c1.Start), (AV.sl z2 f3 e4), (AV.sl z6 f7 e8), (AV.sl z10 f11 e12), (AV.sl z14 f15 e16)] 0)) ?_
 refine AOps.p rfl (rfl : _ = (AV.sl 0 true [])) ?_
 refine AOps.p rfl (rfl : _ = (AV.int .i64 0)) ?_
 refine AOps.nilR ?_
 refine AW.seq ?_
 refine AW.sr ?_
 obtain ⟨y24, h25, h⟩ := obind h
 refine AOps.callP (g := 22) (args := [(AV.eptr [(AV.int .i64 c1.Stack), (AV.int .i64 c1.Start), (AV.sl z2 f3 e4), (AV.sl z6 f7 e8), (AV.sl z10 f11 e12), (AV.sl z14 f15 e16)] 0)]) (p := (rB) y24) rfl rfl rfl (spec_l02Ok_ok h5 h9 h13 h17 h25 hWF) ?_
 intro _ o27 h26
 cases h26
 refine AOps.p rfl (rfl : _ = (AV.bool (!y24))) ?_
 refine AOps.p rfl (rfl : _ = (AV.bool (!y24))) ?_
 obtain ⟨b29, hb, h⟩ := obind h
 refine AOps.split 4 (fun f' => ∃ tm' os', f' = ⟨updL tm' [(1, (AV.str u18)), (2, (AV.sl z20 f21 e22)), (3, (AV.eptr [(AV.int .i64 c1.Stack), (AV.int .i64 c1.Start), (AV.sl z2 f3 e4), (AV.sl z6 f7 e8), (AV.sl z10 f11 e12), (AV.sl z14 f15 e16)] 0)), (18, (AV.bool b29))], updL os' [], { s with lo := s.n }⟩) ?_ ?_
 ·rcases oite hb with ⟨hc28, hb⟩ | ⟨hc28, hb⟩
  ·refine AOps.know (d := 14) rfl hc28 ?_
   refine AOps.skipR rfl rfl ?_
   refine AOps.skipR rfl rfl ?_
   refine AOps.skipR rfl rfl ?_
   refine AOps.p rfl (rfl : _ = (AV.bool true)) ?_
   refine AOps.resR [(1, (AV.str u18)), (2, (AV.sl z20 f21 e22)), (3, (AV.eptr [(AV.int .i64 c1.Stack), (AV.int .i64 c1.Start), (AV.sl z2 f3 e4), (AV.sl z6 f7 e8), (AV.sl z10 f11 e12), (AV.sl z14 f15 e16)] 0)), (18, (AV.bool b29))] [] ?_ ?_ _ ⟨_, _, rfl⟩
   ·exact ⟨rfl, rfl, rfl, congrArg AV.bool (Option.some.inj hb), trivial⟩
   exact trivial
  ·have h := hb
   refine AOps.know (d := 14) rfl hc28 ?_
   refine AOps.p rfl (rfl : _ = (AV.str u18)) ?_
   obtain ⟨y30, h31, h⟩ := obind h
   refine AOps.callP (g := 23) (args := [(AV.str u18)]) (p := (rB) y30) rfl rfl rfl (spec_l01Ok_ok  h31 hWF) ?_
   intro _ o33 h32
   cases h32
   refine AOps.p rfl (rfl : _ = (AV.bool (!y30))) ?_
   refine AOps.p rfl (rfl : _ = (AV.bool (!y30))) ?_
   refine AOps.resR [(1, (AV.str u18)), (2, (AV.sl z20 f21 e22)), (3, (AV.eptr [(AV.int .i64 c1.Stack), (AV.int .i64 c1.Start), (AV.sl z2 f3 e4), (AV.sl z6 f7 e8), (AV.sl z10 f11 e12), (AV.sl z14 f15 e16)] 0)), (18, (AV.bool b29))] [] ?_ ?_ _ ⟨_, _, rfl⟩
   ·exact ⟨rfl, rfl, rfl, congrArg AV.bool (Option.some.inj h), trivial⟩
   exact trivial
 rintro _ ⟨tm, os, rfl⟩
 refine AOps.nilR ?_
 rcases oite h with ⟨hc34, h⟩ | ⟨hc34, h⟩
 ·refine AW.condT (congrArg AV.bool hc34) ?_
  refine AW.sr ?_
  refine AOps.makeR rfl rfl rfl rfl rfl rfl (rfl : _ = (AV.sl 1 true [])) ?_
  refine AOps.assignR rfl rfl rfl (rfl : _ = (AV.sl 1 true [])) rfl ?_
  refine AOps.p rfl (rfl : _ = (AV.int .i64 1)) ?_
  refine AOps.nilR ?_
  cases h
  exact AW.ret ⟨rfl, _, _, rfl, ⟨_, rfl, (.cons ⟨_, _, _, rfl, ⟨.inl rfl, .nil⟩⟩ (.cons rfl .nil))⟩⟩
 refine AW.condF (congrArg AV.bool hc34) ?_
 refine AW.skip ?_
 refine AW.sr ?_
 refine AOps.p rfl (rfl : _ = (AV.sl z20 f21 e22)) ?_
 refine AOps.p rfl (len_eq h23) ?_
 refine AOps.p rfl (rfl : _ = (AV.bool (decide (((list19.length : Int) : Int) ≤ 40)))) ?_
 refine AOps.assignR rfl rfl rfl (rfl : _ = (AV.bool (decide (((list19.length : Int) : Int) ≤ 40)))) rfl ?_
 refine AOps.nilR ?_
 refine AW.seq ?_
 refine AW.sr ?_
 refine AOps.p rfl (rfl : _ = (AV.int .i64 0)) ?_
 refine AOps.nilR ?_
 refine AW.meet (σ := Bool) (fun ok35 tm os => ⟨updL tm [(1, (AV.str u18)), (2, (AV.sl z20 f21 e22)), (3, (AV.eptr [(AV.int .i64 c1.Stack), (AV.int .i64 c1.Start), (AV.sl z2 f3 e4), (AV.sl z6 f7 e8), (AV.sl z10 f11 e12), (AV.sl z14 f15 e16)] 0)), (8, (AV.bool ok35))], updL os [], { s with lo := s.n }⟩) (fun ok35 => spec_RowOf_J1 c1 u18 list19 ok35 = some r) ?_ ?_
 ·rintro ok35 tm os h
  unfold spec_RowOf_J1 at h
  refine AW.seq ?_
  refine AW.sr ?_
  refine AOps.p rfl (rfl : _ = (AV.bool ok35)) ?_
  refine AOps.p rfl (rfl : _ = (AV.bool (!ok35))) ?_
  refine AOps.nilR ?_
  rcases oite h with ⟨hc37, h⟩ | ⟨hc37, h⟩
  ·refine AW.condT (congrArg AV.bool hc37) ?_
   refine AW.sr ?_
   refine AOps.makeR rfl rfl rfl rfl rfl rfl (rfl : _ = (AV.sl 1 true [])) ?_
   refine AOps.assignR rfl rfl rfl (rfl : _ = (AV.sl 1 true [])) rfl ?_
   refine AOps.p rfl (rfl : _ = (AV.int .i64 2)) ?_
   refine AOps.nilR ?_
   cases h
   exact AW.ret ⟨rfl, _, _, rfl, ⟨_, rfl, (.cons ⟨_, _, _, rfl, ⟨.inl rfl, .nil⟩⟩ (.cons rfl .nil))⟩⟩
  refine AW.condF (congrArg AV.bool hc37) ?_
  refine AW.skip ?_
  refine AW.seq ?_
  refine AW.sr ?_
  refine AOps.p rfl (rfl : _ = (AV.str u18)) ?_
  obtain ⟨y38, h39, h⟩ := obind h
  refine AOps.callP (g := 24) (args := [(AV.str u18)]) (p := (rB) y38) rfl rfl rfl (spec_l01Matched_ok  h39 hWF) ?_
  intro _ o41 h40
  cases h40
  refine AOps.p rfl (rfl : _ = (AV.bool (!y38))) ?_
  refine AOps.nilR ?_
  rcases oite h with ⟨hc42, h⟩ | ⟨hc42, h⟩
  ·refine AW.condT (congrArg AV.bool hc42) ?_
   refine AW.sr ?_
   refine AOps.makeR rfl rfl rfl rfl rfl rfl (rfl : _ = (AV.sl 1 true [])) ?_
   refine AOps.assignR rfl rfl rfl (rfl : _ = (AV.sl 1 true [])) rfl ?_
   refine AOps.p rfl (rfl : _ = (AV.int .i64 4)) ?_
   refine AOps.nilR ?_
   cases h
   exact AW.ret ⟨rfl, _, _, rfl, ⟨_, rfl, (.cons ⟨_, _, _, rfl, ⟨.inl rfl, .nil⟩⟩ (.cons rfl .nil))⟩⟩
  refine AW.condF (congrArg AV.bool hc42) ?_
  refine AW.skip ?_
  refine AW.sr ?_
  refine AOps.p rfl (rfl : _ = (AV.str u18)) ?_
  refine AOps.p rfl (rfl : _ = (AV.sl z20 f21 e22)) ?_
  obtain ⟨y43, h44, h⟩ := obind h
  refine AOps.callP (g := 25) (args := [(AV.eptr [(AV.int .i64 c1.Stack), (AV.int .i64 c1.Start), (AV.sl z2 f3 e4), (AV.sl z6 f7 e8), (AV.sl z10 f11 e12), (AV.sl z14 f15 e16)] 0), (AV.str u18), (AV.sl z20 f21 e22)]) (p := (fun x => rT [(rL rB 1) x.1, rB x.2]) y43) rfl rfl rfl (spec_l04Row_ok h5 h9 h13 h17 h23 h44 hWF) ?_
  intro _ o55 h45
  obtain ⟨_, rfl, h46⟩ := h45
  obtain ⟨_, _, rfl, h47, h48⟩ := Cs_cons h46
  obtain ⟨z49, f50, e51, rfl, h52⟩ := h47
  obtain ⟨_, _, rfl, h53, h54⟩ := Cs_cons h48
  cases h53
  cases Cs_nil h54
  refine AOps.p rfl (rfl : _ = (AV.tup [(AV.sl z49 f50 e51), (AV.bool y43.2)])) ?_
  refine AOps.p rfl (rfl : _ = (AV.sl z49 f50 e51)) ?_
  refine AOps.p rfl (rfl : _ = (AV.bool y43.2)) ?_
  refine AOps.assignR rfl rfl rfl (rfl : _ = (AV.sl z49 f50 e51)) rfl ?_
  refine AOps.assignR rfl rfl rfl (rfl : _ = (AV.bool y43.2)) rfl ?_
  refine AOps.nilR ?_
  refine AW.seq ?_
  refine AW.sr ?_
  refine AOps.p rfl (rfl : _ = (AV.bool y43.2)) ?_
  refine AOps.p rfl (rfl : _ = (AV.bool (!y43.2))) ?_
  refine AOps.nilR ?_
  rcases oite h with ⟨hc56, h⟩ | ⟨hc56, h⟩
  ·refine AW.condT (congrArg AV.bool hc56) ?_
   refine AW.sr ?_
   refine AOps.makeR rfl rfl rfl rfl rfl rfl (rfl : _ = (AV.sl 1 true [])) ?_
   refine AOps.assignR rfl rfl rfl (rfl : _ = (AV.sl 1 true [])) rfl ?_
   refine AOps.p rfl (rfl : _ = (AV.int .i64 3)) ?_
   refine AOps.nilR ?_
   cases h
   exact AW.ret ⟨rfl, _, _, rfl, ⟨_, rfl, (.cons ⟨_, _, _, rfl, ⟨.inl rfl, .nil⟩⟩ (.cons rfl .nil))⟩⟩
  refine AW.condF (congrArg AV.bool hc56) ?_
  refine AW.skip ?_
  refine AW.sr ?_
  refine AOps.p rfl (rfl : _ = (AV.sl z49 f50 e51)) ?_
  refine AOps.assignR rfl rfl rfl (rfl : _ = (AV.sl z49 f50 e51)) rfl ?_
  refine AOps.p rfl (rfl : _ = (AV.int .i64 0)) ?_
  refine AOps.nilR ?_
  cases h
  exact AW.ret ⟨rfl, _, _, rfl, ⟨_, rfl, (.cons ⟨_, _, _, rfl, h52⟩ (.cons rfl .nil))⟩⟩
 intro KJ36
 refine AW.block ?_
 refine AW.res [(1, (AV.str u18)), (2, (AV.sl z20 f21 e22)), (3, (AV.eptr [(AV.int .i64 c1.Stack), (AV.int .i64 c1.Start), (AV.sl z2 f3 e4), (AV.sl z6 f7 e8), (AV.sl z10 f11 e12), (AV.sl z14 f15 e16)] 0)), (8, (AV.bool (decide (((list19.length : Int) : Int) ≤ 40)))), (9, (AV.int .i64 0))] [] ⟨rfl, rfl, rfl, rfl, rfl, trivial⟩ trivial ?_
 refine AW.loopF (σ := Bool × Int) (τ := Unit) (fun (ok57, i58) _ => True) (fun (ok57, i58) _ tm os => ⟨updL tm [(1, (AV.str u18)), (2, (AV.sl z20 f21 e22)), (3, (AV.eptr [(AV.int .i64 c1.Stack), (AV.int .i64 c1.Start), (AV.sl z2 f3 e4), (AV.sl z6 f7 e8), (AV.sl z10 f11 e12), (AV.sl z14 f15 e16)] 0)), (8, (AV.bool ok57)), (9, (AV.int .i64 i58))], updL os [], { s with lo := s.n }⟩) ?_ (x := (decide (((list19.length : Int) : Int) ≤ 40), 0)) (y := ()) h trivial
 clear h
 rintro ⟨ok57, i58⟩ _ tm os - e1 h hL1 hR1
 unfold spec_RowOf_S1 at h
 dsimp only at h
 refine AW.seq ?_
 refine AW.sr ?_
 refine AOps.p rfl (rfl : _ = (AV.int .i64 i58)) ?_
 refine AOps.p rfl (rfl : _ = (AV.sl z20 f21 e22)) ?_
 refine AOps.p rfl (len_eq h23) ?_
 refine AOps.p rfl (rfl : _ = (AV.bool (decide ((i58 : Int) < (list19.length : Int))))) ?_
 refine AOps.p rfl (rfl : _ = (AV.bool (decide ((i58 : Int) < (list19.length : Int))))) ?_
 refine AOps.split 2 (fun f' => ∃ tm' os', f' = ⟨updL tm' [(1, (AV.str u18)), (2, (AV.sl z20 f21 e22)), (3, (AV.eptr [(AV.int .i64 c1.Stack), (AV.int .i64 c1.Start), (AV.sl z2 f3 e4), (AV.sl z6 f7 e8), (AV.sl z10 f11 e12), (AV.sl z14 f15 e16)] 0)), (8, (AV.bool ok57)), (9, (AV.int .i64 i58)), (29, (AV.bool ((decide ((i58 : Int) < (list19.length : Int))) && ok57)))], updL os' [], { s with lo := s.n }⟩) ?_ ?_
 ·rcases Bool.eq_false_or_eq_true (decide ((i58 : Int) < (list19.length : Int))) with hc59 | hc59
  ·refine AOps.know (d := 27) rfl hc59 ?_
   refine AOps.p rfl (rfl : _ = (AV.bool ok57)) ?_
   refine AOps.p rfl (rfl : _ = (AV.bool ok57)) ?_
   refine AOps.resR [(1, (AV.str u18)), (2, (AV.sl z20 f21 e22)), (3, (AV.eptr [(AV.int .i64 c1.Stack), (AV.int .i64 c1.Start), (AV.sl z2 f3 e4), (AV.sl z6 f7 e8), (AV.sl z10 f11 e12), (AV.sl z14 f15 e16)] 0)), (8, (AV.bool ok57)), (9, (AV.int .i64 i58)), (29, (AV.bool ((decide ((i58 : Int) < (list19.length : Int))) && ok57)))] [] ?_ ?_ _ ⟨_, _, rfl⟩
   ·exact ⟨rfl, rfl, rfl, rfl, rfl, congrArg AV.bool (and_t hc59), trivial⟩
   exact trivial
  ·refine AOps.know (d := 27) rfl hc59 ?_
   refine AOps.skipR rfl rfl ?_
   refine AOps.p rfl (rfl : _ = (AV.bool false)) ?_
   refine AOps.resR [(1, (AV.str u18)), (2, (AV.sl z20 f21 e22)), (3, (AV.eptr [(AV.int .i64 c1.Stack), (AV.int .i64 c1.Start), (AV.sl z2 f3 e4), (AV.sl z6 f7 e8), (AV.sl z10 f11 e12), (AV.sl z14 f15 e16)] 0)), (8, (AV.bool ok57)), (9, (AV.int .i64 i58)), (29, (AV.bool ((decide ((i58 : Int) < (list19.length : Int))) && ok57)))] [] ?_ ?_ _ ⟨_, _, rfl⟩
   ·exact ⟨rfl, rfl, rfl, rfl, rfl, congrArg AV.bool (and_f hc59), trivial⟩
   exact trivial
 rintro _ ⟨tm, os, rfl⟩
 refine AOps.nilR ?_
 rcases oite h with ⟨hc60, h⟩ | ⟨hc60, h⟩
 ·refine AW.condT (congrArg AV.bool hc60) ?_
  refine AW.skip ?_
  refine AW.seq ?_
  refine AW.block ?_
  refine AW.region ?_
  refine AOps.p rfl (rfl : _ = (AV.sl z20 f21 e22)) ?_
  refine AOps.p rfl (rfl : _ = (AV.int .i64 i58)) ?_
  obtain ⟨x61, h62, h⟩ := obind h
  obtain ⟨v65, h63, h64⟩ := idx_sl h23 h62
  obtain ⟨_, rfl, h66⟩ := h63
  obtain ⟨_, _, rfl, h67, h68⟩ := Cs_cons h66
  cases h67
  obtain ⟨_, _, rfl, h69, h70⟩ := Cs_cons h68
  cases h69
  cases Cs_nil h70
  refine AOps.pureR rfl rfl rfl h64 rfl (rfl : _ = (AV.eptr [(AV.str x61.Front), (AV.str x61.Back)] 0)) ?_
  refine AOps.p rfl (rfl : _ = (AV.eptr [(AV.str x61.Front), (AV.str x61.Back)] 0)) ?_
  refine AOps.ldE (v := (AV.str x61.Front)) rfl rfl rfl rfl rfl rfl ?_
  obtain ⟨y71, h72, h⟩ := obind h
  refine AOps.callP (g := 23) (args := [(AV.str x61.Front)]) (p := (rB) y71) rfl rfl rfl (spec_l01Ok_ok  h72 hWF) ?_
  intro _ o74 h73
  cases h73
  refine AOps.p rfl (rfl : _ = (AV.bool y71)) ?_
  obtain ⟨b76, hb, h⟩ := obind h
  refine AOps.split 7 (fun f' => ∃ tm' os', f' = ⟨updL tm' [(1, (AV.str u18)), (2, (AV.sl z20 f21 e22)), (3, (AV.eptr [(AV.int .i64 c1.Stack), (AV.int .i64 c1.Start), (AV.sl z2 f3 e4), (AV.sl z6 f7 e8), (AV.sl z10 f11 e12), (AV.sl z14 f15 e16)] 0)), (9, (AV.int .i64 i58)), (45, (AV.bool b76))], updL os' [], { s with lo := s.n }⟩) ?_ ?_
  ·rcases oite hb with ⟨hc75, hb⟩ | ⟨hc75, hb⟩
   ·have h := hb
    refine AOps.know (d := 38) rfl hc75 ?_
    refine AOps.p rfl (rfl : _ = (AV.sl z20 f21 e22)) ?_
    refine AOps.p rfl (rfl : _ = (AV.int .i64 i58)) ?_
    obtain ⟨x77, h78, h⟩ := obind h
    obtain ⟨v81, h79, h80⟩ := idx_sl h23 h78
    obtain ⟨_, rfl, h82⟩ := h79
    obtain ⟨_, _, rfl, h83, h84⟩ := Cs_cons h82
    cases h83
    obtain ⟨_, _, rfl, h85, h86⟩ := Cs_cons h84
    cases h85
    cases Cs_nil h86
    refine AOps.pureR rfl rfl rfl h80 rfl (rfl : _ = (AV.eptr [(AV.str x77.Front), (AV.str x77.Back)] 0)) ?_
    refine AOps.p rfl (rfl : _ = (AV.eptr [(AV.str x77.Front), (AV.str x77.Back)] 1)) ?_
    refine AOps.ldE (v := (AV.str x77.Back)) rfl rfl rfl rfl rfl rfl ?_
    obtain ⟨y87, h88, h⟩ := obind h
    refine AOps.callP (g := 23) (args := [(AV.str x77.Back)]) (p := (rB) y87) rfl rfl rfl (spec_l01Ok_ok  h88 hWF) ?_
    intro _ o90 h89
    cases h89
    refine AOps.p rfl (rfl : _ = (AV.bool y87)) ?_
    refine AOps.resR [(1, (AV.str u18)), (2, (AV.sl z20 f21 e22)), (3, (AV.eptr [(AV.int .i64 c1.Stack), (AV.int .i64 c1.Start), (AV.sl z2 f3 e4), (AV.sl z6 f7 e8), (AV.sl z10 f11 e12), (AV.sl z14 f15 e16)] 0)), (9, (AV.int .i64 i58)), (45, (AV.bool b76))] [] ?_ ?_ _ ⟨_, _, rfl⟩
    ·exact ⟨rfl, rfl, rfl, rfl, congrArg AV.bool (Option.some.inj h), trivial⟩
    exact trivial
   ·refine AOps.know (d := 38) rfl hc75 ?_
    refine AOps.skipR rfl rfl ?_
    refine AOps.skipR rfl rfl ?_
    refine AOps.skipR rfl rfl ?_
    refine AOps.skipR rfl rfl ?_
    refine AOps.skipR rfl rfl ?_
    refine AOps.skipR rfl rfl ?_
    refine AOps.p rfl (rfl : _ = (AV.bool false)) ?_
    refine AOps.resR [(1, (AV.str u18)), (2, (AV.sl z20 f21 e22)), (3, (AV.eptr [(AV.int .i64 c1.Stack), (AV.int .i64 c1.Start), (AV.sl z2 f3 e4), (AV.sl z6 f7 e8), (AV.sl z10 f11 e12), (AV.sl z14 f15 e16)] 0)), (9, (AV.int .i64 i58)), (45, (AV.bool b76))] [] ?_ ?_ _ ⟨_, _, rfl⟩
    ·exact ⟨rfl, rfl, rfl, rfl, congrArg AV.bool (Option.some.inj hb), trivial⟩
    exact trivial
  rintro _ ⟨tm, os, rfl⟩
  refine AOps.assignR rfl rfl rfl (rfl : _ = (AV.bool b76)) rfl ?_
  refine AOps.nilR ?_
  refine AW.inBlock ?_
  refine AW.region ?_
  refine AOps.p rfl (rfl : _ = (AV.int .i64 i58)) ?_
  refine AOps.p rfl (rfl : _ = (AV.int .i64 (IntKind.wrap .i64 (i58 + 1)))) ?_
  refine AOps.assignR rfl rfl rfl (rfl : _ = (AV.int .i64 (IntKind.wrap .i64 (i58 + 1)))) rfl ?_
  refine AOps.nilR ?_
  cases h
  exact AW.res [(1, (AV.str u18)), (2, (AV.sl z20 f21 e22)), (3, (AV.eptr [(AV.int .i64 c1.Stack), (AV.int .i64 c1.Start), (AV.sl z2 f3 e4), (AV.sl z6 f7 e8), (AV.sl z10 f11 e12), (AV.sl z14 f15 e16)] 0)), (8, (AV.bool b76)), (9, (AV.int .i64 (IntKind.wrap .i64 (i58 + 1))))] [] ⟨rfl, rfl, rfl, rfl, rfl, trivial⟩ trivial (hL1 _ rfl () _ _ trivial)
 refine AW.condF (congrArg AV.bool hc60) ?_
 refine AW.exit rfl ?_
 obtain ⟨r91, hm, hx⟩ := omap h
 clear h
 subst hx
 have hx := hR1 _ rfl
 rw [hx] at hm
 have h := hm
 exact AW.res [(1, (AV.str u18)), (2, (AV.sl z20 f21 e22)), (3, (AV.eptr [(AV.int .i64 c1.Stack), (AV.int .i64 c1.Start), (AV.sl z2 f3 e4), (AV.sl z6 f7 e8), (AV.sl z10 f11 e12), (AV.sl z14 f15 e16)] 0)), (8, (AV.bool ok57))] [] ⟨rfl, rfl, rfl, rfl, trivial⟩ trivial (KJ36 (ok57) _ _ h)
theorem laws_toBoolS_K0_ok {a1 : List Bool} {z2 : Nat} {f3 : Bool} {e4 : List AV} {s : St} (h5 : LR rB 1 a1 z2 e4) {r : (List Bool)} (h : laws_toBoolS_K0 a1 = some r) (hs : WF s) : ACall Cf 26 [(AV.sl z2 f3 e4)] s (fun v _ s' => ∃ (h1' : AV) (k2' : KT) (Ls' : List (List BX)), v = h1' ∧ HS [] true s s' (([] : List BX) ++ List.flatten Ls') ∧ AllG [OS oE4 h1' k2' r] Ls' ∧ h1'.one = true) true := by
 refine ACall.keepR rfl rfl rfl ?_
 have hH0 := HS.g0 (HS.initK hs)
 have hG0 := AllG.nil
 have hl : LoOK [] true s := LoOK.nil
 unfold laws_toBoolS_K0 at h
 refine AW.sr ?_
 refine AOps.p rfl (rfl : _ = (AV.sl 0 true [])) ?_
 refine AOps.nilR ?_
 refine AW.sr ?_
 refine AOps.p rfl (rfl : _ = (AV.sl z2 f3 e4)) ?_
 refine AOps.p rfl (len_eq h5) ?_
 obtain ⟨l6, h7, h⟩ := obind h
 refine AOps.mkO (e := oE4) (x0 := (false : Bool)) (fun _ => AV.undef) hH0 hG0 rfl rfl rfl rfl rfl rfl rfl ⟨rfl, rfl, by decide⟩ h7 ⟨rfl, rfl⟩ (fun _ => ⟨⟨(AV.bool false), rfl, rfl⟩, rfl⟩) rfl ?_
 intro h8 k10 Ls11 s12 ho9 hG13 hH14
 change HS [] true s s12 (([] : List BX) ++ List.flatten Ls11) at hH14
 change AllG [OS oE4 h8 k10 l6] Ls11 at hG13
 refine AOps.assignR rfl rfl rfl (rfl : _ = h8) rfl ?_
 refine AOps.nilR ?_
 refine AW.seq ?_
 refine AW.sr ?_
 refine AOps.p rfl (rfl : _ = (AV.int .i64 0)) ?_
 refine AOps.nilR ?_
 refine AW.meet (σ := (List Bool) × St × (List (List BX))) (fun (out15, s16, Ls17) tm os => ⟨updL tm [(3, h8)], updL os [], s16⟩) (fun (out15, s16, Ls17) => (HS [] true s s16 (([] : List BX) ++ List.flatten Ls17)) ∧ (AllG [OS oE4 h8 k10 out15] Ls17) ∧ laws_toBoolS_K0_J1 out15 = some r) ?_ ?_
 ·rintro ⟨out15, s16, Ls17⟩ tm os ⟨hH18, hG19, h⟩
  unfold laws_toBoolS_K0_J1 at h
  refine AW.sr ?_
  refine AOps.p rfl (rfl : _ = h8) ?_
  refine AOps.assignR rfl rfl rfl (rfl : _ = h8) rfl ?_
  refine AOps.nilR ?_
  cases h
  exact AW.ret ⟨_, _, rfl, ⟨h8, k10, Ls17, rfl, hH18, hG19, ho9⟩⟩
 intro KJ20
 refine AW.block ?_
 refine AW.res [(0, (AV.sl z2 f3 e4)), (3, h8), (4, (AV.int .i64 0))] [] ⟨rfl, rfl, rfl, trivial⟩ trivial ?_
 refine AW.loopF (σ := (List Bool) × Int) (τ := St × (List (List BX))) (fun (out21, i22) (s23, Ls24) => (HS [] true s s23 (([] : List BX) ++ List.flatten Ls24)) ∧ (AllG [OS oE4 h8 k10 out21] Ls24)) (fun (out21, i22) (s23, Ls24) tm os => ⟨updL tm [(0, (AV.sl z2 f3 e4)), (3, h8), (4, (AV.int .i64 i22))], updL os [], s23⟩) ?_ (x := (l6, 0)) (y := (s12, Ls11)) h ⟨hH14, hG13⟩
 clear h
 rintro ⟨out21, i22⟩ ⟨s23, Ls24⟩ tm os ⟨hH25, hG26⟩ e1 h hL1 hR1
 unfold laws_toBoolS_K0_S1 at h
 dsimp only at h
 refine AW.seq ?_
 refine AW.sr ?_
 refine AOps.p rfl (rfl : _ = (AV.int .i64 i22)) ?_
 refine AOps.p rfl (rfl : _ = (AV.sl z2 f3 e4)) ?_
 refine AOps.p rfl (len_eq h5) ?_
 refine AOps.p rfl (rfl : _ = (AV.bool (decide ((i22 : Int) < (a1.length : Int))))) ?_
 refine AOps.nilR ?_
 rcases oite h with ⟨hc27, h⟩ | ⟨hc27, h⟩
 ·refine AW.condT (congrArg AV.bool hc27) ?_
  refine AW.skip ?_
  refine AW.seq ?_
  refine AW.block ?_
  refine AW.region ?_
  refine AOps.p rfl (rfl : _ = h8) ?_
  refine AOps.p rfl (rfl : _ = (AV.int .i64 i22)) ?_
  refine AOps.p rfl (rfl : _ = (AV.sl z2 f3 e4)) ?_
  refine AOps.p rfl (rfl : _ = (AV.int .i64 i22)) ?_
  obtain ⟨x28, h29, h⟩ := obind h
  obtain ⟨v32, h30, h31⟩ := idx_sl h5 h29
  cases h30
  refine AOps.pureR rfl rfl rfl h31 rfl (rfl : _ = (AV.eptr [(AV.bool x28)] 0)) ?_
  refine AOps.ldE (v := (AV.bool x28)) rfl rfl rfl rfl rfl rfl ?_
  obtain ⟨x35, h36, h⟩ := obind h
  refine AOps.idxO (j := 0) hG26 rfl Sub.here h36 rfl rfl rfl rfl rfl rfl rfl rfl rfl ?_
  intro b33 hb34
  refine AOps.stO (j := 0) (q := 0) (v := (AV.bool x28)) (y' := x28) hH25 hG26 hl rfl Sub.here h36 hb34 rfl rfl rfl rfl rfl rfl rfl rfl (lt_b rfl) (le_b rfl) rfl (fun c B hc => oLeaf_set hc rfl) ?_
  intro Ls37 s38 hG39 hH40
  change HS [] true s s38 (([] : List BX) ++ List.flatten Ls37) at hH40
  change AllG [OS oE4 h8 k10 (out21.set (Int.toNat i22) x28)] Ls37 at hG39
  refine AOps.nilR ?_
  refine AW.inBlock ?_
  refine AW.region ?_
  refine AOps.p rfl (rfl : _ = (AV.int .i64 i22)) ?_
  refine AOps.p rfl (rfl : _ = (AV.int .i64 (IntKind.wrap .i64 (i22 + 1)))) ?_
  refine AOps.assignR rfl rfl rfl (rfl : _ = (AV.int .i64 (IntKind.wrap .i64 (i22 + 1)))) rfl ?_
  refine AOps.nilR ?_
  cases h
  exact AW.res [(0, (AV.sl z2 f3 e4)), (3, h8), (4, (AV.int .i64 (IntKind.wrap .i64 (i22 + 1))))] [] ⟨rfl, rfl, rfl, trivial⟩ trivial (hL1 _ rfl (s38, Ls37) _ _ ⟨hH40, hG39⟩)
 refine AW.condF (congrArg AV.bool hc27) ?_
 refine AW.exit rfl ?_
 obtain ⟨r41, hm, hx⟩ := omap h
 clear h
 subst hx
 have hx := hR1 _ rfl
 rw [hx] at hm
 have h := hm
 exact AW.res [(3, h8)] [] ⟨rfl, trivial⟩ trivial (KJ20 (out21, s23, Ls24) _ _ ⟨hH25, hG26, h⟩)
theorem laws_toPushS_K0_ok {a1 : List Push} {z2 : Nat} {f3 : Bool} {e4 : List AV} {s : St} (h5 : LR rPush 2 a1 z2 e4) {r : (List Push)} (h : laws_toPushS_K0 a1 = some r) (hs : WF s) : ACall Cf 52 [(AV.sl z2 f3 e4)] s (fun v _ s' => ∃ (h1' : AV) (k2' : KT) (Ls' : List (List BX)), v = h1' ∧ HS [] true s s' (([] : List BX) ++ List.flatten Ls') ∧ AllG [OS oE84 h1' k2' r] Ls' ∧ h1'.one = true) true := by
 refine ACall.keepR rfl rfl rfl ?_
 have hH0 := HS.g0 (HS.initK hs)
 have hG0 := AllG.nil
 have hl : LoOK [] true s := LoOK.nil
 unfold laws_toPushS_K0 at h
 refine AW.sr ?_
 refine AOps.p rfl (rfl : _ = (AV.sl 0 true [])) ?_
 refine AOps.nilR ?_
 refine AW.sr ?_
 refine AOps.p rfl (rfl : _ = (AV.sl z2 f3 e4)) ?_
 refine AOps.p rfl (len_eq h5) ?_
 obtain ⟨l6, h7, h⟩ := obind h
 refine AOps.mkO (e := oE84) (x0 := ((⟨0, 0⟩ : Push) : Push)) (fun _ => AV.undef) hH0 hG0 rfl rfl rfl rfl rfl rfl rfl ⟨rfl, rfl, by decide⟩ h7 ⟨rfl, rfl⟩ (fun _ => ⟨⟨(AV.agg [(AV.int .i64 0), (AV.int .i64 0)]), ⟨_, rfl, (.cons rfl (.cons rfl .nil))⟩, rfl⟩, rfl⟩) rfl ?_
 intro h8 k10 Ls11 s12 ho9 hG13 hH14
 change HS [] true s s12 (([] : List BX) ++ List.flatten Ls11) at hH14
 change AllG [OS oE84 h8 k10 l6] Ls11 at hG13
 refine AOps.assignR rfl rfl rfl (rfl : _ = h8) rfl ?_
 refine AOps.nilR ?_
 refine AW.seq ?_
 refine AW.sr ?_
 refine AOps.p rfl (rfl : _ = (AV.int .i64 0)) ?_
 refine AOps.nilR ?_
 refine AW.meet (σ := (List Push) × St × (List (List BX))) (fun (out15, s16, Ls17) tm os => ⟨updL tm [(3, h8)], updL os [], s16⟩) (fun (out15, s16, Ls17) => (HS [] true s s16 (([] : List BX) ++ List.flatten Ls17)) ∧ (AllG [OS oE84 h8 k10 out15] Ls17) ∧ laws_toPushS_K0_J1 out15 = some r) ?_ ?_
 ·rintro ⟨out15, s16, Ls17⟩ tm os ⟨hH18, hG19, h⟩
  unfold laws_toPushS_K0_J1 at h
  refine AW.sr ?_
  refine AOps.p rfl (rfl : _ = h8) ?_
  refine AOps.assignR rfl rfl rfl (rfl : _ = h8) rfl ?_
  refine AOps.nilR ?_
  cases h
  exact AW.ret ⟨_, _, rfl, ⟨h8, k10, Ls17, rfl, hH18, hG19, ho9⟩⟩
 intro KJ20
 refine AW.block ?_
 refine AW.res [(0, (AV.sl z2 f3 e4)), (3, h8), (4, (AV.int .i64 0))] [] ⟨rfl, rfl, rfl, trivial⟩ trivial ?_
 refine AW.loopF (σ := (List Push) × Int) (τ := St × (List (List BX))) (fun (out21, i22) (s23, Ls24) => (HS [] true s s23 (([] : List BX) ++ List.flatten Ls24)) ∧ (AllG [OS oE84 h8 k10 out21] Ls24)) (fun (out21, i22) (s23, Ls24) tm os => ⟨updL tm [(0, (AV.sl z2 f3 e4)), (3, h8), (4, (AV.int .i64 i22))], updL os [], s23⟩) ?_ (x := (l6, 0)) (y := (s12, Ls11)) h ⟨hH14, hG13⟩
 clear h
 rintro ⟨out21, i22⟩ ⟨s23, Ls24⟩ tm os ⟨hH25, hG26⟩ e1 h hL1 hR1
 unfold laws_toPushS_K0_S1 at h
 dsimp only at h
 refine AW.seq ?_
 refine AW.sr ?_
 refine AOps.p rfl (rfl : _ = (AV.int .i64 i22)) ?_
 refine AOps.p rfl (rfl : _ = (AV.sl z2 f3 e4)) ?_
 refine AOps.p rfl (len_eq h5) ?_
 refine AOps.p rfl (rfl : _ = (AV.bool (decide ((i22 : Int) < (a1.length : Int))))) ?_
 refine AOps.nilR ?_
 rcases oite h with ⟨hc27, h⟩ | ⟨hc27, h⟩
 ·refine AW.condT (congrArg AV.bool hc27) ?_
  refine AW.skip ?_
  refine AW.seq ?_
  refine AW.block ?_
  refine AW.region ?_
  refine AOps.p rfl (rfl : _ = h8) ?_
  refine AOps.p rfl (rfl : _ = (AV.int .i64 i22)) ?_
  refine AOps.p rfl (rfl : _ = (AV.sl z2 f3 e4)) ?_
  refine AOps.p rfl (rfl : _ = (AV.int .i64 i22)) ?_
  obtain ⟨x28, h29, h⟩ := obind h
  obtain ⟨v32, h30, h31⟩ := idx_sl h5 h29
  obtain ⟨_, rfl, h33⟩ := h30
  obtain ⟨_, _, rfl, h34, h35⟩ := Cs_cons h33
  cases h34
  obtain ⟨_, _, rfl, h36, h37⟩ := Cs_cons h35
  cases h36
  cases Cs_nil h37
  refine AOps.pureR rfl rfl rfl h31 rfl (rfl : _ = (AV.eptr [(AV.int .i64 x28.To), (AV.int .i64 x28.Put)] 0)) ?_
  refine AOps.ldE (v := (AV.agg [(AV.int .i64 x28.To), (AV.int .i64 x28.Put)])) rfl rfl rfl rfl rfl rfl ?_
  obtain ⟨y38, h39, h⟩ := obind h
  refine AOps.callP (g := 78) (args := [(AV.agg [(AV.int .i64 x28.To), (AV.int .i64 x28.Put)])]) (p := (rPush) y38) rfl rfl rfl (laws_toPush_ok  h39 (HS.wf' hH25)) ?_
  intro _ o46 h40
  obtain ⟨_, rfl, h41⟩ := h40
  obtain ⟨_, _, rfl, h42, h43⟩ := Cs_cons h41
  cases h42
  obtain ⟨_, _, rfl, h44, h45⟩ := Cs_cons h43
  cases h44
  cases Cs_nil h45
  obtain ⟨x49, h50, h⟩ := obind h
  refine AOps.idxO (j := 0) hG26 rfl Sub.here h50 rfl rfl rfl rfl rfl rfl rfl rfl rfl ?_
  intro b47 hb48
  refine AOps.stO (j := 0) (q := 0) (v := (AV.agg [(AV.int .i64 y38.To), (AV.int .i64 y38.Put)])) (y' := y38) hH25 hG26 hl rfl Sub.here h50 hb48 rfl rfl rfl rfl rfl rfl rfl rfl (lt_b rfl) (le_b rfl) rfl (fun c B hc => oLeaf_set hc ⟨_, rfl, (.cons rfl (.cons rfl .nil))⟩) ?_
  intro Ls51 s52 hG53 hH54
  change HS [] true s s52 (([] : List BX) ++ List.flatten Ls51) at hH54
  change AllG [OS oE84 h8 k10 (out21.set (Int.toNat i22) y38)] Ls51 at hG53
  refine AOps.nilR ?_
  refine AW.inBlock ?_
  refine AW.region ?_
  refine AOps.p rfl (rfl : _ = (AV.int .i64 i22)) ?_
  refine AOps.p rfl (rfl : _ = (AV.int .i64 (IntKind.wrap .i64 (i22 + 1)))) ?_
  refine AOps.assignR rfl rfl rfl (rfl : _ = (AV.int .i64 (IntKind.wrap .i64 (i22 + 1)))) rfl ?_
  refine AOps.nilR ?_
  cases h
  exact AW.res [(0, (AV.sl z2 f3 e4)), (3, h8), (4, (AV.int .i64 (IntKind.wrap .i64 (i22 + 1))))] [] ⟨rfl, rfl, rfl, trivial⟩ trivial (hL1 _ rfl (s52, Ls51) _ _ ⟨hH54, hG53⟩)
 refine AW.condF (congrArg AV.bool hc27) ?_
 refine AW.exit rfl ?_
 obtain ⟨r55, hm, hx⟩ := omap h
 clear h
 subst hx
 have hx := hR1 _ rfl
 rw [hx] at hm
 have h := hm
 exact AW.res [(3, h8)] [] ⟨rfl, trivial⟩ trivial (KJ20 (out21, s23, Ls24) _ _ ⟨hH25, hG26, h⟩)
theorem laws_toPushSS_K0_ok {a1 : List (List Push)} {z2 : Nat} {f3 : Bool} {e4 : List AV} {s : St} (h5 : LR (rL rPush 2) 1 a1 z2 e4) {r : (List (List Push))} (h : laws_toPushSS_K0 a1 = some r) (hs : WF s) : ACall Cf 27 [(AV.sl z2 f3 e4)] s (fun v _ s' => ∃ (h1' : AV) (k2' : KT) (Ls' : List (List BX)), v = h1' ∧ HS [] true s s' (([] : List BX) ++ List.flatten Ls') ∧ AllG [OS oE81 h1' k2' r] Ls' ∧ h1'.one = true) true := by
 refine ACall.keepR rfl rfl rfl ?_
 have hH0 := HS.g0 (HS.initK hs)
 have hG0 := AllG.nil
 have hl : LoOK [] true s := LoOK.nil
 unfold laws_toPushSS_K0 at h
 refine AW.sr ?_
 refine AOps.p rfl (rfl : _ = (AV.sl 0 true [])) ?_
 refine AOps.nilR ?_
 refine AW.sr ?_
 refine AOps.p rfl (rfl : _ = (AV.sl z2 f3 e4)) ?_
 refine AOps.p rfl (len_eq h5) ?_
 obtain ⟨l6, h7, h⟩ := obind h
 refine AOps.mkO (e := oE81) (x0 := (([] : List Push) : List Push)) (fun _ => AV.sl 0 true []) hH0 hG0 rfl rfl rfl rfl rfl rfl rfl ⟨rfl, rfl, by decide⟩ h7 ⟨rfl, rfl⟩ (fun _ => ⟨rfl, OS.nil (Or.inr rfl)⟩) rfl ?_
 intro h8 k10 Ls11 s12 ho9 hG13 hH14
 change HS [] true s s12 (([] : List BX) ++ List.flatten Ls11) at hH14
 change AllG [OS oE81 h8 k10 l6] Ls11 at hG13
 refine AOps.assignR rfl rfl rfl (rfl : _ = h8) rfl ?_
 refine AOps.nilR ?_
 refine AW.seq ?_
 refine AW.sr ?_
 refine AOps.p rfl (rfl : _ = (AV.int .i64 0)) ?_
 refine AOps.nilR ?_
 refine AW.meet (σ := (List (List Push)) × KT × St × (List (List BX))) (fun (out15, k16, s17, Ls18) tm os => ⟨updL tm [(3, h8)], updL os [], s17⟩) (fun (out15, k16, s17, Ls18) => (HS [] true s s17 (([] : List BX) ++ List.flatten Ls18)) ∧ (AllG [OS oE81 h8 k16 out15] Ls18) ∧ laws_toPushSS_K0_J1 out15 = some r) ?_ ?_
 ·rintro ⟨out15, k16, s17, Ls18⟩ tm os ⟨hH19, hG20, h⟩
  unfold laws_toPushSS_K0_J1 at h
  refine AW.sr ?_
  refine AOps.p rfl (rfl : _ = h8) ?_
  refine AOps.assignR rfl rfl rfl (rfl : _ = h8) rfl ?_
  refine AOps.nilR ?_
  cases h
  exact AW.ret ⟨_, _, rfl, ⟨h8, k16, Ls18, rfl, hH19, hG20, ho9⟩⟩
 intro KJ21
 refine AW.block ?_
 refine AW.res [(0, (AV.sl z2 f3 e4)), (3, h8), (4, (AV.int .i64 0))] [] ⟨rfl, rfl, rfl, trivial⟩ trivial ?_
 refine AW.loopF (σ := (List (List Push)) × Int) (τ := KT × St × (List (List BX))) (fun (out22, i24) (k23, s25, Ls26) => (HS [] true s s25 (([] : List BX) ++ List.flatten Ls26)) ∧ (AllG [OS oE81 h8 k23 out22] Ls26)) (fun (out22, i24) (k23, s25, Ls26) tm os => ⟨updL tm [(0, (AV.sl z2 f3 e4)), (3, h8), (4, (AV.int .i64 i24))], updL os [], s25⟩) ?_ (x := (l6, 0)) (y := (k10, s12, Ls11)) h ⟨hH14, hG13⟩
 clear h
 rintro ⟨out22, i24⟩ ⟨k23, s25, Ls26⟩ tm os ⟨hH27, hG28⟩ e1 h hL1 hR1
 unfold laws_toPushSS_K0_S1 at h
 dsimp only at h
 refine AW.seq ?_
 refine AW.sr ?_
 refine AOps.p rfl (rfl : _ = (AV.int .i64 i24)) ?_
 refine AOps.p rfl (rfl : _ = (AV.sl z2 f3 e4)) ?_
 refine AOps.p rfl (len_eq h5) ?_
 refine AOps.p rfl (rfl : _ = (AV.bool (decide ((i24 : Int) < (a1.length : Int))))) ?_
 refine AOps.nilR ?_
 rcases oite h with ⟨hc29, h⟩ | ⟨hc29, h⟩
 ·refine AW.condT (congrArg AV.bool hc29) ?_
  refine AW.skip ?_
  refine AW.seq ?_
  refine AW.block ?_
  refine AW.region ?_
  refine AOps.p rfl (rfl : _ = h8) ?_
  refine AOps.p rfl (rfl : _ = (AV.int .i64 i24)) ?_
  refine AOps.p rfl (rfl : _ = (AV.sl z2 f3 e4)) ?_
  refine AOps.p rfl (rfl : _ = (AV.int .i64 i24)) ?_
  obtain ⟨x30, h31, h⟩ := obind h
  obtain ⟨v34, h32, h33⟩ := idx_sl h5 h31
  obtain ⟨z35, f36, e37, rfl, h38⟩ := h32
  refine AOps.pureR rfl rfl rfl h33 rfl (rfl : _ = (AV.eptr [(AV.sl z35 f36 e37)] 0)) ?_
  refine AOps.ldE (v := (AV.sl z35 f36 e37)) rfl rfl rfl rfl rfl rfl ?_
  obtain ⟨y39, h40, h⟩ := obind h
  have hP44 := HS.pop0 hH27
  refine AOps.callF (al := true) (g := 52) (args := [(AV.sl z35 f36 e37)]) rfl rfl rfl (laws_toPushS_K0_ok h38  h40 (HS.wf' hH27)) ?_
  rintro h41 _ s45 ⟨_, k42, Ls47, rfl, hH48, hG49, ho43⟩
  have hJ50 := HS.joinK0 hP44 hH48
  obtain ⟨Ls51, Lf52, hG53, hF54, hP55⟩ := HS.pushN hJ50 hG28 hG49
  cases hF54
  have hH56 := HS.push0 hP55
  change HS [] true s s45 (([] : List BX) ++ List.flatten Ls51) at hH56
  change AllG [OS oE84 h41 k42 y39, OS oE81 h8 k23 out22] Ls51 at hG53
  obtain ⟨x59, h60, h⟩ := obind h
  refine AOps.idxO (j := 1) hG53 rfl Sub.here h60 rfl rfl rfl rfl rfl rfl rfl rfl rfl ?_
  intro b57 hb58
  refine AOps.stH (j := 1) (j2 := 0) (q := 0) (y' := y39) hH56 hG53 hl rfl rfl (by decide) h60 hb58 rfl rfl rfl rfl rfl rfl rfl (le_b rfl) rfl (fun ρ => match ρ with | [] => h41 | a :: ρ => k42 (a :: ρ)) (fun c B L2 hc hO => by obtain ⟨rfl, _⟩ := hc; exact OS.own hO) ?_
  intro k61 Ls62 s63 hG64 hH65
  change HS [] true s s63 (([] : List BX) ++ List.flatten Ls62) at hH65
  change AllG [(fun L => L = []), OS oE81 h8 k61 (out22.set (Int.toNat i24) y39)] Ls62 at hG64
  refine AOps.nilR ?_
  refine AW.inBlock ?_
  refine AW.region ?_
  refine AOps.p rfl (rfl : _ = (AV.int .i64 i24)) ?_
  refine AOps.p rfl (rfl : _ = (AV.int .i64 (IntKind.wrap .i64 (i24 + 1)))) ?_
  refine AOps.assignR rfl rfl rfl (rfl : _ = (AV.int .i64 (IntKind.wrap .i64 (i24 + 1)))) rfl ?_
  refine AOps.nilR ?_
  cases h
  obtain ⟨Ls66, hG67, hH68⟩ := HS.selEG hH65 hG64 [] [some 1]
  change HS [] true s s63 (([] : List BX) ++ List.flatten Ls66) at hH68
  change AllG [OS oE81 h8 k61 (out22.set (Int.toNat i24) y39)] Ls66 at hG67
  exact AW.res [(0, (AV.sl z2 f3 e4)), (3, h8), (4, (AV.int .i64 (IntKind.wrap .i64 (i24 + 1))))] [] ⟨rfl, rfl, rfl, trivial⟩ trivial (hL1 _ rfl (k61, s63, Ls66) _ _ ⟨hH68, hG67⟩)
 refine AW.condF (congrArg AV.bool hc29) ?_
 refine AW.exit rfl ?_
 obtain ⟨r69, hm, hx⟩ := omap h
 clear h
 subst hx
 have hx := hR1 _ rfl
 rw [hx] at hm
 have h := hm
 exact AW.res [(3, h8)] [] ⟨rfl, trivial⟩ trivial (KJ21 (out22, k23, s25, Ls26) _ _ ⟨hH27, hG28, h⟩)
end Go.Proofs.Ytchahpmelikoaaa.law
