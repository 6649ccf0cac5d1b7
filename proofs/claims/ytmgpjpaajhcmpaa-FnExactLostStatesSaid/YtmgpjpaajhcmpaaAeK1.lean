import Derived.Test.YtmgpjpaajhcmpaaAeD
import Derived.Test.YtmgpjpaajhcmpaaAe4
set_option linter.unusedVariables false
set_option linter.unusedSimpArgs false
namespace Go.Proofs.Ytmgpjpaajhcmpaa.law
open Go Go.Proofs Ae
set_option maxRecDepth 100000
set_option linter.unusedVariables false

theorem ext_grow64_ok {l : List Int} {z : Nat} {e : List AV} (hL : LR (rI .i64) 1 l z e) {n : Int} {r : List Int} (h : growN l n = some r) {st : St} (hs : WF st) : ACall Cf 64 [.sl z true e, .int .i64 n] st fun v o s' => (rL (rI .i64) 1 r v ∧ s' = st) ∧ o = true := by
 obtain ⟨h1, rfl⟩ := φGrow_run hL h
 refine ⟨0, .sl 1 false [], true, st, ?_, ⟨⟨1, false, [], rfl, .inl rfl, .nil⟩, rfl⟩, rfl⟩
 show (φGrow [.sl z true e, .int .i64 n]).map _ = _
 rw [h1]
 rfl
noncomputable def oE4 : OT Bool := oLeaf rB false 1 4 Sh.B (fun _ => rfl) (fun _ => .B)
noncomputable def oE65 : OT Push := oLeaf rPush true 2 4 (Sh.A (f := csPush) (fun _ => ⟨(.cons (One.of Sh.I _) (.cons (One.of Sh.I _) .nil)), rfl⟩)) (fun h => by cases h) (fun _ => (.A (.cons .I (.cons .I .nil))))
noncomputable def oE62 : OT (List Push) := oSl oE65
noncomputable def oE2 : OT Int := oLeaf (rI .i64) false 1 4 Sh.I (fun _ => rfl) (fun _ => .I)
noncomputable def oE29 : OT (List Int) := oSl oE2
noncomputable def oE25 : OT (List (List Int)) := oSl oE29
theorem own_int : ∀ k x cs L, oE2.own k x cs L ↔ cs = [.int .i64 x] ∧ L = [] := fun k x cs L => ⟨fun ⟨⟨v, h1, h2⟩, h3⟩ => by cases h1; exact ⟨h2.symm, h3⟩, fun ⟨h1, h2⟩ => ⟨⟨_, rfl, h1.symm⟩, h2⟩⟩
theorem laws_szBoolS_ok {a1 : List Bool} {left6 : Int} {z2 : Nat} {f3 : Bool} {e4 : List AV} {s : St} (h5 : LR rB 1 a1 z2 e4) {r : Int} (h : laws_szBoolS a1 left6 = some r) (hs : WF s) : ACall Cf 13 [(AV.sl z2 f3 e4), (AV.int .i64 left6)] s fun v _ s' => (rI .i64) r v ∧ s' = s := by
 refine ACall.pure rfl rfl rfl .I ?_
 have hWF := hs.lo'
 unfold laws_szBoolS at h
 refine AW.sr ?_
 refine AOps.p rfl (rfl : _ = (AV.int .i64 0)) ?_
 refine AOps.nilR ?_
 refine AW.sr ?_
 refine AOps.p rfl (rfl : _ = (AV.int .i64 left6)) ?_
 refine AOps.p rfl (rfl : _ = (AV.sl z2 f3 e4)) ?_
 refine AOps.p rfl (len_eq h5) ?_
 refine AOps.p rfl (rfl : _ = (AV.int .i64 (IntKind.wrap .i64 (left6 - (a1.length : Int))))) ?_
 refine AOps.assignR rfl rfl rfl (rfl : _ = (AV.int .i64 (IntKind.wrap .i64 (left6 - (a1.length : Int))))) rfl ?_
 refine AOps.nilR ?_
 refine AW.seq ?_
 refine AW.sr ?_
 refine AOps.p rfl (rfl : _ = (AV.int .i64 (IntKind.wrap .i64 (left6 - (a1.length : Int))))) ?_
 refine AOps.p rfl (rfl : _ = (AV.bool (decide ((IntKind.wrap .i64 (left6 - (a1.length : Int)) : Int) < 0)))) ?_
 refine AOps.nilR ?_
 rcases oite h with ⟨hc7, h⟩ | ⟨hc7, h⟩
 ·refine AW.condT (congrArg AV.bool hc7) ?_
  refine AW.sr ?_
  refine AOps.p rfl (rfl : _ = (AV.int .i64 (-1))) ?_
  refine AOps.nilR ?_
  cases h
  exact AW.ret ⟨rfl, _, _, rfl, rfl⟩
 refine AW.condF (congrArg AV.bool hc7) ?_
 refine AW.skip ?_
 refine AW.sr ?_
 refine AOps.p rfl (rfl : _ = (AV.int .i64 (IntKind.wrap .i64 (left6 - (a1.length : Int))))) ?_
 refine AOps.assignR rfl rfl rfl (rfl : _ = (AV.int .i64 (IntKind.wrap .i64 (left6 - (a1.length : Int))))) rfl ?_
 refine AOps.nilR ?_
 cases h
 exact AW.ret ⟨rfl, _, _, rfl, rfl⟩
theorem laws_szPushS_ok {a1 : List Push} {left6 : Int} {z2 : Nat} {f3 : Bool} {e4 : List AV} {s : St} (h5 : LR rPush 2 a1 z2 e4) {r : Int} (h : laws_szPushS a1 left6 = some r) (hs : WF s) : ACall Cf 33 [(AV.sl z2 f3 e4), (AV.int .i64 left6)] s fun v _ s' => (rI .i64) r v ∧ s' = s := by
 refine ACall.pure rfl rfl rfl .I ?_
 have hWF := hs.lo'
 unfold laws_szPushS at h
 refine AW.sr ?_
 refine AOps.p rfl (rfl : _ = (AV.int .i64 0)) ?_
 refine AOps.nilR ?_
 refine AW.sr ?_
 refine AOps.p rfl (rfl : _ = (AV.int .i64 left6)) ?_
 refine AOps.p rfl (rfl : _ = (AV.sl z2 f3 e4)) ?_
 refine AOps.p rfl (len_eq h5) ?_
 refine AOps.p rfl (rfl : _ = (AV.int .i64 (IntKind.wrap .i64 (left6 - (a1.length : Int))))) ?_
 refine AOps.assignR rfl rfl rfl (rfl : _ = (AV.int .i64 (IntKind.wrap .i64 (left6 - (a1.length : Int))))) rfl ?_
 refine AOps.nilR ?_
 refine AW.seq ?_
 refine AW.sr ?_
 refine AOps.p rfl (rfl : _ = (AV.int .i64 (IntKind.wrap .i64 (left6 - (a1.length : Int))))) ?_
 refine AOps.p rfl (rfl : _ = (AV.bool (decide ((IntKind.wrap .i64 (left6 - (a1.length : Int)) : Int) < 0)))) ?_
 refine AOps.nilR ?_
 rcases oite h with ⟨hc7, h⟩ | ⟨hc7, h⟩
 ·refine AW.condT (congrArg AV.bool hc7) ?_
  refine AW.sr ?_
  refine AOps.p rfl (rfl : _ = (AV.int .i64 (-1))) ?_
  refine AOps.nilR ?_
  cases h
  exact AW.ret ⟨rfl, _, _, rfl, rfl⟩
 refine AW.condF (congrArg AV.bool hc7) ?_
 refine AW.skip ?_
 refine AW.sr ?_
 refine AOps.p rfl (rfl : _ = (AV.int .i64 (IntKind.wrap .i64 (left6 - (a1.length : Int))))) ?_
 refine AOps.assignR rfl rfl rfl (rfl : _ = (AV.int .i64 (IntKind.wrap .i64 (left6 - (a1.length : Int))))) rfl ?_
 refine AOps.nilR ?_
 cases h
 exact AW.ret ⟨rfl, _, _, rfl, rfl⟩
theorem laws_szPushSS_ok {a1 : List (List Push)} {left6 : Int} {z2 : Nat} {f3 : Bool} {e4 : List AV} {s : St} (h5 : LR (rL rPush 2) 1 a1 z2 e4) {r : Int} (h : laws_szPushSS a1 left6 = some r) (hs : WF s) : ACall Cf 14 [(AV.sl z2 f3 e4), (AV.int .i64 left6)] s fun v _ s' => (rI .i64) r v ∧ s' = s := by
 refine ACall.pure rfl rfl rfl .I ?_
 have hWF := hs.lo'
 unfold laws_szPushSS at h
 refine AW.sr ?_
 refine AOps.p rfl (rfl : _ = (AV.int .i64 0)) ?_
 refine AOps.nilR ?_
 refine AW.sr ?_
 refine AOps.p rfl (rfl : _ = (AV.int .i64 left6)) ?_
 refine AOps.p rfl (rfl : _ = (AV.sl z2 f3 e4)) ?_
 refine AOps.p rfl (len_eq h5) ?_
 refine AOps.p rfl (rfl : _ = (AV.int .i64 (IntKind.wrap .i64 (left6 - (a1.length : Int))))) ?_
 refine AOps.assignR rfl rfl rfl (rfl : _ = (AV.int .i64 (IntKind.wrap .i64 (left6 - (a1.length : Int))))) rfl ?_
 refine AOps.nilR ?_
 refine AW.seq ?_
 refine AW.sr ?_
 refine AOps.p rfl (rfl : _ = (AV.int .i64 (IntKind.wrap .i64 (left6 - (a1.length : Int))))) ?_
 refine AOps.p rfl (rfl : _ = (AV.bool (decide ((IntKind.wrap .i64 (left6 - (a1.length : Int)) : Int) < 0)))) ?_
 refine AOps.nilR ?_
 rcases oite h with ⟨hc7, h⟩ | ⟨hc7, h⟩
 ·refine AW.condT (congrArg AV.bool hc7) ?_
  refine AW.sr ?_
  refine AOps.p rfl (rfl : _ = (AV.int .i64 (-1))) ?_
  refine AOps.nilR ?_
  cases h
  exact AW.ret ⟨rfl, _, _, rfl, rfl⟩
 refine AW.condF (congrArg AV.bool hc7) ?_
 refine AW.skip ?_
 refine AW.seq ?_
 refine AW.sr ?_
 refine AOps.p rfl (rfl : _ = (AV.int .i64 0)) ?_
 refine AOps.nilR ?_
 refine AW.meet (σ := Int) (fun left8 tm os => ⟨updL tm [(1, (AV.int .i64 left8))], updL os [], { s with lo := s.n }⟩) (fun left8 => laws_szPushSS_J1 left8 = some r) ?_ ?_
 ·rintro left8 tm os h
  unfold laws_szPushSS_J1 at h
  refine AW.sr ?_
  refine AOps.p rfl (rfl : _ = (AV.int .i64 left8)) ?_
  refine AOps.assignR rfl rfl rfl (rfl : _ = (AV.int .i64 left8)) rfl ?_
  refine AOps.nilR ?_
  cases h
  exact AW.ret ⟨rfl, _, _, rfl, rfl⟩
 intro KJ9
 refine AW.block ?_
 refine AW.res [(0, (AV.sl z2 f3 e4)), (1, (AV.int .i64 (IntKind.wrap .i64 (left6 - (a1.length : Int))))), (5, (AV.int .i64 0))] [] ⟨rfl, rfl, rfl, trivial⟩ trivial ?_
 refine AW.loopF (σ := Int × Int) (τ := Unit) (fun (left10, i11) _ => True) (fun (left10, i11) _ tm os => ⟨updL tm [(0, (AV.sl z2 f3 e4)), (1, (AV.int .i64 left10)), (5, (AV.int .i64 i11))], updL os [], { s with lo := s.n }⟩) ?_ (x := (IntKind.wrap .i64 (left6 - (a1.length : Int)), 0)) (y := ()) h trivial
 clear h
 rintro ⟨left10, i11⟩ _ tm os - ee1 h hL1 hR1
 unfold laws_szPushSS_S1 at h
 dsimp only at h
 refine AW.seq ?_
 refine AW.sr ?_
 refine AOps.p rfl (rfl : _ = (AV.int .i64 i11)) ?_
 refine AOps.p rfl (rfl : _ = (AV.sl z2 f3 e4)) ?_
 refine AOps.p rfl (len_eq h5) ?_
 refine AOps.p rfl (rfl : _ = (AV.bool (decide ((i11 : Int) < (a1.length : Int))))) ?_
 refine AOps.nilR ?_
 rcases oite h with ⟨hc12, h⟩ | ⟨hc12, h⟩
 ·refine AW.condT (congrArg AV.bool hc12) ?_
  refine AW.skip ?_
  refine AW.seq ?_
  refine AW.block ?_
  refine AW.sr ?_
  refine AOps.p rfl (rfl : _ = (AV.sl z2 f3 e4)) ?_
  refine AOps.p rfl (rfl : _ = (AV.int .i64 i11)) ?_
  obtain ⟨x13, h14, h⟩ := obind h
  obtain ⟨v17, h15, h16⟩ := idx_sl h5 h14
  obtain ⟨z18, f19, e20, rfl, h21⟩ := h15
  refine AOps.pureR rfl rfl rfl h16 rfl (rfl : _ = (AV.eptr [(AV.sl z18 f19 e20)] 0)) ?_
  refine AOps.ldE (v := (AV.sl z18 f19 e20)) rfl rfl rfl rfl rfl rfl ?_
  refine AOps.p rfl (rfl : _ = (AV.int .i64 left10)) ?_
  obtain ⟨y22, h23, h⟩ := obind h
  refine AOps.callP (g := 33) (args := [(AV.sl z18 f19 e20), (AV.int .i64 left10)]) (p := (rI .i64) y22) rfl rfl rfl (laws_szPushS_ok h21 h23 hWF) ?_
  intro _ o25 h24
  cases h24
  refine AOps.assignR rfl rfl rfl (rfl : _ = (AV.int .i64 y22)) rfl ?_
  refine AOps.nilR ?_
  refine AW.sr ?_
  refine AOps.p rfl (rfl : _ = (AV.int .i64 y22)) ?_
  refine AOps.p rfl (rfl : _ = (AV.bool (decide ((y22 : Int) < 0)))) ?_
  refine AOps.nilR ?_
  rcases oite h with ⟨hc26, h⟩ | ⟨hc26, h⟩
  ·refine AW.condT (congrArg AV.bool hc26) ?_
   refine AW.sr ?_
   refine AOps.p rfl (rfl : _ = (AV.int .i64 (-1))) ?_
   refine AOps.nilR ?_
   cases h
   have hr := hR1 _ rfl
   subst hr
   exact AW.ret ⟨rfl, _, _, rfl, rfl⟩
  refine AW.condF (congrArg AV.bool hc26) ?_
  refine AW.skip ?_
  refine AW.inBlock ?_
  refine AW.region ?_
  refine AOps.p rfl (rfl : _ = (AV.int .i64 i11)) ?_
  refine AOps.p rfl (rfl : _ = (AV.int .i64 (IntKind.wrap .i64 (i11 + 1)))) ?_
  refine AOps.assignR rfl rfl rfl (rfl : _ = (AV.int .i64 (IntKind.wrap .i64 (i11 + 1)))) rfl ?_
  refine AOps.nilR ?_
  cases h
  exact AW.res [(0, (AV.sl z2 f3 e4)), (1, (AV.int .i64 y22)), (5, (AV.int .i64 (IntKind.wrap .i64 (i11 + 1))))] [] ⟨rfl, rfl, rfl, trivial⟩ trivial (hL1 _ rfl () _ _ trivial)
 refine AW.condF (congrArg AV.bool hc12) ?_
 refine AW.exit rfl ?_
 obtain ⟨r27, hm, hx⟩ := omap h
 clear h
 subst hx
 have hx := hR1 _ rfl
 rw [hx] at hm
 have h := hm
 exact AW.res [(1, (AV.int .i64 left10))] [] ⟨rfl, trivial⟩ trivial (KJ9 (left10) _ _ h)
theorem laws_szInt64S_ok {a1 : List Int} {left6 : Int} {z2 : Nat} {f3 : Bool} {e4 : List AV} {s : St} (h5 : LR (rI .i64) 1 a1 z2 e4) {r : Int} (h : laws_szInt64S a1 left6 = some r) (hs : WF s) : ACall Cf 34 [(AV.sl z2 f3 e4), (AV.int .i64 left6)] s fun v _ s' => (rI .i64) r v ∧ s' = s := by
 refine ACall.pure rfl rfl rfl .I ?_
 have hWF := hs.lo'
 unfold laws_szInt64S at h
 refine AW.sr ?_
 refine AOps.p rfl (rfl : _ = (AV.int .i64 0)) ?_
 refine AOps.nilR ?_
 refine AW.sr ?_
 refine AOps.p rfl (rfl : _ = (AV.int .i64 left6)) ?_
 refine AOps.p rfl (rfl : _ = (AV.sl z2 f3 e4)) ?_
 refine AOps.p rfl (len_eq h5) ?_
 refine AOps.p rfl (rfl : _ = (AV.int .i64 (IntKind.wrap .i64 (left6 - (a1.length : Int))))) ?_
 refine AOps.assignR rfl rfl rfl (rfl : _ = (AV.int .i64 (IntKind.wrap .i64 (left6 - (a1.length : Int))))) rfl ?_
 refine AOps.nilR ?_
 refine AW.seq ?_
 refine AW.sr ?_
 refine AOps.p rfl (rfl : _ = (AV.int .i64 (IntKind.wrap .i64 (left6 - (a1.length : Int))))) ?_
 refine AOps.p rfl (rfl : _ = (AV.bool (decide ((IntKind.wrap .i64 (left6 - (a1.length : Int)) : Int) < 0)))) ?_
 refine AOps.nilR ?_
 rcases oite h with ⟨hc7, h⟩ | ⟨hc7, h⟩
 ·refine AW.condT (congrArg AV.bool hc7) ?_
  refine AW.sr ?_
  refine AOps.p rfl (rfl : _ = (AV.int .i64 (-1))) ?_
  refine AOps.nilR ?_
  cases h
  exact AW.ret ⟨rfl, _, _, rfl, rfl⟩
 refine AW.condF (congrArg AV.bool hc7) ?_
 refine AW.skip ?_
 refine AW.sr ?_
 refine AOps.p rfl (rfl : _ = (AV.int .i64 (IntKind.wrap .i64 (left6 - (a1.length : Int))))) ?_
 refine AOps.assignR rfl rfl rfl (rfl : _ = (AV.int .i64 (IntKind.wrap .i64 (left6 - (a1.length : Int))))) rfl ?_
 refine AOps.nilR ?_
 cases h
 exact AW.ret ⟨rfl, _, _, rfl, rfl⟩
theorem laws_szInt64SS_ok {a1 : List (List Int)} {left6 : Int} {z2 : Nat} {f3 : Bool} {e4 : List AV} {s : St} (h5 : LR (rL (rI .i64) 1) 1 a1 z2 e4) {r : Int} (h : laws_szInt64SS a1 left6 = some r) (hs : WF s) : ACall Cf 16 [(AV.sl z2 f3 e4), (AV.int .i64 left6)] s fun v _ s' => (rI .i64) r v ∧ s' = s := by
 refine ACall.pure rfl rfl rfl .I ?_
 have hWF := hs.lo'
 unfold laws_szInt64SS at h
 refine AW.sr ?_
 refine AOps.p rfl (rfl : _ = (AV.int .i64 0)) ?_
 refine AOps.nilR ?_
 refine AW.sr ?_
 refine AOps.p rfl (rfl : _ = (AV.int .i64 left6)) ?_
 refine AOps.p rfl (rfl : _ = (AV.sl z2 f3 e4)) ?_
 refine AOps.p rfl (len_eq h5) ?_
 refine AOps.p rfl (rfl : _ = (AV.int .i64 (IntKind.wrap .i64 (left6 - (a1.length : Int))))) ?_
 refine AOps.assignR rfl rfl rfl (rfl : _ = (AV.int .i64 (IntKind.wrap .i64 (left6 - (a1.length : Int))))) rfl ?_
 refine AOps.nilR ?_
 refine AW.seq ?_
 refine AW.sr ?_
 refine AOps.p rfl (rfl : _ = (AV.int .i64 (IntKind.wrap .i64 (left6 - (a1.length : Int))))) ?_
 refine AOps.p rfl (rfl : _ = (AV.bool (decide ((IntKind.wrap .i64 (left6 - (a1.length : Int)) : Int) < 0)))) ?_
 refine AOps.nilR ?_
 rcases oite h with ⟨hc7, h⟩ | ⟨hc7, h⟩
 ·refine AW.condT (congrArg AV.bool hc7) ?_
  refine AW.sr ?_
  refine AOps.p rfl (rfl : _ = (AV.int .i64 (-1))) ?_
  refine AOps.nilR ?_
  cases h
  exact AW.ret ⟨rfl, _, _, rfl, rfl⟩
 refine AW.condF (congrArg AV.bool hc7) ?_
 refine AW.skip ?_
 refine AW.seq ?_
 refine AW.sr ?_
 refine AOps.p rfl (rfl : _ = (AV.int .i64 0)) ?_
 refine AOps.nilR ?_
 refine AW.meet (σ := Int) (fun left8 tm os => ⟨updL tm [(1, (AV.int .i64 left8))], updL os [], { s with lo := s.n }⟩) (fun left8 => laws_szInt64SS_J1 left8 = some r) ?_ ?_
 ·rintro left8 tm os h
  unfold laws_szInt64SS_J1 at h
  refine AW.sr ?_
  refine AOps.p rfl (rfl : _ = (AV.int .i64 left8)) ?_
  refine AOps.assignR rfl rfl rfl (rfl : _ = (AV.int .i64 left8)) rfl ?_
  refine AOps.nilR ?_
  cases h
  exact AW.ret ⟨rfl, _, _, rfl, rfl⟩
 intro KJ9
 refine AW.block ?_
 refine AW.res [(0, (AV.sl z2 f3 e4)), (1, (AV.int .i64 (IntKind.wrap .i64 (left6 - (a1.length : Int))))), (5, (AV.int .i64 0))] [] ⟨rfl, rfl, rfl, trivial⟩ trivial ?_
 refine AW.loopF (σ := Int × Int) (τ := Unit) (fun (left10, i11) _ => True) (fun (left10, i11) _ tm os => ⟨updL tm [(0, (AV.sl z2 f3 e4)), (1, (AV.int .i64 left10)), (5, (AV.int .i64 i11))], updL os [], { s with lo := s.n }⟩) ?_ (x := (IntKind.wrap .i64 (left6 - (a1.length : Int)), 0)) (y := ()) h trivial
 clear h
 rintro ⟨left10, i11⟩ _ tm os - ee1 h hL1 hR1
 unfold laws_szInt64SS_S1 at h
 dsimp only at h
 refine AW.seq ?_
 refine AW.sr ?_
 refine AOps.p rfl (rfl : _ = (AV.int .i64 i11)) ?_
 refine AOps.p rfl (rfl : _ = (AV.sl z2 f3 e4)) ?_
 refine AOps.p rfl (len_eq h5) ?_
 refine AOps.p rfl (rfl : _ = (AV.bool (decide ((i11 : Int) < (a1.length : Int))))) ?_
 refine AOps.nilR ?_
 rcases oite h with ⟨hc12, h⟩ | ⟨hc12, h⟩
 ·refine AW.condT (congrArg AV.bool hc12) ?_
  refine AW.skip ?_
  refine AW.seq ?_
  refine AW.block ?_
  refine AW.sr ?_
  refine AOps.p rfl (rfl : _ = (AV.sl z2 f3 e4)) ?_
  refine AOps.p rfl (rfl : _ = (AV.int .i64 i11)) ?_
  obtain ⟨x13, h14, h⟩ := obind h
  obtain ⟨v17, h15, h16⟩ := idx_sl h5 h14
  obtain ⟨z18, f19, e20, rfl, h21⟩ := h15
  refine AOps.pureR rfl rfl rfl h16 rfl (rfl : _ = (AV.eptr [(AV.sl z18 f19 e20)] 0)) ?_
  refine AOps.ldE (v := (AV.sl z18 f19 e20)) rfl rfl rfl rfl rfl rfl ?_
  refine AOps.p rfl (rfl : _ = (AV.int .i64 left10)) ?_
  obtain ⟨y22, h23, h⟩ := obind h
  refine AOps.callP (g := 34) (args := [(AV.sl z18 f19 e20), (AV.int .i64 left10)]) (p := (rI .i64) y22) rfl rfl rfl (laws_szInt64S_ok h21 h23 hWF) ?_
  intro _ o25 h24
  cases h24
  refine AOps.assignR rfl rfl rfl (rfl : _ = (AV.int .i64 y22)) rfl ?_
  refine AOps.nilR ?_
  refine AW.sr ?_
  refine AOps.p rfl (rfl : _ = (AV.int .i64 y22)) ?_
  refine AOps.p rfl (rfl : _ = (AV.bool (decide ((y22 : Int) < 0)))) ?_
  refine AOps.nilR ?_
  rcases oite h with ⟨hc26, h⟩ | ⟨hc26, h⟩
  ·refine AW.condT (congrArg AV.bool hc26) ?_
   refine AW.sr ?_
   refine AOps.p rfl (rfl : _ = (AV.int .i64 (-1))) ?_
   refine AOps.nilR ?_
   cases h
   have hr := hR1 _ rfl
   subst hr
   exact AW.ret ⟨rfl, _, _, rfl, rfl⟩
  refine AW.condF (congrArg AV.bool hc26) ?_
  refine AW.skip ?_
  refine AW.inBlock ?_
  refine AW.region ?_
  refine AOps.p rfl (rfl : _ = (AV.int .i64 i11)) ?_
  refine AOps.p rfl (rfl : _ = (AV.int .i64 (IntKind.wrap .i64 (i11 + 1)))) ?_
  refine AOps.assignR rfl rfl rfl (rfl : _ = (AV.int .i64 (IntKind.wrap .i64 (i11 + 1)))) rfl ?_
  refine AOps.nilR ?_
  cases h
  exact AW.res [(0, (AV.sl z2 f3 e4)), (1, (AV.int .i64 y22)), (5, (AV.int .i64 (IntKind.wrap .i64 (i11 + 1))))] [] ⟨rfl, rfl, rfl, trivial⟩ trivial (hL1 _ rfl () _ _ trivial)
 refine AW.condF (congrArg AV.bool hc12) ?_
 refine AW.exit rfl ?_
 obtain ⟨r27, hm, hx⟩ := omap h
 clear h
 subst hx
 have hx := hR1 _ rfl
 rw [hx] at hm
 have h := hm
 exact AW.res [(1, (AV.int .i64 left10))] [] ⟨rfl, trivial⟩ trivial (KJ9 (left10) _ _ h)
theorem laws_szInt64SSS_ok {a1 : List (List (List Int))} {left6 : Int} {z2 : Nat} {f3 : Bool} {e4 : List AV} {s : St} (h5 : LR (rL (rL (rI .i64) 1) 1) 1 a1 z2 e4) {r : Int} (h : laws_szInt64SSS a1 left6 = some r) (hs : WF s) : ACall Cf 15 [(AV.sl z2 f3 e4), (AV.int .i64 left6)] s fun v _ s' => (rI .i64) r v ∧ s' = s := by
 refine ACall.pure rfl rfl rfl .I ?_
 have hWF := hs.lo'
 unfold laws_szInt64SSS at h
 refine AW.sr ?_
 refine AOps.p rfl (rfl : _ = (AV.int .i64 0)) ?_
 refine AOps.nilR ?_
 refine AW.sr ?_
 refine AOps.p rfl (rfl : _ = (AV.int .i64 left6)) ?_
 refine AOps.p rfl (rfl : _ = (AV.sl z2 f3 e4)) ?_
 refine AOps.p rfl (len_eq h5) ?_
 refine AOps.p rfl (rfl : _ = (AV.int .i64 (IntKind.wrap .i64 (left6 - (a1.length : Int))))) ?_
 refine AOps.assignR rfl rfl rfl (rfl : _ = (AV.int .i64 (IntKind.wrap .i64 (left6 - (a1.length : Int))))) rfl ?_
 refine AOps.nilR ?_
 refine AW.seq ?_
 refine AW.sr ?_
 refine AOps.p rfl (rfl : _ = (AV.int .i64 (IntKind.wrap .i64 (left6 - (a1.length : Int))))) ?_
 refine AOps.p rfl (rfl : _ = (AV.bool (decide ((IntKind.wrap .i64 (left6 - (a1.length : Int)) : Int) < 0)))) ?_
 refine AOps.nilR ?_
 rcases oite h with ⟨hc7, h⟩ | ⟨hc7, h⟩
 ·refine AW.condT (congrArg AV.bool hc7) ?_
  refine AW.sr ?_
  refine AOps.p rfl (rfl : _ = (AV.int .i64 (-1))) ?_
  refine AOps.nilR ?_
  cases h
  exact AW.ret ⟨rfl, _, _, rfl, rfl⟩
 refine AW.condF (congrArg AV.bool hc7) ?_
 refine AW.skip ?_
 refine AW.seq ?_
 refine AW.sr ?_
 refine AOps.p rfl (rfl : _ = (AV.int .i64 0)) ?_
 refine AOps.nilR ?_
 refine AW.meet (σ := Int) (fun left8 tm os => ⟨updL tm [(1, (AV.int .i64 left8))], updL os [], { s with lo := s.n }⟩) (fun left8 => laws_szInt64SSS_J1 left8 = some r) ?_ ?_
 ·rintro left8 tm os h
  unfold laws_szInt64SSS_J1 at h
  refine AW.sr ?_
  refine AOps.p rfl (rfl : _ = (AV.int .i64 left8)) ?_
  refine AOps.assignR rfl rfl rfl (rfl : _ = (AV.int .i64 left8)) rfl ?_
  refine AOps.nilR ?_
  cases h
  exact AW.ret ⟨rfl, _, _, rfl, rfl⟩
 intro KJ9
 refine AW.block ?_
 refine AW.res [(0, (AV.sl z2 f3 e4)), (1, (AV.int .i64 (IntKind.wrap .i64 (left6 - (a1.length : Int))))), (5, (AV.int .i64 0))] [] ⟨rfl, rfl, rfl, trivial⟩ trivial ?_
 refine AW.loopF (σ := Int × Int) (τ := Unit) (fun (left10, i11) _ => True) (fun (left10, i11) _ tm os => ⟨updL tm [(0, (AV.sl z2 f3 e4)), (1, (AV.int .i64 left10)), (5, (AV.int .i64 i11))], updL os [], { s with lo := s.n }⟩) ?_ (x := (IntKind.wrap .i64 (left6 - (a1.length : Int)), 0)) (y := ()) h trivial
 clear h
 rintro ⟨left10, i11⟩ _ tm os - ee1 h hL1 hR1
 unfold laws_szInt64SSS_S1 at h
 dsimp only at h
 refine AW.seq ?_
 refine AW.sr ?_
 refine AOps.p rfl (rfl : _ = (AV.int .i64 i11)) ?_
 refine AOps.p rfl (rfl : _ = (AV.sl z2 f3 e4)) ?_
 refine AOps.p rfl (len_eq h5) ?_
 refine AOps.p rfl (rfl : _ = (AV.bool (decide ((i11 : Int) < (a1.length : Int))))) ?_
 refine AOps.nilR ?_
 rcases oite h with ⟨hc12, h⟩ | ⟨hc12, h⟩
 ·refine AW.condT (congrArg AV.bool hc12) ?_
  refine AW.skip ?_
  refine AW.seq ?_
  refine AW.block ?_
  refine AW.sr ?_
  refine AOps.p rfl (rfl : _ = (AV.sl z2 f3 e4)) ?_
  refine AOps.p rfl (rfl : _ = (AV.int .i64 i11)) ?_
  obtain ⟨x13, h14, h⟩ := obind h
  obtain ⟨v17, h15, h16⟩ := idx_sl h5 h14
  obtain ⟨z18, f19, e20, rfl, h21⟩ := h15
  refine AOps.pureR rfl rfl rfl h16 rfl (rfl : _ = (AV.eptr [(AV.sl z18 f19 e20)] 0)) ?_
  refine AOps.ldE (v := (AV.sl z18 f19 e20)) rfl rfl rfl rfl rfl rfl ?_
  refine AOps.p rfl (rfl : _ = (AV.int .i64 left10)) ?_
  obtain ⟨y22, h23, h⟩ := obind h
  refine AOps.callP (g := 16) (args := [(AV.sl z18 f19 e20), (AV.int .i64 left10)]) (p := (rI .i64) y22) rfl rfl rfl (laws_szInt64SS_ok h21 h23 hWF) ?_
  intro _ o25 h24
  cases h24
  refine AOps.assignR rfl rfl rfl (rfl : _ = (AV.int .i64 y22)) rfl ?_
  refine AOps.nilR ?_
  refine AW.sr ?_
  refine AOps.p rfl (rfl : _ = (AV.int .i64 y22)) ?_
  refine AOps.p rfl (rfl : _ = (AV.bool (decide ((y22 : Int) < 0)))) ?_
  refine AOps.nilR ?_
  rcases oite h with ⟨hc26, h⟩ | ⟨hc26, h⟩
  ·refine AW.condT (congrArg AV.bool hc26) ?_
   refine AW.sr ?_
   refine AOps.p rfl (rfl : _ = (AV.int .i64 (-1))) ?_
   refine AOps.nilR ?_
   cases h
   have hr := hR1 _ rfl
   subst hr
   exact AW.ret ⟨rfl, _, _, rfl, rfl⟩
  refine AW.condF (congrArg AV.bool hc26) ?_
  refine AW.skip ?_
  refine AW.inBlock ?_
  refine AW.region ?_
  refine AOps.p rfl (rfl : _ = (AV.int .i64 i11)) ?_
  refine AOps.p rfl (rfl : _ = (AV.int .i64 (IntKind.wrap .i64 (i11 + 1)))) ?_
  refine AOps.assignR rfl rfl rfl (rfl : _ = (AV.int .i64 (IntKind.wrap .i64 (i11 + 1)))) rfl ?_
  refine AOps.nilR ?_
  cases h
  exact AW.res [(0, (AV.sl z2 f3 e4)), (1, (AV.int .i64 y22)), (5, (AV.int .i64 (IntKind.wrap .i64 (i11 + 1))))] [] ⟨rfl, rfl, rfl, trivial⟩ trivial (hL1 _ rfl () _ _ trivial)
 refine AW.condF (congrArg AV.bool hc12) ?_
 refine AW.exit rfl ?_
 obtain ⟨r27, hm, hx⟩ := omap h
 clear h
 subst hx
 have hx := hR1 _ rfl
 rw [hx] at hm
 have h := hm
 exact AW.res [(1, (AV.int .i64 left10))] [] ⟨rfl, trivial⟩ trivial (KJ9 (left10) _ _ h)
theorem laws_szChecker_ok {a1 : Checker} {left18 : Int} {z2 : Nat} {f3 : Bool} {e4 : List AV} {z6 : Nat} {f7 : Bool} {e8 : List AV} {z10 : Nat} {f11 : Bool} {e12 : List AV} {z14 : Nat} {f15 : Bool} {e16 : List AV} {s : St} (h5 : LR rB 1 a1.Accept z2 e4) (h9 : LR (rL rPush 2) 1 a1.Call z6 e8) (h13 : LR (rL (rL (rI .i64) 1) 1) 1 a1.Return z10 e12) (h17 : LR (rL (rI .i64) 1) 1 a1.Inner z14 e16) {r : Int} (h : laws_szChecker a1 left18 = some r) (hs : WF s) : ACall Cf 4 [(AV.agg [(AV.int .i64 a1.Stack), (AV.int .i64 a1.Start), (AV.sl z2 f3 e4), (AV.sl z6 f7 e8), (AV.sl z10 f11 e12), (AV.sl z14 f15 e16)]), (AV.int .i64 left18)] s fun v _ s' => (rI .i64) r v ∧ s' = s := by
 refine ACall.pure rfl rfl rfl .I ?_
 have hWF := hs.lo'
 unfold laws_szChecker at h
 refine AW.sr ?_
 refine AOps.makeR rfl rfl rfl rfl rfl rfl (rfl : _ = (AV.eptr [(AV.int .i64 a1.Stack), (AV.int .i64 a1.Start), (AV.sl z2 f3 e4), (AV.sl z6 f7 e8), (AV.sl z10 f11 e12), (AV.sl z14 f15 e16)] 0)) ?_
 refine AOps.p rfl (rfl : _ = (AV.int .i64 0)) ?_
 refine AOps.nilR ?_
 refine AW.sr ?_
 refine AOps.p rfl (rfl : _ = (AV.eptr [(AV.int .i64 a1.Stack), (AV.int .i64 a1.Start), (AV.sl z2 f3 e4), (AV.sl z6 f7 e8), (AV.sl z10 f11 e12), (AV.sl z14 f15 e16)] 2)) ?_
 refine AOps.ldE (v := (AV.sl z2 f3 e4)) rfl rfl rfl rfl rfl rfl ?_
 refine AOps.p rfl (rfl : _ = (AV.int .i64 left18)) ?_
 obtain ⟨y19, h20, h⟩ := obind h
 refine AOps.callP (g := 13) (args := [(AV.sl z2 f3 e4), (AV.int .i64 left18)]) (p := (rI .i64) y19) rfl rfl rfl (laws_szBoolS_ok h5 h20 hWF) ?_
 intro _ o22 h21
 cases h21
 refine AOps.assignR rfl rfl rfl (rfl : _ = (AV.int .i64 y19)) rfl ?_
 refine AOps.nilR ?_
 refine AW.seq ?_
 refine AW.sr ?_
 refine AOps.p rfl (rfl : _ = (AV.int .i64 y19)) ?_
 refine AOps.p rfl (rfl : _ = (AV.bool (decide ((y19 : Int) < 0)))) ?_
 refine AOps.nilR ?_
 rcases oite h with ⟨hc23, h⟩ | ⟨hc23, h⟩
 ·refine AW.condT (congrArg AV.bool hc23) ?_
  refine AW.sr ?_
  refine AOps.p rfl (rfl : _ = (AV.int .i64 (-1))) ?_
  refine AOps.nilR ?_
  cases h
  exact AW.ret ⟨rfl, _, _, rfl, rfl⟩
 refine AW.condF (congrArg AV.bool hc23) ?_
 refine AW.skip ?_
 refine AW.sr ?_
 refine AOps.p rfl (rfl : _ = (AV.eptr [(AV.int .i64 a1.Stack), (AV.int .i64 a1.Start), (AV.sl z2 f3 e4), (AV.sl z6 f7 e8), (AV.sl z10 f11 e12), (AV.sl z14 f15 e16)] 3)) ?_
 refine AOps.ldE (v := (AV.sl z6 f7 e8)) rfl rfl rfl rfl rfl rfl ?_
 refine AOps.p rfl (rfl : _ = (AV.int .i64 y19)) ?_
 obtain ⟨y24, h25, h⟩ := obind h
 refine AOps.callP (g := 14) (args := [(AV.sl z6 f7 e8), (AV.int .i64 y19)]) (p := (rI .i64) y24) rfl rfl rfl (laws_szPushSS_ok h9 h25 hWF) ?_
 intro _ o27 h26
 cases h26
 refine AOps.assignR rfl rfl rfl (rfl : _ = (AV.int .i64 y24)) rfl ?_
 refine AOps.nilR ?_
 refine AW.seq ?_
 refine AW.sr ?_
 refine AOps.p rfl (rfl : _ = (AV.int .i64 y24)) ?_
 refine AOps.p rfl (rfl : _ = (AV.bool (decide ((y24 : Int) < 0)))) ?_
 refine AOps.nilR ?_
 rcases oite h with ⟨hc28, h⟩ | ⟨hc28, h⟩
 ·refine AW.condT (congrArg AV.bool hc28) ?_
  refine AW.sr ?_
  refine AOps.p rfl (rfl : _ = (AV.int .i64 (-1))) ?_
  refine AOps.nilR ?_
  cases h
  exact AW.ret ⟨rfl, _, _, rfl, rfl⟩
 refine AW.condF (congrArg AV.bool hc28) ?_
 refine AW.skip ?_
 refine AW.sr ?_
 refine AOps.p rfl (rfl : _ = (AV.eptr [(AV.int .i64 a1.Stack), (AV.int .i64 a1.Start), (AV.sl z2 f3 e4), (AV.sl z6 f7 e8), (AV.sl z10 f11 e12), (AV.sl z14 f15 e16)] 4)) ?_
 refine AOps.ldE (v := (AV.sl z10 f11 e12)) rfl rfl rfl rfl rfl rfl ?_
 refine AOps.p rfl (rfl : _ = (AV.int .i64 y24)) ?_
 obtain ⟨y29, h30, h⟩ := obind h
 refine AOps.callP (g := 15) (args := [(AV.sl z10 f11 e12), (AV.int .i64 y24)]) (p := (rI .i64) y29) rfl rfl rfl (laws_szInt64SSS_ok h13 h30 hWF) ?_
 intro _ o32 h31
 cases h31
 refine AOps.assignR rfl rfl rfl (rfl : _ = (AV.int .i64 y29)) rfl ?_
 refine AOps.nilR ?_
 refine AW.seq ?_
 refine AW.sr ?_
 refine AOps.p rfl (rfl : _ = (AV.int .i64 y29)) ?_
 refine AOps.p rfl (rfl : _ = (AV.bool (decide ((y29 : Int) < 0)))) ?_
 refine AOps.nilR ?_
 rcases oite h with ⟨hc33, h⟩ | ⟨hc33, h⟩
 ·refine AW.condT (congrArg AV.bool hc33) ?_
  refine AW.sr ?_
  refine AOps.p rfl (rfl : _ = (AV.int .i64 (-1))) ?_
  refine AOps.nilR ?_
  cases h
  exact AW.ret ⟨rfl, _, _, rfl, rfl⟩
 refine AW.condF (congrArg AV.bool hc33) ?_
 refine AW.skip ?_
 refine AW.sr ?_
 refine AOps.p rfl (rfl : _ = (AV.eptr [(AV.int .i64 a1.Stack), (AV.int .i64 a1.Start), (AV.sl z2 f3 e4), (AV.sl z6 f7 e8), (AV.sl z10 f11 e12), (AV.sl z14 f15 e16)] 5)) ?_
 refine AOps.ldE (v := (AV.sl z14 f15 e16)) rfl rfl rfl rfl rfl rfl ?_
 refine AOps.p rfl (rfl : _ = (AV.int .i64 y29)) ?_
 obtain ⟨y34, h35, h⟩ := obind h
 refine AOps.callP (g := 16) (args := [(AV.sl z14 f15 e16), (AV.int .i64 y29)]) (p := (rI .i64) y34) rfl rfl rfl (laws_szInt64SS_ok h17 h35 hWF) ?_
 intro _ o37 h36
 cases h36
 refine AOps.assignR rfl rfl rfl (rfl : _ = (AV.int .i64 y34)) rfl ?_
 refine AOps.nilR ?_
 refine AW.seq ?_
 refine AW.sr ?_
 refine AOps.p rfl (rfl : _ = (AV.int .i64 y34)) ?_
 refine AOps.p rfl (rfl : _ = (AV.bool (decide ((y34 : Int) < 0)))) ?_
 refine AOps.nilR ?_
 rcases oite h with ⟨hc38, h⟩ | ⟨hc38, h⟩
 ·refine AW.condT (congrArg AV.bool hc38) ?_
  refine AW.sr ?_
  refine AOps.p rfl (rfl : _ = (AV.int .i64 (-1))) ?_
  refine AOps.nilR ?_
  cases h
  exact AW.ret ⟨rfl, _, _, rfl, rfl⟩
 refine AW.condF (congrArg AV.bool hc38) ?_
 refine AW.skip ?_
 refine AW.sr ?_
 refine AOps.p rfl (rfl : _ = (AV.int .i64 y34)) ?_
 refine AOps.assignR rfl rfl rfl (rfl : _ = (AV.int .i64 y34)) rfl ?_
 refine AOps.nilR ?_
 cases h
 exact AW.ret ⟨rfl, _, _, rfl, rfl⟩
theorem laws_toBoolS_ok {a1 : List Bool} {z2 : Nat} {f3 : Bool} {e4 : List AV} {s : St} (h5 : LR rB 1 a1 z2 e4) {r : (List Bool)} (h : laws_toBoolS a1 = some r) (hs : WF s) : ACall Cf 19 [(AV.sl z2 f3 e4)] s fun v _ s' => (rL rB 1) r v ∧ s' = s := by
 refine ACall.boxes rfl rfl rfl ?_
 have hH0 := HS.init hs
 unfold laws_toBoolS at h
 refine AW.sr ?_
 refine AOps.p rfl (rfl : _ = (AV.sl 0 true [])) ?_
 refine AOps.nilR ?_
 refine AW.sr ?_
 refine AOps.p rfl (rfl : _ = (AV.sl z2 f3 e4)) ?_
 refine AOps.p rfl (len_eq h5) ?_
 obtain ⟨l6, h7, h⟩ := obind h
 refine AOps.mkS (r := rB) hH0 rfl rfl rfl rfl rfl rfl rfl ⟨rfl, rfl, by decide⟩ h7 rfl (Sh.B (false : Bool) _ rfl) rfl ?_
 intro b8 s9 cs10 h11 hH12
 change HS [] false s s9 [⟨some b8, cs10, fun _ => false⟩] at hH12
 refine AOps.assignR rfl rfl rfl (rfl : _ = (AV.ms false 1 b8 0 (Int.toNat (a1.length : Int)))) rfl ?_
 refine AOps.nilR ?_
 refine AW.seq ?_
 refine AW.sr ?_
 refine AOps.p rfl (rfl : _ = (AV.int .i64 0)) ?_
 refine AOps.nilR ?_
 refine AW.meet (σ := (List Bool) × BX × Nat × Nat × St) (fun (out13, x14, b15, n17, s19) tm os => ⟨updL tm [(3, (AV.ms false 1 b15 0 n17))], updL os [], s19⟩) (fun (out13, x14, b15, n17, s19) => (x14.b = some b15) ∧ (MS rB false 1 out13 n17 x14.cs) ∧ (HS [] false s s19 [x14]) ∧ laws_toBoolS_J1 out13 = some r) ?_ ?_
 ·rintro ⟨out13, x14, b15, n17, s19⟩ tm os ⟨h16, h18, hH20, h⟩
  unfold laws_toBoolS_J1 at h
  refine AW.sr ?_
  refine AOps.p rfl (rfl : _ = (AV.ms false 1 b15 0 n17)) ?_
  refine AOps.assignR rfl rfl rfl (rfl : _ = (AV.ms false 1 b15 0 n17)) rfl ?_
  refine AOps.nilR ?_
  cases h
  exact AW.ret ⟨⟨_, hH20⟩, _, _, rfl, (Fin.ms (r := rB) hH20 (i := 0) rfl h16 h18 (fun _ => .B) (fun _ => rfl)).2⟩
 intro KJ21
 refine AW.block ?_
 refine AW.res [(0, (AV.sl z2 f3 e4)), (3, (AV.ms false 1 b8 0 (Int.toNat (a1.length : Int)))), (4, (AV.int .i64 0))] [] ⟨rfl, rfl, rfl, trivial⟩ trivial ?_
 refine AW.loopF (σ := (List Bool) × Int) (τ := BX × Nat × Nat × St) (fun (out22, i28) (x23, b24, n26, s29) => (x23.b = some b24) ∧ (MS rB false 1 out22 n26 x23.cs) ∧ (HS [] false s s29 [x23])) (fun (out22, i28) (x23, b24, n26, s29) tm os => ⟨updL tm [(0, (AV.sl z2 f3 e4)), (3, (AV.ms false 1 b24 0 n26)), (4, (AV.int .i64 i28))], updL os [], s29⟩) ?_ (x := (l6, 0)) (y := (⟨some b8, cs10, fun _ => false⟩, b8, Int.toNat (a1.length : Int), s9)) h ⟨rfl, h11, (HS.sel hH12 [some 0] (by decide))⟩
 clear h
 rintro ⟨out22, i28⟩ ⟨x23, b24, n26, s29⟩ tm os ⟨h25, h27, hH30⟩ ee1 h hL1 hR1
 unfold laws_toBoolS_S1 at h
 dsimp only at h
 refine AW.seq ?_
 refine AW.sr ?_
 refine AOps.p rfl (rfl : _ = (AV.int .i64 i28)) ?_
 refine AOps.p rfl (rfl : _ = (AV.sl z2 f3 e4)) ?_
 refine AOps.p rfl (len_eq h5) ?_
 refine AOps.p rfl (rfl : _ = (AV.bool (decide ((i28 : Int) < (a1.length : Int))))) ?_
 refine AOps.nilR ?_
 rcases oite h with ⟨hc31, h⟩ | ⟨hc31, h⟩
 ·refine AW.condT (congrArg AV.bool hc31) ?_
  refine AW.skip ?_
  refine AW.seq ?_
  refine AW.block ?_
  refine AW.region ?_
  refine AOps.p rfl (rfl : _ = (AV.ms false 1 b24 0 n26)) ?_
  refine AOps.p rfl (rfl : _ = (AV.int .i64 i28)) ?_
  refine AOps.p rfl (rfl : _ = (AV.sl z2 f3 e4)) ?_
  refine AOps.p rfl (rfl : _ = (AV.int .i64 i28)) ?_
  obtain ⟨x32, h33, h⟩ := obind h
  obtain ⟨v36, h34, h35⟩ := idx_sl h5 h33
  cases h34
  refine AOps.pureR rfl rfl rfl h35 rfl (rfl : _ = (AV.eptr [(AV.bool x32)] 0)) ?_
  refine AOps.ldE (v := (AV.bool x32)) rfl rfl rfl rfl rfl rfl ?_
  obtain ⟨x37, h38, h⟩ := obind h
  refine AOps.pureR rfl rfl rfl (idx_ms h27 h38) rfl (rfl : _ = (AV.ptr b24 (0 + Int.toNat i28 * 1))) ?_
  refine AOps.stM (i := 0) (r := rB) (v := (AV.bool x32)) (y := x32) hH30 rfl h25 h27 h38 rfl rfl rfl rfl rfl rfl (Sh.B x32 _ rfl) rfl rfl (lt_b rfl) rfl rfl ?_
  intro cs39 w40 s41 h42 hH43
  change HS [] false s s41 [⟨some b24, cs39, w40⟩] at hH43
  refine AOps.nilR ?_
  refine AW.inBlock ?_
  refine AW.region ?_
  refine AOps.p rfl (rfl : _ = (AV.int .i64 i28)) ?_
  refine AOps.p rfl (rfl : _ = (AV.int .i64 (IntKind.wrap .i64 (i28 + 1)))) ?_
  refine AOps.assignR rfl rfl rfl (rfl : _ = (AV.int .i64 (IntKind.wrap .i64 (i28 + 1)))) rfl ?_
  refine AOps.nilR ?_
  cases h
  exact AW.res [(0, (AV.sl z2 f3 e4)), (3, (AV.ms false 1 b24 0 n26)), (4, (AV.int .i64 (IntKind.wrap .i64 (i28 + 1))))] [] ⟨rfl, rfl, rfl, trivial⟩ trivial (hL1 _ rfl (⟨some b24, cs39, w40⟩, b24, n26, s41) _ _ ⟨rfl, h42, (HS.sel hH43 [some 0] (by decide))⟩)
 refine AW.condF (congrArg AV.bool hc31) ?_
 refine AW.exit rfl ?_
 obtain ⟨r44, hm, hx⟩ := omap h
 clear h
 subst hx
 have hx := hR1 _ rfl
 rw [hx] at hm
 have h := hm
 exact AW.res [(3, (AV.ms false 1 b24 0 n26))] [] ⟨rfl, trivial⟩ trivial (KJ21 (out22, x23, b24, n26, s29) _ _ ⟨h25, h27, (HS.sel hH30 [some 0] (by decide)), h⟩)
theorem laws_toPush_ok {a1 : Push} {s : St} {r : Push} (h : laws_toPush a1 = some r) (hs : WF s) : ACall Cf 58 [(AV.agg [(AV.int .i64 a1.To), (AV.int .i64 a1.Put)])] s fun v _ s' => (rPush) r v ∧ s' = s := by
 refine ACall.boxes rfl rfl rfl ?_
 have hH0 := HS.init hs
 unfold laws_toPush at h
 refine AW.sr ?_
 refine AOps.makeR rfl rfl rfl rfl rfl rfl (rfl : _ = (AV.eptr [(AV.int .i64 a1.To), (AV.int .i64 a1.Put)] 0)) ?_
 refine AOps.allocP rfl rfl rfl rfl ⟨rfl, rfl⟩ rfl ?_
 refine AOps.nilR ?_
 refine AW.sr ?_
 refine AOps.alloc1 hH0 rfl rfl rfl rfl rfl rfl ?_
 intro b2 s3 hH4
 change HS [] false s s3 [⟨some b2, [(AV.int .i64 0), (AV.int .i64 0)], (fun _ => false)⟩] at hH4
 refine AOps.nilR ?_
 refine AW.sr ?_
 refine AOps.p rfl (rfl : _ = (AV.eptr [(AV.int .i64 a1.To), (AV.int .i64 a1.Put)] 0)) ?_
 refine AOps.ldE (v := (AV.int .i64 a1.To)) rfl rfl rfl rfl rfl rfl ?_
 refine AOps.p rfl (rfl : _ = (AV.ptr b2 0)) ?_
 refine AOps.stB (i := 0) (v := (AV.int .i64 a1.To)) hH4 rfl rfl rfl rfl rfl rfl rfl rfl rfl (lt_b rfl) (le_b rfl) rfl ?_
 intro w5 s6 h7 h8 hH9
 change HS [] false s s6 [⟨some b2, [(AV.int .i64 a1.To), (AV.int .i64 0)], w5⟩] at hH9
 refine AOps.nilR ?_
 refine AW.sr ?_
 refine AOps.p rfl (rfl : _ = (AV.eptr [(AV.int .i64 a1.To), (AV.int .i64 a1.Put)] 1)) ?_
 refine AOps.ldE (v := (AV.int .i64 a1.Put)) rfl rfl rfl rfl rfl rfl ?_
 refine AOps.p rfl (rfl : _ = (AV.ptr b2 1)) ?_
 refine AOps.stB (i := 0) (v := (AV.int .i64 a1.Put)) hH9 rfl rfl rfl rfl rfl rfl rfl rfl rfl (lt_b rfl) (le_b rfl) rfl ?_
 intro w10 s11 h12 h13 hH14
 change HS [] false s s11 [⟨some b2, [(AV.int .i64 a1.To), (AV.int .i64 a1.Put)], w10⟩] at hH14
 refine AOps.nilR ?_
 refine AW.sr ?_
 refine AOps.ldB (i := 0) (v := (AV.agg [(AV.int .i64 a1.To), (AV.int .i64 a1.Put)])) hH14 rfl rfl rfl rfl rfl rfl rfl rfl rfl ?_
 refine AOps.stP (v := (AV.agg [(AV.int .i64 a1.To), (AV.int .i64 a1.Put)])) rfl rfl rfl rfl rfl rfl rfl rfl rfl (lt_b rfl) rfl ?_
 refine AOps.nilR ?_
 cases h
 exact AW.ret ⟨⟨_, hH14⟩, _, _, rfl, (Fin.of (p := (rPush) _) (.A (.cons .I (.cons .I .nil))) (⟨_, rfl, (.cons rfl (.cons rfl .nil))⟩)).2⟩
theorem laws_toPushS_ok {a1 : List Push} {z2 : Nat} {f3 : Bool} {e4 : List AV} {s : St} (h5 : LR rPush 2 a1 z2 e4) {r : (List Push)} (h : laws_toPushS a1 = some r) (hs : WF s) : ACall Cf 38 [(AV.sl z2 f3 e4)] s fun v _ s' => (rL rPush 2) r v ∧ s' = s := by
 refine ACall.boxes rfl rfl rfl ?_
 have hH0 := HS.init hs
 unfold laws_toPushS at h
 refine AW.sr ?_
 refine AOps.p rfl (rfl : _ = (AV.sl 0 true [])) ?_
 refine AOps.nilR ?_
 refine AW.sr ?_
 refine AOps.p rfl (rfl : _ = (AV.sl z2 f3 e4)) ?_
 refine AOps.p rfl (len_eq h5) ?_
 obtain ⟨l6, h7, h⟩ := obind h
 refine AOps.mkS (r := rPush) hH0 rfl rfl rfl rfl rfl rfl rfl ⟨rfl, rfl, by decide⟩ h7 ⟨_, rfl, (.cons rfl (.cons rfl .nil))⟩ ((Sh.A (f := csPush) (fun _ => ⟨(.cons (One.of Sh.I _) (.cons (One.of Sh.I _) .nil)), rfl⟩)) ((⟨0, 0⟩ : Push) : Push) _ ⟨_, rfl, (.cons rfl (.cons rfl .nil))⟩) rfl ?_
 intro b8 s9 cs10 h11 hH12
 change HS [] false s s9 [⟨some b8, cs10, fun _ => false⟩] at hH12
 refine AOps.assignR rfl rfl rfl (rfl : _ = (AV.ms true 2 b8 0 (Int.toNat (a1.length : Int)))) rfl ?_
 refine AOps.nilR ?_
 refine AW.seq ?_
 refine AW.sr ?_
 refine AOps.p rfl (rfl : _ = (AV.int .i64 0)) ?_
 refine AOps.nilR ?_
 refine AW.meet (σ := (List Push) × BX × Nat × Nat × St) (fun (out13, x14, b15, n17, s19) tm os => ⟨updL tm [(3, (AV.ms true 2 b15 0 n17))], updL os [], s19⟩) (fun (out13, x14, b15, n17, s19) => (x14.b = some b15) ∧ (MS rPush true 2 out13 n17 x14.cs) ∧ (HS [] false s s19 [x14]) ∧ laws_toPushS_J1 out13 = some r) ?_ ?_
 ·rintro ⟨out13, x14, b15, n17, s19⟩ tm os ⟨h16, h18, hH20, h⟩
  unfold laws_toPushS_J1 at h
  refine AW.sr ?_
  refine AOps.p rfl (rfl : _ = (AV.ms true 2 b15 0 n17)) ?_
  refine AOps.assignR rfl rfl rfl (rfl : _ = (AV.ms true 2 b15 0 n17)) rfl ?_
  refine AOps.nilR ?_
  cases h
  exact AW.ret ⟨⟨_, hH20⟩, _, _, rfl, (Fin.ms (r := rPush) hH20 (i := 0) rfl h16 h18 (fun _ => (.A (.cons .I (.cons .I .nil)))) (fun h => by cases h)).2⟩
 intro KJ21
 refine AW.block ?_
 refine AW.res [(0, (AV.sl z2 f3 e4)), (3, (AV.ms true 2 b8 0 (Int.toNat (a1.length : Int)))), (4, (AV.int .i64 0))] [] ⟨rfl, rfl, rfl, trivial⟩ trivial ?_
 refine AW.loopF (σ := (List Push) × Int) (τ := BX × Nat × Nat × St) (fun (out22, i28) (x23, b24, n26, s29) => (x23.b = some b24) ∧ (MS rPush true 2 out22 n26 x23.cs) ∧ (HS [] false s s29 [x23])) (fun (out22, i28) (x23, b24, n26, s29) tm os => ⟨updL tm [(0, (AV.sl z2 f3 e4)), (3, (AV.ms true 2 b24 0 n26)), (4, (AV.int .i64 i28))], updL os [], s29⟩) ?_ (x := (l6, 0)) (y := (⟨some b8, cs10, fun _ => false⟩, b8, Int.toNat (a1.length : Int), s9)) h ⟨rfl, h11, (HS.sel hH12 [some 0] (by decide))⟩
 clear h
 rintro ⟨out22, i28⟩ ⟨x23, b24, n26, s29⟩ tm os ⟨h25, h27, hH30⟩ ee1 h hL1 hR1
 unfold laws_toPushS_S1 at h
 dsimp only at h
 refine AW.seq ?_
 refine AW.sr ?_
 refine AOps.p rfl (rfl : _ = (AV.int .i64 i28)) ?_
 refine AOps.p rfl (rfl : _ = (AV.sl z2 f3 e4)) ?_
 refine AOps.p rfl (len_eq h5) ?_
 refine AOps.p rfl (rfl : _ = (AV.bool (decide ((i28 : Int) < (a1.length : Int))))) ?_
 refine AOps.nilR ?_
 rcases oite h with ⟨hc31, h⟩ | ⟨hc31, h⟩
 ·refine AW.condT (congrArg AV.bool hc31) ?_
  refine AW.skip ?_
  refine AW.seq ?_
  refine AW.block ?_
  refine AW.region ?_
  refine AOps.p rfl (rfl : _ = (AV.ms true 2 b24 0 n26)) ?_
  refine AOps.p rfl (rfl : _ = (AV.int .i64 i28)) ?_
  refine AOps.p rfl (rfl : _ = (AV.sl z2 f3 e4)) ?_
  refine AOps.p rfl (rfl : _ = (AV.int .i64 i28)) ?_
  obtain ⟨x32, h33, h⟩ := obind h
  obtain ⟨v36, h34, h35⟩ := idx_sl h5 h33
  obtain ⟨_, rfl, h37⟩ := h34
  obtain ⟨_, _, rfl, h38, h39⟩ := Cs_cons h37
  cases h38
  obtain ⟨_, _, rfl, h40, h41⟩ := Cs_cons h39
  cases h40
  cases Cs_nil h41
  refine AOps.pureR rfl rfl rfl h35 rfl (rfl : _ = (AV.eptr [(AV.int .i64 x32.To), (AV.int .i64 x32.Put)] 0)) ?_
  refine AOps.ldE (v := (AV.agg [(AV.int .i64 x32.To), (AV.int .i64 x32.Put)])) rfl rfl rfl rfl rfl rfl ?_
  obtain ⟨y42, h43, h⟩ := obind h
  refine AOps.callP (g := 58) (args := [(AV.agg [(AV.int .i64 x32.To), (AV.int .i64 x32.Put)])]) (p := (rPush) y42) rfl rfl rfl (laws_toPush_ok  h43 (HS.wf' hH30)) ?_
  intro _ o50 h44
  obtain ⟨_, rfl, h45⟩ := h44
  obtain ⟨_, _, rfl, h46, h47⟩ := Cs_cons h45
  cases h46
  obtain ⟨_, _, rfl, h48, h49⟩ := Cs_cons h47
  cases h48
  cases Cs_nil h49
  obtain ⟨x51, h52, h⟩ := obind h
  refine AOps.pureR rfl rfl rfl (idx_ms h27 h52) rfl (rfl : _ = (AV.ptr b24 (0 + Int.toNat i28 * 2))) ?_
  refine AOps.stM (i := 0) (r := rPush) (v := (AV.agg [(AV.int .i64 y42.To), (AV.int .i64 y42.Put)])) (y := y42) hH30 rfl h25 h27 h52 rfl rfl rfl rfl rfl ⟨_, rfl, (.cons rfl (.cons rfl .nil))⟩ ((Sh.A (f := csPush) (fun _ => ⟨(.cons (One.of Sh.I _) (.cons (One.of Sh.I _) .nil)), rfl⟩)) y42 _ ⟨_, rfl, (.cons rfl (.cons rfl .nil))⟩) rfl rfl (lt_b rfl) rfl rfl ?_
  intro cs53 w54 s55 h56 hH57
  change HS [] false s s55 [⟨some b24, cs53, w54⟩] at hH57
  refine AOps.nilR ?_
  refine AW.inBlock ?_
  refine AW.region ?_
  refine AOps.p rfl (rfl : _ = (AV.int .i64 i28)) ?_
  refine AOps.p rfl (rfl : _ = (AV.int .i64 (IntKind.wrap .i64 (i28 + 1)))) ?_
  refine AOps.assignR rfl rfl rfl (rfl : _ = (AV.int .i64 (IntKind.wrap .i64 (i28 + 1)))) rfl ?_
  refine AOps.nilR ?_
  cases h
  exact AW.res [(0, (AV.sl z2 f3 e4)), (3, (AV.ms true 2 b24 0 n26)), (4, (AV.int .i64 (IntKind.wrap .i64 (i28 + 1))))] [] ⟨rfl, rfl, rfl, trivial⟩ trivial (hL1 _ rfl (⟨some b24, cs53, w54⟩, b24, n26, s55) _ _ ⟨rfl, h56, (HS.sel hH57 [some 0] (by decide))⟩)
 refine AW.condF (congrArg AV.bool hc31) ?_
 refine AW.exit rfl ?_
 obtain ⟨r58, hm, hx⟩ := omap h
 clear h
 subst hx
 have hx := hR1 _ rfl
 rw [hx] at hm
 have h := hm
 exact AW.res [(3, (AV.ms true 2 b24 0 n26))] [] ⟨rfl, trivial⟩ trivial (KJ21 (out22, x23, b24, n26, s29) _ _ ⟨h25, h27, (HS.sel hH30 [some 0] (by decide)), h⟩)
theorem laws_toPushSS_ok {a1 : List (List Push)} {z2 : Nat} {f3 : Bool} {e4 : List AV} {s : St} (h5 : LR (rL rPush 2) 1 a1 z2 e4) {r : (List (List Push))} (h : laws_toPushSS a1 = some r) (hs : WF s) : ACall Cf 20 [(AV.sl z2 f3 e4)] s fun v _ s' => (rL (rL rPush 2) 1) r v ∧ s' = s := by
 refine ACall.boxes rfl rfl rfl ?_
 have hH0 := HS.init hs
 unfold laws_toPushSS at h
 refine AW.sr ?_
 refine AOps.p rfl (rfl : _ = (AV.sl 0 true [])) ?_
 refine AOps.nilR ?_
 refine AW.sr ?_
 refine AOps.p rfl (rfl : _ = (AV.sl z2 f3 e4)) ?_
 refine AOps.p rfl (len_eq h5) ?_
 obtain ⟨l6, h7, h⟩ := obind h
 refine AOps.mkS (r := rL rPush 2) hH0 rfl rfl rfl rfl rfl rfl rfl ⟨rfl, rfl, by decide⟩ h7 ⟨_, _, _, rfl, ⟨.inr ⟨rfl, rfl⟩, .nil⟩⟩ ((Sh.L (r := rPush) (sz := 2)) (([] : List Push) : List Push) _ ⟨_, _, _, rfl, ⟨.inr ⟨rfl, rfl⟩, .nil⟩⟩) rfl ?_
 intro b8 s9 cs10 h11 hH12
 change HS [] false s s9 [⟨some b8, cs10, fun _ => false⟩] at hH12
 refine AOps.assignR rfl rfl rfl (rfl : _ = (AV.ms false 1 b8 0 (Int.toNat (a1.length : Int)))) rfl ?_
 refine AOps.nilR ?_
 refine AW.seq ?_
 refine AW.sr ?_
 refine AOps.p rfl (rfl : _ = (AV.int .i64 0)) ?_
 refine AOps.nilR ?_
 refine AW.meet (σ := (List (List Push)) × BX × Nat × Nat × St) (fun (out13, x14, b15, n17, s19) tm os => ⟨updL tm [(3, (AV.ms false 1 b15 0 n17))], updL os [], s19⟩) (fun (out13, x14, b15, n17, s19) => (x14.b = some b15) ∧ (MS (rL rPush 2) false 1 out13 n17 x14.cs) ∧ (HS [] false s s19 [x14]) ∧ laws_toPushSS_J1 out13 = some r) ?_ ?_
 ·rintro ⟨out13, x14, b15, n17, s19⟩ tm os ⟨h16, h18, hH20, h⟩
  unfold laws_toPushSS_J1 at h
  refine AW.sr ?_
  refine AOps.p rfl (rfl : _ = (AV.ms false 1 b15 0 n17)) ?_
  refine AOps.assignR rfl rfl rfl (rfl : _ = (AV.ms false 1 b15 0 n17)) rfl ?_
  refine AOps.nilR ?_
  cases h
  exact AW.ret ⟨⟨_, hH20⟩, _, _, rfl, (Fin.ms (r := rL rPush 2) hH20 (i := 0) rfl h16 h18 (fun _ => (.L fun _ => (.A (.cons .I (.cons .I .nil))))) (fun _ => rfl)).2⟩
 intro KJ21
 refine AW.block ?_
 refine AW.res [(0, (AV.sl z2 f3 e4)), (3, (AV.ms false 1 b8 0 (Int.toNat (a1.length : Int)))), (4, (AV.int .i64 0))] [] ⟨rfl, rfl, rfl, trivial⟩ trivial ?_
 refine AW.loopF (σ := (List (List Push)) × Int) (τ := BX × Nat × Nat × St) (fun (out22, i28) (x23, b24, n26, s29) => (x23.b = some b24) ∧ (MS (rL rPush 2) false 1 out22 n26 x23.cs) ∧ (HS [] false s s29 [x23])) (fun (out22, i28) (x23, b24, n26, s29) tm os => ⟨updL tm [(0, (AV.sl z2 f3 e4)), (3, (AV.ms false 1 b24 0 n26)), (4, (AV.int .i64 i28))], updL os [], s29⟩) ?_ (x := (l6, 0)) (y := (⟨some b8, cs10, fun _ => false⟩, b8, Int.toNat (a1.length : Int), s9)) h ⟨rfl, h11, (HS.sel hH12 [some 0] (by decide))⟩
 clear h
 rintro ⟨out22, i28⟩ ⟨x23, b24, n26, s29⟩ tm os ⟨h25, h27, hH30⟩ ee1 h hL1 hR1
 unfold laws_toPushSS_S1 at h
 dsimp only at h
 refine AW.seq ?_
 refine AW.sr ?_
 refine AOps.p rfl (rfl : _ = (AV.int .i64 i28)) ?_
 refine AOps.p rfl (rfl : _ = (AV.sl z2 f3 e4)) ?_
 refine AOps.p rfl (len_eq h5) ?_
 refine AOps.p rfl (rfl : _ = (AV.bool (decide ((i28 : Int) < (a1.length : Int))))) ?_
 refine AOps.nilR ?_
 rcases oite h with ⟨hc31, h⟩ | ⟨hc31, h⟩
 ·refine AW.condT (congrArg AV.bool hc31) ?_
  refine AW.skip ?_
  refine AW.seq ?_
  refine AW.block ?_
  refine AW.region ?_
  refine AOps.p rfl (rfl : _ = (AV.ms false 1 b24 0 n26)) ?_
  refine AOps.p rfl (rfl : _ = (AV.int .i64 i28)) ?_
  refine AOps.p rfl (rfl : _ = (AV.sl z2 f3 e4)) ?_
  refine AOps.p rfl (rfl : _ = (AV.int .i64 i28)) ?_
  obtain ⟨x32, h33, h⟩ := obind h
  obtain ⟨v36, h34, h35⟩ := idx_sl h5 h33
  obtain ⟨z37, f38, e39, rfl, h40⟩ := h34
  refine AOps.pureR rfl rfl rfl h35 rfl (rfl : _ = (AV.eptr [(AV.sl z37 f38 e39)] 0)) ?_
  refine AOps.ldE (v := (AV.sl z37 f38 e39)) rfl rfl rfl rfl rfl rfl ?_
  obtain ⟨y41, h42, h⟩ := obind h
  refine AOps.callP (g := 38) (args := [(AV.sl z37 f38 e39)]) (p := (rL rPush 2) y41) rfl rfl rfl (laws_toPushS_ok h40 h42 (HS.wf' hH30)) ?_
  intro _ o48 h43
  obtain ⟨z44, f45, e46, rfl, h47⟩ := h43
  obtain ⟨x49, h50, h⟩ := obind h
  refine AOps.pureR rfl rfl rfl (idx_ms h27 h50) rfl (rfl : _ = (AV.ptr b24 (0 + Int.toNat i28 * 1))) ?_
  refine AOps.stM (i := 0) (r := rL rPush 2) (v := (AV.sl z44 f45 e46)) (y := y41) hH30 rfl h25 h27 h50 rfl rfl rfl rfl rfl ⟨_, _, _, rfl, h47⟩ ((Sh.L (r := rPush) (sz := 2)) y41 _ ⟨_, _, _, rfl, h47⟩) rfl rfl (lt_b rfl) rfl rfl ?_
  intro cs51 w52 s53 h54 hH55
  change HS [] false s s53 [⟨some b24, cs51, w52⟩] at hH55
  refine AOps.nilR ?_
  refine AW.inBlock ?_
  refine AW.region ?_
  refine AOps.p rfl (rfl : _ = (AV.int .i64 i28)) ?_
  refine AOps.p rfl (rfl : _ = (AV.int .i64 (IntKind.wrap .i64 (i28 + 1)))) ?_
  refine AOps.assignR rfl rfl rfl (rfl : _ = (AV.int .i64 (IntKind.wrap .i64 (i28 + 1)))) rfl ?_
  refine AOps.nilR ?_
  cases h
  exact AW.res [(0, (AV.sl z2 f3 e4)), (3, (AV.ms false 1 b24 0 n26)), (4, (AV.int .i64 (IntKind.wrap .i64 (i28 + 1))))] [] ⟨rfl, rfl, rfl, trivial⟩ trivial (hL1 _ rfl (⟨some b24, cs51, w52⟩, b24, n26, s53) _ _ ⟨rfl, h54, (HS.sel hH55 [some 0] (by decide))⟩)
 refine AW.condF (congrArg AV.bool hc31) ?_
 refine AW.exit rfl ?_
 obtain ⟨r56, hm, hx⟩ := omap h
 clear h
 subst hx
 have hx := hR1 _ rfl
 rw [hx] at hm
 have h := hm
 exact AW.res [(3, (AV.ms false 1 b24 0 n26))] [] ⟨rfl, trivial⟩ trivial (KJ21 (out22, x23, b24, n26, s29) _ _ ⟨h25, h27, (HS.sel hH30 [some 0] (by decide)), h⟩)
theorem laws_toInt64S_ok {a1 : List Int} {z2 : Nat} {f3 : Bool} {e4 : List AV} {s : St} (h5 : LR (rI .i64) 1 a1 z2 e4) {r : (List Int)} (h : laws_toInt64S a1 = some r) (hs : WF s) : ACall Cf 39 [(AV.sl z2 f3 e4)] s fun v _ s' => (rL (rI .i64) 1) r v ∧ s' = s := by
 refine ACall.boxes rfl rfl rfl ?_
 have hH0 := HS.init hs
 unfold laws_toInt64S at h
 refine AW.sr ?_
 refine AOps.p rfl (rfl : _ = (AV.sl 0 true [])) ?_
 refine AOps.nilR ?_
 refine AW.sr ?_
 refine AOps.p rfl (rfl : _ = (AV.sl z2 f3 e4)) ?_
 refine AOps.p rfl (len_eq h5) ?_
 obtain ⟨l6, h7, h⟩ := obind h
 refine AOps.mkS (r := rI .i64) hH0 rfl rfl rfl rfl rfl rfl rfl ⟨rfl, rfl, by decide⟩ h7 rfl (Sh.I (0 : Int) _ rfl) rfl ?_
 intro b8 s9 cs10 h11 hH12
 change HS [] false s s9 [⟨some b8, cs10, fun _ => false⟩] at hH12
 refine AOps.assignR rfl rfl rfl (rfl : _ = (AV.ms false 1 b8 0 (Int.toNat (a1.length : Int)))) rfl ?_
 refine AOps.nilR ?_
 refine AW.seq ?_
 refine AW.sr ?_
 refine AOps.p rfl (rfl : _ = (AV.int .i64 0)) ?_
 refine AOps.nilR ?_
 refine AW.meet (σ := (List Int) × BX × Nat × Nat × St) (fun (out13, x14, b15, n17, s19) tm os => ⟨updL tm [(3, (AV.ms false 1 b15 0 n17))], updL os [], s19⟩) (fun (out13, x14, b15, n17, s19) => (x14.b = some b15) ∧ (MS (rI .i64) false 1 out13 n17 x14.cs) ∧ (HS [] false s s19 [x14]) ∧ laws_toInt64S_J1 out13 = some r) ?_ ?_
 ·rintro ⟨out13, x14, b15, n17, s19⟩ tm os ⟨h16, h18, hH20, h⟩
  unfold laws_toInt64S_J1 at h
  refine AW.sr ?_
  refine AOps.p rfl (rfl : _ = (AV.ms false 1 b15 0 n17)) ?_
  refine AOps.assignR rfl rfl rfl (rfl : _ = (AV.ms false 1 b15 0 n17)) rfl ?_
  refine AOps.nilR ?_
  cases h
  exact AW.ret ⟨⟨_, hH20⟩, _, _, rfl, (Fin.ms (r := rI .i64) hH20 (i := 0) rfl h16 h18 (fun _ => .I) (fun _ => rfl)).2⟩
 intro KJ21
 refine AW.block ?_
 refine AW.res [(0, (AV.sl z2 f3 e4)), (3, (AV.ms false 1 b8 0 (Int.toNat (a1.length : Int)))), (4, (AV.int .i64 0))] [] ⟨rfl, rfl, rfl, trivial⟩ trivial ?_
 refine AW.loopF (σ := (List Int) × Int) (τ := BX × Nat × Nat × St) (fun (out22, i28) (x23, b24, n26, s29) => (x23.b = some b24) ∧ (MS (rI .i64) false 1 out22 n26 x23.cs) ∧ (HS [] false s s29 [x23])) (fun (out22, i28) (x23, b24, n26, s29) tm os => ⟨updL tm [(0, (AV.sl z2 f3 e4)), (3, (AV.ms false 1 b24 0 n26)), (4, (AV.int .i64 i28))], updL os [], s29⟩) ?_ (x := (l6, 0)) (y := (⟨some b8, cs10, fun _ => false⟩, b8, Int.toNat (a1.length : Int), s9)) h ⟨rfl, h11, (HS.sel hH12 [some 0] (by decide))⟩
 clear h
 rintro ⟨out22, i28⟩ ⟨x23, b24, n26, s29⟩ tm os ⟨h25, h27, hH30⟩ ee1 h hL1 hR1
 unfold laws_toInt64S_S1 at h
 dsimp only at h
 refine AW.seq ?_
 refine AW.sr ?_
 refine AOps.p rfl (rfl : _ = (AV.int .i64 i28)) ?_
 refine AOps.p rfl (rfl : _ = (AV.sl z2 f3 e4)) ?_
 refine AOps.p rfl (len_eq h5) ?_
 refine AOps.p rfl (rfl : _ = (AV.bool (decide ((i28 : Int) < (a1.length : Int))))) ?_
 refine AOps.nilR ?_
 rcases oite h with ⟨hc31, h⟩ | ⟨hc31, h⟩
 ·refine AW.condT (congrArg AV.bool hc31) ?_
  refine AW.skip ?_
  refine AW.seq ?_
  refine AW.block ?_
  refine AW.region ?_
  refine AOps.p rfl (rfl : _ = (AV.ms false 1 b24 0 n26)) ?_
  refine AOps.p rfl (rfl : _ = (AV.int .i64 i28)) ?_
  refine AOps.p rfl (rfl : _ = (AV.sl z2 f3 e4)) ?_
  refine AOps.p rfl (rfl : _ = (AV.int .i64 i28)) ?_
  obtain ⟨x32, h33, h⟩ := obind h
  obtain ⟨v36, h34, h35⟩ := idx_sl h5 h33
  cases h34
  refine AOps.pureR rfl rfl rfl h35 rfl (rfl : _ = (AV.eptr [(AV.int .i64 x32)] 0)) ?_
  refine AOps.ldE (v := (AV.int .i64 x32)) rfl rfl rfl rfl rfl rfl ?_
  obtain ⟨x37, h38, h⟩ := obind h
  refine AOps.pureR rfl rfl rfl (idx_ms h27 h38) rfl (rfl : _ = (AV.ptr b24 (0 + Int.toNat i28 * 1))) ?_
  refine AOps.stM (i := 0) (r := rI .i64) (v := (AV.int .i64 x32)) (y := x32) hH30 rfl h25 h27 h38 rfl rfl rfl rfl rfl rfl (Sh.I x32 _ rfl) rfl rfl (lt_b rfl) rfl rfl ?_
  intro cs39 w40 s41 h42 hH43
  change HS [] false s s41 [⟨some b24, cs39, w40⟩] at hH43
  refine AOps.nilR ?_
  refine AW.inBlock ?_
  refine AW.region ?_
  refine AOps.p rfl (rfl : _ = (AV.int .i64 i28)) ?_
  refine AOps.p rfl (rfl : _ = (AV.int .i64 (IntKind.wrap .i64 (i28 + 1)))) ?_
  refine AOps.assignR rfl rfl rfl (rfl : _ = (AV.int .i64 (IntKind.wrap .i64 (i28 + 1)))) rfl ?_
  refine AOps.nilR ?_
  cases h
  exact AW.res [(0, (AV.sl z2 f3 e4)), (3, (AV.ms false 1 b24 0 n26)), (4, (AV.int .i64 (IntKind.wrap .i64 (i28 + 1))))] [] ⟨rfl, rfl, rfl, trivial⟩ trivial (hL1 _ rfl (⟨some b24, cs39, w40⟩, b24, n26, s41) _ _ ⟨rfl, h42, (HS.sel hH43 [some 0] (by decide))⟩)
 refine AW.condF (congrArg AV.bool hc31) ?_
 refine AW.exit rfl ?_
 obtain ⟨r44, hm, hx⟩ := omap h
 clear h
 subst hx
 have hx := hR1 _ rfl
 rw [hx] at hm
 have h := hm
 exact AW.res [(3, (AV.ms false 1 b24 0 n26))] [] ⟨rfl, trivial⟩ trivial (KJ21 (out22, x23, b24, n26, s29) _ _ ⟨h25, h27, (HS.sel hH30 [some 0] (by decide)), h⟩)
theorem laws_toInt64SS_ok {a1 : List (List Int)} {z2 : Nat} {f3 : Bool} {e4 : List AV} {s : St} (h5 : LR (rL (rI .i64) 1) 1 a1 z2 e4) {r : (List (List Int))} (h : laws_toInt64SS a1 = some r) (hs : WF s) : ACall Cf 22 [(AV.sl z2 f3 e4)] s fun v _ s' => (rL (rL (rI .i64) 1) 1) r v ∧ s' = s := by
 refine ACall.boxes rfl rfl rfl ?_
 have hH0 := HS.init hs
 unfold laws_toInt64SS at h
 refine AW.sr ?_
 refine AOps.p rfl (rfl : _ = (AV.sl 0 true [])) ?_
 refine AOps.nilR ?_
 refine AW.sr ?_
 refine AOps.p rfl (rfl : _ = (AV.sl z2 f3 e4)) ?_
 refine AOps.p rfl (len_eq h5) ?_
 obtain ⟨l6, h7, h⟩ := obind h
 refine AOps.mkS (r := rL (rI .i64) 1) hH0 rfl rfl rfl rfl rfl rfl rfl ⟨rfl, rfl, by decide⟩ h7 ⟨_, _, _, rfl, ⟨.inr ⟨rfl, rfl⟩, .nil⟩⟩ ((Sh.L (r := rI .i64) (sz := 1)) (([] : List Int) : List Int) _ ⟨_, _, _, rfl, ⟨.inr ⟨rfl, rfl⟩, .nil⟩⟩) rfl ?_
 intro b8 s9 cs10 h11 hH12
 change HS [] false s s9 [⟨some b8, cs10, fun _ => false⟩] at hH12
 refine AOps.assignR rfl rfl rfl (rfl : _ = (AV.ms false 1 b8 0 (Int.toNat (a1.length : Int)))) rfl ?_
 refine AOps.nilR ?_
 refine AW.seq ?_
 refine AW.sr ?_
 refine AOps.p rfl (rfl : _ = (AV.int .i64 0)) ?_
 refine AOps.nilR ?_
 refine AW.meet (σ := (List (List Int)) × BX × Nat × Nat × St) (fun (out13, x14, b15, n17, s19) tm os => ⟨updL tm [(3, (AV.ms false 1 b15 0 n17))], updL os [], s19⟩) (fun (out13, x14, b15, n17, s19) => (x14.b = some b15) ∧ (MS (rL (rI .i64) 1) false 1 out13 n17 x14.cs) ∧ (HS [] false s s19 [x14]) ∧ laws_toInt64SS_J1 out13 = some r) ?_ ?_
 ·rintro ⟨out13, x14, b15, n17, s19⟩ tm os ⟨h16, h18, hH20, h⟩
  unfold laws_toInt64SS_J1 at h
  refine AW.sr ?_
  refine AOps.p rfl (rfl : _ = (AV.ms false 1 b15 0 n17)) ?_
  refine AOps.assignR rfl rfl rfl (rfl : _ = (AV.ms false 1 b15 0 n17)) rfl ?_
  refine AOps.nilR ?_
  cases h
  exact AW.ret ⟨⟨_, hH20⟩, _, _, rfl, (Fin.ms (r := rL (rI .i64) 1) hH20 (i := 0) rfl h16 h18 (fun _ => (.L fun _ => .I)) (fun _ => rfl)).2⟩
 intro KJ21
 refine AW.block ?_
 refine AW.res [(0, (AV.sl z2 f3 e4)), (3, (AV.ms false 1 b8 0 (Int.toNat (a1.length : Int)))), (4, (AV.int .i64 0))] [] ⟨rfl, rfl, rfl, trivial⟩ trivial ?_
 refine AW.loopF (σ := (List (List Int)) × Int) (τ := BX × Nat × Nat × St) (fun (out22, i28) (x23, b24, n26, s29) => (x23.b = some b24) ∧ (MS (rL (rI .i64) 1) false 1 out22 n26 x23.cs) ∧ (HS [] false s s29 [x23])) (fun (out22, i28) (x23, b24, n26, s29) tm os => ⟨updL tm [(0, (AV.sl z2 f3 e4)), (3, (AV.ms false 1 b24 0 n26)), (4, (AV.int .i64 i28))], updL os [], s29⟩) ?_ (x := (l6, 0)) (y := (⟨some b8, cs10, fun _ => false⟩, b8, Int.toNat (a1.length : Int), s9)) h ⟨rfl, h11, (HS.sel hH12 [some 0] (by decide))⟩
 clear h
 rintro ⟨out22, i28⟩ ⟨x23, b24, n26, s29⟩ tm os ⟨h25, h27, hH30⟩ ee1 h hL1 hR1
 unfold laws_toInt64SS_S1 at h
 dsimp only at h
 refine AW.seq ?_
 refine AW.sr ?_
 refine AOps.p rfl (rfl : _ = (AV.int .i64 i28)) ?_
 refine AOps.p rfl (rfl : _ = (AV.sl z2 f3 e4)) ?_
 refine AOps.p rfl (len_eq h5) ?_
 refine AOps.p rfl (rfl : _ = (AV.bool (decide ((i28 : Int) < (a1.length : Int))))) ?_
 refine AOps.nilR ?_
 rcases oite h with ⟨hc31, h⟩ | ⟨hc31, h⟩
 ·refine AW.condT (congrArg AV.bool hc31) ?_
  refine AW.skip ?_
  refine AW.seq ?_
  refine AW.block ?_
  refine AW.region ?_
  refine AOps.p rfl (rfl : _ = (AV.ms false 1 b24 0 n26)) ?_
  refine AOps.p rfl (rfl : _ = (AV.int .i64 i28)) ?_
  refine AOps.p rfl (rfl : _ = (AV.sl z2 f3 e4)) ?_
  refine AOps.p rfl (rfl : _ = (AV.int .i64 i28)) ?_
  obtain ⟨x32, h33, h⟩ := obind h
  obtain ⟨v36, h34, h35⟩ := idx_sl h5 h33
  obtain ⟨z37, f38, e39, rfl, h40⟩ := h34
  refine AOps.pureR rfl rfl rfl h35 rfl (rfl : _ = (AV.eptr [(AV.sl z37 f38 e39)] 0)) ?_
  refine AOps.ldE (v := (AV.sl z37 f38 e39)) rfl rfl rfl rfl rfl rfl ?_
  obtain ⟨y41, h42, h⟩ := obind h
  refine AOps.callP (g := 39) (args := [(AV.sl z37 f38 e39)]) (p := (rL (rI .i64) 1) y41) rfl rfl rfl (laws_toInt64S_ok h40 h42 (HS.wf' hH30)) ?_
  intro _ o48 h43
  obtain ⟨z44, f45, e46, rfl, h47⟩ := h43
  obtain ⟨x49, h50, h⟩ := obind h
  refine AOps.pureR rfl rfl rfl (idx_ms h27 h50) rfl (rfl : _ = (AV.ptr b24 (0 + Int.toNat i28 * 1))) ?_
  refine AOps.stM (i := 0) (r := rL (rI .i64) 1) (v := (AV.sl z44 f45 e46)) (y := y41) hH30 rfl h25 h27 h50 rfl rfl rfl rfl rfl ⟨_, _, _, rfl, h47⟩ ((Sh.L (r := rI .i64) (sz := 1)) y41 _ ⟨_, _, _, rfl, h47⟩) rfl rfl (lt_b rfl) rfl rfl ?_
  intro cs51 w52 s53 h54 hH55
  change HS [] false s s53 [⟨some b24, cs51, w52⟩] at hH55
  refine AOps.nilR ?_
  refine AW.inBlock ?_
  refine AW.region ?_
  refine AOps.p rfl (rfl : _ = (AV.int .i64 i28)) ?_
  refine AOps.p rfl (rfl : _ = (AV.int .i64 (IntKind.wrap .i64 (i28 + 1)))) ?_
  refine AOps.assignR rfl rfl rfl (rfl : _ = (AV.int .i64 (IntKind.wrap .i64 (i28 + 1)))) rfl ?_
  refine AOps.nilR ?_
  cases h
  exact AW.res [(0, (AV.sl z2 f3 e4)), (3, (AV.ms false 1 b24 0 n26)), (4, (AV.int .i64 (IntKind.wrap .i64 (i28 + 1))))] [] ⟨rfl, rfl, rfl, trivial⟩ trivial (hL1 _ rfl (⟨some b24, cs51, w52⟩, b24, n26, s53) _ _ ⟨rfl, h54, (HS.sel hH55 [some 0] (by decide))⟩)
 refine AW.condF (congrArg AV.bool hc31) ?_
 refine AW.exit rfl ?_
 obtain ⟨r56, hm, hx⟩ := omap h
 clear h
 subst hx
 have hx := hR1 _ rfl
 rw [hx] at hm
 have h := hm
 exact AW.res [(3, (AV.ms false 1 b24 0 n26))] [] ⟨rfl, trivial⟩ trivial (KJ21 (out22, x23, b24, n26, s29) _ _ ⟨h25, h27, (HS.sel hH30 [some 0] (by decide)), h⟩)
theorem laws_toInt64SSS_ok {a1 : List (List (List Int))} {z2 : Nat} {f3 : Bool} {e4 : List AV} {s : St} (h5 : LR (rL (rL (rI .i64) 1) 1) 1 a1 z2 e4) {r : (List (List (List Int)))} (h : laws_toInt64SSS a1 = some r) (hs : WF s) : ACall Cf 21 [(AV.sl z2 f3 e4)] s fun v _ s' => (rL (rL (rL (rI .i64) 1) 1) 1) r v ∧ s' = s := by
 refine ACall.boxes rfl rfl rfl ?_
 have hH0 := HS.init hs
 unfold laws_toInt64SSS at h
 refine AW.sr ?_
 refine AOps.p rfl (rfl : _ = (AV.sl 0 true [])) ?_
 refine AOps.nilR ?_
 refine AW.sr ?_
 refine AOps.p rfl (rfl : _ = (AV.sl z2 f3 e4)) ?_
 refine AOps.p rfl (len_eq h5) ?_
 obtain ⟨l6, h7, h⟩ := obind h
 refine AOps.mkS (r := rL (rL (rI .i64) 1) 1) hH0 rfl rfl rfl rfl rfl rfl rfl ⟨rfl, rfl, by decide⟩ h7 ⟨_, _, _, rfl, ⟨.inr ⟨rfl, rfl⟩, .nil⟩⟩ ((Sh.L (r := rL (rI .i64) 1) (sz := 1)) (([] : List (List Int)) : List (List Int)) _ ⟨_, _, _, rfl, ⟨.inr ⟨rfl, rfl⟩, .nil⟩⟩) rfl ?_
 intro b8 s9 cs10 h11 hH12
 change HS [] false s s9 [⟨some b8, cs10, fun _ => false⟩] at hH12
 refine AOps.assignR rfl rfl rfl (rfl : _ = (AV.ms false 1 b8 0 (Int.toNat (a1.length : Int)))) rfl ?_
 refine AOps.nilR ?_
 refine AW.seq ?_
 refine AW.sr ?_
 refine AOps.p rfl (rfl : _ = (AV.int .i64 0)) ?_
 refine AOps.nilR ?_
 refine AW.meet (σ := (List (List (List Int))) × BX × Nat × Nat × St) (fun (out13, x14, b15, n17, s19) tm os => ⟨updL tm [(3, (AV.ms false 1 b15 0 n17))], updL os [], s19⟩) (fun (out13, x14, b15, n17, s19) => (x14.b = some b15) ∧ (MS (rL (rL (rI .i64) 1) 1) false 1 out13 n17 x14.cs) ∧ (HS [] false s s19 [x14]) ∧ laws_toInt64SSS_J1 out13 = some r) ?_ ?_
 ·rintro ⟨out13, x14, b15, n17, s19⟩ tm os ⟨h16, h18, hH20, h⟩
  unfold laws_toInt64SSS_J1 at h
  refine AW.sr ?_
  refine AOps.p rfl (rfl : _ = (AV.ms false 1 b15 0 n17)) ?_
  refine AOps.assignR rfl rfl rfl (rfl : _ = (AV.ms false 1 b15 0 n17)) rfl ?_
  refine AOps.nilR ?_
  cases h
  exact AW.ret ⟨⟨_, hH20⟩, _, _, rfl, (Fin.ms (r := rL (rL (rI .i64) 1) 1) hH20 (i := 0) rfl h16 h18 (fun _ => (.L fun _ => (.L fun _ => .I))) (fun _ => rfl)).2⟩
 intro KJ21
 refine AW.block ?_
 refine AW.res [(0, (AV.sl z2 f3 e4)), (3, (AV.ms false 1 b8 0 (Int.toNat (a1.length : Int)))), (4, (AV.int .i64 0))] [] ⟨rfl, rfl, rfl, trivial⟩ trivial ?_
 refine AW.loopF (σ := (List (List (List Int))) × Int) (τ := BX × Nat × Nat × St) (fun (out22, i28) (x23, b24, n26, s29) => (x23.b = some b24) ∧ (MS (rL (rL (rI .i64) 1) 1) false 1 out22 n26 x23.cs) ∧ (HS [] false s s29 [x23])) (fun (out22, i28) (x23, b24, n26, s29) tm os => ⟨updL tm [(0, (AV.sl z2 f3 e4)), (3, (AV.ms false 1 b24 0 n26)), (4, (AV.int .i64 i28))], updL os [], s29⟩) ?_ (x := (l6, 0)) (y := (⟨some b8, cs10, fun _ => false⟩, b8, Int.toNat (a1.length : Int), s9)) h ⟨rfl, h11, (HS.sel hH12 [some 0] (by decide))⟩
 clear h
 rintro ⟨out22, i28⟩ ⟨x23, b24, n26, s29⟩ tm os ⟨h25, h27, hH30⟩ ee1 h hL1 hR1
 unfold laws_toInt64SSS_S1 at h
 dsimp only at h
 refine AW.seq ?_
 refine AW.sr ?_
 refine AOps.p rfl (rfl : _ = (AV.int .i64 i28)) ?_
 refine AOps.p rfl (rfl : _ = (AV.sl z2 f3 e4)) ?_
 refine AOps.p rfl (len_eq h5) ?_
 refine AOps.p rfl (rfl : _ = (AV.bool (decide ((i28 : Int) < (a1.length : Int))))) ?_
 refine AOps.nilR ?_
 rcases oite h with ⟨hc31, h⟩ | ⟨hc31, h⟩
 ·refine AW.condT (congrArg AV.bool hc31) ?_
  refine AW.skip ?_
  refine AW.seq ?_
  refine AW.block ?_
  refine AW.region ?_
  refine AOps.p rfl (rfl : _ = (AV.ms false 1 b24 0 n26)) ?_
  refine AOps.p rfl (rfl : _ = (AV.int .i64 i28)) ?_
  refine AOps.p rfl (rfl : _ = (AV.sl z2 f3 e4)) ?_
  refine AOps.p rfl (rfl : _ = (AV.int .i64 i28)) ?_
  obtain ⟨x32, h33, h⟩ := obind h
  obtain ⟨v36, h34, h35⟩ := idx_sl h5 h33
  obtain ⟨z37, f38, e39, rfl, h40⟩ := h34
  refine AOps.pureR rfl rfl rfl h35 rfl (rfl : _ = (AV.eptr [(AV.sl z37 f38 e39)] 0)) ?_
  refine AOps.ldE (v := (AV.sl z37 f38 e39)) rfl rfl rfl rfl rfl rfl ?_
  obtain ⟨y41, h42, h⟩ := obind h
  refine AOps.callP (g := 22) (args := [(AV.sl z37 f38 e39)]) (p := (rL (rL (rI .i64) 1) 1) y41) rfl rfl rfl (laws_toInt64SS_ok h40 h42 (HS.wf' hH30)) ?_
  intro _ o48 h43
  obtain ⟨z44, f45, e46, rfl, h47⟩ := h43
  obtain ⟨x49, h50, h⟩ := obind h
  refine AOps.pureR rfl rfl rfl (idx_ms h27 h50) rfl (rfl : _ = (AV.ptr b24 (0 + Int.toNat i28 * 1))) ?_
  refine AOps.stM (i := 0) (r := rL (rL (rI .i64) 1) 1) (v := (AV.sl z44 f45 e46)) (y := y41) hH30 rfl h25 h27 h50 rfl rfl rfl rfl rfl ⟨_, _, _, rfl, h47⟩ ((Sh.L (r := rL (rI .i64) 1) (sz := 1)) y41 _ ⟨_, _, _, rfl, h47⟩) rfl rfl (lt_b rfl) rfl rfl ?_
  intro cs51 w52 s53 h54 hH55
  change HS [] false s s53 [⟨some b24, cs51, w52⟩] at hH55
  refine AOps.nilR ?_
  refine AW.inBlock ?_
  refine AW.region ?_
  refine AOps.p rfl (rfl : _ = (AV.int .i64 i28)) ?_
  refine AOps.p rfl (rfl : _ = (AV.int .i64 (IntKind.wrap .i64 (i28 + 1)))) ?_
  refine AOps.assignR rfl rfl rfl (rfl : _ = (AV.int .i64 (IntKind.wrap .i64 (i28 + 1)))) rfl ?_
  refine AOps.nilR ?_
  cases h
  exact AW.res [(0, (AV.sl z2 f3 e4)), (3, (AV.ms false 1 b24 0 n26)), (4, (AV.int .i64 (IntKind.wrap .i64 (i28 + 1))))] [] ⟨rfl, rfl, rfl, trivial⟩ trivial (hL1 _ rfl (⟨some b24, cs51, w52⟩, b24, n26, s53) _ _ ⟨rfl, h54, (HS.sel hH55 [some 0] (by decide))⟩)
 refine AW.condF (congrArg AV.bool hc31) ?_
 refine AW.exit rfl ?_
 obtain ⟨r56, hm, hx⟩ := omap h
 clear h
 subst hx
 have hx := hR1 _ rfl
 rw [hx] at hm
 have h := hm
 exact AW.res [(3, (AV.ms false 1 b24 0 n26))] [] ⟨rfl, trivial⟩ trivial (KJ21 (out22, x23, b24, n26, s29) _ _ ⟨h25, h27, (HS.sel hH30 [some 0] (by decide)), h⟩)
theorem laws_toChecker_ok {a1 : Checker} {z2 : Nat} {f3 : Bool} {e4 : List AV} {z6 : Nat} {f7 : Bool} {e8 : List AV} {z10 : Nat} {f11 : Bool} {e12 : List AV} {z14 : Nat} {f15 : Bool} {e16 : List AV} {s : St} (h5 : LR rB 1 a1.Accept z2 e4) (h9 : LR (rL rPush 2) 1 a1.Call z6 e8) (h13 : LR (rL (rL (rI .i64) 1) 1) 1 a1.Return z10 e12) (h17 : LR (rL (rI .i64) 1) 1 a1.Inner z14 e16) {r : Checker} (h : laws_toChecker a1 = some r) (hs : WF s) : ACall Cf 6 [(AV.agg [(AV.int .i64 a1.Stack), (AV.int .i64 a1.Start), (AV.sl z2 f3 e4), (AV.sl z6 f7 e8), (AV.sl z10 f11 e12), (AV.sl z14 f15 e16)])] s fun v _ s' => (rChecker) r v ∧ s' = s := by
 refine ACall.boxes rfl rfl rfl ?_
 have hH0 := HS.init hs
 unfold laws_toChecker at h
 refine AW.sr ?_
 refine AOps.makeR rfl rfl rfl rfl rfl rfl (rfl : _ = (AV.eptr [(AV.int .i64 a1.Stack), (AV.int .i64 a1.Start), (AV.sl z2 f3 e4), (AV.sl z6 f7 e8), (AV.sl z10 f11 e12), (AV.sl z14 f15 e16)] 0)) ?_
 refine AOps.allocP rfl rfl rfl rfl ⟨rfl, rfl⟩ rfl ?_
 refine AOps.nilR ?_
 refine AW.sr ?_
 refine AOps.alloc1 hH0 rfl rfl rfl rfl rfl rfl ?_
 intro b18 s19 hH20
 change HS [] false s s19 [⟨some b18, [(AV.int .i64 0), (AV.int .i64 0), (AV.sl 0 true []), (AV.sl 0 true []), (AV.sl 0 true []), (AV.sl 0 true [])], (fun _ => false)⟩] at hH20
 refine AOps.nilR ?_
 refine AW.sr ?_
 refine AOps.p rfl (rfl : _ = (AV.eptr [(AV.int .i64 a1.Stack), (AV.int .i64 a1.Start), (AV.sl z2 f3 e4), (AV.sl z6 f7 e8), (AV.sl z10 f11 e12), (AV.sl z14 f15 e16)] 0)) ?_
 refine AOps.ldE (v := (AV.int .i64 a1.Stack)) rfl rfl rfl rfl rfl rfl ?_
 refine AOps.p rfl (rfl : _ = (AV.ptr b18 0)) ?_
 refine AOps.stB (i := 0) (v := (AV.int .i64 a1.Stack)) hH20 rfl rfl rfl rfl rfl rfl rfl rfl rfl (lt_b rfl) (le_b rfl) rfl ?_
 intro w21 s22 h23 h24 hH25
 change HS [] false s s22 [⟨some b18, [(AV.int .i64 a1.Stack), (AV.int .i64 0), (AV.sl 0 true []), (AV.sl 0 true []), (AV.sl 0 true []), (AV.sl 0 true [])], w21⟩] at hH25
 refine AOps.nilR ?_
 refine AW.sr ?_
 refine AOps.p rfl (rfl : _ = (AV.eptr [(AV.int .i64 a1.Stack), (AV.int .i64 a1.Start), (AV.sl z2 f3 e4), (AV.sl z6 f7 e8), (AV.sl z10 f11 e12), (AV.sl z14 f15 e16)] 1)) ?_
 refine AOps.ldE (v := (AV.int .i64 a1.Start)) rfl rfl rfl rfl rfl rfl ?_
 refine AOps.p rfl (rfl : _ = (AV.ptr b18 1)) ?_
 refine AOps.stB (i := 0) (v := (AV.int .i64 a1.Start)) hH25 rfl rfl rfl rfl rfl rfl rfl rfl rfl (lt_b rfl) (le_b rfl) rfl ?_
 intro w26 s27 h28 h29 hH30
 change HS [] false s s27 [⟨some b18, [(AV.int .i64 a1.Stack), (AV.int .i64 a1.Start), (AV.sl 0 true []), (AV.sl 0 true []), (AV.sl 0 true []), (AV.sl 0 true [])], w26⟩] at hH30
 refine AOps.nilR ?_
 refine AW.sr ?_
 refine AOps.p rfl (rfl : _ = (AV.eptr [(AV.int .i64 a1.Stack), (AV.int .i64 a1.Start), (AV.sl z2 f3 e4), (AV.sl z6 f7 e8), (AV.sl z10 f11 e12), (AV.sl z14 f15 e16)] 2)) ?_
 refine AOps.ldE (v := (AV.sl z2 f3 e4)) rfl rfl rfl rfl rfl rfl ?_
 obtain ⟨y31, h32, h⟩ := obind h
 refine AOps.callP (g := 19) (args := [(AV.sl z2 f3 e4)]) (p := (rL rB 1) y31) rfl rfl rfl (laws_toBoolS_ok h5 h32 (HS.wf' hH30)) ?_
 intro _ o38 h33
 obtain ⟨z34, f35, e36, rfl, h37⟩ := h33
 refine AOps.p rfl (rfl : _ = (AV.ptr b18 2)) ?_
 refine AOps.stB (i := 0) (v := (AV.sl z34 f35 e36)) hH30 rfl rfl rfl rfl rfl rfl rfl rfl rfl (lt_b rfl) (le_b rfl) rfl ?_
 intro w39 s40 h41 h42 hH43
 change HS [] false s s40 [⟨some b18, [(AV.int .i64 a1.Stack), (AV.int .i64 a1.Start), (AV.sl z34 f35 e36), (AV.sl 0 true []), (AV.sl 0 true []), (AV.sl 0 true [])], w39⟩] at hH43
 refine AOps.nilR ?_
 refine AW.sr ?_
 refine AOps.p rfl (rfl : _ = (AV.eptr [(AV.int .i64 a1.Stack), (AV.int .i64 a1.Start), (AV.sl z2 f3 e4), (AV.sl z6 f7 e8), (AV.sl z10 f11 e12), (AV.sl z14 f15 e16)] 3)) ?_
 refine AOps.ldE (v := (AV.sl z6 f7 e8)) rfl rfl rfl rfl rfl rfl ?_
 obtain ⟨y44, h45, h⟩ := obind h
 refine AOps.callP (g := 20) (args := [(AV.sl z6 f7 e8)]) (p := (rL (rL rPush 2) 1) y44) rfl rfl rfl (laws_toPushSS_ok h9 h45 (HS.wf' hH43)) ?_
 intro _ o51 h46
 obtain ⟨z47, f48, e49, rfl, h50⟩ := h46
 refine AOps.p rfl (rfl : _ = (AV.ptr b18 3)) ?_
 refine AOps.stB (i := 0) (v := (AV.sl z47 f48 e49)) hH43 rfl rfl rfl rfl rfl rfl rfl rfl rfl (lt_b rfl) (le_b rfl) rfl ?_
 intro w52 s53 h54 h55 hH56
 change HS [] false s s53 [⟨some b18, [(AV.int .i64 a1.Stack), (AV.int .i64 a1.Start), (AV.sl z34 f35 e36), (AV.sl z47 f48 e49), (AV.sl 0 true []), (AV.sl 0 true [])], w52⟩] at hH56
 refine AOps.nilR ?_
 refine AW.sr ?_
 refine AOps.p rfl (rfl : _ = (AV.eptr [(AV.int .i64 a1.Stack), (AV.int .i64 a1.Start), (AV.sl z2 f3 e4), (AV.sl z6 f7 e8), (AV.sl z10 f11 e12), (AV.sl z14 f15 e16)] 4)) ?_
 refine AOps.ldE (v := (AV.sl z10 f11 e12)) rfl rfl rfl rfl rfl rfl ?_
 obtain ⟨y57, h58, h⟩ := obind h
 refine AOps.callP (g := 21) (args := [(AV.sl z10 f11 e12)]) (p := (rL (rL (rL (rI .i64) 1) 1) 1) y57) rfl rfl rfl (laws_toInt64SSS_ok h13 h58 (HS.wf' hH56)) ?_
 intro _ o64 h59
 obtain ⟨z60, f61, e62, rfl, h63⟩ := h59
 refine AOps.p rfl (rfl : _ = (AV.ptr b18 4)) ?_
 refine AOps.stB (i := 0) (v := (AV.sl z60 f61 e62)) hH56 rfl rfl rfl rfl rfl rfl rfl rfl rfl (lt_b rfl) (le_b rfl) rfl ?_
 intro w65 s66 h67 h68 hH69
 change HS [] false s s66 [⟨some b18, [(AV.int .i64 a1.Stack), (AV.int .i64 a1.Start), (AV.sl z34 f35 e36), (AV.sl z47 f48 e49), (AV.sl z60 f61 e62), (AV.sl 0 true [])], w65⟩] at hH69
 refine AOps.nilR ?_
 refine AW.sr ?_
 refine AOps.p rfl (rfl : _ = (AV.eptr [(AV.int .i64 a1.Stack), (AV.int .i64 a1.Start), (AV.sl z2 f3 e4), (AV.sl z6 f7 e8), (AV.sl z10 f11 e12), (AV.sl z14 f15 e16)] 5)) ?_
 refine AOps.ldE (v := (AV.sl z14 f15 e16)) rfl rfl rfl rfl rfl rfl ?_
 obtain ⟨y70, h71, h⟩ := obind h
 refine AOps.callP (g := 22) (args := [(AV.sl z14 f15 e16)]) (p := (rL (rL (rI .i64) 1) 1) y70) rfl rfl rfl (laws_toInt64SS_ok h17 h71 (HS.wf' hH69)) ?_
 intro _ o77 h72
 obtain ⟨z73, f74, e75, rfl, h76⟩ := h72
 refine AOps.p rfl (rfl : _ = (AV.ptr b18 5)) ?_
 refine AOps.stB (i := 0) (v := (AV.sl z73 f74 e75)) hH69 rfl rfl rfl rfl rfl rfl rfl rfl rfl (lt_b rfl) (le_b rfl) rfl ?_
 intro w78 s79 h80 h81 hH82
 change HS [] false s s79 [⟨some b18, [(AV.int .i64 a1.Stack), (AV.int .i64 a1.Start), (AV.sl z34 f35 e36), (AV.sl z47 f48 e49), (AV.sl z60 f61 e62), (AV.sl z73 f74 e75)], w78⟩] at hH82
 refine AOps.nilR ?_
 refine AW.sr ?_
 refine AOps.ldB (i := 0) (v := (AV.agg [(AV.int .i64 a1.Stack), (AV.int .i64 a1.Start), (AV.sl z34 f35 e36), (AV.sl z47 f48 e49), (AV.sl z60 f61 e62), (AV.sl z73 f74 e75)])) hH82 rfl rfl rfl rfl rfl rfl rfl rfl rfl ?_
 refine AOps.stP (v := (AV.agg [(AV.int .i64 a1.Stack), (AV.int .i64 a1.Start), (AV.sl z34 f35 e36), (AV.sl z47 f48 e49), (AV.sl z60 f61 e62), (AV.sl z73 f74 e75)])) rfl rfl rfl rfl rfl rfl rfl rfl rfl (lt_b rfl) rfl ?_
 refine AOps.nilR ?_
 cases h
 exact AW.ret ⟨⟨_, hH82⟩, _, _, rfl, (Fin.of (p := (rChecker) (⟨a1.Stack, a1.Start, y31, y44, y57, y70⟩ : Checker)) (.A (.cons .I (.cons .I (.cons (.L fun _ => .B) (.cons (.L fun _ => (.L fun _ => (.A (.cons .I (.cons .I .nil))))) (.cons (.L fun _ => (.L fun _ => (.L fun _ => .I))) (.cons (.L fun _ => (.L fun _ => .I)) .nil))))))) (⟨_, rfl, (.cons rfl (.cons rfl (.cons ⟨_, _, _, rfl, h37⟩ (.cons ⟨_, _, _, rfl, h50⟩ (.cons ⟨_, _, _, rfl, h63⟩ (.cons ⟨_, _, _, rfl, h76⟩ .nil))))))⟩)).2⟩
theorem spec_l00In_ok {n1 : Int} {low2 : Int} {high3 : Int} {s : St} {r : Bool} (h : spec_l00In n1 low2 high3 = some r) (hs : WF s) : ACall Cf 35 [(AV.int .i64 n1), (AV.int .i64 low2), (AV.int .i64 high3)] s fun v _ s' => (rB) r v ∧ s' = s := by
 refine ACall.pure rfl rfl rfl .B ?_
 have hWF := hs.lo'
 unfold spec_l00In at h
 refine AW.sr ?_
 refine AOps.p rfl (rfl : _ = (AV.bool false)) ?_
 refine AOps.nilR ?_
 refine AW.sr ?_
 refine AOps.p rfl (rfl : _ = (AV.int .i64 n1)) ?_
 refine AOps.p rfl (rfl : _ = (AV.int .i64 low2)) ?_
 refine AOps.p rfl (rfl : _ = (AV.bool (decide ((n1 : Int) ≥ low2)))) ?_
 refine AOps.p rfl (rfl : _ = (AV.bool (decide ((n1 : Int) ≥ low2)))) ?_
 refine AOps.split 4 (fun f' => ∃ tm' os', f' = ⟨updL tm' [(14, (AV.bool ((decide ((n1 : Int) ≥ low2)) && (decide ((n1 : Int) ≤ high3)))))], updL os' [], { s with lo := s.n }⟩) ?_ ?_
 ·rcases Bool.eq_false_or_eq_true (decide ((n1 : Int) ≥ low2)) with hc4 | hc4
  ·refine AOps.know (d := 10) rfl hc4 ?_
   refine AOps.p rfl (rfl : _ = (AV.int .i64 n1)) ?_
   refine AOps.p rfl (rfl : _ = (AV.int .i64 high3)) ?_
   refine AOps.p rfl (rfl : _ = (AV.bool (decide ((n1 : Int) ≤ high3)))) ?_
   refine AOps.p rfl (rfl : _ = (AV.bool (decide ((n1 : Int) ≤ high3)))) ?_
   refine AOps.resR [(14, (AV.bool ((decide ((n1 : Int) ≥ low2)) && (decide ((n1 : Int) ≤ high3)))))] [] ?_ ?_ _ ⟨_, _, rfl⟩
   ·exact ⟨congrArg AV.bool (and_t hc4), trivial⟩
   exact trivial
  ·refine AOps.know (d := 10) rfl hc4 ?_
   refine AOps.skipR rfl rfl ?_
   refine AOps.skipR rfl rfl ?_
   refine AOps.skipR rfl rfl ?_
   refine AOps.p rfl (rfl : _ = (AV.bool false)) ?_
   refine AOps.resR [(14, (AV.bool ((decide ((n1 : Int) ≥ low2)) && (decide ((n1 : Int) ≤ high3)))))] [] ?_ ?_ _ ⟨_, _, rfl⟩
   ·exact ⟨congrArg AV.bool (and_f hc4), trivial⟩
   exact trivial
 rintro _ ⟨tm, os, rfl⟩
 refine AOps.assignR rfl rfl rfl (rfl : _ = (AV.bool ((decide ((n1 : Int) ≥ low2)) && (decide ((n1 : Int) ≤ high3))))) rfl ?_
 refine AOps.nilR ?_
 cases h
 exact AW.ret ⟨rfl, _, _, rfl, rfl⟩
theorem spec_l02List_ok {list1 : List Int} {length6 : Int} {n7 : Int} {z2 : Nat} {f3 : Bool} {e4 : List AV} {s : St} (h5 : LR (rI .i64) 1 list1 z2 e4) {r : Bool} (h : spec_l02List list1 length6 n7 = some r) (hs : WF s) : ACall Cf 36 [(AV.sl z2 f3 e4), (AV.int .i64 length6), (AV.int .i64 n7)] s fun v _ s' => (rB) r v ∧ s' = s := by
 refine ACall.pure rfl rfl rfl .B ?_
 have hWF := hs.lo'
 unfold spec_l02List at h
 refine AW.sr ?_
 refine AOps.p rfl (rfl : _ = (AV.bool false)) ?_
 refine AOps.nilR ?_
 refine AW.seq ?_
 refine AW.sr ?_
 refine AOps.p rfl (rfl : _ = (AV.sl z2 f3 e4)) ?_
 refine AOps.p rfl (len_eq h5) ?_
 refine AOps.p rfl (rfl : _ = (AV.int .i64 length6)) ?_
 refine AOps.p rfl (rfl : _ = (AV.bool ((list1.length : Int) != length6))) ?_
 refine AOps.nilR ?_
 rcases oite h with ⟨hc8, h⟩ | ⟨hc8, h⟩
 ·refine AW.condT (congrArg AV.bool hc8) ?_
  refine AW.sr ?_
  refine AOps.p rfl (rfl : _ = (AV.bool false)) ?_
  refine AOps.nilR ?_
  cases h
  exact AW.ret ⟨rfl, _, _, rfl, rfl⟩
 refine AW.condF (congrArg AV.bool hc8) ?_
 refine AW.skip ?_
 refine AW.seq ?_
 refine AW.sr ?_
 refine AOps.p rfl (rfl : _ = (AV.int .i64 0)) ?_
 refine AOps.nilR ?_
 refine AW.meet (σ := Unit) (fun _ tm os => ⟨updL tm [], updL os [], { s with lo := s.n }⟩) (fun _ => spec_l02List_J1 = some r) ?_ ?_
 ·rintro _ tm os h
  unfold spec_l02List_J1 at h
  refine AW.sr ?_
  refine AOps.p rfl (rfl : _ = (AV.bool true)) ?_
  refine AOps.nilR ?_
  cases h
  exact AW.ret ⟨rfl, _, _, rfl, rfl⟩
 intro KJ9
 refine AW.block ?_
 refine AW.res [(0, (AV.sl z2 f3 e4)), (2, (AV.int .i64 n7)), (7, (AV.int .i64 0))] [] ⟨rfl, rfl, rfl, trivial⟩ trivial ?_
 refine AW.loopF (σ := Int) (τ := Unit) (fun i10 _ => True) (fun i10 _ tm os => ⟨updL tm [(0, (AV.sl z2 f3 e4)), (2, (AV.int .i64 n7)), (7, (AV.int .i64 i10))], updL os [], { s with lo := s.n }⟩) ?_ (x := (0)) (y := ()) h trivial
 clear h
 rintro i10 _ tm os - ee1 h hL1 hR1
 unfold spec_l02List_S1 at h
 refine AW.seq ?_
 refine AW.sr ?_
 refine AOps.p rfl (rfl : _ = (AV.int .i64 i10)) ?_
 refine AOps.p rfl (rfl : _ = (AV.sl z2 f3 e4)) ?_
 refine AOps.p rfl (len_eq h5) ?_
 refine AOps.p rfl (rfl : _ = (AV.bool (decide ((i10 : Int) < (list1.length : Int))))) ?_
 refine AOps.nilR ?_
 rcases oite h with ⟨hc11, h⟩ | ⟨hc11, h⟩
 ·refine AW.condT (congrArg AV.bool hc11) ?_
  refine AW.skip ?_
  refine AW.seq ?_
  refine AW.block ?_
  refine AW.sr ?_
  refine AOps.p rfl (rfl : _ = (AV.sl z2 f3 e4)) ?_
  refine AOps.p rfl (rfl : _ = (AV.int .i64 i10)) ?_
  obtain ⟨x12, h13, h⟩ := obind h
  obtain ⟨v16, h14, h15⟩ := idx_sl h5 h13
  cases h14
  refine AOps.pureR rfl rfl rfl h15 rfl (rfl : _ = (AV.eptr [(AV.int .i64 x12)] 0)) ?_
  refine AOps.ldE (v := (AV.int .i64 x12)) rfl rfl rfl rfl rfl rfl ?_
  refine AOps.p rfl (rfl : _ = (AV.int .i64 n7)) ?_
  refine AOps.p rfl (rfl : _ = (AV.int .i64 (IntKind.wrap .i64 (n7 - 1)))) ?_
  obtain ⟨y17, h18, h⟩ := obind h
  refine AOps.callP (g := 35) (args := [(AV.int .i64 x12), (AV.int .i64 0), (AV.int .i64 (IntKind.wrap .i64 (n7 - 1)))]) (p := (rB) y17) rfl rfl rfl (spec_l00In_ok  h18 hWF) ?_
  intro _ o20 h19
  cases h19
  refine AOps.p rfl (rfl : _ = (AV.bool (!y17))) ?_
  refine AOps.nilR ?_
  rcases oite h with ⟨hc21, h⟩ | ⟨hc21, h⟩
  ·refine AW.condT (congrArg AV.bool hc21) ?_
   refine AW.sr ?_
   refine AOps.p rfl (rfl : _ = (AV.bool false)) ?_
   refine AOps.nilR ?_
   cases h
   have hr := hR1 _ rfl
   subst hr
   exact AW.ret ⟨rfl, _, _, rfl, rfl⟩
  refine AW.condF (congrArg AV.bool hc21) ?_
  refine AW.skip ?_
  refine AW.inBlock ?_
  refine AW.region ?_
  refine AOps.p rfl (rfl : _ = (AV.int .i64 i10)) ?_
  refine AOps.p rfl (rfl : _ = (AV.int .i64 (IntKind.wrap .i64 (i10 + 1)))) ?_
  refine AOps.assignR rfl rfl rfl (rfl : _ = (AV.int .i64 (IntKind.wrap .i64 (i10 + 1)))) rfl ?_
  refine AOps.nilR ?_
  cases h
  exact AW.res [(0, (AV.sl z2 f3 e4)), (2, (AV.int .i64 n7)), (7, (AV.int .i64 (IntKind.wrap .i64 (i10 + 1))))] [] ⟨rfl, rfl, rfl, trivial⟩ trivial (hL1 _ rfl () _ _ trivial)
 refine AW.condF (congrArg AV.bool hc11) ?_
 refine AW.exit rfl ?_
 obtain ⟨r22, hm, hx⟩ := omap h
 clear h
 subst hx
 have hx := hR1 _ rfl
 rw [hx] at hm
 have h := hm
 exact AW.res [] [] trivial trivial (KJ9 () _ _ h)
theorem spec_l02Ok_ok {p1 : Checker} {z2 : Nat} {f3 : Bool} {e4 : List AV} {z6 : Nat} {f7 : Bool} {e8 : List AV} {z10 : Nat} {f11 : Bool} {e12 : List AV} {z14 : Nat} {f15 : Bool} {e16 : List AV} {s : St} (h5 : LR rB 1 p1.Accept z2 e4) (h9 : LR (rL rPush 2) 1 p1.Call z6 e8) (h13 : LR (rL (rL (rI .i64) 1) 1) 1 p1.Return z10 e12) (h17 : LR (rL (rI .i64) 1) 1 p1.Inner z14 e16) {r : Bool} (h : spec_l02Ok p1 = some r) (hs : WF s) : ACall Cf 17 [(AV.eptr [(AV.int .i64 p1.Stack), (AV.int .i64 p1.Start), (AV.sl z2 f3 e4), (AV.sl z6 f7 e8), (AV.sl z10 f11 e12), (AV.sl z14 f15 e16)] 0)] s fun v _ s' => (rB) r v ∧ s' = s := by
 refine ACall.pure rfl rfl rfl .B ?_
 have hWF := hs.lo'
 unfold spec_l02Ok at h
 refine AW.sr ?_
 refine AOps.p rfl (rfl : _ = (AV.bool false)) ?_
 refine AOps.nilR ?_
 refine AW.sr ?_
 refine AOps.p rfl (rfl : _ = (AV.eptr [(AV.int .i64 p1.Stack), (AV.int .i64 p1.Start), (AV.sl z2 f3 e4), (AV.sl z6 f7 e8), (AV.sl z10 f11 e12), (AV.sl z14 f15 e16)] 0)) ?_
 refine AOps.p rfl (rfl : _ = (AV.eptr [(AV.int .i64 p1.Stack), (AV.int .i64 p1.Start), (AV.sl z2 f3 e4), (AV.sl z6 f7 e8), (AV.sl z10 f11 e12), (AV.sl z14 f15 e16)] 0)) ?_
 refine AOps.p rfl (rfl : _ = (AV.eptr [(AV.int .i64 p1.Stack), (AV.int .i64 p1.Start), (AV.sl z2 f3 e4), (AV.sl z6 f7 e8), (AV.sl z10 f11 e12), (AV.sl z14 f15 e16)] 2)) ?_
 refine AOps.ldE (v := (AV.sl z2 f3 e4)) rfl rfl rfl rfl rfl rfl ?_
 refine AOps.p rfl (len_eq h5) ?_
 refine AOps.assignR rfl rfl rfl (rfl : _ = (AV.int .i64 (p1.Accept.length : Int))) rfl ?_
 refine AOps.nilR ?_
 refine AW.seq ?_
 refine AW.sr ?_
 refine AOps.p rfl (rfl : _ = (AV.int .i64 (p1.Accept.length : Int))) ?_
 obtain ⟨y18, h19, h⟩ := obind h
 refine AOps.callP (g := 35) (args := [(AV.int .i64 (p1.Accept.length : Int)), (AV.int .i64 1), (AV.int .i64 40)]) (p := (rB) y18) rfl rfl rfl (spec_l00In_ok  h19 hWF) ?_
 intro _ o21 h20
 cases h20
 refine AOps.p rfl (rfl : _ = (AV.bool (!y18))) ?_
 refine AOps.p rfl (rfl : _ = (AV.bool (!y18))) ?_
 obtain ⟨b23, hb, h⟩ := obind h
 refine AOps.split 7 (fun f' => ∃ tm' os', f' = ⟨updL tm' [(0, (AV.eptr [(AV.int .i64 p1.Stack), (AV.int .i64 p1.Start), (AV.sl z2 f3 e4), (AV.sl z6 f7 e8), (AV.sl z10 f11 e12), (AV.sl z14 f15 e16)] 0)), (3, (AV.int .i64 (p1.Accept.length : Int))), (21, (AV.bool b23))], updL os' [], { s with lo := s.n }⟩) ?_ ?_
 ·rcases oite hb with ⟨hc22, hb⟩ | ⟨hc22, hb⟩
  ·refine AOps.know (d := 14) rfl hc22 ?_
   refine AOps.skipR rfl rfl ?_
   refine AOps.skipR rfl rfl ?_
   refine AOps.skipR rfl rfl ?_
   refine AOps.skipR rfl rfl ?_
   refine AOps.skipR rfl rfl ?_
   refine AOps.skipR rfl rfl ?_
   refine AOps.p rfl (rfl : _ = (AV.bool true)) ?_
   refine AOps.resR [(0, (AV.eptr [(AV.int .i64 p1.Stack), (AV.int .i64 p1.Start), (AV.sl z2 f3 e4), (AV.sl z6 f7 e8), (AV.sl z10 f11 e12), (AV.sl z14 f15 e16)] 0)), (3, (AV.int .i64 (p1.Accept.length : Int))), (21, (AV.bool b23))] [] ?_ ?_ _ ⟨_, _, rfl⟩
   ·exact ⟨rfl, rfl, congrArg AV.bool (Option.some.inj hb), trivial⟩
   exact trivial
  ·have h := hb
   refine AOps.know (d := 14) rfl hc22 ?_
   refine AOps.p rfl (rfl : _ = (AV.eptr [(AV.int .i64 p1.Stack), (AV.int .i64 p1.Start), (AV.sl z2 f3 e4), (AV.sl z6 f7 e8), (AV.sl z10 f11 e12), (AV.sl z14 f15 e16)] 0)) ?_
   refine AOps.p rfl (rfl : _ = (AV.eptr [(AV.int .i64 p1.Stack), (AV.int .i64 p1.Start), (AV.sl z2 f3 e4), (AV.sl z6 f7 e8), (AV.sl z10 f11 e12), (AV.sl z14 f15 e16)] 0)) ?_
   refine AOps.p rfl (rfl : _ = (AV.eptr [(AV.int .i64 p1.Stack), (AV.int .i64 p1.Start), (AV.sl z2 f3 e4), (AV.sl z6 f7 e8), (AV.sl z10 f11 e12), (AV.sl z14 f15 e16)] 0)) ?_
   refine AOps.ldE (v := (AV.int .i64 p1.Stack)) rfl rfl rfl rfl rfl rfl ?_
   obtain ⟨y24, h25, h⟩ := obind h
   refine AOps.callP (g := 35) (args := [(AV.int .i64 p1.Stack), (AV.int .i64 1), (AV.int .i64 80)]) (p := (rB) y24) rfl rfl rfl (spec_l00In_ok  h25 hWF) ?_
   intro _ o27 h26
   cases h26
   refine AOps.p rfl (rfl : _ = (AV.bool (!y24))) ?_
   refine AOps.p rfl (rfl : _ = (AV.bool (!y24))) ?_
   refine AOps.resR [(0, (AV.eptr [(AV.int .i64 p1.Stack), (AV.int .i64 p1.Start), (AV.sl z2 f3 e4), (AV.sl z6 f7 e8), (AV.sl z10 f11 e12), (AV.sl z14 f15 e16)] 0)), (3, (AV.int .i64 (p1.Accept.length : Int))), (21, (AV.bool b23))] [] ?_ ?_ _ ⟨_, _, rfl⟩
   ·exact ⟨rfl, rfl, congrArg AV.bool (Option.some.inj h), trivial⟩
   exact trivial
 rintro _ ⟨tm, os, rfl⟩
 refine AOps.p rfl (rfl : _ = (AV.bool b23)) ?_
 obtain ⟨b29, hb, h⟩ := obind h
 refine AOps.split 9 (fun f' => ∃ tm' os', f' = ⟨updL tm' [(0, (AV.eptr [(AV.int .i64 p1.Stack), (AV.int .i64 p1.Start), (AV.sl z2 f3 e4), (AV.sl z6 f7 e8), (AV.sl z10 f11 e12), (AV.sl z14 f15 e16)] 0)), (3, (AV.int .i64 (p1.Accept.length : Int))), (31, (AV.bool b29))], updL os' [], { s with lo := s.n }⟩) ?_ ?_
 ·rcases oite hb with ⟨hc28, hb⟩ | ⟨hc28, hb⟩
  ·refine AOps.know (d := 22) rfl hc28 ?_
   refine AOps.skipR rfl rfl ?_
   refine AOps.skipR rfl rfl ?_
   refine AOps.skipR rfl rfl ?_
   refine AOps.skipR rfl rfl ?_
   refine AOps.skipR rfl rfl ?_
   refine AOps.skipR rfl rfl ?_
   refine AOps.skipR rfl rfl ?_
   refine AOps.skipR rfl rfl ?_
   refine AOps.p rfl (rfl : _ = (AV.bool true)) ?_
   refine AOps.resR [(0, (AV.eptr [(AV.int .i64 p1.Stack), (AV.int .i64 p1.Start), (AV.sl z2 f3 e4), (AV.sl z6 f7 e8), (AV.sl z10 f11 e12), (AV.sl z14 f15 e16)] 0)), (3, (AV.int .i64 (p1.Accept.length : Int))), (31, (AV.bool b29))] [] ?_ ?_ _ ⟨_, _, rfl⟩
   ·exact ⟨rfl, rfl, congrArg AV.bool (Option.some.inj hb), trivial⟩
   exact trivial
  ·have h := hb
   refine AOps.know (d := 22) rfl hc28 ?_
   refine AOps.p rfl (rfl : _ = (AV.eptr [(AV.int .i64 p1.Stack), (AV.int .i64 p1.Start), (AV.sl z2 f3 e4), (AV.sl z6 f7 e8), (AV.sl z10 f11 e12), (AV.sl z14 f15 e16)] 0)) ?_
   refine AOps.p rfl (rfl : _ = (AV.eptr [(AV.int .i64 p1.Stack), (AV.int .i64 p1.Start), (AV.sl z2 f3 e4), (AV.sl z6 f7 e8), (AV.sl z10 f11 e12), (AV.sl z14 f15 e16)] 0)) ?_
   refine AOps.p rfl (rfl : _ = (AV.eptr [(AV.int .i64 p1.Stack), (AV.int .i64 p1.Start), (AV.sl z2 f3 e4), (AV.sl z6 f7 e8), (AV.sl z10 f11 e12), (AV.sl z14 f15 e16)] 1)) ?_
   refine AOps.ldE (v := (AV.int .i64 p1.Start)) rfl rfl rfl rfl rfl rfl ?_
   refine AOps.p rfl (rfl : _ = (AV.int .i64 (p1.Accept.length : Int))) ?_
   refine AOps.p rfl (rfl : _ = (AV.int .i64 (IntKind.wrap .i64 ((p1.Accept.length : Int) - 1)))) ?_
   obtain ⟨y30, h31, h⟩ := obind h
   refine AOps.callP (g := 35) (args := [(AV.int .i64 p1.Start), (AV.int .i64 0), (AV.int .i64 (IntKind.wrap .i64 ((p1.Accept.length : Int) - 1)))]) (p := (rB) y30) rfl rfl rfl (spec_l00In_ok  h31 hWF) ?_
   intro _ o33 h32
   cases h32
   refine AOps.p rfl (rfl : _ = (AV.bool (!y30))) ?_
   refine AOps.p rfl (rfl : _ = (AV.bool (!y30))) ?_
   refine AOps.resR [(0, (AV.eptr [(AV.int .i64 p1.Stack), (AV.int .i64 p1.Start), (AV.sl z2 f3 e4), (AV.sl z6 f7 e8), (AV.sl z10 f11 e12), (AV.sl z14 f15 e16)] 0)), (3, (AV.int .i64 (p1.Accept.length : Int))), (31, (AV.bool b29))] [] ?_ ?_ _ ⟨_, _, rfl⟩
   ·exact ⟨rfl, rfl, congrArg AV.bool (Option.some.inj h), trivial⟩
   exact trivial
 rintro _ ⟨tm, os, rfl⟩
 refine AOps.p rfl (rfl : _ = (AV.bool b29)) ?_
 refine AOps.split 8 (fun f' => ∃ tm' os', f' = ⟨updL tm' [(0, (AV.eptr [(AV.int .i64 p1.Stack), (AV.int .i64 p1.Start), (AV.sl z2 f3 e4), (AV.sl z6 f7 e8), (AV.sl z10 f11 e12), (AV.sl z14 f15 e16)] 0)), (3, (AV.int .i64 (p1.Accept.length : Int))), (40, (AV.bool (b29 || ((p1.Call.length : Int) != (p1.Accept.length : Int)))))], updL os' [], { s with lo := s.n }⟩) ?_ ?_
 ·rcases Bool.eq_false_or_eq_true b29 with hc34 | hc34
  ·refine AOps.know (d := 32) rfl hc34 ?_
   refine AOps.skipR rfl rfl ?_
   refine AOps.skipR rfl rfl ?_
   refine AOps.skipR rfl rfl ?_
   refine AOps.skipR rfl rfl ?_
   refine AOps.skipR rfl rfl ?_
   refine AOps.skipR rfl rfl ?_
   refine AOps.skipR rfl rfl ?_
   refine AOps.p rfl (rfl : _ = (AV.bool true)) ?_
   refine AOps.resR [(0, (AV.eptr [(AV.int .i64 p1.Stack), (AV.int .i64 p1.Start), (AV.sl z2 f3 e4), (AV.sl z6 f7 e8), (AV.sl z10 f11 e12), (AV.sl z14 f15 e16)] 0)), (3, (AV.int .i64 (p1.Accept.length : Int))), (40, (AV.bool (b29 || ((p1.Call.length : Int) != (p1.Accept.length : Int)))))] [] ?_ ?_ _ ⟨_, _, rfl⟩
   ·exact ⟨rfl, rfl, congrArg AV.bool (or_t hc34), trivial⟩
   exact trivial
  ·refine AOps.know (d := 32) rfl hc34 ?_
   refine AOps.p rfl (rfl : _ = (AV.eptr [(AV.int .i64 p1.Stack), (AV.int .i64 p1.Start), (AV.sl z2 f3 e4), (AV.sl z6 f7 e8), (AV.sl z10 f11 e12), (AV.sl z14 f15 e16)] 0)) ?_
   refine AOps.p rfl (rfl : _ = (AV.eptr [(AV.int .i64 p1.Stack), (AV.int .i64 p1.Start), (AV.sl z2 f3 e4), (AV.sl z6 f7 e8), (AV.sl z10 f11 e12), (AV.sl z14 f15 e16)] 0)) ?_
   refine AOps.p rfl (rfl : _ = (AV.eptr [(AV.int .i64 p1.Stack), (AV.int .i64 p1.Start), (AV.sl z2 f3 e4), (AV.sl z6 f7 e8), (AV.sl z10 f11 e12), (AV.sl z14 f15 e16)] 3)) ?_
   refine AOps.ldE (v := (AV.sl z6 f7 e8)) rfl rfl rfl rfl rfl rfl ?_
   refine AOps.p rfl (len_eq h9) ?_
   refine AOps.p rfl (rfl : _ = (AV.int .i64 (p1.Accept.length : Int))) ?_
   refine AOps.p rfl (rfl : _ = (AV.bool ((p1.Call.length : Int) != (p1.Accept.length : Int)))) ?_
   refine AOps.p rfl (rfl : _ = (AV.bool ((p1.Call.length : Int) != (p1.Accept.length : Int)))) ?_
   refine AOps.resR [(0, (AV.eptr [(AV.int .i64 p1.Stack), (AV.int .i64 p1.Start), (AV.sl z2 f3 e4), (AV.sl z6 f7 e8), (AV.sl z10 f11 e12), (AV.sl z14 f15 e16)] 0)), (3, (AV.int .i64 (p1.Accept.length : Int))), (40, (AV.bool (b29 || ((p1.Call.length : Int) != (p1.Accept.length : Int)))))] [] ?_ ?_ _ ⟨_, _, rfl⟩
   ·exact ⟨rfl, rfl, congrArg AV.bool (or_f hc34), trivial⟩
   exact trivial
 rintro _ ⟨tm, os, rfl⟩
 refine AOps.p rfl (rfl : _ = (AV.bool (b29 || ((p1.Call.length : Int) != (p1.Accept.length : Int))))) ?_
 refine AOps.split 8 (fun f' => ∃ tm' os', f' = ⟨updL tm' [(0, (AV.eptr [(AV.int .i64 p1.Stack), (AV.int .i64 p1.Start), (AV.sl z2 f3 e4), (AV.sl z6 f7 e8), (AV.sl z10 f11 e12), (AV.sl z14 f15 e16)] 0)), (3, (AV.int .i64 (p1.Accept.length : Int))), (49, (AV.bool ((b29 || ((p1.Call.length : Int) != (p1.Accept.length : Int))) || ((p1.Return.length : Int) != (p1.Accept.length : Int)))))], updL os' [], { s with lo := s.n }⟩) ?_ ?_
 ·rcases Bool.eq_false_or_eq_true (b29 || ((p1.Call.length : Int) != (p1.Accept.length : Int))) with hc35 | hc35
  ·refine AOps.know (d := 41) rfl hc35 ?_
   refine AOps.skipR rfl rfl ?_
   refine AOps.skipR rfl rfl ?_
   refine AOps.skipR rfl rfl ?_
   refine AOps.skipR rfl rfl ?_
   refine AOps.skipR rfl rfl ?_
   refine AOps.skipR rfl rfl ?_
   refine AOps.skipR rfl rfl ?_
   refine AOps.p rfl (rfl : _ = (AV.bool true)) ?_
   refine AOps.resR [(0, (AV.eptr [(AV.int .i64 p1.Stack), (AV.int .i64 p1.Start), (AV.sl z2 f3 e4), (AV.sl z6 f7 e8), (AV.sl z10 f11 e12), (AV.sl z14 f15 e16)] 0)), (3, (AV.int .i64 (p1.Accept.length : Int))), (49, (AV.bool ((b29 || ((p1.Call.length : Int) != (p1.Accept.length : Int))) || ((p1.Return.length : Int) != (p1.Accept.length : Int)))))] [] ?_ ?_ _ ⟨_, _, rfl⟩
   ·exact ⟨rfl, rfl, congrArg AV.bool (or_t hc35), trivial⟩
   exact trivial
  ·refine AOps.know (d := 41) rfl hc35 ?_
   refine AOps.p rfl (rfl : _ = (AV.eptr [(AV.int .i64 p1.Stack), (AV.int .i64 p1.Start), (AV.sl z2 f3 e4), (AV.sl z6 f7 e8), (AV.sl z10 f11 e12), (AV.sl z14 f15 e16)] 0)) ?_
   refine AOps.p rfl (rfl : _ = (AV.eptr [(AV.int .i64 p1.Stack), (AV.int .i64 p1.Start), (AV.sl z2 f3 e4), (AV.sl z6 f7 e8), (AV.sl z10 f11 e12), (AV.sl z14 f15 e16)] 0)) ?_
   refine AOps.p rfl (rfl : _ = (AV.eptr [(AV.int .i64 p1.Stack), (AV.int .i64 p1.Start), (AV.sl z2 f3 e4), (AV.sl z6 f7 e8), (AV.sl z10 f11 e12), (AV.sl z14 f15 e16)] 4)) ?_
   refine AOps.ldE (v := (AV.sl z10 f11 e12)) rfl rfl rfl rfl rfl rfl ?_
   refine AOps.p rfl (len_eq h13) ?_
   refine AOps.p rfl (rfl : _ = (AV.int .i64 (p1.Accept.length : Int))) ?_
   refine AOps.p rfl (rfl : _ = (AV.bool ((p1.Return.length : Int) != (p1.Accept.length : Int)))) ?_
   refine AOps.p rfl (rfl : _ = (AV.bool ((p1.Return.length : Int) != (p1.Accept.length : Int)))) ?_
   refine AOps.resR [(0, (AV.eptr [(AV.int .i64 p1.Stack), (AV.int .i64 p1.Start), (AV.sl z2 f3 e4), (AV.sl z6 f7 e8), (AV.sl z10 f11 e12), (AV.sl z14 f15 e16)] 0)), (3, (AV.int .i64 (p1.Accept.length : Int))), (49, (AV.bool ((b29 || ((p1.Call.length : Int) != (p1.Accept.length : Int))) || ((p1.Return.length : Int) != (p1.Accept.length : Int)))))] [] ?_ ?_ _ ⟨_, _, rfl⟩
   ·exact ⟨rfl, rfl, congrArg AV.bool (or_f hc35), trivial⟩
   exact trivial
 rintro _ ⟨tm, os, rfl⟩
 refine AOps.p rfl (rfl : _ = (AV.bool ((b29 || ((p1.Call.length : Int) != (p1.Accept.length : Int))) || ((p1.Return.length : Int) != (p1.Accept.length : Int))))) ?_
 refine AOps.split 8 (fun f' => ∃ tm' os', f' = ⟨updL tm' [(0, (AV.eptr [(AV.int .i64 p1.Stack), (AV.int .i64 p1.Start), (AV.sl z2 f3 e4), (AV.sl z6 f7 e8), (AV.sl z10 f11 e12), (AV.sl z14 f15 e16)] 0)), (3, (AV.int .i64 (p1.Accept.length : Int))), (58, (AV.bool (((b29 || ((p1.Call.length : Int) != (p1.Accept.length : Int))) || ((p1.Return.length : Int) != (p1.Accept.length : Int))) || ((p1.Inner.length : Int) != (p1.Accept.length : Int)))))], updL os' [], { s with lo := s.n }⟩) ?_ ?_
 ·rcases Bool.eq_false_or_eq_true ((b29 || ((p1.Call.length : Int) != (p1.Accept.length : Int))) || ((p1.Return.length : Int) != (p1.Accept.length : Int))) with hc36 | hc36
  ·refine AOps.know (d := 50) rfl hc36 ?_
   refine AOps.skipR rfl rfl ?_
   refine AOps.skipR rfl rfl ?_
   refine AOps.skipR rfl rfl ?_
   refine AOps.skipR rfl rfl ?_
   refine AOps.skipR rfl rfl ?_
   refine AOps.skipR rfl rfl ?_
   refine AOps.skipR rfl rfl ?_
   refine AOps.p rfl (rfl : _ = (AV.bool true)) ?_
   refine AOps.resR [(0, (AV.eptr [(AV.int .i64 p1.Stack), (AV.int .i64 p1.Start), (AV.sl z2 f3 e4), (AV.sl z6 f7 e8), (AV.sl z10 f11 e12), (AV.sl z14 f15 e16)] 0)), (3, (AV.int .i64 (p1.Accept.length : Int))), (58, (AV.bool (((b29 || ((p1.Call.length : Int) != (p1.Accept.length : Int))) || ((p1.Return.length : Int) != (p1.Accept.length : Int))) || ((p1.Inner.length : Int) != (p1.Accept.length : Int)))))] [] ?_ ?_ _ ⟨_, _, rfl⟩
   ·exact ⟨rfl, rfl, congrArg AV.bool (or_t hc36), trivial⟩
   exact trivial
  ·refine AOps.know (d := 50) rfl hc36 ?_
   refine AOps.p rfl (rfl : _ = (AV.eptr [(AV.int .i64 p1.Stack), (AV.int .i64 p1.Start), (AV.sl z2 f3 e4), (AV.sl z6 f7 e8), (AV.sl z10 f11 e12), (AV.sl z14 f15 e16)] 0)) ?_
   refine AOps.p rfl (rfl : _ = (AV.eptr [(AV.int .i64 p1.Stack), (AV.int .i64 p1.Start), (AV.sl z2 f3 e4), (AV.sl z6 f7 e8), (AV.sl z10 f11 e12), (AV.sl z14 f15 e16)] 0)) ?_
   refine AOps.p rfl (rfl : _ = (AV.eptr [(AV.int .i64 p1.Stack), (AV.int .i64 p1.Start), (AV.sl z2 f3 e4), (AV.sl z6 f7 e8), (AV.sl z10 f11 e12), (AV.sl z14 f15 e16)] 5)) ?_
   refine AOps.ldE (v := (AV.sl z14 f15 e16)) rfl rfl rfl rfl rfl rfl ?_
   refine AOps.p rfl (len_eq h17) ?_
   refine AOps.p rfl (rfl : _ = (AV.int .i64 (p1.Accept.length : Int))) ?_
   refine AOps.p rfl (rfl : _ = (AV.bool ((p1.Inner.length : Int) != (p1.Accept.length : Int)))) ?_
   refine AOps.p rfl (rfl : _ = (AV.bool ((p1.Inner.length : Int) != (p1.Accept.length : Int)))) ?_
   refine AOps.resR [(0, (AV.eptr [(AV.int .i64 p1.Stack), (AV.int .i64 p1.Start), (AV.sl z2 f3 e4), (AV.sl z6 f7 e8), (AV.sl z10 f11 e12), (AV.sl z14 f15 e16)] 0)), (3, (AV.int .i64 (p1.Accept.length : Int))), (58, (AV.bool (((b29 || ((p1.Call.length : Int) != (p1.Accept.length : Int))) || ((p1.Return.length : Int) != (p1.Accept.length : Int))) || ((p1.Inner.length : Int) != (p1.Accept.length : Int)))))] [] ?_ ?_ _ ⟨_, _, rfl⟩
   ·exact ⟨rfl, rfl, congrArg AV.bool (or_f hc36), trivial⟩
   exact trivial
 rintro _ ⟨tm, os, rfl⟩
 refine AOps.nilR ?_
 rcases oite h with ⟨hc37, h⟩ | ⟨hc37, h⟩
 ·refine AW.condT (congrArg AV.bool hc37) ?_
  refine AW.sr ?_
  refine AOps.p rfl (rfl : _ = (AV.bool false)) ?_
  refine AOps.nilR ?_
  cases h
  exact AW.ret ⟨rfl, _, _, rfl, rfl⟩
 refine AW.condF (congrArg AV.bool hc37) ?_
 refine AW.skip ?_
 refine AW.seq ?_
 refine AW.sr ?_
 refine AOps.p rfl (rfl : _ = (AV.int .i64 0)) ?_
 refine AOps.nilR ?_
 refine AW.meet (σ := Unit) (fun _ tm os => ⟨updL tm [], updL os [], { s with lo := s.n }⟩) (fun _ => spec_l02Ok_J1 = some r) ?_ ?_
 ·rintro _ tm os h
  unfold spec_l02Ok_J1 at h
  refine AW.sr ?_
  refine AOps.p rfl (rfl : _ = (AV.bool true)) ?_
  refine AOps.nilR ?_
  cases h
  exact AW.ret ⟨rfl, _, _, rfl, rfl⟩
 intro KJ38
 refine AW.block ?_
 refine AW.res [(0, (AV.eptr [(AV.int .i64 p1.Stack), (AV.int .i64 p1.Start), (AV.sl z2 f3 e4), (AV.sl z6 f7 e8), (AV.sl z10 f11 e12), (AV.sl z14 f15 e16)] 0)), (3, (AV.int .i64 (p1.Accept.length : Int))), (4, (AV.int .i64 0))] [] ⟨rfl, rfl, rfl, trivial⟩ trivial ?_
 refine AW.loopF (σ := Int) (τ := Unit) (fun t39 _ => True) (fun t39 _ tm os => ⟨updL tm [(0, (AV.eptr [(AV.int .i64 p1.Stack), (AV.int .i64 p1.Start), (AV.sl z2 f3 e4), (AV.sl z6 f7 e8), (AV.sl z10 f11 e12), (AV.sl z14 f15 e16)] 0)), (3, (AV.int .i64 (p1.Accept.length : Int))), (4, (AV.int .i64 t39))], updL os [], { s with lo := s.n }⟩) ?_ (x := (0)) (y := ()) h trivial
 clear h
 rintro t39 _ tm os - ee1 h hL1 hR1
 unfold spec_l02Ok_S1 at h
 refine AW.seq ?_
 refine AW.sr ?_
 refine AOps.p rfl (rfl : _ = (AV.int .i64 t39)) ?_
 refine AOps.p rfl (rfl : _ = (AV.int .i64 (p1.Accept.length : Int))) ?_
 refine AOps.p rfl (rfl : _ = (AV.bool (decide ((t39 : Int) < (p1.Accept.length : Int))))) ?_
 refine AOps.nilR ?_
 rcases oite h with ⟨hc40, h⟩ | ⟨hc40, h⟩
 ·refine AW.condT (congrArg AV.bool hc40) ?_
  refine AW.skip ?_
  refine AW.seq ?_
  refine AW.block ?_
  refine AW.seq ?_
  refine AW.sr ?_
  refine AOps.p rfl (rfl : _ = (AV.eptr [(AV.int .i64 p1.Stack), (AV.int .i64 p1.Start), (AV.sl z2 f3 e4), (AV.sl z6 f7 e8), (AV.sl z10 f11 e12), (AV.sl z14 f15 e16)] 0)) ?_
  refine AOps.p rfl (rfl : _ = (AV.eptr [(AV.int .i64 p1.Stack), (AV.int .i64 p1.Start), (AV.sl z2 f3 e4), (AV.sl z6 f7 e8), (AV.sl z10 f11 e12), (AV.sl z14 f15 e16)] 0)) ?_
  refine AOps.p rfl (rfl : _ = (AV.eptr [(AV.int .i64 p1.Stack), (AV.int .i64 p1.Start), (AV.sl z2 f3 e4), (AV.sl z6 f7 e8), (AV.sl z10 f11 e12), (AV.sl z14 f15 e16)] 3)) ?_
  refine AOps.ldE (v := (AV.sl z6 f7 e8)) rfl rfl rfl rfl rfl rfl ?_
  refine AOps.p rfl (rfl : _ = (AV.int .i64 t39)) ?_
  obtain ⟨x41, h42, h⟩ := obind h
  obtain ⟨v45, h43, h44⟩ := idx_sl h9 h42
  obtain ⟨z46, f47, e48, rfl, h49⟩ := h43
  refine AOps.pureR rfl rfl rfl h44 rfl (rfl : _ = (AV.eptr [(AV.sl z46 f47 e48)] 0)) ?_
  refine AOps.ldE (v := (AV.sl z46 f47 e48)) rfl rfl rfl rfl rfl rfl ?_
  refine AOps.p rfl (len_eq h49) ?_
  refine AOps.p rfl (rfl : _ = (AV.bool ((x41.length : Int) != 2))) ?_
  refine AOps.p rfl (rfl : _ = (AV.bool ((x41.length : Int) != 2))) ?_
  obtain ⟨b51, hb, h⟩ := obind h
  refine AOps.split 10 (fun f' => ∃ tm' os', f' = ⟨updL tm' [(0, (AV.eptr [(AV.int .i64 p1.Stack), (AV.int .i64 p1.Start), (AV.sl z2 f3 e4), (AV.sl z6 f7 e8), (AV.sl z10 f11 e12), (AV.sl z14 f15 e16)] 0)), (3, (AV.int .i64 (p1.Accept.length : Int))), (4, (AV.int .i64 t39)), (83, (AV.bool b51))], updL os' [], { s with lo := s.n }⟩) ?_ ?_
  ·rcases oite hb with ⟨hc50, hb⟩ | ⟨hc50, hb⟩
   ·refine AOps.know (d := 73) rfl hc50 ?_
    refine AOps.skipR rfl rfl ?_
    refine AOps.skipR rfl rfl ?_
    refine AOps.skipR rfl rfl ?_
    refine AOps.skipR rfl rfl ?_
    refine AOps.skipR rfl rfl ?_
    refine AOps.skipR rfl rfl ?_
    refine AOps.skipR rfl rfl ?_
    refine AOps.skipR rfl rfl ?_
    refine AOps.skipR rfl rfl ?_
    refine AOps.p rfl (rfl : _ = (AV.bool true)) ?_
    refine AOps.resR [(0, (AV.eptr [(AV.int .i64 p1.Stack), (AV.int .i64 p1.Start), (AV.sl z2 f3 e4), (AV.sl z6 f7 e8), (AV.sl z10 f11 e12), (AV.sl z14 f15 e16)] 0)), (3, (AV.int .i64 (p1.Accept.length : Int))), (4, (AV.int .i64 t39)), (83, (AV.bool b51))] [] ?_ ?_ _ ⟨_, _, rfl⟩
    ·exact ⟨rfl, rfl, rfl, congrArg AV.bool (Option.some.inj hb), trivial⟩
    exact trivial
   ·have h := hb
    refine AOps.know (d := 73) rfl hc50 ?_
    refine AOps.p rfl (rfl : _ = (AV.eptr [(AV.int .i64 p1.Stack), (AV.int .i64 p1.Start), (AV.sl z2 f3 e4), (AV.sl z6 f7 e8), (AV.sl z10 f11 e12), (AV.sl z14 f15 e16)] 0)) ?_
    refine AOps.p rfl (rfl : _ = (AV.eptr [(AV.int .i64 p1.Stack), (AV.int .i64 p1.Start), (AV.sl z2 f3 e4), (AV.sl z6 f7 e8), (AV.sl z10 f11 e12), (AV.sl z14 f15 e16)] 0)) ?_
    refine AOps.p rfl (rfl : _ = (AV.eptr [(AV.int .i64 p1.Stack), (AV.int .i64 p1.Start), (AV.sl z2 f3 e4), (AV.sl z6 f7 e8), (AV.sl z10 f11 e12), (AV.sl z14 f15 e16)] 4)) ?_
    refine AOps.ldE (v := (AV.sl z10 f11 e12)) rfl rfl rfl rfl rfl rfl ?_
    refine AOps.p rfl (rfl : _ = (AV.int .i64 t39)) ?_
    obtain ⟨x52, h53, h⟩ := obind h
    obtain ⟨v56, h54, h55⟩ := idx_sl h13 h53
    obtain ⟨z57, f58, e59, rfl, h60⟩ := h54
    refine AOps.pureR rfl rfl rfl h55 rfl (rfl : _ = (AV.eptr [(AV.sl z57 f58 e59)] 0)) ?_
    refine AOps.ldE (v := (AV.sl z57 f58 e59)) rfl rfl rfl rfl rfl rfl ?_
    refine AOps.p rfl (len_eq h60) ?_
    refine AOps.p rfl (rfl : _ = (AV.bool ((x52.length : Int) != 2))) ?_
    refine AOps.p rfl (rfl : _ = (AV.bool ((x52.length : Int) != 2))) ?_
    refine AOps.resR [(0, (AV.eptr [(AV.int .i64 p1.Stack), (AV.int .i64 p1.Start), (AV.sl z2 f3 e4), (AV.sl z6 f7 e8), (AV.sl z10 f11 e12), (AV.sl z14 f15 e16)] 0)), (3, (AV.int .i64 (p1.Accept.length : Int))), (4, (AV.int .i64 t39)), (83, (AV.bool b51))] [] ?_ ?_ _ ⟨_, _, rfl⟩
    ·exact ⟨rfl, rfl, rfl, congrArg AV.bool (Option.some.inj h), trivial⟩
    exact trivial
  rintro _ ⟨tm, os, rfl⟩
  refine AOps.p rfl (rfl : _ = (AV.bool b51)) ?_
  obtain ⟨b62, hb, h⟩ := obind h
  refine AOps.split 11 (fun f' => ∃ tm' os', f' = ⟨updL tm' [(0, (AV.eptr [(AV.int .i64 p1.Stack), (AV.int .i64 p1.Start), (AV.sl z2 f3 e4), (AV.sl z6 f7 e8), (AV.sl z10 f11 e12), (AV.sl z14 f15 e16)] 0)), (3, (AV.int .i64 (p1.Accept.length : Int))), (4, (AV.int .i64 t39)), (95, (AV.bool b62))], updL os' [], { s with lo := s.n }⟩) ?_ ?_
  ·rcases oite hb with ⟨hc61, hb⟩ | ⟨hc61, hb⟩
   ·refine AOps.know (d := 84) rfl hc61 ?_
    refine AOps.skipR rfl rfl ?_
    refine AOps.skipR rfl rfl ?_
    refine AOps.skipR rfl rfl ?_
    refine AOps.skipR rfl rfl ?_
    refine AOps.skipR rfl rfl ?_
    refine AOps.skipR rfl rfl ?_
    refine AOps.skipR rfl rfl ?_
    refine AOps.skipR rfl rfl ?_
    refine AOps.skipR rfl rfl ?_
    refine AOps.skipR rfl rfl ?_
    refine AOps.p rfl (rfl : _ = (AV.bool true)) ?_
    refine AOps.resR [(0, (AV.eptr [(AV.int .i64 p1.Stack), (AV.int .i64 p1.Start), (AV.sl z2 f3 e4), (AV.sl z6 f7 e8), (AV.sl z10 f11 e12), (AV.sl z14 f15 e16)] 0)), (3, (AV.int .i64 (p1.Accept.length : Int))), (4, (AV.int .i64 t39)), (95, (AV.bool b62))] [] ?_ ?_ _ ⟨_, _, rfl⟩
    ·exact ⟨rfl, rfl, rfl, congrArg AV.bool (Option.some.inj hb), trivial⟩
    exact trivial
   ·have h := hb
    refine AOps.know (d := 84) rfl hc61 ?_
    refine AOps.p rfl (rfl : _ = (AV.eptr [(AV.int .i64 p1.Stack), (AV.int .i64 p1.Start), (AV.sl z2 f3 e4), (AV.sl z6 f7 e8), (AV.sl z10 f11 e12), (AV.sl z14 f15 e16)] 0)) ?_
    refine AOps.p rfl (rfl : _ = (AV.eptr [(AV.int .i64 p1.Stack), (AV.int .i64 p1.Start), (AV.sl z2 f3 e4), (AV.sl z6 f7 e8), (AV.sl z10 f11 e12), (AV.sl z14 f15 e16)] 0)) ?_
    refine AOps.p rfl (rfl : _ = (AV.eptr [(AV.int .i64 p1.Stack), (AV.int .i64 p1.Start), (AV.sl z2 f3 e4), (AV.sl z6 f7 e8), (AV.sl z10 f11 e12), (AV.sl z14 f15 e16)] 5)) ?_
    refine AOps.ldE (v := (AV.sl z14 f15 e16)) rfl rfl rfl rfl rfl rfl ?_
    refine AOps.p rfl (rfl : _ = (AV.int .i64 t39)) ?_
    obtain ⟨x63, h64, h⟩ := obind h
    obtain ⟨v67, h65, h66⟩ := idx_sl h17 h64
    obtain ⟨z68, f69, e70, rfl, h71⟩ := h65
    refine AOps.pureR rfl rfl rfl h66 rfl (rfl : _ = (AV.eptr [(AV.sl z68 f69 e70)] 0)) ?_
    refine AOps.ldE (v := (AV.sl z68 f69 e70)) rfl rfl rfl rfl rfl rfl ?_
    refine AOps.p rfl (rfl : _ = (AV.int .i64 (p1.Accept.length : Int))) ?_
    obtain ⟨y72, h73, h⟩ := obind h
    refine AOps.callP (g := 36) (args := [(AV.sl z68 f69 e70), (AV.int .i64 2), (AV.int .i64 (p1.Accept.length : Int))]) (p := (rB) y72) rfl rfl rfl (spec_l02List_ok h71 h73 hWF) ?_
    intro _ o75 h74
    cases h74
    refine AOps.p rfl (rfl : _ = (AV.bool (!y72))) ?_
    refine AOps.p rfl (rfl : _ = (AV.bool (!y72))) ?_
    refine AOps.resR [(0, (AV.eptr [(AV.int .i64 p1.Stack), (AV.int .i64 p1.Start), (AV.sl z2 f3 e4), (AV.sl z6 f7 e8), (AV.sl z10 f11 e12), (AV.sl z14 f15 e16)] 0)), (3, (AV.int .i64 (p1.Accept.length : Int))), (4, (AV.int .i64 t39)), (95, (AV.bool b62))] [] ?_ ?_ _ ⟨_, _, rfl⟩
    ·exact ⟨rfl, rfl, rfl, congrArg AV.bool (Option.some.inj h), trivial⟩
    exact trivial
  rintro _ ⟨tm, os, rfl⟩
  refine AOps.nilR ?_
  rcases oite h with ⟨hc76, h⟩ | ⟨hc76, h⟩
  ·refine AW.condT (congrArg AV.bool hc76) ?_
   refine AW.sr ?_
   refine AOps.p rfl (rfl : _ = (AV.bool false)) ?_
   refine AOps.nilR ?_
   cases h
   have hr := hR1 _ rfl
   subst hr
   exact AW.ret ⟨rfl, _, _, rfl, rfl⟩
  refine AW.condF (congrArg AV.bool hc76) ?_
  refine AW.skip ?_
  refine AW.sr ?_
  refine AOps.p rfl (rfl : _ = (AV.int .i64 0)) ?_
  refine AOps.nilR ?_
  refine AW.meet (σ := Unit) (fun _ tm os => ⟨updL tm [(0, (AV.eptr [(AV.int .i64 p1.Stack), (AV.int .i64 p1.Start), (AV.sl z2 f3 e4), (AV.sl z6 f7 e8), (AV.sl z10 f11 e12), (AV.sl z14 f15 e16)] 0)), (3, (AV.int .i64 (p1.Accept.length : Int))), (4, (AV.int .i64 t39))], updL os [], { s with lo := s.n }⟩) (fun _ => spec_l02Ok_J2 t39 = some ee1) ?_ ?_
  ·rintro _ tm os h
   unfold spec_l02Ok_J2 at h
   refine AW.inBlock ?_
   refine AW.region ?_
   refine AOps.p rfl (rfl : _ = (AV.int .i64 t39)) ?_
   refine AOps.p rfl (rfl : _ = (AV.int .i64 (IntKind.wrap .i64 (t39 + 1)))) ?_
   refine AOps.assignR rfl rfl rfl (rfl : _ = (AV.int .i64 (IntKind.wrap .i64 (t39 + 1)))) rfl ?_
   refine AOps.nilR ?_
   cases h
   exact AW.res [(0, (AV.eptr [(AV.int .i64 p1.Stack), (AV.int .i64 p1.Start), (AV.sl z2 f3 e4), (AV.sl z6 f7 e8), (AV.sl z10 f11 e12), (AV.sl z14 f15 e16)] 0)), (3, (AV.int .i64 (p1.Accept.length : Int))), (4, (AV.int .i64 (IntKind.wrap .i64 (t39 + 1))))] [] ⟨rfl, rfl, rfl, trivial⟩ trivial (hL1 _ rfl () _ _ trivial)
  intro KJ77
  refine AW.block ?_
  refine AW.res [(0, (AV.eptr [(AV.int .i64 p1.Stack), (AV.int .i64 p1.Start), (AV.sl z2 f3 e4), (AV.sl z6 f7 e8), (AV.sl z10 f11 e12), (AV.sl z14 f15 e16)] 0)), (3, (AV.int .i64 (p1.Accept.length : Int))), (4, (AV.int .i64 t39)), (5, (AV.int .i64 0))] [] ⟨rfl, rfl, rfl, rfl, trivial⟩ trivial ?_
  refine AW.loopF (σ := Int) (τ := Unit) (fun t78 _ => True) (fun t78 _ tm os => ⟨updL tm [(0, (AV.eptr [(AV.int .i64 p1.Stack), (AV.int .i64 p1.Start), (AV.sl z2 f3 e4), (AV.sl z6 f7 e8), (AV.sl z10 f11 e12), (AV.sl z14 f15 e16)] 0)), (3, (AV.int .i64 (p1.Accept.length : Int))), (4, (AV.int .i64 t39)), (5, (AV.int .i64 t78))], updL os [], { s with lo := s.n }⟩) ?_ (x := (0)) (y := ()) h trivial
  clear h
  rintro t78 _ tm os - ee2 h hL2 hR2
  unfold spec_l02Ok_S2 at h
  refine AW.seq ?_
  refine AW.sr ?_
  refine AOps.p rfl (rfl : _ = (AV.int .i64 t78)) ?_
  refine AOps.p rfl (rfl : _ = (AV.bool (decide ((t78 : Int) < 2)))) ?_
  refine AOps.nilR ?_
  rcases oite h with ⟨hc79, h⟩ | ⟨hc79, h⟩
  ·refine AW.condT (congrArg AV.bool hc79) ?_
   refine AW.skip ?_
   refine AW.seq ?_
   refine AW.block ?_
   refine AW.sr ?_
   refine AOps.p rfl (rfl : _ = (AV.eptr [(AV.int .i64 p1.Stack), (AV.int .i64 p1.Start), (AV.sl z2 f3 e4), (AV.sl z6 f7 e8), (AV.sl z10 f11 e12), (AV.sl z14 f15 e16)] 0)) ?_
   refine AOps.p rfl (rfl : _ = (AV.eptr [(AV.int .i64 p1.Stack), (AV.int .i64 p1.Start), (AV.sl z2 f3 e4), (AV.sl z6 f7 e8), (AV.sl z10 f11 e12), (AV.sl z14 f15 e16)] 0)) ?_
   refine AOps.p rfl (rfl : _ = (AV.eptr [(AV.int .i64 p1.Stack), (AV.int .i64 p1.Start), (AV.sl z2 f3 e4), (AV.sl z6 f7 e8), (AV.sl z10 f11 e12), (AV.sl z14 f15 e16)] 3)) ?_
   refine AOps.ldE (v := (AV.sl z6 f7 e8)) rfl rfl rfl rfl rfl rfl ?_
   refine AOps.p rfl (rfl : _ = (AV.int .i64 t39)) ?_
   obtain ⟨x80, h81, h⟩ := obind h
   obtain ⟨v84, h82, h83⟩ := idx_sl h9 h81
   obtain ⟨z85, f86, e87, rfl, h88⟩ := h82
   refine AOps.pureR rfl rfl rfl h83 rfl (rfl : _ = (AV.eptr [(AV.sl z85 f86 e87)] 0)) ?_
   refine AOps.ldE (v := (AV.sl z85 f86 e87)) rfl rfl rfl rfl rfl rfl ?_
   refine AOps.p rfl (rfl : _ = (AV.int .i64 t78)) ?_
   obtain ⟨x89, h90, h⟩ := obind h
   obtain ⟨v93, h91, h92⟩ := idx_sl h88 h90
   obtain ⟨_, rfl, h94⟩ := h91
   obtain ⟨_, _, rfl, h95, h96⟩ := Cs_cons h94
   cases h95
   obtain ⟨_, _, rfl, h97, h98⟩ := Cs_cons h96
   cases h97
   cases Cs_nil h98
   refine AOps.pureR rfl rfl rfl h92 rfl (rfl : _ = (AV.eptr [(AV.int .i64 x89.To), (AV.int .i64 x89.Put)] 0)) ?_
   refine AOps.p rfl (rfl : _ = (AV.eptr [(AV.int .i64 x89.To), (AV.int .i64 x89.Put)] 0)) ?_
   refine AOps.ldE (v := (AV.int .i64 x89.To)) rfl rfl rfl rfl rfl rfl ?_
   refine AOps.p rfl (rfl : _ = (AV.int .i64 (p1.Accept.length : Int))) ?_
   refine AOps.p rfl (rfl : _ = (AV.int .i64 (IntKind.wrap .i64 ((p1.Accept.length : Int) - 1)))) ?_
   obtain ⟨y99, h100, h⟩ := obind h
   refine AOps.callDP (g := 35) (args := [(AV.int .i64 x89.To), (AV.int .i64 0), (AV.int .i64 (IntKind.wrap .i64 ((p1.Accept.length : Int) - 1)))]) (p := (rB) y99) rfl rfl rfl (spec_l00In_ok  h100 hWF.still) (fun v hv => Nice.pure (k := FINK) (p := (rB) y99) .B _ v hv) ?_
   intro _ o102 h101
   cases h101
   refine AOps.p rfl (rfl : _ = (AV.bool (!y99))) ?_
   refine AOps.p rfl (rfl : _ = (AV.bool (!y99))) ?_
   obtain ⟨b104, hb, h⟩ := obind h
   refine AOps.split 19 (fun f' => ∃ tm' os', f' = ⟨updL tm' [(0, (AV.eptr [(AV.int .i64 p1.Stack), (AV.int .i64 p1.Start), (AV.sl z2 f3 e4), (AV.sl z6 f7 e8), (AV.sl z10 f11 e12), (AV.sl z14 f15 e16)] 0)), (3, (AV.int .i64 (p1.Accept.length : Int))), (4, (AV.int .i64 t39)), (5, (AV.int .i64 t78)), (134, (AV.bool b104))], updL os' [], { s with lo := s.n }⟩) ?_ ?_
   ·rcases oite hb with ⟨hc103, hb⟩ | ⟨hc103, hb⟩
    ·refine AOps.know (d := 115) rfl hc103 ?_
     refine AOps.skipR rfl rfl ?_
     refine AOps.skipR rfl rfl ?_
     refine AOps.skipR rfl rfl ?_
     refine AOps.skipR rfl rfl ?_
     refine AOps.skipR rfl rfl ?_
     refine AOps.skipR rfl rfl ?_
     refine AOps.skipR rfl rfl ?_
     refine AOps.skipR rfl rfl ?_
     refine AOps.skipR rfl rfl ?_
     refine AOps.skipR rfl rfl ?_
     refine AOps.skipR rfl rfl ?_
     refine AOps.skipR rfl rfl ?_
     refine AOps.skipR rfl rfl ?_
     refine AOps.skipR rfl rfl ?_
     refine AOps.skipR rfl rfl ?_
     refine AOps.skipR rfl rfl ?_
     refine AOps.skipR rfl rfl ?_
     refine AOps.skipR rfl rfl ?_
     refine AOps.p rfl (rfl : _ = (AV.bool true)) ?_
     refine AOps.resR [(0, (AV.eptr [(AV.int .i64 p1.Stack), (AV.int .i64 p1.Start), (AV.sl z2 f3 e4), (AV.sl z6 f7 e8), (AV.sl z10 f11 e12), (AV.sl z14 f15 e16)] 0)), (3, (AV.int .i64 (p1.Accept.length : Int))), (4, (AV.int .i64 t39)), (5, (AV.int .i64 t78)), (134, (AV.bool b104))] [] ?_ ?_ _ ⟨_, _, rfl⟩
     ·exact ⟨rfl, rfl, rfl, rfl, congrArg AV.bool (Option.some.inj hb), trivial⟩
     exact trivial
    ·have h := hb
     refine AOps.know (d := 115) rfl hc103 ?_
     refine AOps.p rfl (rfl : _ = (AV.eptr [(AV.int .i64 p1.Stack), (AV.int .i64 p1.Start), (AV.sl z2 f3 e4), (AV.sl z6 f7 e8), (AV.sl z10 f11 e12), (AV.sl z14 f15 e16)] 0)) ?_
     refine AOps.p rfl (rfl : _ = (AV.eptr [(AV.int .i64 p1.Stack), (AV.int .i64 p1.Start), (AV.sl z2 f3 e4), (AV.sl z6 f7 e8), (AV.sl z10 f11 e12), (AV.sl z14 f15 e16)] 0)) ?_
     refine AOps.p rfl (rfl : _ = (AV.eptr [(AV.int .i64 p1.Stack), (AV.int .i64 p1.Start), (AV.sl z2 f3 e4), (AV.sl z6 f7 e8), (AV.sl z10 f11 e12), (AV.sl z14 f15 e16)] 3)) ?_
     refine AOps.ldE (v := (AV.sl z6 f7 e8)) rfl rfl rfl rfl rfl rfl ?_
     refine AOps.p rfl (rfl : _ = (AV.int .i64 t39)) ?_
     obtain ⟨x105, h106, h⟩ := obind h
     obtain ⟨v109, h107, h108⟩ := idx_sl h9 h106
     obtain ⟨z110, f111, e112, rfl, h113⟩ := h107
     refine AOps.pureR rfl rfl rfl h108 rfl (rfl : _ = (AV.eptr [(AV.sl z110 f111 e112)] 0)) ?_
     refine AOps.ldE (v := (AV.sl z110 f111 e112)) rfl rfl rfl rfl rfl rfl ?_
     refine AOps.p rfl (rfl : _ = (AV.int .i64 t78)) ?_
     obtain ⟨x114, h115, h⟩ := obind h
     obtain ⟨v118, h116, h117⟩ := idx_sl h113 h115
     obtain ⟨_, rfl, h119⟩ := h116
     obtain ⟨_, _, rfl, h120, h121⟩ := Cs_cons h119
     cases h120
     obtain ⟨_, _, rfl, h122, h123⟩ := Cs_cons h121
     cases h122
     cases Cs_nil h123
     refine AOps.pureR rfl rfl rfl h117 rfl (rfl : _ = (AV.eptr [(AV.int .i64 x114.To), (AV.int .i64 x114.Put)] 0)) ?_
     refine AOps.p rfl (rfl : _ = (AV.eptr [(AV.int .i64 x114.To), (AV.int .i64 x114.Put)] 1)) ?_
     refine AOps.ldE (v := (AV.int .i64 x114.Put)) rfl rfl rfl rfl rfl rfl ?_
     refine AOps.p rfl (rfl : _ = (AV.eptr [(AV.int .i64 p1.Stack), (AV.int .i64 p1.Start), (AV.sl z2 f3 e4), (AV.sl z6 f7 e8), (AV.sl z10 f11 e12), (AV.sl z14 f15 e16)] 0)) ?_
     refine AOps.p rfl (rfl : _ = (AV.eptr [(AV.int .i64 p1.Stack), (AV.int .i64 p1.Start), (AV.sl z2 f3 e4), (AV.sl z6 f7 e8), (AV.sl z10 f11 e12), (AV.sl z14 f15 e16)] 0)) ?_
     refine AOps.p rfl (rfl : _ = (AV.eptr [(AV.int .i64 p1.Stack), (AV.int .i64 p1.Start), (AV.sl z2 f3 e4), (AV.sl z6 f7 e8), (AV.sl z10 f11 e12), (AV.sl z14 f15 e16)] 0)) ?_
     refine AOps.ldE (v := (AV.int .i64 p1.Stack)) rfl rfl rfl rfl rfl rfl ?_
     refine AOps.p rfl (rfl : _ = (AV.int .i64 (IntKind.wrap .i64 (p1.Stack - 1)))) ?_
     obtain ⟨y124, h125, h⟩ := obind h
     refine AOps.callDP (g := 35) (args := [(AV.int .i64 x114.Put), (AV.int .i64 0), (AV.int .i64 (IntKind.wrap .i64 (p1.Stack - 1)))]) (p := (rB) y124) rfl rfl rfl (spec_l00In_ok  h125 hWF.still) (fun v hv => Nice.pure (k := FINK) (p := (rB) y124) .B _ v hv) ?_
     intro _ o127 h126
     cases h126
     refine AOps.p rfl (rfl : _ = (AV.bool (!y124))) ?_
     refine AOps.p rfl (rfl : _ = (AV.bool (!y124))) ?_
     refine AOps.resR [(0, (AV.eptr [(AV.int .i64 p1.Stack), (AV.int .i64 p1.Start), (AV.sl z2 f3 e4), (AV.sl z6 f7 e8), (AV.sl z10 f11 e12), (AV.sl z14 f15 e16)] 0)), (3, (AV.int .i64 (p1.Accept.length : Int))), (4, (AV.int .i64 t39)), (5, (AV.int .i64 t78)), (134, (AV.bool b104))] [] ?_ ?_ _ ⟨_, _, rfl⟩
     ·exact ⟨rfl, rfl, rfl, rfl, congrArg AV.bool (Option.some.inj h), trivial⟩
     exact trivial
   rintro _ ⟨tm, os, rfl⟩
   refine AOps.p rfl (rfl : _ = (AV.bool b104)) ?_
   obtain ⟨b129, hb, h⟩ := obind h
   refine AOps.split 19 (fun f' => ∃ tm' os', f' = ⟨updL tm' [(0, (AV.eptr [(AV.int .i64 p1.Stack), (AV.int .i64 p1.Start), (AV.sl z2 f3 e4), (AV.sl z6 f7 e8), (AV.sl z10 f11 e12), (AV.sl z14 f15 e16)] 0)), (3, (AV.int .i64 (p1.Accept.length : Int))), (4, (AV.int .i64 t39)), (5, (AV.int .i64 t78)), (154, (AV.bool b129))], updL os' [], { s with lo := s.n }⟩) ?_ ?_
   ·rcases oite hb with ⟨hc128, hb⟩ | ⟨hc128, hb⟩
    ·refine AOps.know (d := 135) rfl hc128 ?_
     refine AOps.skipR rfl rfl ?_
     refine AOps.skipR rfl rfl ?_
     refine AOps.skipR rfl rfl ?_
     refine AOps.skipR rfl rfl ?_
     refine AOps.skipR rfl rfl ?_
     refine AOps.skipR rfl rfl ?_
     refine AOps.skipR rfl rfl ?_
     refine AOps.skipR rfl rfl ?_
     refine AOps.skipR rfl rfl ?_
     refine AOps.skipR rfl rfl ?_
     refine AOps.skipR rfl rfl ?_
     refine AOps.skipR rfl rfl ?_
     refine AOps.skipR rfl rfl ?_
     refine AOps.skipR rfl rfl ?_
     refine AOps.skipR rfl rfl ?_
     refine AOps.skipR rfl rfl ?_
     refine AOps.skipR rfl rfl ?_
     refine AOps.skipR rfl rfl ?_
     refine AOps.p rfl (rfl : _ = (AV.bool true)) ?_
     refine AOps.resR [(0, (AV.eptr [(AV.int .i64 p1.Stack), (AV.int .i64 p1.Start), (AV.sl z2 f3 e4), (AV.sl z6 f7 e8), (AV.sl z10 f11 e12), (AV.sl z14 f15 e16)] 0)), (3, (AV.int .i64 (p1.Accept.length : Int))), (4, (AV.int .i64 t39)), (5, (AV.int .i64 t78)), (154, (AV.bool b129))] [] ?_ ?_ _ ⟨_, _, rfl⟩
     ·exact ⟨rfl, rfl, rfl, rfl, congrArg AV.bool (Option.some.inj hb), trivial⟩
     exact trivial
    ·have h := hb
     refine AOps.know (d := 135) rfl hc128 ?_
     refine AOps.p rfl (rfl : _ = (AV.eptr [(AV.int .i64 p1.Stack), (AV.int .i64 p1.Start), (AV.sl z2 f3 e4), (AV.sl z6 f7 e8), (AV.sl z10 f11 e12), (AV.sl z14 f15 e16)] 0)) ?_
     refine AOps.p rfl (rfl : _ = (AV.eptr [(AV.int .i64 p1.Stack), (AV.int .i64 p1.Start), (AV.sl z2 f3 e4), (AV.sl z6 f7 e8), (AV.sl z10 f11 e12), (AV.sl z14 f15 e16)] 0)) ?_
     refine AOps.p rfl (rfl : _ = (AV.eptr [(AV.int .i64 p1.Stack), (AV.int .i64 p1.Start), (AV.sl z2 f3 e4), (AV.sl z6 f7 e8), (AV.sl z10 f11 e12), (AV.sl z14 f15 e16)] 4)) ?_
     refine AOps.ldE (v := (AV.sl z10 f11 e12)) rfl rfl rfl rfl rfl rfl ?_
     refine AOps.p rfl (rfl : _ = (AV.int .i64 t39)) ?_
     obtain ⟨x130, h131, h⟩ := obind h
     obtain ⟨v134, h132, h133⟩ := idx_sl h13 h131
     obtain ⟨z135, f136, e137, rfl, h138⟩ := h132
     refine AOps.pureR rfl rfl rfl h133 rfl (rfl : _ = (AV.eptr [(AV.sl z135 f136 e137)] 0)) ?_
     refine AOps.ldE (v := (AV.sl z135 f136 e137)) rfl rfl rfl rfl rfl rfl ?_
     refine AOps.p rfl (rfl : _ = (AV.int .i64 t78)) ?_
     obtain ⟨x139, h140, h⟩ := obind h
     obtain ⟨v143, h141, h142⟩ := idx_sl h138 h140
     obtain ⟨z144, f145, e146, rfl, h147⟩ := h141
     refine AOps.pureR rfl rfl rfl h142 rfl (rfl : _ = (AV.eptr [(AV.sl z144 f145 e146)] 0)) ?_
     refine AOps.ldE (v := (AV.sl z144 f145 e146)) rfl rfl rfl rfl rfl rfl ?_
     refine AOps.p rfl (rfl : _ = (AV.eptr [(AV.int .i64 p1.Stack), (AV.int .i64 p1.Start), (AV.sl z2 f3 e4), (AV.sl z6 f7 e8), (AV.sl z10 f11 e12), (AV.sl z14 f15 e16)] 0)) ?_
     refine AOps.p rfl (rfl : _ = (AV.eptr [(AV.int .i64 p1.Stack), (AV.int .i64 p1.Start), (AV.sl z2 f3 e4), (AV.sl z6 f7 e8), (AV.sl z10 f11 e12), (AV.sl z14 f15 e16)] 0)) ?_
     refine AOps.p rfl (rfl : _ = (AV.eptr [(AV.int .i64 p1.Stack), (AV.int .i64 p1.Start), (AV.sl z2 f3 e4), (AV.sl z6 f7 e8), (AV.sl z10 f11 e12), (AV.sl z14 f15 e16)] 0)) ?_
     refine AOps.ldE (v := (AV.int .i64 p1.Stack)) rfl rfl rfl rfl rfl rfl ?_
     refine AOps.p rfl (rfl : _ = (AV.int .i64 (IntKind.wrap .i64 (p1.Stack + 1)))) ?_
     refine AOps.p rfl (rfl : _ = (AV.int .i64 (p1.Accept.length : Int))) ?_
     obtain ⟨y148, h149, h⟩ := obind h
     refine AOps.callDP (g := 36) (args := [(AV.sl z144 f145 e146), (AV.int .i64 (IntKind.wrap .i64 (p1.Stack + 1))), (AV.int .i64 (p1.Accept.length : Int))]) (p := (rB) y148) rfl rfl rfl (spec_l02List_ok h147 h149 hWF.still) (fun v hv => Nice.pure (k := FINK) (p := (rB) y148) .B _ v hv) ?_
     intro _ o151 h150
     cases h150
     refine AOps.p rfl (rfl : _ = (AV.bool (!y148))) ?_
     refine AOps.p rfl (rfl : _ = (AV.bool (!y148))) ?_
     refine AOps.resR [(0, (AV.eptr [(AV.int .i64 p1.Stack), (AV.int .i64 p1.Start), (AV.sl z2 f3 e4), (AV.sl z6 f7 e8), (AV.sl z10 f11 e12), (AV.sl z14 f15 e16)] 0)), (3, (AV.int .i64 (p1.Accept.length : Int))), (4, (AV.int .i64 t39)), (5, (AV.int .i64 t78)), (154, (AV.bool b129))] [] ?_ ?_ _ ⟨_, _, rfl⟩
     ·exact ⟨rfl, rfl, rfl, rfl, congrArg AV.bool (Option.some.inj h), trivial⟩
     exact trivial
   rintro _ ⟨tm, os, rfl⟩
   refine AOps.nilR ?_
   rcases oite h with ⟨hc152, h⟩ | ⟨hc152, h⟩
   ·refine AW.condT (congrArg AV.bool hc152) ?_
    refine AW.sr ?_
    refine AOps.p rfl (rfl : _ = (AV.bool false)) ?_
    refine AOps.nilR ?_
    cases h
    have hr := hR2 _ rfl
    cases hr
    have hr := hR1 _ rfl
    subst hr
    exact AW.ret ⟨rfl, _, _, rfl, rfl⟩
   refine AW.condF (congrArg AV.bool hc152) ?_
   refine AW.skip ?_
   refine AW.inBlock ?_
   refine AW.region ?_
   refine AOps.p rfl (rfl : _ = (AV.int .i64 t78)) ?_
   refine AOps.p rfl (rfl : _ = (AV.int .i64 (IntKind.wrap .i64 (t78 + 1)))) ?_
   refine AOps.assignR rfl rfl rfl (rfl : _ = (AV.int .i64 (IntKind.wrap .i64 (t78 + 1)))) rfl ?_
   refine AOps.nilR ?_
   cases h
   exact AW.res [(0, (AV.eptr [(AV.int .i64 p1.Stack), (AV.int .i64 p1.Start), (AV.sl z2 f3 e4), (AV.sl z6 f7 e8), (AV.sl z10 f11 e12), (AV.sl z14 f15 e16)] 0)), (3, (AV.int .i64 (p1.Accept.length : Int))), (4, (AV.int .i64 t39)), (5, (AV.int .i64 (IntKind.wrap .i64 (t78 + 1))))] [] ⟨rfl, rfl, rfl, rfl, trivial⟩ trivial (hL2 _ rfl () _ _ trivial)
  refine AW.condF (congrArg AV.bool hc79) ?_
  refine AW.exit rfl ?_
  obtain ⟨r153, hm, hx⟩ := omap h
  clear h
  subst hx
  have hx := hR2 _ rfl
  rw [hx] at hm
  have h := hm
  exact AW.res [(0, (AV.eptr [(AV.int .i64 p1.Stack), (AV.int .i64 p1.Start), (AV.sl z2 f3 e4), (AV.sl z6 f7 e8), (AV.sl z10 f11 e12), (AV.sl z14 f15 e16)] 0)), (3, (AV.int .i64 (p1.Accept.length : Int))), (4, (AV.int .i64 t39))] [] ⟨rfl, rfl, rfl, trivial⟩ trivial (KJ77 () _ _ h)
 refine AW.condF (congrArg AV.bool hc40) ?_
 refine AW.exit rfl ?_
 obtain ⟨r154, hm, hx⟩ := omap h
 clear h
 subst hx
 have hx := hR1 _ rfl
 rw [hx] at hm
 have h := hm
 exact AW.res [] [] trivial trivial (KJ38 () _ _ h)
theorem spec_l00Own_okO {list1 : List Int} {z2 : Nat} {f3 : Bool} {e4 : List AV} {s : St} (h5 : LR (rI .i64) 1 list1 z2 e4) {r : (List Int)} (h : spec_l00Own list1 = some r) (hs : WF s) : ACall Cf 55 [(AV.sl z2 f3 e4)] s fun v o s' => ((rL (rI .i64) 1) r v ∧ s' = s) ∧ o = true := by
 refine ACall.pureO rfl rfl rfl (.L fun _ => .I) ?_
 have hWF := hs.lo'
 unfold spec_l00Own at h
 refine AW.sr ?_
 refine AOps.p rfl (rfl : _ = (AV.sl 0 true [])) ?_
 refine AOps.nilR ?_
 refine AW.sr ?_
 refine AOps.makeR rfl rfl rfl rfl rfl rfl (rfl : _ = (AV.sl 1 true [])) ?_
 refine AOps.p rfl (rfl : _ = (AV.sl z2 f3 e4)) ?_
 obtain ⟨l6, h7, h⟩ := obind h
 obtain ⟨h8, h9⟩ := app_LR (show LR (rI .i64) 1 (([] : List Int) : List Int) 1 [] from ⟨.inl rfl, .nil⟩) h5 h7
 refine AOps.appL (z := 1) (f := true) (e := []) (z' := z2) (f' := f3) (e' := e4) rfl rfl rfl rfl rfl rfl rfl (appSrc_sl (LR.z h5) rfl) (LR.z (show LR (rI .i64) 1 (([] : List Int) : List Int) 1 [] from ⟨.inl rfl, .nil⟩)) ⟨by decide, by decide, rfl, rfl⟩ rfl rfl h9 (Or.inl rfl) ?_
 refine AOps.assignR rfl rfl rfl (rfl : _ = (AV.sl 1 false ([] ++ e4))) rfl ?_
 refine AOps.nilR ?_
 cases h
 exact AW.ret ⟨rfl, _, _, rfl, ⟨_, _, _, rfl, h8⟩, orT (Or.inr rfl)⟩
theorem spec_l00Own_ok {list1 : List Int} {z2 : Nat} {f3 : Bool} {e4 : List AV} {s : St} (h5 : LR (rI .i64) 1 list1 z2 e4) {r : (List Int)} (h : spec_l00Own list1 = some r) (hs : WF s) : ACall Cf 55 [(AV.sl z2 f3 e4)] s fun v _ s' => (rL (rI .i64) 1) r v ∧ s' = s := (spec_l00Own_okO h5 h hs).mono fun _ _ _ h => h.1
theorem spec_l00Has_ok {list1 : List Int} {n6 : Int} {z2 : Nat} {f3 : Bool} {e4 : List AV} {s : St} (h5 : LR (rI .i64) 1 list1 z2 e4) {r : Bool} (h : spec_l00Has list1 n6 = some r) (hs : WF s) : ACall Cf 56 [(AV.sl z2 f3 e4), (AV.int .i64 n6)] s fun v _ s' => (rB) r v ∧ s' = s := by
 refine ACall.pure rfl rfl rfl .B ?_
 have hWF := hs.lo'
 unfold spec_l00Has at h
 refine AW.sr ?_
 refine AOps.p rfl (rfl : _ = (AV.bool false)) ?_
 refine AOps.nilR ?_
 refine AW.seq ?_
 refine AW.sr ?_
 refine AOps.p rfl (rfl : _ = (AV.int .i64 0)) ?_
 refine AOps.nilR ?_
 refine AW.meet (σ := Unit) (fun _ tm os => ⟨updL tm [], updL os [], { s with lo := s.n }⟩) (fun _ => spec_l00Has_J1 = some r) ?_ ?_
 ·rintro _ tm os h
  unfold spec_l00Has_J1 at h
  refine AW.sr ?_
  refine AOps.p rfl (rfl : _ = (AV.bool false)) ?_
  refine AOps.nilR ?_
  cases h
  exact AW.ret ⟨rfl, _, _, rfl, rfl⟩
 intro KJ7
 refine AW.block ?_
 refine AW.res [(0, (AV.sl z2 f3 e4)), (1, (AV.int .i64 n6)), (5, (AV.int .i64 0))] [] ⟨rfl, rfl, rfl, trivial⟩ trivial ?_
 refine AW.loopF (σ := Int) (τ := Unit) (fun i8 _ => True) (fun i8 _ tm os => ⟨updL tm [(0, (AV.sl z2 f3 e4)), (1, (AV.int .i64 n6)), (5, (AV.int .i64 i8))], updL os [], { s with lo := s.n }⟩) ?_ (x := (0)) (y := ()) h trivial
 clear h
 rintro i8 _ tm os - ee1 h hL1 hR1
 unfold spec_l00Has_S1 at h
 refine AW.seq ?_
 refine AW.sr ?_
 refine AOps.p rfl (rfl : _ = (AV.int .i64 i8)) ?_
 refine AOps.p rfl (rfl : _ = (AV.sl z2 f3 e4)) ?_
 refine AOps.p rfl (len_eq h5) ?_
 refine AOps.p rfl (rfl : _ = (AV.bool (decide ((i8 : Int) < (list1.length : Int))))) ?_
 refine AOps.nilR ?_
 rcases oite h with ⟨hc9, h⟩ | ⟨hc9, h⟩
 ·refine AW.condT (congrArg AV.bool hc9) ?_
  refine AW.skip ?_
  refine AW.seq ?_
  refine AW.block ?_
  refine AW.sr ?_
  refine AOps.p rfl (rfl : _ = (AV.sl z2 f3 e4)) ?_
  refine AOps.p rfl (rfl : _ = (AV.int .i64 i8)) ?_
  obtain ⟨x10, h11, h⟩ := obind h
  obtain ⟨v14, h12, h13⟩ := idx_sl h5 h11
  cases h12
  refine AOps.pureR rfl rfl rfl h13 rfl (rfl : _ = (AV.eptr [(AV.int .i64 x10)] 0)) ?_
  refine AOps.ldE (v := (AV.int .i64 x10)) rfl rfl rfl rfl rfl rfl ?_
  refine AOps.p rfl (rfl : _ = (AV.int .i64 n6)) ?_
  refine AOps.p rfl (rfl : _ = (AV.bool (x10 == n6))) ?_
  refine AOps.nilR ?_
  rcases oite h with ⟨hc15, h⟩ | ⟨hc15, h⟩
  ·refine AW.condT (congrArg AV.bool hc15) ?_
   refine AW.sr ?_
   refine AOps.p rfl (rfl : _ = (AV.bool true)) ?_
   refine AOps.nilR ?_
   cases h
   have hr := hR1 _ rfl
   subst hr
   exact AW.ret ⟨rfl, _, _, rfl, rfl⟩
  refine AW.condF (congrArg AV.bool hc15) ?_
  refine AW.skip ?_
  refine AW.inBlock ?_
  refine AW.region ?_
  refine AOps.p rfl (rfl : _ = (AV.int .i64 i8)) ?_
  refine AOps.p rfl (rfl : _ = (AV.int .i64 (IntKind.wrap .i64 (i8 + 1)))) ?_
  refine AOps.assignR rfl rfl rfl (rfl : _ = (AV.int .i64 (IntKind.wrap .i64 (i8 + 1)))) rfl ?_
  refine AOps.nilR ?_
  cases h
  exact AW.res [(0, (AV.sl z2 f3 e4)), (1, (AV.int .i64 n6)), (5, (AV.int .i64 (IntKind.wrap .i64 (i8 + 1))))] [] ⟨rfl, rfl, rfl, trivial⟩ trivial (hL1 _ rfl () _ _ trivial)
 refine AW.condF (congrArg AV.bool hc9) ?_
 refine AW.exit rfl ?_
 obtain ⟨r16, hm, hx⟩ := omap h
 clear h
 subst hx
 have hx := hR1 _ rfl
 rw [hx] at hm
 have h := hm
 exact AW.res [] [] trivial trivial (KJ7 () _ _ h)
theorem spec_l00Put_ok {list1 : List Int} {n6 : Int} {z2 : Nat} {f3 : Bool} {e4 : List AV} {s : St} (h5 : LR (rI .i64) 1 list1 z2 e4) {r : (List Int)} (h : spec_l00Put list1 n6 = some r) (hs : WF s) : ACall Cf 57 [(AV.sl z2 f3 e4), (AV.int .i64 n6)] s fun v _ s' => (rL (rI .i64) 1) r v ∧ s' = s := by
 refine ACall.pure rfl rfl rfl (.L fun _ => .I) ?_
 have hWF := hs.lo'
 unfold spec_l00Put at h
 refine AW.sr ?_
 refine AOps.p rfl (rfl : _ = (AV.sl 0 true [])) ?_
 refine AOps.nilR ?_
 refine AW.sr ?_
 refine AOps.makeR rfl rfl rfl rfl rfl rfl (rfl : _ = (AV.sl 1 true [])) ?_
 refine AOps.assignR rfl rfl rfl (rfl : _ = (AV.sl 1 true [])) rfl ?_
 refine AOps.nilR ?_
 refine AW.sr ?_
 refine AOps.p rfl (rfl : _ = (AV.bool false)) ?_
 refine AOps.nilR ?_
 refine AW.seq ?_
 refine AW.sr ?_
 refine AOps.p rfl (rfl : _ = (AV.int .i64 0)) ?_
 refine AOps.nilR ?_
 refine AW.meet (σ := (List Int) × Bool × Nat × Bool × (List AV) × Bool) (fun (out7, done14, z8, f9, e10, o12) tm os => ⟨updL tm [(1, (AV.int .i64 n6)), (5, (AV.sl z8 f9 e10)), (6, (AV.bool done14))], updL os [(5, o12)], { s with lo := s.n }⟩) (fun (out7, done14, z8, f9, e10, o12) => (LR (rI .i64) 1 out7 z8 e10) ∧ (f9 = true ∨ o12 = true) ∧ spec_l00Put_J1 n6 out7 done14 = some r) ?_ ?_
 ·rintro ⟨out7, done14, z8, f9, e10, o12⟩ tm os ⟨h11, h13, h⟩
  unfold spec_l00Put_J1 at h
  refine AW.seq ?_
  refine AW.sr ?_
  refine AOps.p rfl (rfl : _ = (AV.bool done14)) ?_
  refine AOps.p rfl (rfl : _ = (AV.bool (!done14))) ?_
  refine AOps.nilR ?_
  refine AW.meet (σ := (List Int) × Nat × Bool × (List AV) × Bool) (fun (out16, z17, f18, e19, o21) tm os => ⟨updL tm [(5, (AV.sl z17 f18 e19))], updL os [(5, o21)], { s with lo := s.n }⟩) (fun (out16, z17, f18, e19, o21) => (LR (rI .i64) 1 out16 z17 e19) ∧ (f18 = true ∨ o21 = true) ∧ spec_l00Put_J2 out16 = some r) ?_ ?_
  ·rintro ⟨out16, z17, f18, e19, o21⟩ tm os ⟨h20, h22, h⟩
   unfold spec_l00Put_J2 at h
   refine AW.sr ?_
   refine AOps.p rfl (rfl : _ = (AV.sl z17 f18 e19)) ?_
   refine AOps.assignR rfl rfl rfl (rfl : _ = (AV.sl z17 f18 e19)) rfl ?_
   refine AOps.nilR ?_
   cases h
   exact AW.ret ⟨rfl, _, _, rfl, ⟨_, _, _, rfl, h20⟩⟩
  intro KJ23
  rcases oite h with ⟨hc24, h⟩ | ⟨hc24, h⟩
  ·refine AW.condT (congrArg AV.bool hc24) ?_
   refine AW.region ?_
   refine AOps.moveR rfl rfl rfl rfl (rfl : _ = (AV.sl z8 f9 e10)) rfl ?_
   refine AOps.p rfl (rfl : _ = (AV.int .i64 n6)) ?_
   refine AOps.makeR rfl rfl rfl rfl rfl rfl (rfl : _ = (AV.sl 1 true [(AV.int .i64 n6)])) ?_
   obtain ⟨l25, h26, h⟩ := obind h
   obtain ⟨h27, h28⟩ := app_LR h11 (LR.lit (r := rI .i64) (sz := 1) (.cons rfl .nil)) h26
   refine AOps.appL (z := z8) (f := f9) (e := e10) (z' := 1) (f' := true) (e' := [(AV.int .i64 n6)]) rfl rfl rfl rfl rfl rfl rfl (appSrc_sl (LR.z (LR.lit (r := rI .i64) (sz := 1) (.cons rfl .nil))) rfl) (LR.z h11) ⟨by decide, by decide, rfl, rfl⟩ rfl rfl h28 (own_tmp h13 rfl rfl) ?_
   refine AOps.assignR rfl rfl rfl (rfl : _ = (AV.sl 1 false (e10 ++ [(AV.int .i64 n6)]))) rfl ?_
   refine AOps.nilR ?_
   exact AW.res [(5, (AV.sl 1 false (e10 ++ [(AV.int .i64 n6)])))] [(5, true)] ⟨rfl, trivial⟩ ⟨rfl, trivial⟩ (KJ23 (l25, 1, false, (e10 ++ [(AV.int .i64 n6)]), true) _ _ ⟨h27, (Or.inr rfl), h⟩)
  refine AW.condF (congrArg AV.bool hc24) ?_
  refine AW.skip ?_
  exact AW.res [(5, (AV.sl z8 f9 e10))] [(5, o12)] ⟨rfl, trivial⟩ ⟨rfl, trivial⟩ (KJ23 (out7, z8, f9, e10, o12) _ _ ⟨h11, h13, h⟩)
 intro KJ15
 refine AW.block ?_
 refine AW.res [(0, (AV.sl z2 f3 e4)), (1, (AV.int .i64 n6)), (5, (AV.sl 1 true [])), (6, (AV.bool false)), (7, (AV.int .i64 0))] [(5, false)] ⟨rfl, rfl, rfl, rfl, rfl, trivial⟩ ⟨rfl, trivial⟩ ?_
 refine AW.loopF (σ := (List Int) × Bool × Int) (τ := Nat × Bool × (List AV) × Bool) (fun (out29, done36, i37) (z30, f31, e32, o34) => (LR (rI .i64) 1 out29 z30 e32) ∧ (f31 = true ∨ o34 = true)) (fun (out29, done36, i37) (z30, f31, e32, o34) tm os => ⟨updL tm [(0, (AV.sl z2 f3 e4)), (1, (AV.int .i64 n6)), (5, (AV.sl z30 f31 e32)), (6, (AV.bool done36)), (7, (AV.int .i64 i37))], updL os [(5, o34)], { s with lo := s.n }⟩) ?_ (x := (([] : List Int), false, 0)) (y := (1, true, [], false)) h ⟨⟨.inl rfl, .nil⟩, (Or.inl rfl)⟩
 clear h
 rintro ⟨out29, done36, i37⟩ ⟨z30, f31, e32, o34⟩ tm os ⟨h33, h35⟩ ee1 h hL1 hR1
 unfold spec_l00Put_S1 at h
 dsimp only at h
 refine AW.seq ?_
 refine AW.sr ?_
 refine AOps.p rfl (rfl : _ = (AV.int .i64 i37)) ?_
 refine AOps.p rfl (rfl : _ = (AV.sl z2 f3 e4)) ?_
 refine AOps.p rfl (len_eq h5) ?_
 refine AOps.p rfl (rfl : _ = (AV.bool (decide ((i37 : Int) < (list1.length : Int))))) ?_
 refine AOps.nilR ?_
 rcases oite h with ⟨hc38, h⟩ | ⟨hc38, h⟩
 ·refine AW.condT (congrArg AV.bool hc38) ?_
  refine AW.skip ?_
  refine AW.seq ?_
  refine AW.block ?_
  refine AW.seq ?_
  refine AW.sr ?_
  refine AOps.p rfl (rfl : _ = (AV.bool done36)) ?_
  refine AOps.p rfl (rfl : _ = (AV.bool (!done36))) ?_
  refine AOps.p rfl (rfl : _ = (AV.bool (!done36))) ?_
  obtain ⟨b40, hb, h⟩ := obind h
  refine AOps.split 7 (fun f' => ∃ tm' os', f' = ⟨updL tm' [(0, (AV.sl z2 f3 e4)), (1, (AV.int .i64 n6)), (5, (AV.sl z30 f31 e32)), (6, (AV.bool done36)), (7, (AV.int .i64 i37)), (24, (AV.bool b40))], updL os' [(5, o34)], { s with lo := s.n }⟩) ?_ ?_
  ·rcases oite hb with ⟨hc39, hb⟩ | ⟨hc39, hb⟩
   ·have h := hb
    refine AOps.know (d := 17) rfl hc39 ?_
    refine AOps.p rfl (rfl : _ = (AV.sl z2 f3 e4)) ?_
    refine AOps.p rfl (rfl : _ = (AV.int .i64 i37)) ?_
    obtain ⟨x41, h42, h⟩ := obind h
    obtain ⟨v45, h43, h44⟩ := idx_sl h5 h42
    cases h43
    refine AOps.pureR rfl rfl rfl h44 rfl (rfl : _ = (AV.eptr [(AV.int .i64 x41)] 0)) ?_
    refine AOps.ldE (v := (AV.int .i64 x41)) rfl rfl rfl rfl rfl rfl ?_
    refine AOps.p rfl (rfl : _ = (AV.int .i64 n6)) ?_
    refine AOps.p rfl (rfl : _ = (AV.bool (decide ((x41 : Int) ≥ n6)))) ?_
    refine AOps.p rfl (rfl : _ = (AV.bool (decide ((x41 : Int) ≥ n6)))) ?_
    refine AOps.resR [(0, (AV.sl z2 f3 e4)), (1, (AV.int .i64 n6)), (5, (AV.sl z30 f31 e32)), (6, (AV.bool done36)), (7, (AV.int .i64 i37)), (24, (AV.bool b40))] [(5, o34)] ?_ ?_ _ ⟨_, _, rfl⟩
    ·exact ⟨rfl, rfl, rfl, rfl, rfl, congrArg AV.bool (Option.some.inj h), trivial⟩
    exact ⟨rfl, trivial⟩
   ·refine AOps.know (d := 17) rfl hc39 ?_
    refine AOps.skipR rfl rfl ?_
    refine AOps.skipR rfl rfl ?_
    refine AOps.skipR rfl rfl ?_
    refine AOps.skipR rfl rfl ?_
    refine AOps.skipR rfl rfl ?_
    refine AOps.skipR rfl rfl ?_
    refine AOps.p rfl (rfl : _ = (AV.bool false)) ?_
    refine AOps.resR [(0, (AV.sl z2 f3 e4)), (1, (AV.int .i64 n6)), (5, (AV.sl z30 f31 e32)), (6, (AV.bool done36)), (7, (AV.int .i64 i37)), (24, (AV.bool b40))] [(5, o34)] ?_ ?_ _ ⟨_, _, rfl⟩
    ·exact ⟨rfl, rfl, rfl, rfl, rfl, congrArg AV.bool (Option.some.inj hb), trivial⟩
    exact ⟨rfl, trivial⟩
  rintro _ ⟨tm, os, rfl⟩
  refine AOps.nilR ?_
  refine AW.meet (σ := (List Int) × Bool × Nat × Bool × (List AV) × Bool) (fun (out46, done53, z47, f48, e49, o51) tm os => ⟨updL tm [(0, (AV.sl z2 f3 e4)), (1, (AV.int .i64 n6)), (5, (AV.sl z47 f48 e49)), (6, (AV.bool done53)), (7, (AV.int .i64 i37))], updL os [(5, o51)], { s with lo := s.n }⟩) (fun (out46, done53, z47, f48, e49, o51) => (LR (rI .i64) 1 out46 z47 e49) ∧ (f48 = true ∨ o51 = true) ∧ spec_l00Put_J3 list1 i37 out46 done53 = some ee1) ?_ ?_
  ·rintro ⟨out46, done53, z47, f48, e49, o51⟩ tm os ⟨h50, h52, h⟩
   unfold spec_l00Put_J3 at h
   refine AW.region ?_
   refine AOps.moveR rfl rfl rfl rfl (rfl : _ = (AV.sl z47 f48 e49)) rfl ?_
   refine AOps.p rfl (rfl : _ = (AV.sl z2 f3 e4)) ?_
   refine AOps.p rfl (rfl : _ = (AV.int .i64 i37)) ?_
   obtain ⟨x55, h56, h⟩ := obind h
   obtain ⟨v59, h57, h58⟩ := idx_sl h5 h56
   cases h57
   refine AOps.pureR rfl rfl rfl h58 rfl (rfl : _ = (AV.eptr [(AV.int .i64 x55)] 0)) ?_
   refine AOps.ldE (v := (AV.int .i64 x55)) rfl rfl rfl rfl rfl rfl ?_
   refine AOps.makeR rfl rfl rfl rfl rfl rfl (rfl : _ = (AV.sl 1 true [(AV.int .i64 x55)])) ?_
   obtain ⟨l60, h61, h⟩ := obind h
   obtain ⟨h62, h63⟩ := app_LR h50 (LR.lit (r := rI .i64) (sz := 1) (.cons rfl .nil)) h61
   refine AOps.appL (z := z47) (f := f48) (e := e49) (z' := 1) (f' := true) (e' := [(AV.int .i64 x55)]) rfl rfl rfl rfl rfl rfl rfl (appSrc_sl (LR.z (LR.lit (r := rI .i64) (sz := 1) (.cons rfl .nil))) rfl) (LR.z h50) ⟨by decide, by decide, rfl, rfl⟩ rfl rfl h63 (own_tmp h52 rfl rfl) ?_
   refine AOps.assignR rfl rfl rfl (rfl : _ = (AV.sl 1 false (e49 ++ [(AV.int .i64 x55)]))) rfl ?_
   refine AOps.nilR ?_
   refine AW.inBlock ?_
   refine AW.region ?_
   refine AOps.p rfl (rfl : _ = (AV.int .i64 i37)) ?_
   refine AOps.p rfl (rfl : _ = (AV.int .i64 (IntKind.wrap .i64 (i37 + 1)))) ?_
   refine AOps.assignR rfl rfl rfl (rfl : _ = (AV.int .i64 (IntKind.wrap .i64 (i37 + 1)))) rfl ?_
   refine AOps.nilR ?_
   cases h
   exact AW.res [(0, (AV.sl z2 f3 e4)), (1, (AV.int .i64 n6)), (5, (AV.sl 1 false (e49 ++ [(AV.int .i64 x55)]))), (6, (AV.bool done53)), (7, (AV.int .i64 (IntKind.wrap .i64 (i37 + 1))))] [(5, true)] ⟨rfl, rfl, rfl, rfl, rfl, trivial⟩ ⟨rfl, trivial⟩ (hL1 _ rfl (1, false, (e49 ++ [(AV.int .i64 x55)]), true) _ _ ⟨h62, (Or.inr rfl)⟩)
  intro KJ54
  rcases oite h with ⟨hc64, h⟩ | ⟨hc64, h⟩
  ·refine AW.condT (congrArg AV.bool hc64) ?_
   refine AW.sr ?_
   refine AOps.p rfl (rfl : _ = (AV.bool true)) ?_
   refine AOps.nilR ?_
   refine AW.sr ?_
   refine AOps.p rfl (rfl : _ = (AV.sl z2 f3 e4)) ?_
   refine AOps.p rfl (rfl : _ = (AV.int .i64 i37)) ?_
   obtain ⟨x65, h66, h⟩ := obind h
   obtain ⟨v69, h67, h68⟩ := idx_sl h5 h66
   cases h67
   refine AOps.pureR rfl rfl rfl h68 rfl (rfl : _ = (AV.eptr [(AV.int .i64 x65)] 0)) ?_
   refine AOps.ldE (v := (AV.int .i64 x65)) rfl rfl rfl rfl rfl rfl ?_
   refine AOps.p rfl (rfl : _ = (AV.int .i64 n6)) ?_
   refine AOps.p rfl (rfl : _ = (AV.bool (decide ((x65 : Int) > n6)))) ?_
   refine AOps.nilR ?_
   rcases oite h with ⟨hc70, h⟩ | ⟨hc70, h⟩
   ·refine AW.condT (congrArg AV.bool hc70) ?_
    refine AW.region ?_
    refine AOps.moveR rfl rfl rfl rfl (rfl : _ = (AV.sl z30 f31 e32)) rfl ?_
    refine AOps.p rfl (rfl : _ = (AV.int .i64 n6)) ?_
    refine AOps.makeR rfl rfl rfl rfl rfl rfl (rfl : _ = (AV.sl 1 true [(AV.int .i64 n6)])) ?_
    obtain ⟨l71, h72, h⟩ := obind h
    obtain ⟨h73, h74⟩ := app_LR h33 (LR.lit (r := rI .i64) (sz := 1) (.cons rfl .nil)) h72
    refine AOps.appL (z := z30) (f := f31) (e := e32) (z' := 1) (f' := true) (e' := [(AV.int .i64 n6)]) rfl rfl rfl rfl rfl rfl rfl (appSrc_sl (LR.z (LR.lit (r := rI .i64) (sz := 1) (.cons rfl .nil))) rfl) (LR.z h33) ⟨by decide, by decide, rfl, rfl⟩ rfl rfl h74 (own_tmp h35 rfl rfl) ?_
    refine AOps.assignR rfl rfl rfl (rfl : _ = (AV.sl 1 false (e32 ++ [(AV.int .i64 n6)]))) rfl ?_
    refine AOps.nilR ?_
    exact AW.res [(0, (AV.sl z2 f3 e4)), (1, (AV.int .i64 n6)), (5, (AV.sl 1 false (e32 ++ [(AV.int .i64 n6)]))), (6, (AV.bool true)), (7, (AV.int .i64 i37))] [(5, true)] ⟨rfl, rfl, rfl, rfl, rfl, trivial⟩ ⟨rfl, trivial⟩ (KJ54 (l71, true, 1, false, (e32 ++ [(AV.int .i64 n6)]), true) _ _ ⟨h73, (Or.inr rfl), h⟩)
   refine AW.condF (congrArg AV.bool hc70) ?_
   refine AW.skip ?_
   exact AW.res [(0, (AV.sl z2 f3 e4)), (1, (AV.int .i64 n6)), (5, (AV.sl z30 f31 e32)), (6, (AV.bool true)), (7, (AV.int .i64 i37))] [(5, o34)] ⟨rfl, rfl, rfl, rfl, rfl, trivial⟩ ⟨rfl, trivial⟩ (KJ54 (out29, true, z30, f31, e32, o34) _ _ ⟨h33, h35, h⟩)
  refine AW.condF (congrArg AV.bool hc64) ?_
  refine AW.skip ?_
  exact AW.res [(0, (AV.sl z2 f3 e4)), (1, (AV.int .i64 n6)), (5, (AV.sl z30 f31 e32)), (6, (AV.bool done36)), (7, (AV.int .i64 i37))] [(5, o34)] ⟨rfl, rfl, rfl, rfl, rfl, trivial⟩ ⟨rfl, trivial⟩ (KJ54 (out29, done36, z30, f31, e32, o34) _ _ ⟨h33, h35, h⟩)
 refine AW.condF (congrArg AV.bool hc38) ?_
 refine AW.exit rfl ?_
 obtain ⟨r75, hm, hx⟩ := omap h
 clear h
 subst hx
 have hx := hR1 _ rfl
 rw [hx] at hm
 have h := hm
 exact AW.res [(1, (AV.int .i64 n6)), (5, (AV.sl z30 f31 e32)), (6, (AV.bool done36))] [(5, o34)] ⟨rfl, rfl, rfl, trivial⟩ ⟨rfl, trivial⟩ (KJ15 (out29, done36, z30, f31, e32, o34) _ _ ⟨h33, h35, h⟩)
theorem spec_l02Used_F1_ok {p14 : Int} {p15 : Int} {p16 : List Bool} {p111 : List (List Push)} {p116 : List (List (List Int))} {p121 : List (List Int)} {b2 : Nat} {w3 : Nat → Bool} {z7 : Nat} {f8 : Bool} {e9 : List AV} {z12 : Nat} {f13 : Bool} {e14 : List AV} {z17 : Nat} {f18 : Bool} {e19 : List AV} {z22 : Nat} {f23 : Bool} {e24 : List AV} {s : St} (h10 : LR rB 1 p16 z7 e9) (h15 : LR (rL rPush 2) 1 p111 z12 e14) (h20 : LR (rL (rL (rI .i64) 1) 1) 1 p116 z17 e19) (h25 : LR (rL (rI .i64) 1) 1 p121 z22 e24) (hE : HS [b2] false s { s with lo := s.n } [⟨some b2, [(AV.int .i64 p14), (AV.int .i64 p15), (AV.sl z7 f8 e9), (AV.sl z12 f13 e14), (AV.sl z17 f18 e19), (AV.sl z22 f23 e24)], w3⟩]) {r : (List Int)} (h : spec_l02Used_F1 p14 p15 p16 p111 p116 p121 = some r) (hs : WF s) : ACall Cf 37 [(AV.ptr b2 0)] s fun v _ s' => (rL (rI .i64) 1) r v ∧ ∃ (w0' : Nat → Bool), Fx [b2] s s' [⟨some b2, [(AV.int .i64 p14), (AV.int .i64 p15), (AV.sl z7 f8 e9), (AV.sl z12 f13 e14), (AV.sl z17 f18 e19), (AV.sl z22 f23 e24)], w0'⟩] := by
 refine ACall.foreign rfl rfl rfl ?_
 unfold spec_l02Used_F1 at h
 refine AW.sr ?_
 refine AOps.p rfl (rfl : _ = (AV.sl 0 true [])) ?_
 refine AOps.nilR ?_
 refine AW.sr ?_
 refine AOps.p rfl (rfl : _ = (AV.ptr b2 0)) ?_
 refine AOps.p rfl (rfl : _ = (AV.ptr b2 0)) ?_
 refine AOps.p rfl (rfl : _ = (AV.ptr b2 1)) ?_
 refine AOps.ldB (i := 0) (v := (AV.int .i64 p15)) hE rfl rfl rfl rfl rfl rfl rfl rfl rfl ?_
 refine AOps.makeR rfl rfl rfl rfl rfl rfl (rfl : _ = (AV.sl 1 true [(AV.int .i64 p15)])) ?_
 refine AOps.assignR rfl rfl rfl (rfl : _ = (AV.sl 1 true [(AV.int .i64 p15)])) rfl ?_
 refine AOps.nilR ?_
 refine AW.sr ?_
 refine AOps.p rfl (rfl : _ = (AV.ptr b2 0)) ?_
 refine AOps.p rfl (rfl : _ = (AV.ptr b2 0)) ?_
 refine AOps.p rfl (rfl : _ = (AV.ptr b2 1)) ?_
 refine AOps.ldB (i := 0) (v := (AV.int .i64 p15)) hE rfl rfl rfl rfl rfl rfl rfl rfl rfl ?_
 refine AOps.makeR rfl rfl rfl rfl rfl rfl (rfl : _ = (AV.sl 1 true [(AV.int .i64 p15)])) ?_
 refine AOps.assignR rfl rfl rfl (rfl : _ = (AV.sl 1 true [(AV.int .i64 p15)])) rfl ?_
 refine AOps.nilR ?_
 refine AW.seq ?_
 refine AW.meet (σ := (List Int) × Nat × Bool × (List AV) × St) (fun (t26, z27, f28, e29, s31) tm os => ⟨updL tm [(3, (AV.sl z27 f28 e29))], updL os [], s31⟩) (fun (t26, z27, f28, e29, s31) => (LR (rI .i64) 1 t26 z27 e29) ∧ (HS [b2] false s s31 [⟨some b2, [(AV.int .i64 p14), (AV.int .i64 p15), (AV.sl z7 f8 e9), (AV.sl z12 f13 e14), (AV.sl z17 f18 e19), (AV.sl z22 f23 e24)], w3⟩]) ∧ spec_l02Used_F1_J1 t26 = some r) ?_ ?_
 ·rintro ⟨t26, z27, f28, e29, s31⟩ tm os ⟨h30, hH32, h⟩
  unfold spec_l02Used_F1_J1 at h
  refine AW.sr ?_
  refine AOps.p rfl (rfl : _ = (AV.sl z27 f28 e29)) ?_
  refine AOps.assignR rfl rfl rfl (rfl : _ = (AV.sl z27 f28 e29)) rfl ?_
  refine AOps.nilR ?_
  obtain rfl := Option.some.inj h
  exact AW.ret ⟨_, _, rfl, finF (p := (rL (rI .i64) 1) t26) (Fin.of (p := (rL (rI .i64) 1) t26) (.L fun _ => .I) (⟨_, _, _, rfl, h30⟩)) ⟨w3, HS.leaveP hH32 [0] rfl⟩⟩
 intro KJ33
 refine AW.block ?_
 refine AW.res [(0, (AV.ptr b2 0)), (3, (AV.sl 1 true [(AV.int .i64 p15)])), (4, (AV.sl 1 true [(AV.int .i64 p15)]))] [(4, false)] ⟨rfl, rfl, rfl, trivial⟩ ⟨rfl, trivial⟩ ?_
 refine AW.loopF (σ := (List Int) × (List Int)) (τ := Nat × Bool × (List AV) × Nat × Bool × (List AV) × Bool × St) (fun (t34, t39) (z35, f36, e37, z40, f41, e42, o44, s46) => (LR (rI .i64) 1 t34 z35 e37) ∧ (LR (rI .i64) 1 t39 z40 e42) ∧ (f41 = true ∨ o44 = true) ∧ (HS [b2] false s s46 [⟨some b2, [(AV.int .i64 p14), (AV.int .i64 p15), (AV.sl z7 f8 e9), (AV.sl z12 f13 e14), (AV.sl z17 f18 e19), (AV.sl z22 f23 e24)], w3⟩])) (fun (t34, t39) (z35, f36, e37, z40, f41, e42, o44, s46) tm os => ⟨updL tm [(0, (AV.ptr b2 0)), (3, (AV.sl z35 f36 e37)), (4, (AV.sl z40 f41 e42))], updL os [(4, o44)], s46⟩) ?_ (x := (([p15] : List Int), ([p15] : List Int))) (y := (1, true, [(AV.int .i64 p15)], 1, true, [(AV.int .i64 p15)], false, { s with lo := s.n })) h ⟨LR.lit (r := rI .i64) (sz := 1) (.cons rfl .nil), LR.lit (r := rI .i64) (sz := 1) (.cons rfl .nil), (Or.inl rfl), (HS.sel hE [some 0] (by decide))⟩
 clear h
 rintro ⟨t34, t39⟩ ⟨z35, f36, e37, z40, f41, e42, o44, s46⟩ tm os ⟨h38, h43, h45, hH47⟩ ee1 h hL1 hR1
 unfold spec_l02Used_F1_S1 at h
 dsimp only at h
 refine AW.seq ?_
 refine AW.sr ?_
 refine AOps.p rfl (rfl : _ = (AV.sl z40 f41 e42)) ?_
 refine AOps.p rfl (len_eq h43) ?_
 refine AOps.p rfl (rfl : _ = (AV.bool (decide (((t39.length : Int) : Int) > 0)))) ?_
 refine AOps.nilR ?_
 rcases oite h with ⟨hc48, h⟩ | ⟨hc48, h⟩
 ·refine AW.condT (congrArg AV.bool hc48) ?_
  refine AW.skip ?_
  refine AW.block ?_
  refine AW.sr ?_
  refine AOps.p rfl (rfl : _ = (AV.sl z40 f41 e42)) ?_
  obtain ⟨x49, h50, h⟩ := obind h
  obtain ⟨v53, h51, h52⟩ := idx_sl h43 h50
  cases h51
  refine AOps.pureR rfl rfl rfl h52 rfl (rfl : _ = (AV.eptr [(AV.int .i64 x49)] 0)) ?_
  refine AOps.ldE (v := (AV.int .i64 x49)) rfl rfl rfl rfl rfl rfl ?_
  refine AOps.assignR rfl rfl rfl (rfl : _ = (AV.int .i64 x49)) rfl ?_
  refine AOps.nilR ?_
  refine AW.sr ?_
  refine AOps.moveR rfl rfl rfl rfl (rfl : _ = (AV.sl z40 f41 e42)) rfl ?_
  obtain ⟨l54, h55, h⟩ := obind h
  obtain ⟨e56, h57, h58⟩ := cut_slT f41 h43 h55
  refine AOps.cutR rfl rfl rfl rfl h58 (rfl : _ = (AV.sl z40 f41 e56)) rfl ?_
  refine AOps.assignR rfl rfl rfl (rfl : _ = (AV.sl z40 f41 e56)) rfl ?_
  refine AOps.nilR ?_
  refine AW.sr ?_
  refine AOps.p rfl (rfl : _ = (AV.ptr b2 0)) ?_
  refine AOps.p rfl (rfl : _ = (AV.ptr b2 0)) ?_
  refine AOps.p rfl (rfl : _ = (AV.ptr b2 5)) ?_
  refine AOps.ldB (i := 0) (v := (AV.sl z22 f23 e24)) hH47 rfl rfl rfl rfl rfl rfl rfl rfl rfl ?_
  refine AOps.p rfl (rfl : _ = (AV.int .i64 x49)) ?_
  obtain ⟨x59, h60, h⟩ := obind h
  obtain ⟨v63, h61, h62⟩ := idx_sl h25 h60
  obtain ⟨z64, f65, e66, rfl, h67⟩ := h61
  refine AOps.pureR rfl rfl rfl h62 rfl (rfl : _ = (AV.eptr [(AV.sl z64 f65 e66)] 0)) ?_
  refine AOps.ldE (v := (AV.sl z64 f65 e66)) rfl rfl rfl rfl rfl rfl ?_
  obtain ⟨y68, h69, h⟩ := obind h
  refine AOps.callPO (g := 55) (args := [(AV.sl z64 f65 e66)]) (p := (rL (rI .i64) 1) y68) rfl rfl rfl (spec_l00Own_okO h67 h69 (HS.wf' hH47)) ?_
  intro _ h70
  obtain ⟨z71, f72, e73, rfl, h74⟩ := h70
  refine AOps.assignR rfl rfl rfl (rfl : _ = (AV.sl z71 f72 e73)) rfl ?_
  refine AOps.nilR ?_
  refine AW.seq ?_
  refine AW.sr ?_
  refine AOps.p rfl (rfl : _ = (AV.int .i64 0)) ?_
  refine AOps.nilR ?_
  refine AW.meet (σ := (List Int) × Bool × Nat × Bool × (List AV) × St) (fun (t78, o76, z79, f80, e81, s83) tm os => ⟨updL tm [(0, (AV.ptr b2 0)), (3, (AV.sl z35 f36 e37)), (4, (AV.sl z40 f41 e56)), (6, (AV.sl z79 f80 e81))], updL os [(4, o76), (6, true)], s83⟩) (fun (t78, o76, z79, f80, e81, s83) => (f41 = true ∨ o76 = true) ∧ (LR (rI .i64) 1 t78 z79 e81) ∧ (HS [b2] false s s83 [⟨some b2, [(AV.int .i64 p14), (AV.int .i64 p15), (AV.sl z7 f8 e9), (AV.sl z12 f13 e14), (AV.sl z17 f18 e19), (AV.sl z22 f23 e24)], w3⟩]) ∧ spec_l02Used_F1_J2 t34 l54 t78 = some ee1) ?_ ?_
  ·rintro ⟨t78, o76, z79, f80, e81, s83⟩ tm os ⟨h77, h82, hH84, h⟩
   unfold spec_l02Used_F1_J2 at h
   refine AW.sr ?_
   refine AOps.p rfl (rfl : _ = (AV.int .i64 0)) ?_
   refine AOps.nilR ?_
   refine AW.meet (σ := (List Int) × (List Int) × Nat × Bool × (List AV) × Nat × Bool × (List AV) × Bool × St) (fun (t86, t91, z87, f88, e89, z92, f93, e94, o96, s98) tm os => ⟨updL tm [(0, (AV.ptr b2 0)), (3, (AV.sl z87 f88 e89)), (4, (AV.sl z92 f93 e94))], updL os [(4, o96)], s98⟩) (fun (t86, t91, z87, f88, e89, z92, f93, e94, o96, s98) => (LR (rI .i64) 1 t86 z87 e89) ∧ (LR (rI .i64) 1 t91 z92 e94) ∧ (f93 = true ∨ o96 = true) ∧ (HS [b2] false s s98 [⟨some b2, [(AV.int .i64 p14), (AV.int .i64 p15), (AV.sl z7 f8 e9), (AV.sl z12 f13 e14), (AV.sl z17 f18 e19), (AV.sl z22 f23 e24)], w3⟩]) ∧ spec_l02Used_F1_J3 t86 t91 = some ee1) ?_ ?_
   ·rintro ⟨t86, t91, z87, f88, e89, z92, f93, e94, o96, s98⟩ tm os ⟨h90, h95, h97, hH99, h⟩
    unfold spec_l02Used_F1_J3 at h
    refine AW.inBlock ?_
    cases h
    exact AW.res [(0, (AV.ptr b2 0)), (3, (AV.sl z87 f88 e89)), (4, (AV.sl z92 f93 e94))] [(4, o96)] ⟨rfl, rfl, rfl, trivial⟩ ⟨rfl, trivial⟩ (hL1 _ rfl (z87, f88, e89, z92, f93, e94, o96, s98) _ _ ⟨h90, h95, h97, (HS.sel hH99 [some 0] (by decide))⟩)
   intro KJ100
   refine AW.block ?_
   refine AW.res [(0, (AV.ptr b2 0)), (3, (AV.sl z35 f36 e37)), (4, (AV.sl z40 f41 e56)), (6, (AV.sl z79 f80 e81)), (8, (AV.int .i64 0))] [(4, o76), (6, true)] ⟨rfl, rfl, rfl, rfl, rfl, trivial⟩ ⟨rfl, rfl, trivial⟩ ?_
   refine AW.loopF (σ := (List Int) × (List Int) × Int) (τ := Nat × Bool × (List AV) × Nat × Bool × (List AV) × Bool × St) (fun (t101, t106, t113) (z102, f103, e104, z107, f108, e109, o111, s114) => (LR (rI .i64) 1 t101 z102 e104) ∧ (LR (rI .i64) 1 t106 z107 e109) ∧ (f108 = true ∨ o111 = true) ∧ (HS [b2] false s s114 [⟨some b2, [(AV.int .i64 p14), (AV.int .i64 p15), (AV.sl z7 f8 e9), (AV.sl z12 f13 e14), (AV.sl z17 f18 e19), (AV.sl z22 f23 e24)], w3⟩])) (fun (t101, t106, t113) (z102, f103, e104, z107, f108, e109, o111, s114) tm os => ⟨updL tm [(0, (AV.ptr b2 0)), (3, (AV.sl z102 f103 e104)), (4, (AV.sl z107 f108 e109)), (6, (AV.sl z79 f80 e81)), (8, (AV.int .i64 t113))], updL os [(4, o111), (6, true)], s114⟩) ?_ (x := (t34, l54, 0)) (y := (z35, f36, e37, z40, f41, e56, o76, s83)) h ⟨h38, h57, h77, (HS.sel hH84 [some 0] (by decide))⟩
   clear h
   rintro ⟨t101, t106, t113⟩ ⟨z102, f103, e104, z107, f108, e109, o111, s114⟩ tm os ⟨h105, h110, h112, hH115⟩ ee2 h hL2 hR2
   unfold spec_l02Used_F1_S2 at h
   dsimp only at h
   refine AW.seq ?_
   refine AW.sr ?_
   refine AOps.p rfl (rfl : _ = (AV.int .i64 t113)) ?_
   refine AOps.p rfl (rfl : _ = (AV.sl z79 f80 e81)) ?_
   refine AOps.p rfl (len_eq h82) ?_
   refine AOps.p rfl (rfl : _ = (AV.bool (decide ((t113 : Int) < (t78.length : Int))))) ?_
   refine AOps.nilR ?_
   rcases oite h with ⟨hc116, h⟩ | ⟨hc116, h⟩
   ·refine AW.condT (congrArg AV.bool hc116) ?_
    refine AW.skip ?_
    refine AW.seq ?_
    refine AW.block ?_
    refine AW.sr ?_
    refine AOps.p rfl (rfl : _ = (AV.sl z102 f103 e104)) ?_
    refine AOps.p rfl (rfl : _ = (AV.sl z79 f80 e81)) ?_
    refine AOps.p rfl (rfl : _ = (AV.int .i64 t113)) ?_
    obtain ⟨x117, h118, h⟩ := obind h
    obtain ⟨v121, h119, h120⟩ := idx_sl h82 h118
    cases h119
    refine AOps.pureR rfl rfl rfl h120 rfl (rfl : _ = (AV.eptr [(AV.int .i64 x117)] 0)) ?_
    refine AOps.ldE (v := (AV.int .i64 x117)) rfl rfl rfl rfl rfl rfl ?_
    obtain ⟨y122, h123, h⟩ := obind h
    refine AOps.callP (g := 56) (args := [(AV.sl z102 f103 e104), (AV.int .i64 x117)]) (p := (rB) y122) rfl rfl rfl (spec_l00Has_ok h105 h123 (HS.wf' hH115)) ?_
    intro _ o125 h124
    cases h124
    refine AOps.p rfl (rfl : _ = (AV.bool (!y122))) ?_
    refine AOps.nilR ?_
    refine AW.meet (σ := (List Int) × (List Int) × Nat × Bool × (List AV) × Nat × Bool × (List AV) × Bool × St) (fun (t126, t131, z127, f128, e129, z132, f133, e134, o136, s138) tm os => ⟨updL tm [(0, (AV.ptr b2 0)), (3, (AV.sl z127 f128 e129)), (4, (AV.sl z132 f133 e134)), (6, (AV.sl z79 f80 e81)), (8, (AV.int .i64 t113))], updL os [(4, o136), (6, true)], s138⟩) (fun (t126, t131, z127, f128, e129, z132, f133, e134, o136, s138) => (LR (rI .i64) 1 t126 z127 e129) ∧ (LR (rI .i64) 1 t131 z132 e134) ∧ (f133 = true ∨ o136 = true) ∧ (HS [b2] false s s138 [⟨some b2, [(AV.int .i64 p14), (AV.int .i64 p15), (AV.sl z7 f8 e9), (AV.sl z12 f13 e14), (AV.sl z17 f18 e19), (AV.sl z22 f23 e24)], w3⟩]) ∧ spec_l02Used_F1_J4 t113 t126 t131 = some ee2) ?_ ?_
    ·rintro ⟨t126, t131, z127, f128, e129, z132, f133, e134, o136, s138⟩ tm os ⟨h130, h135, h137, hH139, h⟩
     unfold spec_l02Used_F1_J4 at h
     refine AW.inBlock ?_
     refine AW.region ?_
     refine AOps.p rfl (rfl : _ = (AV.int .i64 t113)) ?_
     refine AOps.p rfl (rfl : _ = (AV.int .i64 (IntKind.wrap .i64 (t113 + 1)))) ?_
     refine AOps.assignR rfl rfl rfl (rfl : _ = (AV.int .i64 (IntKind.wrap .i64 (t113 + 1)))) rfl ?_
     refine AOps.nilR ?_
     cases h
     exact AW.res [(0, (AV.ptr b2 0)), (3, (AV.sl z127 f128 e129)), (4, (AV.sl z132 f133 e134)), (6, (AV.sl z79 f80 e81)), (8, (AV.int .i64 (IntKind.wrap .i64 (t113 + 1))))] [(4, o136), (6, true)] ⟨rfl, rfl, rfl, rfl, rfl, trivial⟩ ⟨rfl, rfl, trivial⟩ (hL2 _ rfl (z127, f128, e129, z132, f133, e134, o136, s138) _ _ ⟨h130, h135, h137, (HS.sel hH139 [some 0] (by decide))⟩)
    intro KJ140
    rcases oite h with ⟨hc141, h⟩ | ⟨hc141, h⟩
    ·refine AW.condT (congrArg AV.bool hc141) ?_
     refine AW.sr ?_
     refine AOps.p rfl (rfl : _ = (AV.sl z102 f103 e104)) ?_
     refine AOps.p rfl (rfl : _ = (AV.sl z79 f80 e81)) ?_
     refine AOps.p rfl (rfl : _ = (AV.int .i64 t113)) ?_
     obtain ⟨x142, h143, h⟩ := obind h
     obtain ⟨v146, h144, h145⟩ := idx_sl h82 h143
     cases h144
     refine AOps.pureR rfl rfl rfl h145 rfl (rfl : _ = (AV.eptr [(AV.int .i64 x142)] 0)) ?_
     refine AOps.ldE (v := (AV.int .i64 x142)) rfl rfl rfl rfl rfl rfl ?_
     obtain ⟨y147, h148, h⟩ := obind h
     refine AOps.callP (g := 57) (args := [(AV.sl z102 f103 e104), (AV.int .i64 x142)]) (p := (rL (rI .i64) 1) y147) rfl rfl rfl (spec_l00Put_ok h105 h148 (HS.wf' hH115)) ?_
     intro _ o154 h149
     obtain ⟨z150, f151, e152, rfl, h153⟩ := h149
     refine AOps.assignR rfl rfl rfl (rfl : _ = (AV.sl z150 f151 e152)) rfl ?_
     refine AOps.nilR ?_
     refine AW.region ?_
     refine AOps.moveR rfl rfl rfl rfl (rfl : _ = (AV.sl z107 f108 e109)) rfl ?_
     refine AOps.p rfl (rfl : _ = (AV.sl z79 f80 e81)) ?_
     refine AOps.p rfl (rfl : _ = (AV.int .i64 t113)) ?_
     obtain ⟨x155, h156, h⟩ := obind h
     obtain ⟨v159, h157, h158⟩ := idx_sl h82 h156
     cases h157
     refine AOps.pureR rfl rfl rfl h158 rfl (rfl : _ = (AV.eptr [(AV.int .i64 x155)] 0)) ?_
     refine AOps.ldE (v := (AV.int .i64 x155)) rfl rfl rfl rfl rfl rfl ?_
     refine AOps.makeR rfl rfl rfl rfl rfl rfl (rfl : _ = (AV.sl 1 true [(AV.int .i64 x155)])) ?_
     obtain ⟨l160, h161, h⟩ := obind h
     obtain ⟨h162, h163⟩ := app_LR h110 (LR.lit (r := rI .i64) (sz := 1) (.cons rfl .nil)) h161
     refine AOps.appL (z := z107) (f := f108) (e := e109) (z' := 1) (f' := true) (e' := [(AV.int .i64 x155)]) rfl rfl rfl rfl rfl rfl rfl (appSrc_sl (LR.z (LR.lit (r := rI .i64) (sz := 1) (.cons rfl .nil))) rfl) (LR.z h110) ⟨by decide, by decide, rfl, rfl⟩ rfl rfl h163 (own_tmp h112 rfl rfl) ?_
     refine AOps.assignR rfl rfl rfl (rfl : _ = (AV.sl 1 false (e109 ++ [(AV.int .i64 x155)]))) rfl ?_
     refine AOps.nilR ?_
     exact AW.res [(0, (AV.ptr b2 0)), (3, (AV.sl z150 f151 e152)), (4, (AV.sl 1 false (e109 ++ [(AV.int .i64 x155)]))), (6, (AV.sl z79 f80 e81)), (8, (AV.int .i64 t113))] [(4, true), (6, true)] ⟨rfl, rfl, rfl, rfl, rfl, trivial⟩ ⟨rfl, rfl, trivial⟩ (KJ140 (y147, l160, z150, f151, e152, 1, false, (e109 ++ [(AV.int .i64 x155)]), true, s114) _ _ ⟨h153, h162, (Or.inr rfl), (HS.sel hH115 [some 0] (by decide)), h⟩)
    refine AW.condF (congrArg AV.bool hc141) ?_
    refine AW.skip ?_
    exact AW.res [(0, (AV.ptr b2 0)), (3, (AV.sl z102 f103 e104)), (4, (AV.sl z107 f108 e109)), (6, (AV.sl z79 f80 e81)), (8, (AV.int .i64 t113))] [(4, o111), (6, true)] ⟨rfl, rfl, rfl, rfl, rfl, trivial⟩ ⟨rfl, rfl, trivial⟩ (KJ140 (t101, t106, z102, f103, e104, z107, f108, e109, o111, s114) _ _ ⟨h105, h110, h112, (HS.sel hH115 [some 0] (by decide)), h⟩)
   refine AW.condF (congrArg AV.bool hc116) ?_
   refine AW.exit rfl ?_
   obtain ⟨r164, hm, hx⟩ := omap h
   clear h
   subst hx
   have hx := hR2 _ rfl
   rw [hx] at hm
   have h := hm
   exact AW.res [(0, (AV.ptr b2 0)), (3, (AV.sl z102 f103 e104)), (4, (AV.sl z107 f108 e109))] [(4, o111)] ⟨rfl, rfl, rfl, trivial⟩ ⟨rfl, trivial⟩ (KJ100 (t101, t106, z102, f103, e104, z107, f108, e109, o111, s114) _ _ ⟨h105, h110, h112, (HS.sel hH115 [some 0] (by decide)), h⟩)
  intro KJ85
  refine AW.block ?_
  refine AW.res [(0, (AV.ptr b2 0)), (3, (AV.sl z35 f36 e37)), (4, (AV.sl z40 f41 e56)), (5, (AV.int .i64 x49)), (6, (AV.sl z71 f72 e73)), (7, (AV.int .i64 0))] [(4, o44), (6, true)] ⟨rfl, rfl, rfl, rfl, rfl, rfl, trivial⟩ ⟨rfl, rfl, trivial⟩ ?_
  refine AW.loopF (σ := (List Int) × Int) (τ := Bool × Nat × Bool × (List AV) × St) (fun (t167, t172) (o165, z168, f169, e170, s173) => (f41 = true ∨ o165 = true) ∧ (LR (rI .i64) 1 t167 z168 e170) ∧ (HS [b2] false s s173 [⟨some b2, [(AV.int .i64 p14), (AV.int .i64 p15), (AV.sl z7 f8 e9), (AV.sl z12 f13 e14), (AV.sl z17 f18 e19), (AV.sl z22 f23 e24)], w3⟩])) (fun (t167, t172) (o165, z168, f169, e170, s173) tm os => ⟨updL tm [(0, (AV.ptr b2 0)), (3, (AV.sl z35 f36 e37)), (4, (AV.sl z40 f41 e56)), (5, (AV.int .i64 x49)), (6, (AV.sl z168 f169 e170)), (7, (AV.int .i64 t172))], updL os [(4, o165), (6, true)], s173⟩) ?_ (x := (y68, 0)) (y := (o44, z71, f72, e73, s46)) h ⟨h45, h74, (HS.sel hH47 [some 0] (by decide))⟩
  clear h
  rintro ⟨t167, t172⟩ ⟨o165, z168, f169, e170, s173⟩ tm os ⟨h166, h171, hH174⟩ ee2 h hL2 hR2
  unfold spec_l02Used_F1_S3 at h
  dsimp only at h
  refine AW.seq ?_
  refine AW.sr ?_
  refine AOps.p rfl (rfl : _ = (AV.int .i64 t172)) ?_
  refine AOps.p rfl (rfl : _ = (AV.bool (decide ((t172 : Int) < 2)))) ?_
  refine AOps.nilR ?_
  rcases oite h with ⟨hc175, h⟩ | ⟨hc175, h⟩
  ·refine AW.condT (congrArg AV.bool hc175) ?_
   refine AW.skip ?_
   refine AW.seq ?_
   refine AW.block ?_
   refine AW.region ?_
   refine AOps.moveR rfl rfl rfl rfl (rfl : _ = (AV.sl z168 f169 e170)) rfl ?_
   refine AOps.p rfl (rfl : _ = (AV.ptr b2 0)) ?_
   refine AOps.p rfl (rfl : _ = (AV.ptr b2 0)) ?_
   refine AOps.p rfl (rfl : _ = (AV.ptr b2 3)) ?_
   refine AOps.ldB (i := 0) (v := (AV.sl z12 f13 e14)) hH174 rfl rfl rfl rfl rfl rfl rfl rfl rfl ?_
   refine AOps.p rfl (rfl : _ = (AV.int .i64 x49)) ?_
   obtain ⟨x176, h177, h⟩ := obind h
   obtain ⟨v180, h178, h179⟩ := idx_sl h15 h177
   obtain ⟨z181, f182, e183, rfl, h184⟩ := h178
   refine AOps.pureR rfl rfl rfl h179 rfl (rfl : _ = (AV.eptr [(AV.sl z181 f182 e183)] 0)) ?_
   refine AOps.ldE (v := (AV.sl z181 f182 e183)) rfl rfl rfl rfl rfl rfl ?_
   refine AOps.p rfl (rfl : _ = (AV.int .i64 t172)) ?_
   obtain ⟨x185, h186, h⟩ := obind h
   obtain ⟨v189, h187, h188⟩ := idx_sl h184 h186
   obtain ⟨_, rfl, h190⟩ := h187
   obtain ⟨_, _, rfl, h191, h192⟩ := Cs_cons h190
   cases h191
   obtain ⟨_, _, rfl, h193, h194⟩ := Cs_cons h192
   cases h193
   cases Cs_nil h194
   refine AOps.pureR rfl rfl rfl h188 rfl (rfl : _ = (AV.eptr [(AV.int .i64 x185.To), (AV.int .i64 x185.Put)] 0)) ?_
   refine AOps.p rfl (rfl : _ = (AV.eptr [(AV.int .i64 x185.To), (AV.int .i64 x185.Put)] 0)) ?_
   refine AOps.ldE (v := (AV.int .i64 x185.To)) rfl rfl rfl rfl rfl rfl ?_
   refine AOps.makeR rfl rfl rfl rfl rfl rfl (rfl : _ = (AV.sl 1 true [(AV.int .i64 x185.To)])) ?_
   obtain ⟨l195, h196, h⟩ := obind h
   obtain ⟨h197, h198⟩ := app_LR h171 (LR.lit (r := rI .i64) (sz := 1) (.cons rfl .nil)) h196
   refine AOps.appL (z := z168) (f := f169) (e := e170) (z' := 1) (f' := true) (e' := [(AV.int .i64 x185.To)]) rfl rfl rfl rfl rfl rfl rfl (appSrc_sl (LR.z (LR.lit (r := rI .i64) (sz := 1) (.cons rfl .nil))) rfl) (LR.z h171) ⟨by decide, by decide, rfl, rfl⟩ rfl rfl h198 (Or.inr ⟨39, rfl, rfl⟩) ?_
   refine AOps.p rfl (rfl : _ = (AV.ptr b2 0)) ?_
   refine AOps.p rfl (rfl : _ = (AV.ptr b2 0)) ?_
   refine AOps.p rfl (rfl : _ = (AV.ptr b2 4)) ?_
   refine AOps.ldB (i := 0) (v := (AV.sl z17 f18 e19)) hH174 rfl rfl rfl rfl rfl rfl rfl rfl rfl ?_
   refine AOps.p rfl (rfl : _ = (AV.int .i64 x49)) ?_
   obtain ⟨x199, h200, h⟩ := obind h
   obtain ⟨v203, h201, h202⟩ := idx_sl h20 h200
   obtain ⟨z204, f205, e206, rfl, h207⟩ := h201
   refine AOps.pureR rfl rfl rfl h202 rfl (rfl : _ = (AV.eptr [(AV.sl z204 f205 e206)] 0)) ?_
   refine AOps.ldE (v := (AV.sl z204 f205 e206)) rfl rfl rfl rfl rfl rfl ?_
   refine AOps.p rfl (rfl : _ = (AV.int .i64 t172)) ?_
   obtain ⟨x208, h209, h⟩ := obind h
   obtain ⟨v212, h210, h211⟩ := idx_sl h207 h209
   obtain ⟨z213, f214, e215, rfl, h216⟩ := h210
   refine AOps.pureR rfl rfl rfl h211 rfl (rfl : _ = (AV.eptr [(AV.sl z213 f214 e215)] 0)) ?_
   refine AOps.ldE (v := (AV.sl z213 f214 e215)) rfl rfl rfl rfl rfl rfl ?_
   obtain ⟨l217, h218, h⟩ := obind h
   obtain ⟨h219, h220⟩ := app_LR h197 h216 h218
   refine AOps.appL (z := 1) (f := false) (e := (e170 ++ [(AV.int .i64 x185.To)])) (z' := z213) (f' := f214) (e' := e215) rfl rfl rfl rfl rfl rfl rfl (appSrc_sl (LR.z h216) rfl) (LR.z h197) ⟨by decide, by decide, rfl, rfl⟩ rfl rfl h220 (Or.inr ⟨52, rfl, rfl⟩) ?_
   refine AOps.assignR rfl rfl rfl (rfl : _ = (AV.sl 1 false ((e170 ++ [(AV.int .i64 x185.To)]) ++ e215))) rfl ?_
   refine AOps.nilR ?_
   refine AW.inBlock ?_
   refine AW.region ?_
   refine AOps.p rfl (rfl : _ = (AV.int .i64 t172)) ?_
   refine AOps.p rfl (rfl : _ = (AV.int .i64 (IntKind.wrap .i64 (t172 + 1)))) ?_
   refine AOps.assignR rfl rfl rfl (rfl : _ = (AV.int .i64 (IntKind.wrap .i64 (t172 + 1)))) rfl ?_
   refine AOps.nilR ?_
   cases h
   exact AW.res [(0, (AV.ptr b2 0)), (3, (AV.sl z35 f36 e37)), (4, (AV.sl z40 f41 e56)), (5, (AV.int .i64 x49)), (6, (AV.sl 1 false ((e170 ++ [(AV.int .i64 x185.To)]) ++ e215))), (7, (AV.int .i64 (IntKind.wrap .i64 (t172 + 1))))] [(4, o165), (6, true)] ⟨rfl, rfl, rfl, rfl, rfl, rfl, trivial⟩ ⟨rfl, rfl, trivial⟩ (hL2 _ rfl (o165, 1, false, ((e170 ++ [(AV.int .i64 x185.To)]) ++ e215), s173) _ _ ⟨h166, h219, (HS.sel hH174 [some 0] (by decide))⟩)
  refine AW.condF (congrArg AV.bool hc175) ?_
  refine AW.exit rfl ?_
  obtain ⟨r221, hm, hx⟩ := omap h
  clear h
  subst hx
  have hx := hR2 _ rfl
  rw [hx] at hm
  have h := hm
  exact AW.res [(0, (AV.ptr b2 0)), (3, (AV.sl z35 f36 e37)), (4, (AV.sl z40 f41 e56)), (6, (AV.sl z168 f169 e170))] [(4, o165), (6, true)] ⟨rfl, rfl, rfl, rfl, trivial⟩ ⟨rfl, rfl, trivial⟩ (KJ85 (t167, o165, z168, f169, e170, s173) _ _ ⟨h166, h171, (HS.sel hH174 [some 0] (by decide)), h⟩)
 refine AW.condF (congrArg AV.bool hc48) ?_
 refine AW.exit rfl ?_
 obtain ⟨r222, hm, hx⟩ := omap h
 clear h
 subst hx
 have hx := hR1 _ rfl
 rw [hx] at hm
 have h := hm
 exact AW.res [(3, (AV.sl z35 f36 e37))] [] ⟨rfl, trivial⟩ trivial (KJ33 (t34, z35, f36, e37, s46) _ _ ⟨h38, (HS.sel hH47 [some 0] (by decide)), h⟩)
theorem spec_l08Lost_ok {c1 : Checker} {z2 : Nat} {f3 : Bool} {e4 : List AV} {z6 : Nat} {f7 : Bool} {e8 : List AV} {z10 : Nat} {f11 : Bool} {e12 : List AV} {z14 : Nat} {f15 : Bool} {e16 : List AV} {s : St} (h5 : LR rB 1 c1.Accept z2 e4) (h9 : LR (rL rPush 2) 1 c1.Call z6 e8) (h13 : LR (rL (rL (rI .i64) 1) 1) 1 c1.Return z10 e12) (h17 : LR (rL (rI .i64) 1) 1 c1.Inner z14 e16) {r : (List Int)} (h : spec_l08Lost c1 = some r) (hs : WF s) : ACall Cf 18 [(AV.eptr [(AV.int .i64 c1.Stack), (AV.int .i64 c1.Start), (AV.sl z2 f3 e4), (AV.sl z6 f7 e8), (AV.sl z10 f11 e12), (AV.sl z14 f15 e16)] 0)] s fun v _ s' => (rL (rI .i64) 1) r v ∧ s' = s := by
 refine ACall.boxes rfl rfl rfl ?_
 have hH0 := HS.init hs
 unfold spec_l08Lost at h
 refine AW.sr ?_
 refine AOps.p rfl (rfl : _ = (AV.sl 0 true [])) ?_
 refine AOps.nilR ?_
 refine AW.sr ?_
 refine AOps.makeR rfl rfl rfl rfl rfl rfl (rfl : _ = (AV.sl 1 true [])) ?_
 refine AOps.assignR rfl rfl rfl (rfl : _ = (AV.sl 1 true [])) rfl ?_
 refine AOps.nilR ?_
 refine AW.seq ?_
 refine AW.sr ?_
 refine AOps.p rfl (rfl : _ = (AV.int .i64 0)) ?_
 refine AOps.nilR ?_
 refine AW.meet (σ := (List Int) × Nat × Bool × (List AV) × Bool × St) (fun (out18, z19, f20, e21, o23, s25) tm os => ⟨updL tm [(3, (AV.sl z19 f20 e21))], updL os [(3, o23)], s25⟩) (fun (out18, z19, f20, e21, o23, s25) => (LR (rI .i64) 1 out18 z19 e21) ∧ (f20 = true ∨ o23 = true) ∧ (HS [] false s s25 []) ∧ spec_l08Lost_J1 out18 = some r) ?_ ?_
 ·rintro ⟨out18, z19, f20, e21, o23, s25⟩ tm os ⟨h22, h24, hH26, h⟩
  unfold spec_l08Lost_J1 at h
  refine AW.sr ?_
  refine AOps.p rfl (rfl : _ = (AV.sl z19 f20 e21)) ?_
  refine AOps.assignR rfl rfl rfl (rfl : _ = (AV.sl z19 f20 e21)) rfl ?_
  refine AOps.nilR ?_
  cases h
  exact AW.ret ⟨⟨_, hH26⟩, _, _, rfl, (Fin.of (p := (rL (rI .i64) 1) _) (.L fun _ => .I) (⟨_, _, _, rfl, h22⟩)).2⟩
 intro KJ27
 refine AW.block ?_
 refine AW.res [(0, (AV.eptr [(AV.int .i64 c1.Stack), (AV.int .i64 c1.Start), (AV.sl z2 f3 e4), (AV.sl z6 f7 e8), (AV.sl z10 f11 e12), (AV.sl z14 f15 e16)] 0)), (3, (AV.sl 1 true [])), (4, (AV.int .i64 0))] [(3, false)] ⟨rfl, rfl, rfl, trivial⟩ ⟨rfl, trivial⟩ ?_
 refine AW.loopF (σ := (List Int) × Int) (τ := Nat × Bool × (List AV) × Bool × St) (fun (out28, s35) (z29, f30, e31, o33, s36) => (LR (rI .i64) 1 out28 z29 e31) ∧ (f30 = true ∨ o33 = true) ∧ (HS [] false s s36 [])) (fun (out28, s35) (z29, f30, e31, o33, s36) tm os => ⟨updL tm [(0, (AV.eptr [(AV.int .i64 c1.Stack), (AV.int .i64 c1.Start), (AV.sl z2 f3 e4), (AV.sl z6 f7 e8), (AV.sl z10 f11 e12), (AV.sl z14 f15 e16)] 0)), (3, (AV.sl z29 f30 e31)), (4, (AV.int .i64 s35))], updL os [(3, o33)], s36⟩) ?_ (x := (([] : List Int), 0)) (y := (1, true, [], false, { s with lo := s.n })) h ⟨⟨.inl rfl, .nil⟩, (Or.inl rfl), (HS.sel hH0 [] (by decide))⟩
 clear h
 rintro ⟨out28, s35⟩ ⟨z29, f30, e31, o33, s36⟩ tm os ⟨h32, h34, hH37⟩ ee1 h hL1 hR1
 unfold spec_l08Lost_S1 at h
 dsimp only at h
 refine AW.seq ?_
 refine AW.sr ?_
 refine AOps.p rfl (rfl : _ = (AV.int .i64 s35)) ?_
 refine AOps.p rfl (rfl : _ = (AV.eptr [(AV.int .i64 c1.Stack), (AV.int .i64 c1.Start), (AV.sl z2 f3 e4), (AV.sl z6 f7 e8), (AV.sl z10 f11 e12), (AV.sl z14 f15 e16)] 0)) ?_
 refine AOps.p rfl (rfl : _ = (AV.eptr [(AV.int .i64 c1.Stack), (AV.int .i64 c1.Start), (AV.sl z2 f3 e4), (AV.sl z6 f7 e8), (AV.sl z10 f11 e12), (AV.sl z14 f15 e16)] 0)) ?_
 refine AOps.p rfl (rfl : _ = (AV.eptr [(AV.int .i64 c1.Stack), (AV.int .i64 c1.Start), (AV.sl z2 f3 e4), (AV.sl z6 f7 e8), (AV.sl z10 f11 e12), (AV.sl z14 f15 e16)] 2)) ?_
 refine AOps.ldE (v := (AV.sl z2 f3 e4)) rfl rfl rfl rfl rfl rfl ?_
 refine AOps.p rfl (len_eq h5) ?_
 refine AOps.p rfl (rfl : _ = (AV.bool (decide ((s35 : Int) < (c1.Accept.length : Int))))) ?_
 refine AOps.nilR ?_
 rcases oite h with ⟨hc38, h⟩ | ⟨hc38, h⟩
 ·refine AW.condT (congrArg AV.bool hc38) ?_
  refine AW.skip ?_
  refine AW.seq ?_
  refine AW.block ?_
  refine AW.sr ?_
  refine AOps.p rfl (rfl : _ = (AV.eptr [(AV.int .i64 c1.Stack), (AV.int .i64 c1.Start), (AV.sl z2 f3 e4), (AV.sl z6 f7 e8), (AV.sl z10 f11 e12), (AV.sl z14 f15 e16)] 0)) ?_
  refine AOps.p rfl (rfl : _ = (AV.eptr [(AV.int .i64 c1.Stack), (AV.int .i64 c1.Start), (AV.sl z2 f3 e4), (AV.sl z6 f7 e8), (AV.sl z10 f11 e12), (AV.sl z14 f15 e16)] 0)) ?_
  refine AOps.ldE (v := (AV.agg [(AV.int .i64 c1.Stack), (AV.int .i64 c1.Start), (AV.sl z2 f3 e4), (AV.sl z6 f7 e8), (AV.sl z10 f11 e12), (AV.sl z14 f15 e16)])) rfl rfl rfl rfl rfl rfl ?_
  refine AOps.alloc1 hH37 rfl rfl rfl rfl rfl rfl ?_
  intro b39 s40 hH41
  change HS [] false s s40 [⟨some b39, [(AV.int .i64 0), (AV.int .i64 0), (AV.sl 0 true []), (AV.sl 0 true []), (AV.sl 0 true []), (AV.sl 0 true [])], (fun _ => false)⟩] at hH41
  refine AOps.stB (i := 0) (v := (AV.agg [(AV.int .i64 c1.Stack), (AV.int .i64 c1.Start), (AV.sl z2 f3 e4), (AV.sl z6 f7 e8), (AV.sl z10 f11 e12), (AV.sl z14 f15 e16)])) hH41 rfl rfl rfl rfl rfl rfl rfl rfl rfl (lt_b rfl) (le_b rfl) rfl ?_
  intro w42 s43 h44 h45 hH46
  change HS [] false s s43 [⟨some b39, [(AV.int .i64 c1.Stack), (AV.int .i64 c1.Start), (AV.sl z2 f3 e4), (AV.sl z6 f7 e8), (AV.sl z10 f11 e12), (AV.sl z14 f15 e16)], w42⟩] at hH46
  refine AOps.nilR ?_
  refine AW.sr ?_
  refine AOps.p rfl (rfl : _ = (AV.int .i64 s35)) ?_
  refine AOps.p rfl (rfl : _ = (AV.ptr b39 1)) ?_
  refine AOps.stB (i := 0) (v := (AV.int .i64 s35)) hH46 rfl rfl rfl rfl rfl rfl rfl rfl rfl (lt_b rfl) (le_b rfl) rfl ?_
  intro w47 s48 h49 h50 hH51
  change HS [] false s s48 [⟨some b39, [(AV.int .i64 c1.Stack), (AV.int .i64 s35), (AV.sl z2 f3 e4), (AV.sl z6 f7 e8), (AV.sl z10 f11 e12), (AV.sl z14 f15 e16)], w47⟩] at hH51
  refine AOps.nilR ?_
  refine AW.sr ?_
  obtain ⟨y52, h53, h⟩ := obind h
  refine AOps.callF (g := 37) (args := [(AV.ptr b39 0)]) rfl rfl rfl (spec_l02Used_F1_ok h5 h9 h13 h17 (HS.enterP hH51 [0] [b39] rfl (by decide)) h53 (HS.wf' hH51)) ?_
  intro _ o63 s56 h58
  obtain ⟨h54, w64, h55⟩ := h58
  have hH57 := HS.callP hH51 [0] h55 rfl rfl
  change HS [] false s s56 [⟨some b39, [(AV.int .i64 c1.Stack), (AV.int .i64 s35), (AV.sl z2 f3 e4), (AV.sl z6 f7 e8), (AV.sl z10 f11 e12), (AV.sl z14 f15 e16)], w64⟩] at hH57
  obtain ⟨z59, f60, e61, rfl, h62⟩ := h54
  refine AOps.assignR rfl rfl rfl (rfl : _ = (AV.sl z59 f60 e61)) rfl ?_
  refine AOps.nilR ?_
  refine AW.sr ?_
  refine AOps.p rfl (rfl : _ = (AV.bool false)) ?_
  refine AOps.nilR ?_
  refine AW.seq ?_
  refine AW.sr ?_
  refine AOps.p rfl (rfl : _ = (AV.int .i64 0)) ?_
  refine AOps.nilR ?_
  refine AW.meet (σ := Bool × Bool × St) (fun (some67, o65, s68) tm os => ⟨updL tm [(0, (AV.eptr [(AV.int .i64 c1.Stack), (AV.int .i64 c1.Start), (AV.sl z2 f3 e4), (AV.sl z6 f7 e8), (AV.sl z10 f11 e12), (AV.sl z14 f15 e16)] 0)), (3, (AV.sl z29 f30 e31)), (4, (AV.int .i64 s35)), (7, (AV.bool some67))], updL os [(3, o65)], s68⟩) (fun (some67, o65, s68) => (f30 = true ∨ o65 = true) ∧ (HS [] false s s68 []) ∧ spec_l08Lost_J2 out28 s35 some67 = some ee1) ?_ ?_
  ·rintro ⟨some67, o65, s68⟩ tm os ⟨h66, hH69, h⟩
   unfold spec_l08Lost_J2 at h
   refine AW.sr ?_
   refine AOps.p rfl (rfl : _ = (AV.bool some67)) ?_
   refine AOps.p rfl (rfl : _ = (AV.bool (!some67))) ?_
   refine AOps.nilR ?_
   refine AW.meet (σ := (List Int) × Nat × Bool × (List AV) × Bool × St) (fun (out71, z72, f73, e74, o76, s78) tm os => ⟨updL tm [(0, (AV.eptr [(AV.int .i64 c1.Stack), (AV.int .i64 c1.Start), (AV.sl z2 f3 e4), (AV.sl z6 f7 e8), (AV.sl z10 f11 e12), (AV.sl z14 f15 e16)] 0)), (3, (AV.sl z72 f73 e74)), (4, (AV.int .i64 s35))], updL os [(3, o76)], s78⟩) (fun (out71, z72, f73, e74, o76, s78) => (LR (rI .i64) 1 out71 z72 e74) ∧ (f73 = true ∨ o76 = true) ∧ (HS [] false s s78 []) ∧ spec_l08Lost_J3 s35 out71 = some ee1) ?_ ?_
   ·rintro ⟨out71, z72, f73, e74, o76, s78⟩ tm os ⟨h75, h77, hH79, h⟩
    unfold spec_l08Lost_J3 at h
    refine AW.inBlock ?_
    refine AW.region ?_
    refine AOps.p rfl (rfl : _ = (AV.int .i64 s35)) ?_
    refine AOps.p rfl (rfl : _ = (AV.int .i64 (IntKind.wrap .i64 (s35 + 1)))) ?_
    refine AOps.assignR rfl rfl rfl (rfl : _ = (AV.int .i64 (IntKind.wrap .i64 (s35 + 1)))) rfl ?_
    refine AOps.nilR ?_
    cases h
    exact AW.res [(0, (AV.eptr [(AV.int .i64 c1.Stack), (AV.int .i64 c1.Start), (AV.sl z2 f3 e4), (AV.sl z6 f7 e8), (AV.sl z10 f11 e12), (AV.sl z14 f15 e16)] 0)), (3, (AV.sl z72 f73 e74)), (4, (AV.int .i64 (IntKind.wrap .i64 (s35 + 1))))] [(3, o76)] ⟨rfl, rfl, rfl, trivial⟩ ⟨rfl, trivial⟩ (hL1 _ rfl (z72, f73, e74, o76, s78) _ _ ⟨h75, h77, (HS.sel hH79 [] (by decide))⟩)
   intro KJ80
   rcases oite h with ⟨hc81, h⟩ | ⟨hc81, h⟩
   ·refine AW.condT (congrArg AV.bool hc81) ?_
    refine AW.region ?_
    refine AOps.moveR rfl rfl rfl rfl (rfl : _ = (AV.sl z29 f30 e31)) rfl ?_
    refine AOps.p rfl (rfl : _ = (AV.int .i64 s35)) ?_
    refine AOps.makeR rfl rfl rfl rfl rfl rfl (rfl : _ = (AV.sl 1 true [(AV.int .i64 s35)])) ?_
    obtain ⟨l82, h83, h⟩ := obind h
    obtain ⟨h84, h85⟩ := app_LR h32 (LR.lit (r := rI .i64) (sz := 1) (.cons rfl .nil)) h83
    refine AOps.appL (z := z29) (f := f30) (e := e31) (z' := 1) (f' := true) (e' := [(AV.int .i64 s35)]) rfl rfl rfl rfl rfl rfl rfl (appSrc_sl (LR.z (LR.lit (r := rI .i64) (sz := 1) (.cons rfl .nil))) rfl) (LR.z h32) ⟨by decide, by decide, rfl, rfl⟩ rfl rfl h85 (own_tmp h66 rfl rfl) ?_
    refine AOps.assignR rfl rfl rfl (rfl : _ = (AV.sl 1 false (e31 ++ [(AV.int .i64 s35)]))) rfl ?_
    refine AOps.nilR ?_
    exact AW.res [(0, (AV.eptr [(AV.int .i64 c1.Stack), (AV.int .i64 c1.Start), (AV.sl z2 f3 e4), (AV.sl z6 f7 e8), (AV.sl z10 f11 e12), (AV.sl z14 f15 e16)] 0)), (3, (AV.sl 1 false (e31 ++ [(AV.int .i64 s35)]))), (4, (AV.int .i64 s35))] [(3, true)] ⟨rfl, rfl, rfl, trivial⟩ ⟨rfl, trivial⟩ (KJ80 (l82, 1, false, (e31 ++ [(AV.int .i64 s35)]), true, s68) _ _ ⟨h84, (Or.inr rfl), (HS.sel hH69 [] (by decide)), h⟩)
   refine AW.condF (congrArg AV.bool hc81) ?_
   refine AW.skip ?_
   exact AW.res [(0, (AV.eptr [(AV.int .i64 c1.Stack), (AV.int .i64 c1.Start), (AV.sl z2 f3 e4), (AV.sl z6 f7 e8), (AV.sl z10 f11 e12), (AV.sl z14 f15 e16)] 0)), (3, (AV.sl z29 f30 e31)), (4, (AV.int .i64 s35))] [(3, o65)] ⟨rfl, rfl, rfl, trivial⟩ ⟨rfl, trivial⟩ (KJ80 (out28, z29, f30, e31, o65, s68) _ _ ⟨h32, h66, (HS.sel hH69 [] (by decide)), h⟩)
  intro KJ70
  refine AW.block ?_
  refine AW.res [(0, (AV.eptr [(AV.int .i64 c1.Stack), (AV.int .i64 c1.Start), (AV.sl z2 f3 e4), (AV.sl z6 f7 e8), (AV.sl z10 f11 e12), (AV.sl z14 f15 e16)] 0)), (3, (AV.sl z29 f30 e31)), (4, (AV.int .i64 s35)), (6, (AV.sl z59 f60 e61)), (7, (AV.bool false)), (8, (AV.int .i64 0))] [(3, o33)] ⟨rfl, rfl, rfl, rfl, rfl, rfl, trivial⟩ ⟨rfl, trivial⟩ ?_
  refine AW.loopF (σ := Bool × Int) (τ := Bool × St) (fun (some88, i89) (o86, s90) => (f30 = true ∨ o86 = true) ∧ (HS [] false s s90 [])) (fun (some88, i89) (o86, s90) tm os => ⟨updL tm [(0, (AV.eptr [(AV.int .i64 c1.Stack), (AV.int .i64 c1.Start), (AV.sl z2 f3 e4), (AV.sl z6 f7 e8), (AV.sl z10 f11 e12), (AV.sl z14 f15 e16)] 0)), (3, (AV.sl z29 f30 e31)), (4, (AV.int .i64 s35)), (6, (AV.sl z59 f60 e61)), (7, (AV.bool some88)), (8, (AV.int .i64 i89))], updL os [(3, o86)], s90⟩) ?_ (x := (false, 0)) (y := (o33, s56)) h ⟨h34, (HS.sel hH57 [] (by decide))⟩
  clear h
  rintro ⟨some88, i89⟩ ⟨o86, s90⟩ tm os ⟨h87, hH91⟩ ee2 h hL2 hR2
  unfold spec_l08Lost_S2 at h
  dsimp only at h
  refine AW.seq ?_
  refine AW.sr ?_
  refine AOps.p rfl (rfl : _ = (AV.int .i64 i89)) ?_
  refine AOps.p rfl (rfl : _ = (AV.sl z59 f60 e61)) ?_
  refine AOps.p rfl (len_eq h62) ?_
  refine AOps.p rfl (rfl : _ = (AV.bool (decide ((i89 : Int) < (y52.length : Int))))) ?_
  refine AOps.nilR ?_
  rcases oite h with ⟨hc92, h⟩ | ⟨hc92, h⟩
  ·refine AW.condT (congrArg AV.bool hc92) ?_
   refine AW.skip ?_
   refine AW.seq ?_
   refine AW.block ?_
   refine AW.region ?_
   refine AOps.p rfl (rfl : _ = (AV.bool some88)) ?_
   refine AOps.p rfl (rfl : _ = (AV.bool some88)) ?_
   obtain ⟨b94, hb, h⟩ := obind h
   refine AOps.split 11 (fun f' => ∃ tm' os', f' = ⟨updL tm' [(0, (AV.eptr [(AV.int .i64 c1.Stack), (AV.int .i64 c1.Start), (AV.sl z2 f3 e4), (AV.sl z6 f7 e8), (AV.sl z10 f11 e12), (AV.sl z14 f15 e16)] 0)), (3, (AV.sl z29 f30 e31)), (4, (AV.int .i64 s35)), (6, (AV.sl z59 f60 e61)), (8, (AV.int .i64 i89)), (43, (AV.bool b94))], updL os' [(3, o86)], s90⟩) ?_ ?_
   ·rcases oite hb with ⟨hc93, hb⟩ | ⟨hc93, hb⟩
    ·refine AOps.know (d := 32) rfl hc93 ?_
     refine AOps.skipR rfl rfl ?_
     refine AOps.skipR rfl rfl ?_
     refine AOps.skipR rfl rfl ?_
     refine AOps.skipR rfl rfl ?_
     refine AOps.skipR rfl rfl ?_
     refine AOps.skipR rfl rfl ?_
     refine AOps.skipR rfl rfl ?_
     refine AOps.skipR rfl rfl ?_
     refine AOps.skipR rfl rfl ?_
     refine AOps.skipR rfl rfl ?_
     refine AOps.p rfl (rfl : _ = (AV.bool true)) ?_
     refine AOps.resR [(0, (AV.eptr [(AV.int .i64 c1.Stack), (AV.int .i64 c1.Start), (AV.sl z2 f3 e4), (AV.sl z6 f7 e8), (AV.sl z10 f11 e12), (AV.sl z14 f15 e16)] 0)), (3, (AV.sl z29 f30 e31)), (4, (AV.int .i64 s35)), (6, (AV.sl z59 f60 e61)), (8, (AV.int .i64 i89)), (43, (AV.bool b94))] [(3, o86)] ?_ ?_ _ ⟨_, _, rfl⟩
     ·exact ⟨rfl, rfl, rfl, rfl, rfl, congrArg AV.bool (Option.some.inj hb), trivial⟩
     exact ⟨rfl, trivial⟩
    ·have h := hb
     refine AOps.know (d := 32) rfl hc93 ?_
     refine AOps.p rfl (rfl : _ = (AV.eptr [(AV.int .i64 c1.Stack), (AV.int .i64 c1.Start), (AV.sl z2 f3 e4), (AV.sl z6 f7 e8), (AV.sl z10 f11 e12), (AV.sl z14 f15 e16)] 0)) ?_
     refine AOps.p rfl (rfl : _ = (AV.eptr [(AV.int .i64 c1.Stack), (AV.int .i64 c1.Start), (AV.sl z2 f3 e4), (AV.sl z6 f7 e8), (AV.sl z10 f11 e12), (AV.sl z14 f15 e16)] 0)) ?_
     refine AOps.p rfl (rfl : _ = (AV.eptr [(AV.int .i64 c1.Stack), (AV.int .i64 c1.Start), (AV.sl z2 f3 e4), (AV.sl z6 f7 e8), (AV.sl z10 f11 e12), (AV.sl z14 f15 e16)] 2)) ?_
     refine AOps.ldE (v := (AV.sl z2 f3 e4)) rfl rfl rfl rfl rfl rfl ?_
     refine AOps.p rfl (rfl : _ = (AV.sl z59 f60 e61)) ?_
     refine AOps.p rfl (rfl : _ = (AV.int .i64 i89)) ?_
     obtain ⟨x95, h96, h⟩ := obind h
     obtain ⟨v99, h97, h98⟩ := idx_sl h62 h96
     cases h97
     refine AOps.pureR rfl rfl rfl h98 rfl (rfl : _ = (AV.eptr [(AV.int .i64 x95)] 0)) ?_
     refine AOps.ldE (v := (AV.int .i64 x95)) rfl rfl rfl rfl rfl rfl ?_
     obtain ⟨x100, h101, h⟩ := obind h
     obtain ⟨v104, h102, h103⟩ := idx_sl h5 h101
     cases h102
     refine AOps.pureR rfl rfl rfl h103 rfl (rfl : _ = (AV.eptr [(AV.bool x100)] 0)) ?_
     refine AOps.ldE (v := (AV.bool x100)) rfl rfl rfl rfl rfl rfl ?_
     refine AOps.p rfl (rfl : _ = (AV.bool x100)) ?_
     refine AOps.resR [(0, (AV.eptr [(AV.int .i64 c1.Stack), (AV.int .i64 c1.Start), (AV.sl z2 f3 e4), (AV.sl z6 f7 e8), (AV.sl z10 f11 e12), (AV.sl z14 f15 e16)] 0)), (3, (AV.sl z29 f30 e31)), (4, (AV.int .i64 s35)), (6, (AV.sl z59 f60 e61)), (8, (AV.int .i64 i89)), (43, (AV.bool b94))] [(3, o86)] ?_ ?_ _ ⟨_, _, rfl⟩
     ·exact ⟨rfl, rfl, rfl, rfl, rfl, congrArg AV.bool (Option.some.inj h), trivial⟩
     exact ⟨rfl, trivial⟩
   rintro _ ⟨tm, os, rfl⟩
   refine AOps.assignR rfl rfl rfl (rfl : _ = (AV.bool b94)) rfl ?_
   refine AOps.nilR ?_
   refine AW.inBlock ?_
   refine AW.region ?_
   refine AOps.p rfl (rfl : _ = (AV.int .i64 i89)) ?_
   refine AOps.p rfl (rfl : _ = (AV.int .i64 (IntKind.wrap .i64 (i89 + 1)))) ?_
   refine AOps.assignR rfl rfl rfl (rfl : _ = (AV.int .i64 (IntKind.wrap .i64 (i89 + 1)))) rfl ?_
   refine AOps.nilR ?_
   cases h
   exact AW.res [(0, (AV.eptr [(AV.int .i64 c1.Stack), (AV.int .i64 c1.Start), (AV.sl z2 f3 e4), (AV.sl z6 f7 e8), (AV.sl z10 f11 e12), (AV.sl z14 f15 e16)] 0)), (3, (AV.sl z29 f30 e31)), (4, (AV.int .i64 s35)), (6, (AV.sl z59 f60 e61)), (7, (AV.bool b94)), (8, (AV.int .i64 (IntKind.wrap .i64 (i89 + 1))))] [(3, o86)] ⟨rfl, rfl, rfl, rfl, rfl, rfl, trivial⟩ ⟨rfl, trivial⟩ (hL2 _ rfl (o86, s90) _ _ ⟨h87, (HS.sel hH91 [] (by decide))⟩)
  refine AW.condF (congrArg AV.bool hc92) ?_
  refine AW.exit rfl ?_
  obtain ⟨r105, hm, hx⟩ := omap h
  clear h
  subst hx
  have hx := hR2 _ rfl
  rw [hx] at hm
  have h := hm
  exact AW.res [(0, (AV.eptr [(AV.int .i64 c1.Stack), (AV.int .i64 c1.Start), (AV.sl z2 f3 e4), (AV.sl z6 f7 e8), (AV.sl z10 f11 e12), (AV.sl z14 f15 e16)] 0)), (3, (AV.sl z29 f30 e31)), (4, (AV.int .i64 s35)), (7, (AV.bool some88))] [(3, o86)] ⟨rfl, rfl, rfl, rfl, trivial⟩ ⟨rfl, trivial⟩ (KJ70 (some88, o86, s90) _ _ ⟨h87, (HS.sel hH91 [] (by decide)), h⟩)
 refine AW.condF (congrArg AV.bool hc38) ?_
 refine AW.exit rfl ?_
 obtain ⟨r106, hm, hx⟩ := omap h
 clear h
 subst hx
 have hx := hR1 _ rfl
 rw [hx] at hm
 have h := hm
 exact AW.res [(3, (AV.sl z29 f30 e31))] [(3, o33)] ⟨rfl, trivial⟩ ⟨rfl, trivial⟩ (KJ27 (out28, z29, f30, e31, o33, s36) _ _ ⟨h32, h34, (HS.sel hH37 [] (by decide)), h⟩)
theorem spec_LostStates_ok {c1 : Checker} {z2 : Nat} {f3 : Bool} {e4 : List AV} {z6 : Nat} {f7 : Bool} {e8 : List AV} {z10 : Nat} {f11 : Bool} {e12 : List AV} {z14 : Nat} {f15 : Bool} {e16 : List AV} {s : St} (h5 : LR rB 1 c1.Accept z2 e4) (h9 : LR (rL rPush 2) 1 c1.Call z6 e8) (h13 : LR (rL (rL (rI .i64) 1) 1) 1 c1.Return z10 e12) (h17 : LR (rL (rI .i64) 1) 1 c1.Inner z14 e16) {r : (List Int) × Int} (h : spec_LostStates c1 = some r) (hs : WF s) : ACall Cf 5 [(AV.agg [(AV.int .i64 c1.Stack), (AV.int .i64 c1.Start), (AV.sl z2 f3 e4), (AV.sl z6 f7 e8), (AV.sl z10 f11 e12), (AV.sl z14 f15 e16)])] s fun v _ s' => (fun x => rT [(rL (rI .i64) 1) x.1, (rI .i64) x.2]) r v ∧ s' = s := by
 refine ACall.pure rfl rfl rfl (.T (.cons (.L fun _ => .I) (.cons .I .nil))) ?_
 have hWF := hs.lo'
 unfold spec_LostStates at h
 refine AW.sr ?_
 refine AOps.makeR rfl rfl rfl rfl rfl rfl (rfl : _ = (AV.eptr [(AV.int .i64 c1.Stack), (AV.int .i64 c1.Start), (AV.sl z2 f3 e4), (AV.sl z6 f7 e8), (AV.sl z10 f11 e12), (AV.sl z14 f15 e16)] 0)) ?_
 refine AOps.p rfl (rfl : _ = (AV.sl 0 true [])) ?_
 refine AOps.p rfl (rfl : _ = (AV.int .i64 0)) ?_
 refine AOps.nilR ?_
 refine AW.seq ?_
 refine AW.sr ?_
 obtain ⟨y18, h19, h⟩ := obind h
 refine AOps.callP (g := 17) (args := [(AV.eptr [(AV.int .i64 c1.Stack), (AV.int .i64 c1.Start), (AV.sl z2 f3 e4), (AV.sl z6 f7 e8), (AV.sl z10 f11 e12), (AV.sl z14 f15 e16)] 0)]) (p := (rB) y18) rfl rfl rfl (spec_l02Ok_ok h5 h9 h13 h17 h19 hWF) ?_
 intro _ o21 h20
 cases h20
 refine AOps.p rfl (rfl : _ = (AV.bool (!y18))) ?_
 refine AOps.nilR ?_
 rcases oite h with ⟨hc22, h⟩ | ⟨hc22, h⟩
 ·refine AW.condT (congrArg AV.bool hc22) ?_
  refine AW.sr ?_
  refine AOps.makeR rfl rfl rfl rfl rfl rfl (rfl : _ = (AV.sl 1 true [])) ?_
  refine AOps.assignR rfl rfl rfl (rfl : _ = (AV.sl 1 true [])) rfl ?_
  refine AOps.p rfl (rfl : _ = (AV.int .i64 1)) ?_
  refine AOps.nilR ?_
  cases h
  exact AW.ret ⟨rfl, _, _, rfl, ⟨_, rfl, (.cons ⟨_, _, _, rfl, ⟨.inl rfl, .nil⟩⟩ (.cons rfl .nil))⟩⟩
 refine AW.condF (congrArg AV.bool hc22) ?_
 refine AW.skip ?_
 refine AW.sr ?_
 obtain ⟨y23, h24, h⟩ := obind h
 refine AOps.callP (g := 18) (args := [(AV.eptr [(AV.int .i64 c1.Stack), (AV.int .i64 c1.Start), (AV.sl z2 f3 e4), (AV.sl z6 f7 e8), (AV.sl z10 f11 e12), (AV.sl z14 f15 e16)] 0)]) (p := (rL (rI .i64) 1) y23) rfl rfl rfl (spec_l08Lost_ok h5 h9 h13 h17 h24 hWF) ?_
 intro _ o30 h25
 obtain ⟨z26, f27, e28, rfl, h29⟩ := h25
 refine AOps.assignR rfl rfl rfl (rfl : _ = (AV.sl z26 f27 e28)) rfl ?_
 refine AOps.p rfl (rfl : _ = (AV.int .i64 0)) ?_
 refine AOps.nilR ?_
 cases h
 exact AW.ret ⟨rfl, _, _, rfl, ⟨_, rfl, (.cons ⟨_, _, _, rfl, h29⟩ (.cons rfl .nil))⟩⟩
theorem laws_toBoolS_K0_ok {a1 : List Bool} {z2 : Nat} {f3 : Bool} {e4 : List AV} {s : St} (h5 : LR rB 1 a1 z2 e4) {r : (List Bool)} (h : laws_toBoolS_K0 a1 = some r) (hs : WF s) : ACall Cf 19 [(AV.sl z2 f3 e4)] s (fun v _ s' => ∃ (h1' : AV) (k2' : KT) (Ls' : List (List BX)), v = h1' ∧ HS [] true s s' (([] : List BX) ++ List.flatten Ls') ∧ AllG [OS oE4 h1' k2' r] Ls' ∧ h1'.one = true) true := by
 refine ACall.keepR rfl rfl rfl ?_
 have hH0 := HS.g0 (HS.initK hs)
 have hG0 := AllG.nil
 have hl : LoOK [] true s := LoOK.nil
 unfold laws_toBoolS_K0 at h
 refine AW.sr ?_
 refine AOps.p rfl (rfl : _ = (AV.sl 0 true [])) ?_
 refine AOps.nilR ?_
 refine AW.sr ?_
 refine AOps.p rfl (rfl : _ = (AV.sl z2 f3 e4)) ?_
 refine AOps.p rfl (len_eq h5) ?_
 obtain ⟨l6, h7, h⟩ := obind h
 refine AOps.mkO (e := oE4) (x0 := (false : Bool)) (fun _ => AV.undef) hH0 hG0 rfl rfl rfl rfl rfl rfl rfl ⟨rfl, rfl, by decide⟩ h7 ⟨rfl, rfl⟩ (fun _ => ⟨⟨(AV.bool false), rfl, rfl⟩, rfl⟩) rfl ?_
 intro h8 k10 Ls11 s12 ho9 hG13 hH14
 change HS [] true s s12 (([] : List BX) ++ List.flatten Ls11) at hH14
 change AllG [OS oE4 h8 k10 l6] Ls11 at hG13
 refine AOps.assignR rfl rfl rfl (rfl : _ = h8) rfl ?_
 refine AOps.nilR ?_
 refine AW.seq ?_
 refine AW.sr ?_
 refine AOps.p rfl (rfl : _ = (AV.int .i64 0)) ?_
 refine AOps.nilR ?_
 refine AW.meet (σ := (List Bool) × St × (List (List BX))) (fun (out15, s16, Ls17) tm os => ⟨updL tm [(3, h8)], updL os [], s16⟩) (fun (out15, s16, Ls17) => (HS [] true s s16 (([] : List BX) ++ List.flatten Ls17)) ∧ (AllG [OS oE4 h8 k10 out15] Ls17) ∧ laws_toBoolS_K0_J1 out15 = some r) ?_ ?_
 ·rintro ⟨out15, s16, Ls17⟩ tm os ⟨hH18, hG19, h⟩
  unfold laws_toBoolS_K0_J1 at h
  refine AW.sr ?_
  refine AOps.p rfl (rfl : _ = h8) ?_
  refine AOps.assignR rfl rfl rfl (rfl : _ = h8) rfl ?_
  refine AOps.nilR ?_
  cases h
  exact AW.ret ⟨_, _, rfl, ⟨h8, k10, Ls17, rfl, hH18, hG19, ho9⟩⟩
 intro KJ20
 refine AW.block ?_
 refine AW.res [(0, (AV.sl z2 f3 e4)), (3, h8), (4, (AV.int .i64 0))] [] ⟨rfl, rfl, rfl, trivial⟩ trivial ?_
 refine AW.loopF (σ := (List Bool) × Int) (τ := St × (List (List BX))) (fun (out21, i22) (s23, Ls24) => (HS [] true s s23 (([] : List BX) ++ List.flatten Ls24)) ∧ (AllG [OS oE4 h8 k10 out21] Ls24)) (fun (out21, i22) (s23, Ls24) tm os => ⟨updL tm [(0, (AV.sl z2 f3 e4)), (3, h8), (4, (AV.int .i64 i22))], updL os [], s23⟩) ?_ (x := (l6, 0)) (y := (s12, Ls11)) h ⟨hH14, hG13⟩
 clear h
 rintro ⟨out21, i22⟩ ⟨s23, Ls24⟩ tm os ⟨hH25, hG26⟩ ee1 h hL1 hR1
 unfold laws_toBoolS_K0_S1 at h
 dsimp only at h
 refine AW.seq ?_
 refine AW.sr ?_
 refine AOps.p rfl (rfl : _ = (AV.int .i64 i22)) ?_
 refine AOps.p rfl (rfl : _ = (AV.sl z2 f3 e4)) ?_
 refine AOps.p rfl (len_eq h5) ?_
 refine AOps.p rfl (rfl : _ = (AV.bool (decide ((i22 : Int) < (a1.length : Int))))) ?_
 refine AOps.nilR ?_
 rcases oite h with ⟨hc27, h⟩ | ⟨hc27, h⟩
 ·refine AW.condT (congrArg AV.bool hc27) ?_
  refine AW.skip ?_
  refine AW.seq ?_
  refine AW.block ?_
  refine AW.region ?_
  refine AOps.p rfl (rfl : _ = h8) ?_
  refine AOps.p rfl (rfl : _ = (AV.int .i64 i22)) ?_
  refine AOps.p rfl (rfl : _ = (AV.sl z2 f3 e4)) ?_
  refine AOps.p rfl (rfl : _ = (AV.int .i64 i22)) ?_
  obtain ⟨x28, h29, h⟩ := obind h
  obtain ⟨v32, h30, h31⟩ := idx_sl h5 h29
  cases h30
  refine AOps.pureR rfl rfl rfl h31 rfl (rfl : _ = (AV.eptr [(AV.bool x28)] 0)) ?_
  refine AOps.ldE (v := (AV.bool x28)) rfl rfl rfl rfl rfl rfl ?_
  obtain ⟨x35, h36, h⟩ := obind h
  refine AOps.idxO (j := 0) hG26 rfl Sub.here h36 rfl rfl rfl rfl rfl rfl rfl rfl rfl ?_
  intro b33 hb34
  refine AOps.stO (j := 0) (q := 0) (v := (AV.bool x28)) (y' := x28) hH25 hG26 hl rfl Sub.here h36 hb34 rfl rfl rfl rfl rfl rfl rfl rfl (lt_b rfl) (le_b rfl) rfl (fun c B hc => oLeaf_set hc rfl) ?_
  intro Ls37 s38 hG39 hH40
  change HS [] true s s38 (([] : List BX) ++ List.flatten Ls37) at hH40
  change AllG [OS oE4 h8 k10 (out21.set (Int.toNat i22) x28)] Ls37 at hG39
  refine AOps.nilR ?_
  refine AW.inBlock ?_
  refine AW.region ?_
  refine AOps.p rfl (rfl : _ = (AV.int .i64 i22)) ?_
  refine AOps.p rfl (rfl : _ = (AV.int .i64 (IntKind.wrap .i64 (i22 + 1)))) ?_
  refine AOps.assignR rfl rfl rfl (rfl : _ = (AV.int .i64 (IntKind.wrap .i64 (i22 + 1)))) rfl ?_
  refine AOps.nilR ?_
  cases h
  exact AW.res [(0, (AV.sl z2 f3 e4)), (3, h8), (4, (AV.int .i64 (IntKind.wrap .i64 (i22 + 1))))] [] ⟨rfl, rfl, rfl, trivial⟩ trivial (hL1 _ rfl (s38, Ls37) _ _ ⟨hH40, hG39⟩)
 refine AW.condF (congrArg AV.bool hc27) ?_
 refine AW.exit rfl ?_
 obtain ⟨r41, hm, hx⟩ := omap h
 clear h
 subst hx
 have hx := hR1 _ rfl
 rw [hx] at hm
 have h := hm
 exact AW.res [(3, h8)] [] ⟨rfl, trivial⟩ trivial (KJ20 (out21, s23, Ls24) _ _ ⟨hH25, hG26, h⟩)
theorem laws_toPushS_K0_ok {a1 : List Push} {z2 : Nat} {f3 : Bool} {e4 : List AV} {s : St} (h5 : LR rPush 2 a1 z2 e4) {r : (List Push)} (h : laws_toPushS_K0 a1 = some r) (hs : WF s) : ACall Cf 38 [(AV.sl z2 f3 e4)] s (fun v _ s' => ∃ (h1' : AV) (k2' : KT) (Ls' : List (List BX)), v = h1' ∧ HS [] true s s' (([] : List BX) ++ List.flatten Ls') ∧ AllG [OS oE65 h1' k2' r] Ls' ∧ h1'.one = true) true := by
 refine ACall.keepR rfl rfl rfl ?_
 have hH0 := HS.g0 (HS.initK hs)
 have hG0 := AllG.nil
 have hl : LoOK [] true s := LoOK.nil
 unfold laws_toPushS_K0 at h
 refine AW.sr ?_
 refine AOps.p rfl (rfl : _ = (AV.sl 0 true [])) ?_
 refine AOps.nilR ?_
 refine AW.sr ?_
 refine AOps.p rfl (rfl : _ = (AV.sl z2 f3 e4)) ?_
 refine AOps.p rfl (len_eq h5) ?_
 obtain ⟨l6, h7, h⟩ := obind h
 refine AOps.mkO (e := oE65) (x0 := ((⟨0, 0⟩ : Push) : Push)) (fun _ => AV.undef) hH0 hG0 rfl rfl rfl rfl rfl rfl rfl ⟨rfl, rfl, by decide⟩ h7 ⟨rfl, rfl⟩ (fun _ => ⟨⟨(AV.agg [(AV.int .i64 0), (AV.int .i64 0)]), ⟨_, rfl, (.cons rfl (.cons rfl .nil))⟩, rfl⟩, rfl⟩) rfl ?_
 intro h8 k10 Ls11 s12 ho9 hG13 hH14
 change HS [] true s s12 (([] : List BX) ++ List.flatten Ls11) at hH14
 change AllG [OS oE65 h8 k10 l6] Ls11 at hG13
 refine AOps.assignR rfl rfl rfl (rfl : _ = h8) rfl ?_
 refine AOps.nilR ?_
 refine AW.seq ?_
 refine AW.sr ?_
 refine AOps.p rfl (rfl : _ = (AV.int .i64 0)) ?_
 refine AOps.nilR ?_
 refine AW.meet (σ := (List Push) × St × (List (List BX))) (fun (out15, s16, Ls17) tm os => ⟨updL tm [(3, h8)], updL os [], s16⟩) (fun (out15, s16, Ls17) => (HS [] true s s16 (([] : List BX) ++ List.flatten Ls17)) ∧ (AllG [OS oE65 h8 k10 out15] Ls17) ∧ laws_toPushS_K0_J1 out15 = some r) ?_ ?_
 ·rintro ⟨out15, s16, Ls17⟩ tm os ⟨hH18, hG19, h⟩
  unfold laws_toPushS_K0_J1 at h
  refine AW.sr ?_
  refine AOps.p rfl (rfl : _ = h8) ?_
  refine AOps.assignR rfl rfl rfl (rfl : _ = h8) rfl ?_
  refine AOps.nilR ?_
  cases h
  exact AW.ret ⟨_, _, rfl, ⟨h8, k10, Ls17, rfl, hH18, hG19, ho9⟩⟩
 intro KJ20
 refine AW.block ?_
 refine AW.res [(0, (AV.sl z2 f3 e4)), (3, h8), (4, (AV.int .i64 0))] [] ⟨rfl, rfl, rfl, trivial⟩ trivial ?_
 refine AW.loopF (σ := (List Push) × Int) (τ := St × (List (List BX))) (fun (out21, i22) (s23, Ls24) => (HS [] true s s23 (([] : List BX) ++ List.flatten Ls24)) ∧ (AllG [OS oE65 h8 k10 out21] Ls24)) (fun (out21, i22) (s23, Ls24) tm os => ⟨updL tm [(0, (AV.sl z2 f3 e4)), (3, h8), (4, (AV.int .i64 i22))], updL os [], s23⟩) ?_ (x := (l6, 0)) (y := (s12, Ls11)) h ⟨hH14, hG13⟩
 clear h
 rintro ⟨out21, i22⟩ ⟨s23, Ls24⟩ tm os ⟨hH25, hG26⟩ ee1 h hL1 hR1
 unfold laws_toPushS_K0_S1 at h
 dsimp only at h
 refine AW.seq ?_
 refine AW.sr ?_
 refine AOps.p rfl (rfl : _ = (AV.int .i64 i22)) ?_
 refine AOps.p rfl (rfl : _ = (AV.sl z2 f3 e4)) ?_
 refine AOps.p rfl (len_eq h5) ?_
 refine AOps.p rfl (rfl : _ = (AV.bool (decide ((i22 : Int) < (a1.length : Int))))) ?_
 refine AOps.nilR ?_
 rcases oite h with ⟨hc27, h⟩ | ⟨hc27, h⟩
 ·refine AW.condT (congrArg AV.bool hc27) ?_
  refine AW.skip ?_
  refine AW.seq ?_
  refine AW.block ?_
  refine AW.region ?_
  refine AOps.p rfl (rfl : _ = h8) ?_
  refine AOps.p rfl (rfl : _ = (AV.int .i64 i22)) ?_
  refine AOps.p rfl (rfl : _ = (AV.sl z2 f3 e4)) ?_
  refine AOps.p rfl (rfl : _ = (AV.int .i64 i22)) ?_
  obtain ⟨x28, h29, h⟩ := obind h
  obtain ⟨v32, h30, h31⟩ := idx_sl h5 h29
  obtain ⟨_, rfl, h33⟩ := h30
  obtain ⟨_, _, rfl, h34, h35⟩ := Cs_cons h33
  cases h34
  obtain ⟨_, _, rfl, h36, h37⟩ := Cs_cons h35
  cases h36
  cases Cs_nil h37
  refine AOps.pureR rfl rfl rfl h31 rfl (rfl : _ = (AV.eptr [(AV.int .i64 x28.To), (AV.int .i64 x28.Put)] 0)) ?_
  refine AOps.ldE (v := (AV.agg [(AV.int .i64 x28.To), (AV.int .i64 x28.Put)])) rfl rfl rfl rfl rfl rfl ?_
  obtain ⟨y38, h39, h⟩ := obind h
  refine AOps.callP (g := 58) (args := [(AV.agg [(AV.int .i64 x28.To), (AV.int .i64 x28.Put)])]) (p := (rPush) y38) rfl rfl rfl (laws_toPush_ok  h39 (HS.wf' hH25)) ?_
  intro _ o46 h40
  obtain ⟨_, rfl, h41⟩ := h40
  obtain ⟨_, _, rfl, h42, h43⟩ := Cs_cons h41
  cases h42
  obtain ⟨_, _, rfl, h44, h45⟩ := Cs_cons h43
  cases h44
  cases Cs_nil h45
  obtain ⟨x49, h50, h⟩ := obind h
  refine AOps.idxO (j := 0) hG26 rfl Sub.here h50 rfl rfl rfl rfl rfl rfl rfl rfl rfl ?_
  intro b47 hb48
  refine AOps.stO (j := 0) (q := 0) (v := (AV.agg [(AV.int .i64 y38.To), (AV.int .i64 y38.Put)])) (y' := y38) hH25 hG26 hl rfl Sub.here h50 hb48 rfl rfl rfl rfl rfl rfl rfl rfl (lt_b rfl) (le_b rfl) rfl (fun c B hc => oLeaf_set hc ⟨_, rfl, (.cons rfl (.cons rfl .nil))⟩) ?_
  intro Ls51 s52 hG53 hH54
  change HS [] true s s52 (([] : List BX) ++ List.flatten Ls51) at hH54
  change AllG [OS oE65 h8 k10 (out21.set (Int.toNat i22) y38)] Ls51 at hG53
  refine AOps.nilR ?_
  refine AW.inBlock ?_
  refine AW.region ?_
  refine AOps.p rfl (rfl : _ = (AV.int .i64 i22)) ?_
  refine AOps.p rfl (rfl : _ = (AV.int .i64 (IntKind.wrap .i64 (i22 + 1)))) ?_
  refine AOps.assignR rfl rfl rfl (rfl : _ = (AV.int .i64 (IntKind.wrap .i64 (i22 + 1)))) rfl ?_
  refine AOps.nilR ?_
  cases h
  exact AW.res [(0, (AV.sl z2 f3 e4)), (3, h8), (4, (AV.int .i64 (IntKind.wrap .i64 (i22 + 1))))] [] ⟨rfl, rfl, rfl, trivial⟩ trivial (hL1 _ rfl (s52, Ls51) _ _ ⟨hH54, hG53⟩)
 refine AW.condF (congrArg AV.bool hc27) ?_
 refine AW.exit rfl ?_
 obtain ⟨r55, hm, hx⟩ := omap h
 clear h
 subst hx
 have hx := hR1 _ rfl
 rw [hx] at hm
 have h := hm
 exact AW.res [(3, h8)] [] ⟨rfl, trivial⟩ trivial (KJ20 (out21, s23, Ls24) _ _ ⟨hH25, hG26, h⟩)
theorem laws_toPushSS_K0_ok {a1 : List (List Push)} {z2 : Nat} {f3 : Bool} {e4 : List AV} {s : St} (h5 : LR (rL rPush 2) 1 a1 z2 e4) {r : (List (List Push))} (h : laws_toPushSS_K0 a1 = some r) (hs : WF s) : ACall Cf 20 [(AV.sl z2 f3 e4)] s (fun v _ s' => ∃ (h1' : AV) (k2' : KT) (Ls' : List (List BX)), v = h1' ∧ HS [] true s s' (([] : List BX) ++ List.flatten Ls') ∧ AllG [OS oE62 h1' k2' r] Ls' ∧ h1'.one = true) true := by
 refine ACall.keepR rfl rfl rfl ?_
 have hH0 := HS.g0 (HS.initK hs)
 have hG0 := AllG.nil
 have hl : LoOK [] true s := LoOK.nil
 unfold laws_toPushSS_K0 at h
 refine AW.sr ?_
 refine AOps.p rfl (rfl : _ = (AV.sl 0 true [])) ?_
 refine AOps.nilR ?_
 refine AW.sr ?_
 refine AOps.p rfl (rfl : _ = (AV.sl z2 f3 e4)) ?_
 refine AOps.p rfl (len_eq h5) ?_
 obtain ⟨l6, h7, h⟩ := obind h
 refine AOps.mkO (e := oE62) (x0 := (([] : List Push) : List Push)) (fun _ => AV.sl 0 true []) hH0 hG0 rfl rfl rfl rfl rfl rfl rfl ⟨rfl, rfl, by decide⟩ h7 ⟨rfl, rfl⟩ (fun _ => ⟨rfl, OS.nil (Or.inr rfl)⟩) rfl ?_
 intro h8 k10 Ls11 s12 ho9 hG13 hH14
 change HS [] true s s12 (([] : List BX) ++ List.flatten Ls11) at hH14
 change AllG [OS oE62 h8 k10 l6] Ls11 at hG13
 refine AOps.assignR rfl rfl rfl (rfl : _ = h8) rfl ?_
 refine AOps.nilR ?_
 refine AW.seq ?_
 refine AW.sr ?_
 refine AOps.p rfl (rfl : _ = (AV.int .i64 0)) ?_
 refine AOps.nilR ?_
 refine AW.meet (σ := (List (List Push)) × KT × St × (List (List BX))) (fun (out15, k16, s17, Ls18) tm os => ⟨updL tm [(3, h8)], updL os [], s17⟩) (fun (out15, k16, s17, Ls18) => (HS [] true s s17 (([] : List BX) ++ List.flatten Ls18)) ∧ (AllG [OS oE62 h8 k16 out15] Ls18) ∧ laws_toPushSS_K0_J1 out15 = some r) ?_ ?_
 ·rintro ⟨out15, k16, s17, Ls18⟩ tm os ⟨hH19, hG20, h⟩
  unfold laws_toPushSS_K0_J1 at h
  refine AW.sr ?_
  refine AOps.p rfl (rfl : _ = h8) ?_
  refine AOps.assignR rfl rfl rfl (rfl : _ = h8) rfl ?_
  refine AOps.nilR ?_
  cases h
  exact AW.ret ⟨_, _, rfl, ⟨h8, k16, Ls18, rfl, hH19, hG20, ho9⟩⟩
 intro KJ21
 refine AW.block ?_
 refine AW.res [(0, (AV.sl z2 f3 e4)), (3, h8), (4, (AV.int .i64 0))] [] ⟨rfl, rfl, rfl, trivial⟩ trivial ?_
 refine AW.loopF (σ := (List (List Push)) × Int) (τ := KT × St × (List (List BX))) (fun (out22, i24) (k23, s25, Ls26) => (HS [] true s s25 (([] : List BX) ++ List.flatten Ls26)) ∧ (AllG [OS oE62 h8 k23 out22] Ls26)) (fun (out22, i24) (k23, s25, Ls26) tm os => ⟨updL tm [(0, (AV.sl z2 f3 e4)), (3, h8), (4, (AV.int .i64 i24))], updL os [], s25⟩) ?_ (x := (l6, 0)) (y := (k10, s12, Ls11)) h ⟨hH14, hG13⟩
 clear h
 rintro ⟨out22, i24⟩ ⟨k23, s25, Ls26⟩ tm os ⟨hH27, hG28⟩ ee1 h hL1 hR1
 unfold laws_toPushSS_K0_S1 at h
 dsimp only at h
 refine AW.seq ?_
 refine AW.sr ?_
 refine AOps.p rfl (rfl : _ = (AV.int .i64 i24)) ?_
 refine AOps.p rfl (rfl : _ = (AV.sl z2 f3 e4)) ?_
 refine AOps.p rfl (len_eq h5) ?_
 refine AOps.p rfl (rfl : _ = (AV.bool (decide ((i24 : Int) < (a1.length : Int))))) ?_
 refine AOps.nilR ?_
 rcases oite h with ⟨hc29, h⟩ | ⟨hc29, h⟩
 ·refine AW.condT (congrArg AV.bool hc29) ?_
  refine AW.skip ?_
  refine AW.seq ?_
  refine AW.block ?_
  refine AW.region ?_
  refine AOps.p rfl (rfl : _ = h8) ?_
  refine AOps.p rfl (rfl : _ = (AV.int .i64 i24)) ?_
  refine AOps.p rfl (rfl : _ = (AV.sl z2 f3 e4)) ?_
  refine AOps.p rfl (rfl : _ = (AV.int .i64 i24)) ?_
  obtain ⟨x30, h31, h⟩ := obind h
  obtain ⟨v34, h32, h33⟩ := idx_sl h5 h31
  obtain ⟨z35, f36, e37, rfl, h38⟩ := h32
  refine AOps.pureR rfl rfl rfl h33 rfl (rfl : _ = (AV.eptr [(AV.sl z35 f36 e37)] 0)) ?_
  refine AOps.ldE (v := (AV.sl z35 f36 e37)) rfl rfl rfl rfl rfl rfl ?_
  obtain ⟨y39, h40, h⟩ := obind h
  have hP44 := HS.pop0 hH27
  refine AOps.callF (al := true) (g := 38) (args := [(AV.sl z35 f36 e37)]) rfl rfl rfl (laws_toPushS_K0_ok h38  h40 (HS.wf' hH27)) ?_
  rintro h41 _ s45 ⟨_, k42, Ls47, rfl, hH48, hG49, ho43⟩
  have hJ50 := HS.joinK0 hP44 hH48
  obtain ⟨Ls51, Lf52, hG53, hF54, hP55⟩ := HS.pushN hJ50 hG28 hG49
  cases hF54
  have hH56 := HS.push0 hP55
  change HS [] true s s45 (([] : List BX) ++ List.flatten Ls51) at hH56
  change AllG [OS oE65 h41 k42 y39, OS oE62 h8 k23 out22] Ls51 at hG53
  obtain ⟨x59, h60, h⟩ := obind h
  refine AOps.idxO (j := 1) hG53 rfl Sub.here h60 rfl rfl rfl rfl rfl rfl rfl rfl rfl ?_
  intro b57 hb58
  refine AOps.stH (j := 1) (j2 := 0) (q := 0) (y' := y39) hH56 hG53 hl rfl rfl (by decide) h60 hb58 rfl rfl rfl rfl rfl rfl rfl (le_b rfl) rfl (fun ρ => match ρ with | [] => h41 | a :: ρ => k42 (a :: ρ)) (fun c B L2 hc hO => by obtain ⟨rfl, _⟩ := hc; exact OS.own hO) ?_
  intro k61 Ls62 s63 hG64 hH65
  change HS [] true s s63 (([] : List BX) ++ List.flatten Ls62) at hH65
  change AllG [(fun L => L = []), OS oE62 h8 k61 (out22.set (Int.toNat i24) y39)] Ls62 at hG64
  refine AOps.nilR ?_
  refine AW.inBlock ?_
  refine AW.region ?_
  refine AOps.p rfl (rfl : _ = (AV.int .i64 i24)) ?_
  refine AOps.p rfl (rfl : _ = (AV.int .i64 (IntKind.wrap .i64 (i24 + 1)))) ?_
  refine AOps.assignR rfl rfl rfl (rfl : _ = (AV.int .i64 (IntKind.wrap .i64 (i24 + 1)))) rfl ?_
  refine AOps.nilR ?_
  cases h
  obtain ⟨Ls66, hG67, hH68⟩ := HS.selEG hH65 hG64 [] [some 1]
  change HS [] true s s63 (([] : List BX) ++ List.flatten Ls66) at hH68
  change AllG [OS oE62 h8 k61 (out22.set (Int.toNat i24) y39)] Ls66 at hG67
  exact AW.res [(0, (AV.sl z2 f3 e4)), (3, h8), (4, (AV.int .i64 (IntKind.wrap .i64 (i24 + 1))))] [] ⟨rfl, rfl, rfl, trivial⟩ trivial (hL1 _ rfl (k61, s63, Ls66) _ _ ⟨hH68, hG67⟩)
 refine AW.condF (congrArg AV.bool hc29) ?_
 refine AW.exit rfl ?_
 obtain ⟨r69, hm, hx⟩ := omap h
 clear h
 subst hx
 have hx := hR1 _ rfl
 rw [hx] at hm
 have h := hm
 exact AW.res [(3, h8)] [] ⟨rfl, trivial⟩ trivial (KJ21 (out22, k23, s25, Ls26) _ _ ⟨hH27, hG28, h⟩)
theorem laws_toInt64S_K0_ok {a1 : List Int} {z2 : Nat} {f3 : Bool} {e4 : List AV} {s : St} (h5 : LR (rI .i64) 1 a1 z2 e4) {r : (List Int)} (h : laws_toInt64S_K0 a1 = some r) (hs : WF s) : ACall Cf 39 [(AV.sl z2 f3 e4)] s (fun v _ s' => ∃ (h1' : AV) (k2' : KT) (Ls' : List (List BX)), v = h1' ∧ HS [] true s s' (([] : List BX) ++ List.flatten Ls') ∧ AllG [OS oE2 h1' k2' r] Ls' ∧ h1'.one = true) true := by
 refine ACall.keepR rfl rfl rfl ?_
 have hH0 := HS.g0 (HS.initK hs)
 have hG0 := AllG.nil
 have hl : LoOK [] true s := LoOK.nil
 unfold laws_toInt64S_K0 at h
 refine AW.sr ?_
 refine AOps.p rfl (rfl : _ = (AV.sl 0 true [])) ?_
 refine AOps.nilR ?_
 refine AW.sr ?_
 refine AOps.p rfl (rfl : _ = (AV.sl z2 f3 e4)) ?_
 refine AOps.p rfl (len_eq h5) ?_
 obtain ⟨l6, h7, h⟩ := obind h
 refine AOps.mkO (e := oE2) (x0 := (0 : Int)) (fun _ => AV.undef) hH0 hG0 rfl rfl rfl rfl rfl rfl rfl ⟨rfl, rfl, by decide⟩ h7 ⟨rfl, rfl⟩ (fun _ => ⟨⟨(AV.int .i64 0), rfl, rfl⟩, rfl⟩) rfl ?_
 intro h8 k10 Ls11 s12 ho9 hG13 hH14
 change HS [] true s s12 (([] : List BX) ++ List.flatten Ls11) at hH14
 change AllG [OS oE2 h8 k10 l6] Ls11 at hG13
 refine AOps.assignR rfl rfl rfl (rfl : _ = h8) rfl ?_
 refine AOps.nilR ?_
 refine AW.seq ?_
 refine AW.sr ?_
 refine AOps.p rfl (rfl : _ = (AV.int .i64 0)) ?_
 refine AOps.nilR ?_
 refine AW.meet (σ := (List Int) × St × (List (List BX))) (fun (out15, s16, Ls17) tm os => ⟨updL tm [(3, h8)], updL os [], s16⟩) (fun (out15, s16, Ls17) => (HS [] true s s16 (([] : List BX) ++ List.flatten Ls17)) ∧ (AllG [OS oE2 h8 k10 out15] Ls17) ∧ laws_toInt64S_K0_J1 out15 = some r) ?_ ?_
 ·rintro ⟨out15, s16, Ls17⟩ tm os ⟨hH18, hG19, h⟩
  unfold laws_toInt64S_K0_J1 at h
  refine AW.sr ?_
  refine AOps.p rfl (rfl : _ = h8) ?_
  refine AOps.assignR rfl rfl rfl (rfl : _ = h8) rfl ?_
  refine AOps.nilR ?_
  cases h
  exact AW.ret ⟨_, _, rfl, ⟨h8, k10, Ls17, rfl, hH18, hG19, ho9⟩⟩
 intro KJ20
 refine AW.block ?_
 refine AW.res [(0, (AV.sl z2 f3 e4)), (3, h8), (4, (AV.int .i64 0))] [] ⟨rfl, rfl, rfl, trivial⟩ trivial ?_
 refine AW.loopF (σ := (List Int) × Int) (τ := St × (List (List BX))) (fun (out21, i22) (s23, Ls24) => (HS [] true s s23 (([] : List BX) ++ List.flatten Ls24)) ∧ (AllG [OS oE2 h8 k10 out21] Ls24)) (fun (out21, i22) (s23, Ls24) tm os => ⟨updL tm [(0, (AV.sl z2 f3 e4)), (3, h8), (4, (AV.int .i64 i22))], updL os [], s23⟩) ?_ (x := (l6, 0)) (y := (s12, Ls11)) h ⟨hH14, hG13⟩
 clear h
 rintro ⟨out21, i22⟩ ⟨s23, Ls24⟩ tm os ⟨hH25, hG26⟩ ee1 h hL1 hR1
 unfold laws_toInt64S_K0_S1 at h
 dsimp only at h
 refine AW.seq ?_
 refine AW.sr ?_
 refine AOps.p rfl (rfl : _ = (AV.int .i64 i22)) ?_
 refine AOps.p rfl (rfl : _ = (AV.sl z2 f3 e4)) ?_
 refine AOps.p rfl (len_eq h5) ?_
 refine AOps.p rfl (rfl : _ = (AV.bool (decide ((i22 : Int) < (a1.length : Int))))) ?_
 refine AOps.nilR ?_
 rcases oite h with ⟨hc27, h⟩ | ⟨hc27, h⟩
 ·refine AW.condT (congrArg AV.bool hc27) ?_
  refine AW.skip ?_
  refine AW.seq ?_
  refine AW.block ?_
  refine AW.region ?_
  refine AOps.p rfl (rfl : _ = h8) ?_
  refine AOps.p rfl (rfl : _ = (AV.int .i64 i22)) ?_
  refine AOps.p rfl (rfl : _ = (AV.sl z2 f3 e4)) ?_
  refine AOps.p rfl (rfl : _ = (AV.int .i64 i22)) ?_
  obtain ⟨x28, h29, h⟩ := obind h
  obtain ⟨v32, h30, h31⟩ := idx_sl h5 h29
  cases h30
  refine AOps.pureR rfl rfl rfl h31 rfl (rfl : _ = (AV.eptr [(AV.int .i64 x28)] 0)) ?_
  refine AOps.ldE (v := (AV.int .i64 x28)) rfl rfl rfl rfl rfl rfl ?_
  obtain ⟨x35, h36, h⟩ := obind h
  refine AOps.idxO (j := 0) hG26 rfl Sub.here h36 rfl rfl rfl rfl rfl rfl rfl rfl rfl ?_
  intro b33 hb34
  refine AOps.stO (j := 0) (q := 0) (v := (AV.int .i64 x28)) (y' := x28) hH25 hG26 hl rfl Sub.here h36 hb34 rfl rfl rfl rfl rfl rfl rfl rfl (lt_b rfl) (le_b rfl) rfl (fun c B hc => oLeaf_set hc rfl) ?_
  intro Ls37 s38 hG39 hH40
  change HS [] true s s38 (([] : List BX) ++ List.flatten Ls37) at hH40
  change AllG [OS oE2 h8 k10 (out21.set (Int.toNat i22) x28)] Ls37 at hG39
  refine AOps.nilR ?_
  refine AW.inBlock ?_
  refine AW.region ?_
  refine AOps.p rfl (rfl : _ = (AV.int .i64 i22)) ?_
  refine AOps.p rfl (rfl : _ = (AV.int .i64 (IntKind.wrap .i64 (i22 + 1)))) ?_
  refine AOps.assignR rfl rfl rfl (rfl : _ = (AV.int .i64 (IntKind.wrap .i64 (i22 + 1)))) rfl ?_
  refine AOps.nilR ?_
  cases h
  exact AW.res [(0, (AV.sl z2 f3 e4)), (3, h8), (4, (AV.int .i64 (IntKind.wrap .i64 (i22 + 1))))] [] ⟨rfl, rfl, rfl, trivial⟩ trivial (hL1 _ rfl (s38, Ls37) _ _ ⟨hH40, hG39⟩)
 refine AW.condF (congrArg AV.bool hc27) ?_
 refine AW.exit rfl ?_
 obtain ⟨r41, hm, hx⟩ := omap h
 clear h
 subst hx
 have hx := hR1 _ rfl
 rw [hx] at hm
 have h := hm
 exact AW.res [(3, h8)] [] ⟨rfl, trivial⟩ trivial (KJ20 (out21, s23, Ls24) _ _ ⟨hH25, hG26, h⟩)
theorem laws_toInt64SS_K0_ok {a1 : List (List Int)} {z2 : Nat} {f3 : Bool} {e4 : List AV} {s : St} (h5 : LR (rL (rI .i64) 1) 1 a1 z2 e4) {r : (List (List Int))} (h : laws_toInt64SS_K0 a1 = some r) (hs : WF s) : ACall Cf 22 [(AV.sl z2 f3 e4)] s (fun v _ s' => ∃ (h1' : AV) (k2' : KT) (Ls' : List (List BX)), v = h1' ∧ HS [] true s s' (([] : List BX) ++ List.flatten Ls') ∧ AllG [OS oE29 h1' k2' r] Ls' ∧ h1'.one = true) true := by
 refine ACall.keepR rfl rfl rfl ?_
 have hH0 := HS.g0 (HS.initK hs)
 have hG0 := AllG.nil
 have hl : LoOK [] true s := LoOK.nil
 unfold laws_toInt64SS_K0 at h
 refine AW.sr ?_
 refine AOps.p rfl (rfl : _ = (AV.sl 0 true [])) ?_
 refine AOps.nilR ?_
 refine AW.sr ?_
 refine AOps.p rfl (rfl : _ = (AV.sl z2 f3 e4)) ?_
 refine AOps.p rfl (len_eq h5) ?_
 obtain ⟨l6, h7, h⟩ := obind h
 refine AOps.mkO (e := oE29) (x0 := (([] : List Int) : List Int)) (fun _ => AV.sl 0 true []) hH0 hG0 rfl rfl rfl rfl rfl rfl rfl ⟨rfl, rfl, by decide⟩ h7 ⟨rfl, rfl⟩ (fun _ => ⟨rfl, OS.nil (Or.inr rfl)⟩) rfl ?_
 intro h8 k10 Ls11 s12 ho9 hG13 hH14
 change HS [] true s s12 (([] : List BX) ++ List.flatten Ls11) at hH14
 change AllG [OS oE29 h8 k10 l6] Ls11 at hG13
 refine AOps.assignR rfl rfl rfl (rfl : _ = h8) rfl ?_
 refine AOps.nilR ?_
 refine AW.seq ?_
 refine AW.sr ?_
 refine AOps.p rfl (rfl : _ = (AV.int .i64 0)) ?_
 refine AOps.nilR ?_
 refine AW.meet (σ := (List (List Int)) × KT × St × (List (List BX))) (fun (out15, k16, s17, Ls18) tm os => ⟨updL tm [(3, h8)], updL os [], s17⟩) (fun (out15, k16, s17, Ls18) => (HS [] true s s17 (([] : List BX) ++ List.flatten Ls18)) ∧ (AllG [OS oE29 h8 k16 out15] Ls18) ∧ laws_toInt64SS_K0_J1 out15 = some r) ?_ ?_
 ·rintro ⟨out15, k16, s17, Ls18⟩ tm os ⟨hH19, hG20, h⟩
  unfold laws_toInt64SS_K0_J1 at h
  refine AW.sr ?_
  refine AOps.p rfl (rfl : _ = h8) ?_
  refine AOps.assignR rfl rfl rfl (rfl : _ = h8) rfl ?_
  refine AOps.nilR ?_
  cases h
  exact AW.ret ⟨_, _, rfl, ⟨h8, k16, Ls18, rfl, hH19, hG20, ho9⟩⟩
 intro KJ21
 refine AW.block ?_
 refine AW.res [(0, (AV.sl z2 f3 e4)), (3, h8), (4, (AV.int .i64 0))] [] ⟨rfl, rfl, rfl, trivial⟩ trivial ?_
 refine AW.loopF (σ := (List (List Int)) × Int) (τ := KT × St × (List (List BX))) (fun (out22, i24) (k23, s25, Ls26) => (HS [] true s s25 (([] : List BX) ++ List.flatten Ls26)) ∧ (AllG [OS oE29 h8 k23 out22] Ls26)) (fun (out22, i24) (k23, s25, Ls26) tm os => ⟨updL tm [(0, (AV.sl z2 f3 e4)), (3, h8), (4, (AV.int .i64 i24))], updL os [], s25⟩) ?_ (x := (l6, 0)) (y := (k10, s12, Ls11)) h ⟨hH14, hG13⟩
 clear h
 rintro ⟨out22, i24⟩ ⟨k23, s25, Ls26⟩ tm os ⟨hH27, hG28⟩ ee1 h hL1 hR1
 unfold laws_toInt64SS_K0_S1 at h
 dsimp only at h
 refine AW.seq ?_
 refine AW.sr ?_
 refine AOps.p rfl (rfl : _ = (AV.int .i64 i24)) ?_
 refine AOps.p rfl (rfl : _ = (AV.sl z2 f3 e4)) ?_
 refine AOps.p rfl (len_eq h5) ?_
 refine AOps.p rfl (rfl : _ = (AV.bool (decide ((i24 : Int) < (a1.length : Int))))) ?_
 refine AOps.nilR ?_
 rcases oite h with ⟨hc29, h⟩ | ⟨hc29, h⟩
 ·refine AW.condT (congrArg AV.bool hc29) ?_
  refine AW.skip ?_
  refine AW.seq ?_
  refine AW.block ?_
  refine AW.region ?_
  refine AOps.p rfl (rfl : _ = h8) ?_
  refine AOps.p rfl (rfl : _ = (AV.int .i64 i24)) ?_
  refine AOps.p rfl (rfl : _ = (AV.sl z2 f3 e4)) ?_
  refine AOps.p rfl (rfl : _ = (AV.int .i64 i24)) ?_
  obtain ⟨x30, h31, h⟩ := obind h
  obtain ⟨v34, h32, h33⟩ := idx_sl h5 h31
  obtain ⟨z35, f36, e37, rfl, h38⟩ := h32
  refine AOps.pureR rfl rfl rfl h33 rfl (rfl : _ = (AV.eptr [(AV.sl z35 f36 e37)] 0)) ?_
  refine AOps.ldE (v := (AV.sl z35 f36 e37)) rfl rfl rfl rfl rfl rfl ?_
  obtain ⟨y39, h40, h⟩ := obind h
  have hP44 := HS.pop0 hH27
  refine AOps.callF (al := true) (g := 39) (args := [(AV.sl z35 f36 e37)]) rfl rfl rfl (laws_toInt64S_K0_ok h38  h40 (HS.wf' hH27)) ?_
  rintro h41 _ s45 ⟨_, k42, Ls47, rfl, hH48, hG49, ho43⟩
  have hJ50 := HS.joinK0 hP44 hH48
  obtain ⟨Ls51, Lf52, hG53, hF54, hP55⟩ := HS.pushN hJ50 hG28 hG49
  cases hF54
  have hH56 := HS.push0 hP55
  change HS [] true s s45 (([] : List BX) ++ List.flatten Ls51) at hH56
  change AllG [OS oE2 h41 k42 y39, OS oE29 h8 k23 out22] Ls51 at hG53
  obtain ⟨x59, h60, h⟩ := obind h
  refine AOps.idxO (j := 1) hG53 rfl Sub.here h60 rfl rfl rfl rfl rfl rfl rfl rfl rfl ?_
  intro b57 hb58
  refine AOps.stH (j := 1) (j2 := 0) (q := 0) (y' := y39) hH56 hG53 hl rfl rfl (by decide) h60 hb58 rfl rfl rfl rfl rfl rfl rfl (le_b rfl) rfl (fun ρ => match ρ with | [] => h41 | a :: ρ => k42 (a :: ρ)) (fun c B L2 hc hO => by obtain ⟨rfl, _⟩ := hc; exact OS.own hO) ?_
  intro k61 Ls62 s63 hG64 hH65
  change HS [] true s s63 (([] : List BX) ++ List.flatten Ls62) at hH65
  change AllG [(fun L => L = []), OS oE29 h8 k61 (out22.set (Int.toNat i24) y39)] Ls62 at hG64
  refine AOps.nilR ?_
  refine AW.inBlock ?_
  refine AW.region ?_
  refine AOps.p rfl (rfl : _ = (AV.int .i64 i24)) ?_
  refine AOps.p rfl (rfl : _ = (AV.int .i64 (IntKind.wrap .i64 (i24 + 1)))) ?_
  refine AOps.assignR rfl rfl rfl (rfl : _ = (AV.int .i64 (IntKind.wrap .i64 (i24 + 1)))) rfl ?_
  refine AOps.nilR ?_
  cases h
  obtain ⟨Ls66, hG67, hH68⟩ := HS.selEG hH65 hG64 [] [some 1]
  change HS [] true s s63 (([] : List BX) ++ List.flatten Ls66) at hH68
  change AllG [OS oE29 h8 k61 (out22.set (Int.toNat i24) y39)] Ls66 at hG67
  exact AW.res [(0, (AV.sl z2 f3 e4)), (3, h8), (4, (AV.int .i64 (IntKind.wrap .i64 (i24 + 1))))] [] ⟨rfl, rfl, rfl, trivial⟩ trivial (hL1 _ rfl (k61, s63, Ls66) _ _ ⟨hH68, hG67⟩)
 refine AW.condF (congrArg AV.bool hc29) ?_
 refine AW.exit rfl ?_
 obtain ⟨r69, hm, hx⟩ := omap h
 clear h
 subst hx
 have hx := hR1 _ rfl
 rw [hx] at hm
 have h := hm
 exact AW.res [(3, h8)] [] ⟨rfl, trivial⟩ trivial (KJ21 (out22, k23, s25, Ls26) _ _ ⟨hH27, hG28, h⟩)
theorem laws_toInt64SSS_K0_ok {a1 : List (List (List Int))} {z2 : Nat} {f3 : Bool} {e4 : List AV} {s : St} (h5 : LR (rL (rL (rI .i64) 1) 1) 1 a1 z2 e4) {r : (List (List (List Int)))} (h : laws_toInt64SSS_K0 a1 = some r) (hs : WF s) : ACall Cf 21 [(AV.sl z2 f3 e4)] s (fun v _ s' => ∃ (h1' : AV) (k2' : KT) (Ls' : List (List BX)), v = h1' ∧ HS [] true s s' (([] : List BX) ++ List.flatten Ls') ∧ AllG [OS oE25 h1' k2' r] Ls' ∧ h1'.one = true) true := by
 refine ACall.keepR rfl rfl rfl ?_
 have hH0 := HS.g0 (HS.initK hs)
 have hG0 := AllG.nil
 have hl : LoOK [] true s := LoOK.nil
 unfold laws_toInt64SSS_K0 at h
 refine AW.sr ?_
 refine AOps.p rfl (rfl : _ = (AV.sl 0 true [])) ?_
 refine AOps.nilR ?_
 refine AW.sr ?_
 refine AOps.p rfl (rfl : _ = (AV.sl z2 f3 e4)) ?_
 refine AOps.p rfl (len_eq h5) ?_
 obtain ⟨l6, h7, h⟩ := obind h
 refine AOps.mkO (e := oE25) (x0 := (([] : List (List Int)) : List (List Int))) (fun _ => AV.sl 0 true []) hH0 hG0 rfl rfl rfl rfl rfl rfl rfl ⟨rfl, rfl, by decide⟩ h7 ⟨rfl, rfl⟩ (fun _ => ⟨rfl, OS.nil (Or.inr rfl)⟩) rfl ?_
 intro h8 k10 Ls11 s12 ho9 hG13 hH14
 change HS [] true s s12 (([] : List BX) ++ List.flatten Ls11) at hH14
 change AllG [OS oE25 h8 k10 l6] Ls11 at hG13
 refine AOps.assignR rfl rfl rfl (rfl : _ = h8) rfl ?_
 refine AOps.nilR ?_
 refine AW.seq ?_
 refine AW.sr ?_
 refine AOps.p rfl (rfl : _ = (AV.int .i64 0)) ?_
 refine AOps.nilR ?_
 refine AW.meet (σ := (List (List (List Int))) × KT × St × (List (List BX))) (fun (out15, k16, s17, Ls18) tm os => ⟨updL tm [(3, h8)], updL os [], s17⟩) (fun (out15, k16, s17, Ls18) => (HS [] true s s17 (([] : List BX) ++ List.flatten Ls18)) ∧ (AllG [OS oE25 h8 k16 out15] Ls18) ∧ laws_toInt64SSS_K0_J1 out15 = some r) ?_ ?_
 ·rintro ⟨out15, k16, s17, Ls18⟩ tm os ⟨hH19, hG20, h⟩
  unfold laws_toInt64SSS_K0_J1 at h
  refine AW.sr ?_
  refine AOps.p rfl (rfl : _ = h8) ?_
  refine AOps.assignR rfl rfl rfl (rfl : _ = h8) rfl ?_
  refine AOps.nilR ?_
  cases h
  exact AW.ret ⟨_, _, rfl, ⟨h8, k16, Ls18, rfl, hH19, hG20, ho9⟩⟩
 intro KJ21
 refine AW.block ?_
 refine AW.res [(0, (AV.sl z2 f3 e4)), (3, h8), (4, (AV.int .i64 0))] [] ⟨rfl, rfl, rfl, trivial⟩ trivial ?_
 refine AW.loopF (σ := (List (List (List Int))) × Int) (τ := KT × St × (List (List BX))) (fun (out22, i24) (k23, s25, Ls26) => (HS [] true s s25 (([] : List BX) ++ List.flatten Ls26)) ∧ (AllG [OS oE25 h8 k23 out22] Ls26)) (fun (out22, i24) (k23, s25, Ls26) tm os => ⟨updL tm [(0, (AV.sl z2 f3 e4)), (3, h8), (4, (AV.int .i64 i24))], updL os [], s25⟩) ?_ (x := (l6, 0)) (y := (k10, s12, Ls11)) h ⟨hH14, hG13⟩
 clear h
 rintro ⟨out22, i24⟩ ⟨k23, s25, Ls26⟩ tm os ⟨hH27, hG28⟩ ee1 h hL1 hR1
 unfold laws_toInt64SSS_K0_S1 at h
 dsimp only at h
 refine AW.seq ?_
 refine AW.sr ?_
 refine AOps.p rfl (rfl : _ = (AV.int .i64 i24)) ?_
 refine AOps.p rfl (rfl : _ = (AV.sl z2 f3 e4)) ?_
 refine AOps.p rfl (len_eq h5) ?_
 refine AOps.p rfl (rfl : _ = (AV.bool (decide ((i24 : Int) < (a1.length : Int))))) ?_
 refine AOps.nilR ?_
 rcases oite h with ⟨hc29, h⟩ | ⟨hc29, h⟩
 ·refine AW.condT (congrArg AV.bool hc29) ?_
  refine AW.skip ?_
  refine AW.seq ?_
  refine AW.block ?_
  refine AW.region ?_
  refine AOps.p rfl (rfl : _ = h8) ?_
  refine AOps.p rfl (rfl : _ = (AV.int .i64 i24)) ?_
  refine AOps.p rfl (rfl : _ = (AV.sl z2 f3 e4)) ?_
  refine AOps.p rfl (rfl : _ = (AV.int .i64 i24)) ?_
  obtain ⟨x30, h31, h⟩ := obind h
  obtain ⟨v34, h32, h33⟩ := idx_sl h5 h31
  obtain ⟨z35, f36, e37, rfl, h38⟩ := h32
  refine AOps.pureR rfl rfl rfl h33 rfl (rfl : _ = (AV.eptr [(AV.sl z35 f36 e37)] 0)) ?_
  refine AOps.ldE (v := (AV.sl z35 f36 e37)) rfl rfl rfl rfl rfl rfl ?_
  obtain ⟨y39, h40, h⟩ := obind h
  have hP44 := HS.pop0 hH27
  refine AOps.callF (al := true) (g := 22) (args := [(AV.sl z35 f36 e37)]) rfl rfl rfl (laws_toInt64SS_K0_ok h38  h40 (HS.wf' hH27)) ?_
  rintro h41 _ s45 ⟨_, k42, Ls47, rfl, hH48, hG49, ho43⟩
  have hJ50 := HS.joinK0 hP44 hH48
  obtain ⟨Ls51, Lf52, hG53, hF54, hP55⟩ := HS.pushN hJ50 hG28 hG49
  cases hF54
  have hH56 := HS.push0 hP55
  change HS [] true s s45 (([] : List BX) ++ List.flatten Ls51) at hH56
  change AllG [OS oE29 h41 k42 y39, OS oE25 h8 k23 out22] Ls51 at hG53
  obtain ⟨x59, h60, h⟩ := obind h
  refine AOps.idxO (j := 1) hG53 rfl Sub.here h60 rfl rfl rfl rfl rfl rfl rfl rfl rfl ?_
  intro b57 hb58
  refine AOps.stH (j := 1) (j2 := 0) (q := 0) (y' := y39) hH56 hG53 hl rfl rfl (by decide) h60 hb58 rfl rfl rfl rfl rfl rfl rfl (le_b rfl) rfl (fun ρ => match ρ with | [] => h41 | a :: ρ => k42 (a :: ρ)) (fun c B L2 hc hO => by obtain ⟨rfl, _⟩ := hc; exact OS.own hO) ?_
  intro k61 Ls62 s63 hG64 hH65
  change HS [] true s s63 (([] : List BX) ++ List.flatten Ls62) at hH65
  change AllG [(fun L => L = []), OS oE25 h8 k61 (out22.set (Int.toNat i24) y39)] Ls62 at hG64
  refine AOps.nilR ?_
  refine AW.inBlock ?_
  refine AW.region ?_
  refine AOps.p rfl (rfl : _ = (AV.int .i64 i24)) ?_
  refine AOps.p rfl (rfl : _ = (AV.int .i64 (IntKind.wrap .i64 (i24 + 1)))) ?_
  refine AOps.assignR rfl rfl rfl (rfl : _ = (AV.int .i64 (IntKind.wrap .i64 (i24 + 1)))) rfl ?_
  refine AOps.nilR ?_
  cases h
  obtain ⟨Ls66, hG67, hH68⟩ := HS.selEG hH65 hG64 [] [some 1]
  change HS [] true s s63 (([] : List BX) ++ List.flatten Ls66) at hH68
  change AllG [OS oE25 h8 k61 (out22.set (Int.toNat i24) y39)] Ls66 at hG67
  exact AW.res [(0, (AV.sl z2 f3 e4)), (3, h8), (4, (AV.int .i64 (IntKind.wrap .i64 (i24 + 1))))] [] ⟨rfl, rfl, rfl, trivial⟩ trivial (hL1 _ rfl (k61, s63, Ls66) _ _ ⟨hH68, hG67⟩)
 refine AW.condF (congrArg AV.bool hc29) ?_
 refine AW.exit rfl ?_
 obtain ⟨r69, hm, hx⟩ := omap h
 clear h
 subst hx
 have hx := hR1 _ rfl
 rw [hx] at hm
 have h := hm
 exact AW.res [(3, h8)] [] ⟨rfl, trivial⟩ trivial (KJ21 (out22, k23, s25, Ls26) _ _ ⟨hH27, hG28, h⟩)
theorem laws_toChecker_K0_ok {a1 : Checker} {z2 : Nat} {f3 : Bool} {e4 : List AV} {z6 : Nat} {f7 : Bool} {e8 : List AV} {z10 : Nat} {f11 : Bool} {e12 : List AV} {z14 : Nat} {f15 : Bool} {e16 : List AV} {s : St} (h5 : LR rB 1 a1.Accept z2 e4) (h9 : LR (rL rPush 2) 1 a1.Call z6 e8) (h13 : LR (rL (rL (rI .i64) 1) 1) 1 a1.Return z10 e12) (h17 : LR (rL (rI .i64) 1) 1 a1.Inner z14 e16) {r : Checker} (h : laws_toChecker_K0 a1 = some r) (hs : WF s) : ACall Cf 6 [(AV.agg [(AV.int .i64 a1.Stack), (AV.int .i64 a1.Start), (AV.sl z2 f3 e4), (AV.sl z6 f7 e8), (AV.sl z10 f11 e12), (AV.sl z14 f15 e16)])] s (fun v _ s' => ∃ (h1' : AV) (k2' : KT) (h4' : AV) (k5' : KT) (h7' : AV) (k8' : KT) (h10' : AV) (k11' : KT) (Ls' : List (List BX)), v = (AV.agg [(AV.int .i64 r.Stack), (AV.int .i64 r.Start), h1', h4', h7', h10']) ∧ HS [] true s s' (([] : List BX) ++ List.flatten Ls') ∧ AllG [OS oE4 h1' k2' r.Accept, OS oE62 h4' k5' r.Call, OS oE25 h7' k8' r.Return, OS oE29 h10' k11' r.Inner] Ls' ∧ h1'.one = true ∧ h4'.one = true ∧ h7'.one = true ∧ h10'.one = true) true := by
 refine ACall.keepR rfl rfl rfl ?_
 have hH0 := HS.g0 (HS.initK hs)
 have hG0 := AllG.nil
 have hl : LoOK [] true s := LoOK.nil
 unfold laws_toChecker_K0 at h
 refine AW.sr ?_
 refine AOps.makeR rfl rfl rfl rfl rfl rfl (rfl : _ = (AV.eptr [(AV.int .i64 a1.Stack), (AV.int .i64 a1.Start), (AV.sl z2 f3 e4), (AV.sl z6 f7 e8), (AV.sl z10 f11 e12), (AV.sl z14 f15 e16)] 0)) ?_
 refine AOps.allocP rfl rfl rfl rfl ⟨rfl, rfl⟩ rfl ?_
 refine AOps.nilR ?_
 refine AW.sr ?_
 refine AOps.alloc1 hH0 rfl rfl rfl rfl rfl rfl ?_
 intro b18 s19 hH20
 change HS [] true s s19 (([⟨some b18, [(AV.int .i64 0), (AV.int .i64 0), (AV.sl 0 true []), (AV.sl 0 true []), (AV.sl 0 true []), (AV.sl 0 true [])], (fun _ => false)⟩] : List BX) ++ List.flatten ([] : List (List BX))) at hH20
 refine AOps.nilR ?_
 refine AW.sr ?_
 refine AOps.p rfl (rfl : _ = (AV.eptr [(AV.int .i64 a1.Stack), (AV.int .i64 a1.Start), (AV.sl z2 f3 e4), (AV.sl z6 f7 e8), (AV.sl z10 f11 e12), (AV.sl z14 f15 e16)] 0)) ?_
 refine AOps.ldE (v := (AV.int .i64 a1.Stack)) rfl rfl rfl rfl rfl rfl ?_
 refine AOps.p rfl (rfl : _ = (AV.ptr b18 0)) ?_
 refine AOps.stE (i := 0) (v := (AV.int .i64 a1.Stack)) hH20 hl rfl rfl rfl rfl rfl rfl rfl rfl rfl (lt_b rfl) (le_b rfl) rfl ?_
 intro w21 s22 h23 h24 hH25
 change HS [] true s s22 (([⟨some b18, [(AV.int .i64 a1.Stack), (AV.int .i64 0), (AV.sl 0 true []), (AV.sl 0 true []), (AV.sl 0 true []), (AV.sl 0 true [])], w21⟩] : List BX) ++ List.flatten ([] : List (List BX))) at hH25
 refine AOps.nilR ?_
 refine AW.sr ?_
 refine AOps.p rfl (rfl : _ = (AV.eptr [(AV.int .i64 a1.Stack), (AV.int .i64 a1.Start), (AV.sl z2 f3 e4), (AV.sl z6 f7 e8), (AV.sl z10 f11 e12), (AV.sl z14 f15 e16)] 1)) ?_
 refine AOps.ldE (v := (AV.int .i64 a1.Start)) rfl rfl rfl rfl rfl rfl ?_
 refine AOps.p rfl (rfl : _ = (AV.ptr b18 1)) ?_
 refine AOps.stE (i := 0) (v := (AV.int .i64 a1.Start)) hH25 hl rfl rfl rfl rfl rfl rfl rfl rfl rfl (lt_b rfl) (le_b rfl) rfl ?_
 intro w26 s27 h28 h29 hH30
 change HS [] true s s27 (([⟨some b18, [(AV.int .i64 a1.Stack), (AV.int .i64 a1.Start), (AV.sl 0 true []), (AV.sl 0 true []), (AV.sl 0 true []), (AV.sl 0 true [])], w26⟩] : List BX) ++ List.flatten ([] : List (List BX))) at hH30
 refine AOps.nilR ?_
 refine AW.sr ?_
 refine AOps.p rfl (rfl : _ = (AV.eptr [(AV.int .i64 a1.Stack), (AV.int .i64 a1.Start), (AV.sl z2 f3 e4), (AV.sl z6 f7 e8), (AV.sl z10 f11 e12), (AV.sl z14 f15 e16)] 2)) ?_
 refine AOps.ldE (v := (AV.sl z2 f3 e4)) rfl rfl rfl rfl rfl rfl ?_
 obtain ⟨y31, h32, h⟩ := obind h
 have hP36 := HS.pop0 hH30
 refine AOps.callF (al := true) (g := 19) (args := [(AV.sl z2 f3 e4)]) rfl rfl rfl (laws_toBoolS_K0_ok h5  h32 (HS.wf' hH30)) ?_
 rintro h33 _ s37 ⟨_, k34, Ls39, rfl, hH40, hG41, ho35⟩
 have hJ42 := HS.joinK0 hP36 hH40
 obtain ⟨Ls43, Lf44, hG45, hF46, hP47⟩ := HS.pushN hJ42 hG0 hG41
 cases hF46
 have hH48 := HS.push0 hP47
 change HS [] true s s37 (([⟨some b18, [(AV.int .i64 a1.Stack), (AV.int .i64 a1.Start), (AV.sl 0 true []), (AV.sl 0 true []), (AV.sl 0 true []), (AV.sl 0 true [])], w26⟩] : List BX) ++ List.flatten Ls43) at hH48
 change AllG [OS oE4 h33 k34 y31] Ls43 at hG45
 refine AOps.p rfl (rfl : _ = (AV.ptr b18 2)) ?_
 refine AOps.stE (i := 0) (v := h33) hH48 hl rfl rfl rfl rfl rfl rfl rfl (one_lay ho35) (one_len ho35) (lt_b rfl) (le_b rfl) rfl ?_
 intro w49 s50 h51 h52 hH53
 rw [AV.cells_one ho35] at hH53
 change HS [] true s s50 (([⟨some b18, [(AV.int .i64 a1.Stack), (AV.int .i64 a1.Start), h33, (AV.sl 0 true []), (AV.sl 0 true []), (AV.sl 0 true [])], w49⟩] : List BX) ++ List.flatten Ls43) at hH53
 refine AOps.nilR ?_
 refine AW.sr ?_
 refine AOps.p rfl (rfl : _ = (AV.eptr [(AV.int .i64 a1.Stack), (AV.int .i64 a1.Start), (AV.sl z2 f3 e4), (AV.sl z6 f7 e8), (AV.sl z10 f11 e12), (AV.sl z14 f15 e16)] 3)) ?_
 refine AOps.ldE (v := (AV.sl z6 f7 e8)) rfl rfl rfl rfl rfl rfl ?_
 obtain ⟨y54, h55, h⟩ := obind h
 have hP59 := HS.pop0 hH53
 refine AOps.callF (al := true) (g := 20) (args := [(AV.sl z6 f7 e8)]) rfl rfl rfl (laws_toPushSS_K0_ok h9  h55 (HS.wf' hH53)) ?_
 rintro h56 _ s60 ⟨_, k57, Ls62, rfl, hH63, hG64, ho58⟩
 have hJ65 := HS.joinK0 hP59 hH63
 obtain ⟨Ls66, Lf67, hG68, hF69, hP70⟩ := HS.pushN hJ65 hG45 hG64
 cases hF69
 have hH71 := HS.push0 hP70
 change HS [] true s s60 (([⟨some b18, [(AV.int .i64 a1.Stack), (AV.int .i64 a1.Start), h33, (AV.sl 0 true []), (AV.sl 0 true []), (AV.sl 0 true [])], w49⟩] : List BX) ++ List.flatten Ls66) at hH71
 change AllG [OS oE62 h56 k57 y54, OS oE4 h33 k34 y31] Ls66 at hG68
 refine AOps.p rfl (rfl : _ = (AV.ptr b18 3)) ?_
 refine AOps.stE (i := 0) (v := h56) hH71 hl rfl rfl rfl rfl rfl rfl rfl (one_lay ho58) (one_len ho58) (lt_b rfl) (le_b rfl) rfl ?_
 intro w72 s73 h74 h75 hH76
 rw [AV.cells_one ho58] at hH76
 change HS [] true s s73 (([⟨some b18, [(AV.int .i64 a1.Stack), (AV.int .i64 a1.Start), h33, h56, (AV.sl 0 true []), (AV.sl 0 true [])], w72⟩] : List BX) ++ List.flatten Ls66) at hH76
 refine AOps.nilR ?_
 refine AW.sr ?_
 refine AOps.p rfl (rfl : _ = (AV.eptr [(AV.int .i64 a1.Stack), (AV.int .i64 a1.Start), (AV.sl z2 f3 e4), (AV.sl z6 f7 e8), (AV.sl z10 f11 e12), (AV.sl z14 f15 e16)] 4)) ?_
 refine AOps.ldE (v := (AV.sl z10 f11 e12)) rfl rfl rfl rfl rfl rfl ?_
 obtain ⟨y77, h78, h⟩ := obind h
 have hP82 := HS.pop0 hH76
 refine AOps.callF (al := true) (g := 21) (args := [(AV.sl z10 f11 e12)]) rfl rfl rfl (laws_toInt64SSS_K0_ok h13  h78 (HS.wf' hH76)) ?_
 rintro h79 _ s83 ⟨_, k80, Ls85, rfl, hH86, hG87, ho81⟩
 have hJ88 := HS.joinK0 hP82 hH86
 obtain ⟨Ls89, Lf90, hG91, hF92, hP93⟩ := HS.pushN hJ88 hG68 hG87
 cases hF92
 have hH94 := HS.push0 hP93
 change HS [] true s s83 (([⟨some b18, [(AV.int .i64 a1.Stack), (AV.int .i64 a1.Start), h33, h56, (AV.sl 0 true []), (AV.sl 0 true [])], w72⟩] : List BX) ++ List.flatten Ls89) at hH94
 change AllG [OS oE25 h79 k80 y77, OS oE62 h56 k57 y54, OS oE4 h33 k34 y31] Ls89 at hG91
 refine AOps.p rfl (rfl : _ = (AV.ptr b18 4)) ?_
 refine AOps.stE (i := 0) (v := h79) hH94 hl rfl rfl rfl rfl rfl rfl rfl (one_lay ho81) (one_len ho81) (lt_b rfl) (le_b rfl) rfl ?_
 intro w95 s96 h97 h98 hH99
 rw [AV.cells_one ho81] at hH99
 change HS [] true s s96 (([⟨some b18, [(AV.int .i64 a1.Stack), (AV.int .i64 a1.Start), h33, h56, h79, (AV.sl 0 true [])], w95⟩] : List BX) ++ List.flatten Ls89) at hH99
 refine AOps.nilR ?_
 refine AW.sr ?_
 refine AOps.p rfl (rfl : _ = (AV.eptr [(AV.int .i64 a1.Stack), (AV.int .i64 a1.Start), (AV.sl z2 f3 e4), (AV.sl z6 f7 e8), (AV.sl z10 f11 e12), (AV.sl z14 f15 e16)] 5)) ?_
 refine AOps.ldE (v := (AV.sl z14 f15 e16)) rfl rfl rfl rfl rfl rfl ?_
 obtain ⟨y100, h101, h⟩ := obind h
 have hP105 := HS.pop0 hH99
 refine AOps.callF (al := true) (g := 22) (args := [(AV.sl z14 f15 e16)]) rfl rfl rfl (laws_toInt64SS_K0_ok h17  h101 (HS.wf' hH99)) ?_
 rintro h102 _ s106 ⟨_, k103, Ls108, rfl, hH109, hG110, ho104⟩
 have hJ111 := HS.joinK0 hP105 hH109
 obtain ⟨Ls112, Lf113, hG114, hF115, hP116⟩ := HS.pushN hJ111 hG91 hG110
 cases hF115
 have hH117 := HS.push0 hP116
 change HS [] true s s106 (([⟨some b18, [(AV.int .i64 a1.Stack), (AV.int .i64 a1.Start), h33, h56, h79, (AV.sl 0 true [])], w95⟩] : List BX) ++ List.flatten Ls112) at hH117
 change AllG [OS oE29 h102 k103 y100, OS oE25 h79 k80 y77, OS oE62 h56 k57 y54, OS oE4 h33 k34 y31] Ls112 at hG114
 refine AOps.p rfl (rfl : _ = (AV.ptr b18 5)) ?_
 refine AOps.stE (i := 0) (v := h102) hH117 hl rfl rfl rfl rfl rfl rfl rfl (one_lay ho104) (one_len ho104) (lt_b rfl) (le_b rfl) rfl ?_
 intro w118 s119 h120 h121 hH122
 rw [AV.cells_one ho104] at hH122
 change HS [] true s s119 (([⟨some b18, [(AV.int .i64 a1.Stack), (AV.int .i64 a1.Start), h33, h56, h79, h102], w118⟩] : List BX) ++ List.flatten Ls112) at hH122
 refine AOps.nilR ?_
 refine AW.sr ?_
 refine AOps.ldB (i := 0) (v := (AV.agg [(AV.int .i64 a1.Stack), (AV.int .i64 a1.Start), h33, h56, h79, h102])) hH122 rfl rfl rfl rfl rfl rfl rfl rfl rfl ?_
 refine AOps.stP (v := (AV.agg [(AV.int .i64 a1.Stack), (AV.int .i64 a1.Start), h33, h56, h79, h102])) rfl rfl rfl rfl rfl rfl rfl (lay_cons rfl (lay_cons rfl (lay_cons ho35 (lay_cons ho58 (lay_cons ho81 (lay_cons ho104 lay_nil)))))) rfl (lt_b rfl) rfl ?_
 refine AOps.nilR ?_
 cases h
 obtain ⟨Ls123, hG124, hH125⟩ := HS.selEG hH122 hG114 [] [some 3, some 2, some 1, some 0]
 exact AW.ret ⟨_, _, rfl, ⟨h33, k34, h56, k57, h79, k80, h102, k103, Ls123, rfl, hH125, hG124, ho35, ho58, ho81, ho104⟩⟩
theorem impl_size_bool_ok {list1 : List Bool} {z2 : Nat} {f3 : Bool} {e4 : List AV} {s : St} (h5 : LR rB 1 list1 z2 e4) {r : Int} (h : impl_size_bool list1 = some r) (hs : WF s) : ACall Cf 40 [(AV.sl z2 f3 e4)] s fun v _ s' => (rI .i64) r v ∧ s' = s := by
 refine ACall.pure rfl rfl rfl .I ?_
 have hWF := hs.lo'
 unfold impl_size_bool at h
 refine AW.sr ?_
 refine AOps.p rfl (rfl : _ = (AV.int .i64 0)) ?_
 refine AOps.nilR ?_
 refine AW.sr ?_
 refine AOps.p rfl (rfl : _ = (AV.sl z2 f3 e4)) ?_
 refine AOps.p rfl (len_eq h5) ?_
 refine AOps.assignR rfl rfl rfl (rfl : _ = (AV.int .i64 (list1.length : Int))) rfl ?_
 refine AOps.nilR ?_
 cases h
 exact AW.ret ⟨rfl, _, _, rfl, rfl⟩
theorem impl_within_ok {n1 : Int} {low2 : Int} {high3 : Int} {s : St} {r : Bool} (h : impl_within n1 low2 high3 = some r) (hs : WF s) : ACall Cf 41 [(AV.int .i64 n1), (AV.int .i64 low2), (AV.int .i64 high3)] s fun v _ s' => (rB) r v ∧ s' = s := by
 refine ACall.pure rfl rfl rfl .B ?_
 have hWF := hs.lo'
 unfold impl_within at h
 refine AW.sr ?_
 refine AOps.p rfl (rfl : _ = (AV.bool false)) ?_
 refine AOps.nilR ?_
 refine AW.sr ?_
 refine AOps.p rfl (rfl : _ = (AV.int .i64 n1)) ?_
 refine AOps.p rfl (rfl : _ = (AV.int .i64 low2)) ?_
 refine AOps.p rfl (rfl : _ = (AV.bool (decide ((n1 : Int) ≥ low2)))) ?_
 refine AOps.p rfl (rfl : _ = (AV.bool (decide ((n1 : Int) ≥ low2)))) ?_
 refine AOps.split 4 (fun f' => ∃ tm' os', f' = ⟨updL tm' [(14, (AV.bool ((decide ((n1 : Int) ≥ low2)) && (decide ((n1 : Int) ≤ high3)))))], updL os' [], { s with lo := s.n }⟩) ?_ ?_
 ·rcases Bool.eq_false_or_eq_true (decide ((n1 : Int) ≥ low2)) with hc4 | hc4
  ·refine AOps.know (d := 10) rfl hc4 ?_
   refine AOps.p rfl (rfl : _ = (AV.int .i64 n1)) ?_
   refine AOps.p rfl (rfl : _ = (AV.int .i64 high3)) ?_
   refine AOps.p rfl (rfl : _ = (AV.bool (decide ((n1 : Int) ≤ high3)))) ?_
   refine AOps.p rfl (rfl : _ = (AV.bool (decide ((n1 : Int) ≤ high3)))) ?_
   refine AOps.resR [(14, (AV.bool ((decide ((n1 : Int) ≥ low2)) && (decide ((n1 : Int) ≤ high3)))))] [] ?_ ?_ _ ⟨_, _, rfl⟩
   ·exact ⟨congrArg AV.bool (and_t hc4), trivial⟩
   exact trivial
  ·refine AOps.know (d := 10) rfl hc4 ?_
   refine AOps.skipR rfl rfl ?_
   refine AOps.skipR rfl rfl ?_
   refine AOps.skipR rfl rfl ?_
   refine AOps.p rfl (rfl : _ = (AV.bool false)) ?_
   refine AOps.resR [(14, (AV.bool ((decide ((n1 : Int) ≥ low2)) && (decide ((n1 : Int) ≤ high3)))))] [] ?_ ?_ _ ⟨_, _, rfl⟩
   ·exact ⟨congrArg AV.bool (and_f hc4), trivial⟩
   exact trivial
 rintro _ ⟨tm, os, rfl⟩
 refine AOps.assignR rfl rfl rfl (rfl : _ = (AV.bool ((decide ((n1 : Int) ≥ low2)) && (decide ((n1 : Int) ≤ high3))))) rfl ?_
 refine AOps.nilR ?_
 cases h
 exact AW.ret ⟨rfl, _, _, rfl, rfl⟩
theorem impl_Checker_isState_ok {c1 : Checker} {s18 : Int} {z2 : Nat} {f3 : Bool} {e4 : List AV} {z6 : Nat} {f7 : Bool} {e8 : List AV} {z10 : Nat} {f11 : Bool} {e12 : List AV} {z14 : Nat} {f15 : Bool} {e16 : List AV} {s : St} (h5 : LR rB 1 c1.Accept z2 e4) (h9 : LR (rL rPush 2) 1 c1.Call z6 e8) (h13 : LR (rL (rL (rI .i64) 1) 1) 1 c1.Return z10 e12) (h17 : LR (rL (rI .i64) 1) 1 c1.Inner z14 e16) {r : Bool} (h : impl_Checker_isState c1 s18 = some r) (hs : WF s) : ACall Cf 42 [(AV.agg [(AV.int .i64 c1.Stack), (AV.int .i64 c1.Start), (AV.sl z2 f3 e4), (AV.sl z6 f7 e8), (AV.sl z10 f11 e12), (AV.sl z14 f15 e16)]), (AV.int .i64 s18)] s fun v _ s' => (rB) r v ∧ s' = s := by
 refine ACall.pure rfl rfl rfl .B ?_
 have hWF := hs.lo'
 unfold impl_Checker_isState at h
 refine AW.sr ?_
 refine AOps.makeR rfl rfl rfl rfl rfl rfl (rfl : _ = (AV.eptr [(AV.int .i64 c1.Stack), (AV.int .i64 c1.Start), (AV.sl z2 f3 e4), (AV.sl z6 f7 e8), (AV.sl z10 f11 e12), (AV.sl z14 f15 e16)] 0)) ?_
 refine AOps.p rfl (rfl : _ = (AV.bool false)) ?_
 refine AOps.nilR ?_
 refine AW.sr ?_
 refine AOps.p rfl (rfl : _ = (AV.int .i64 s18)) ?_
 refine AOps.p rfl (rfl : _ = (AV.eptr [(AV.int .i64 c1.Stack), (AV.int .i64 c1.Start), (AV.sl z2 f3 e4), (AV.sl z6 f7 e8), (AV.sl z10 f11 e12), (AV.sl z14 f15 e16)] 2)) ?_
 refine AOps.ldE (v := (AV.sl z2 f3 e4)) rfl rfl rfl rfl rfl rfl ?_
 obtain ⟨y19, h20, h⟩ := obind h
 refine AOps.callP (g := 40) (args := [(AV.sl z2 f3 e4)]) (p := (rI .i64) y19) rfl rfl rfl (impl_size_bool_ok h5 h20 hWF) ?_
 intro _ o22 h21
 cases h21
 refine AOps.p rfl (rfl : _ = (AV.int .i64 (IntKind.wrap .i64 (y19 - 1)))) ?_
 obtain ⟨y23, h24, h⟩ := obind h
 refine AOps.callP (g := 41) (args := [(AV.int .i64 s18), (AV.int .i64 0), (AV.int .i64 (IntKind.wrap .i64 (y19 - 1)))]) (p := (rB) y23) rfl rfl rfl (impl_within_ok  h24 hWF) ?_
 intro _ o26 h25
 cases h25
 refine AOps.assignR rfl rfl rfl (rfl : _ = (AV.bool y23)) rfl ?_
 refine AOps.nilR ?_
 cases h
 exact AW.ret ⟨rfl, _, _, rfl, rfl⟩
theorem impl_size_simpl_Push_ok {list1 : List (List Push)} {z2 : Nat} {f3 : Bool} {e4 : List AV} {s : St} (h5 : LR (rL rPush 2) 1 list1 z2 e4) {r : Int} (h : impl_size_simpl_Push list1 = some r) (hs : WF s) : ACall Cf 43 [(AV.sl z2 f3 e4)] s fun v _ s' => (rI .i64) r v ∧ s' = s := by
 refine ACall.pure rfl rfl rfl .I ?_
 have hWF := hs.lo'
 unfold impl_size_simpl_Push at h
 refine AW.sr ?_
 refine AOps.p rfl (rfl : _ = (AV.int .i64 0)) ?_
 refine AOps.nilR ?_
 refine AW.sr ?_
 refine AOps.p rfl (rfl : _ = (AV.sl z2 f3 e4)) ?_
 refine AOps.p rfl (len_eq h5) ?_
 refine AOps.assignR rfl rfl rfl (rfl : _ = (AV.int .i64 (list1.length : Int))) rfl ?_
 refine AOps.nilR ?_
 cases h
 exact AW.ret ⟨rfl, _, _, rfl, rfl⟩
theorem impl_size_s_int64_ok {list1 : List (List (List Int))} {z2 : Nat} {f3 : Bool} {e4 : List AV} {s : St} (h5 : LR (rL (rL (rI .i64) 1) 1) 1 list1 z2 e4) {r : Int} (h : impl_size_s_int64 list1 = some r) (hs : WF s) : ACall Cf 44 [(AV.sl z2 f3 e4)] s fun v _ s' => (rI .i64) r v ∧ s' = s := by
 refine ACall.pure rfl rfl rfl .I ?_
 have hWF := hs.lo'
 unfold impl_size_s_int64 at h
 refine AW.sr ?_
 refine AOps.p rfl (rfl : _ = (AV.int .i64 0)) ?_
 refine AOps.nilR ?_
 refine AW.sr ?_
 refine AOps.p rfl (rfl : _ = (AV.sl z2 f3 e4)) ?_
 refine AOps.p rfl (len_eq h5) ?_
 refine AOps.assignR rfl rfl rfl (rfl : _ = (AV.int .i64 (list1.length : Int))) rfl ?_
 refine AOps.nilR ?_
 cases h
 exact AW.ret ⟨rfl, _, _, rfl, rfl⟩
theorem impl_size_sint64_ok {list1 : List (List Int)} {z2 : Nat} {f3 : Bool} {e4 : List AV} {s : St} (h5 : LR (rL (rI .i64) 1) 1 list1 z2 e4) {r : Int} (h : impl_size_sint64 list1 = some r) (hs : WF s) : ACall Cf 45 [(AV.sl z2 f3 e4)] s fun v _ s' => (rI .i64) r v ∧ s' = s := by
 refine ACall.pure rfl rfl rfl .I ?_
 have hWF := hs.lo'
 unfold impl_size_sint64 at h
 refine AW.sr ?_
 refine AOps.p rfl (rfl : _ = (AV.int .i64 0)) ?_
 refine AOps.nilR ?_
 refine AW.sr ?_
 refine AOps.p rfl (rfl : _ = (AV.sl z2 f3 e4)) ?_
 refine AOps.p rfl (len_eq h5) ?_
 refine AOps.assignR rfl rfl rfl (rfl : _ = (AV.int .i64 (list1.length : Int))) rfl ?_
 refine AOps.nilR ?_
 cases h
 exact AW.ret ⟨rfl, _, _, rfl, rfl⟩
theorem impl_size_int64_ok {list1 : List Int} {z2 : Nat} {f3 : Bool} {e4 : List AV} {s : St} (h5 : LR (rI .i64) 1 list1 z2 e4) {r : Int} (h : impl_size_int64 list1 = some r) (hs : WF s) : ACall Cf 47 [(AV.sl z2 f3 e4)] s fun v _ s' => (rI .i64) r v ∧ s' = s := by
 refine ACall.pure rfl rfl rfl .I ?_
 have hWF := hs.lo'
 unfold impl_size_int64 at h
 refine AW.sr ?_
 refine AOps.p rfl (rfl : _ = (AV.int .i64 0)) ?_
 refine AOps.nilR ?_
 refine AW.sr ?_
 refine AOps.p rfl (rfl : _ = (AV.sl z2 f3 e4)) ?_
 refine AOps.p rfl (len_eq h5) ?_
 refine AOps.assignR rfl rfl rfl (rfl : _ = (AV.int .i64 (list1.length : Int))) rfl ?_
 refine AOps.nilR ?_
 cases h
 exact AW.ret ⟨rfl, _, _, rfl, rfl⟩
theorem slices_IndexFunc_sint64_int64_ok {s1 : List Int} {f6 : Int → Option Bool} {z2 : Nat} {f3 : Bool} {e4 : List AV} {g7 : Nat} {cap8 : List AV} {s : St} (h5 : LR (rI .i64) 1 s1 z2 e4) (h9 : ∀ x vs y, Cs [(rI .i64) x] vs → f6 x = some y → ∀ s, WF s → ACall Cf g7 (vs ++ cap8) s fun v _ s' => (rB) y v ∧ s' = s) {r : Int} (h : slices_IndexFunc_sint64_int64 s1 f6 = some r) (hs : WF s) : ACall Cf 59 [(AV.sl z2 f3 e4), (AV.fn g7 cap8)] s fun v _ s' => (rI .i64) r v ∧ s' = s := by
 refine ACall.pure rfl rfl rfl .I ?_
 have hWF := hs.lo'
 unfold slices_IndexFunc_sint64_int64 at h
 refine AW.sr ?_
 refine AOps.p rfl (rfl : _ = (AV.int .i64 0)) ?_
 refine AOps.nilR ?_
 refine AW.seq ?_
 refine AW.sr ?_
 refine AOps.p rfl (rfl : _ = (AV.sl z2 f3 e4)) ?_
 refine AOps.p rfl (len_eq h5) ?_
 refine AOps.p rfl (rfl : _ = (AV.int .i64 0)) ?_
 refine AOps.nilR ?_
 refine AW.meet (σ := Unit) (fun _ tm os => ⟨updL tm [], updL os [], { s with lo := s.n }⟩) (fun _ => slices_IndexFunc_sint64_int64_J1 = some r) ?_ ?_
 ·rintro _ tm os h
  unfold slices_IndexFunc_sint64_int64_J1 at h
  refine AW.sr ?_
  refine AOps.p rfl (rfl : _ = (AV.int .i64 (-1))) ?_
  refine AOps.nilR ?_
  cases h
  exact AW.ret ⟨rfl, _, _, rfl, rfl⟩
 intro KJ10
 refine AW.block ?_
 refine AW.res [(0, (AV.sl z2 f3 e4)), (1, (AV.fn g7 cap8)), (7, (AV.int .i64 (s1.length : Int))), (8, (AV.int .i64 0))] [] ⟨rfl, rfl, rfl, rfl, trivial⟩ trivial ?_
 refine AW.loopF (σ := Int) (τ := Unit) (fun t11 _ => True) (fun t11 _ tm os => ⟨updL tm [(0, (AV.sl z2 f3 e4)), (1, (AV.fn g7 cap8)), (7, (AV.int .i64 (s1.length : Int))), (8, (AV.int .i64 t11))], updL os [], { s with lo := s.n }⟩) ?_ (x := (0)) (y := ()) h trivial
 clear h
 rintro t11 _ tm os - ee1 h hL1 hR1
 unfold slices_IndexFunc_sint64_int64_S1 at h
 refine AW.sr ?_
 refine AOps.p rfl (rfl : _ = (AV.bool (decide ((t11 : Int) < (s1.length : Int))))) ?_
 refine AOps.nilR ?_
 refine AW.seq ?_
 rcases oite h with ⟨hc12, h⟩ | ⟨hc12, h⟩
 ·refine AW.condT (congrArg AV.bool hc12) ?_
  refine AW.skip ?_
  refine AW.seq ?_
  refine AW.block ?_
  refine AW.sr ?_
  refine AOps.p rfl (rfl : _ = (AV.int .i64 t11)) ?_
  refine AOps.assignR rfl rfl rfl (rfl : _ = (AV.int .i64 t11)) rfl ?_
  refine AOps.nilR ?_
  refine AW.sr ?_
  refine AOps.p rfl (rfl : _ = (AV.fn g7 cap8)) ?_
  refine AOps.p rfl (rfl : _ = (AV.sl z2 f3 e4)) ?_
  refine AOps.p rfl (rfl : _ = (AV.int .i64 t11)) ?_
  obtain ⟨x13, h14, h⟩ := obind h
  obtain ⟨v17, h15, h16⟩ := idx_sl h5 h14
  cases h15
  refine AOps.pureR rfl rfl rfl h16 rfl (rfl : _ = (AV.eptr [(AV.int .i64 x13)] 0)) ?_
  refine AOps.ldE (v := (AV.int .i64 x13)) rfl rfl rfl rfl rfl rfl ?_
  obtain ⟨y18, h19, h⟩ := obind h
  refine AOps.callP (g := g7) (args := ([(AV.int .i64 x13)] ++ cap8)) (p := (rB) y18) rfl rfl rfl (h9 x13 _ _ (.cons rfl .nil) h19 _ hWF) ?_
  intro _ o21 h20
  cases h20
  refine AOps.nilR ?_
  rcases oite h with ⟨hc22, h⟩ | ⟨hc22, h⟩
  ·refine AW.condT (congrArg AV.bool hc22) ?_
   refine AW.sr ?_
   refine AOps.p rfl (rfl : _ = (AV.int .i64 t11)) ?_
   refine AOps.assignR rfl rfl rfl (rfl : _ = (AV.int .i64 t11)) rfl ?_
   refine AOps.nilR ?_
   cases h
   have hr := hR1 _ rfl
   subst hr
   exact AW.ret ⟨rfl, _, _, rfl, rfl⟩
  refine AW.condF (congrArg AV.bool hc22) ?_
  refine AW.skip ?_
  refine AW.inBlock ?_
  refine AW.region ?_
  refine AOps.p rfl (rfl : _ = (AV.int .i64 (IntKind.wrap .i64 (t11 + 1)))) ?_
  refine AOps.p rfl (rfl : _ = (AV.int .i64 (IntKind.wrap .i64 (t11 + 1)))) ?_
  refine AOps.nilR ?_
  cases h
  exact AW.res [(0, (AV.sl z2 f3 e4)), (1, (AV.fn g7 cap8)), (7, (AV.int .i64 (s1.length : Int))), (8, (AV.int .i64 (IntKind.wrap .i64 (t11 + 1))))] [] ⟨rfl, rfl, rfl, rfl, trivial⟩ trivial (hL1 _ rfl () _ _ trivial)
 refine AW.condF (congrArg AV.bool hc12) ?_
 refine AW.exit rfl ?_
 obtain ⟨r23, hm, hx⟩ := omap h
 clear h
 subst hx
 have hx := hR1 _ rfl
 rw [hx] at hm
 have h := hm
 exact AW.res [] [] trivial trivial (KJ10 () _ _ h)
theorem slices_ContainsFunc_sint64_int64_ok {s1 : List Int} {f6 : Int → Option Bool} {z2 : Nat} {f3 : Bool} {e4 : List AV} {g7 : Nat} {cap8 : List AV} {s : St} (h5 : LR (rI .i64) 1 s1 z2 e4) (h9 : ∀ x vs y, Cs [(rI .i64) x] vs → f6 x = some y → ∀ s, WF s → ACall Cf g7 (vs ++ cap8) s fun v _ s' => (rB) y v ∧ s' = s) {r : Bool} (h : slices_ContainsFunc_sint64_int64 s1 f6 = some r) (hs : WF s) : ACall Cf 48 [(AV.sl z2 f3 e4), (AV.fn g7 cap8)] s fun v _ s' => (rB) r v ∧ s' = s := by
 refine ACall.pure rfl rfl rfl .B ?_
 have hWF := hs.lo'
 unfold slices_ContainsFunc_sint64_int64 at h
 refine AW.sr ?_
 refine AOps.p rfl (rfl : _ = (AV.bool false)) ?_
 refine AOps.nilR ?_
 refine AW.sr ?_
 refine AOps.p rfl (rfl : _ = (AV.sl z2 f3 e4)) ?_
 refine AOps.p rfl (rfl : _ = (AV.fn g7 cap8)) ?_
 obtain ⟨y10, h11, h⟩ := obind h
 refine AOps.callP (g := 59) (args := [(AV.sl z2 f3 e4), (AV.fn g7 cap8)]) (p := (rI .i64) y10) rfl rfl rfl (slices_IndexFunc_sint64_int64_ok h5 h9 h11 hWF) ?_
 intro _ o13 h12
 cases h12
 refine AOps.p rfl (rfl : _ = (AV.bool (decide ((y10 : Int) ≥ 0)))) ?_
 refine AOps.assignR rfl rfl rfl (rfl : _ = (AV.bool (decide ((y10 : Int) ≥ 0)))) rfl ?_
 refine AOps.nilR ?_
 cases h
 exact AW.ret ⟨rfl, _, _, rfl, rfl⟩
theorem impl_ValidChecker_1_1_ok {s1 : Int} {c2 : Checker} {z3 : Nat} {f4 : Bool} {e5 : List AV} {z7 : Nat} {f8 : Bool} {e9 : List AV} {z11 : Nat} {f12 : Bool} {e13 : List AV} {z15 : Nat} {f16 : Bool} {e17 : List AV} {s : St} (h6 : LR rB 1 c2.Accept z3 e5) (h10 : LR (rL rPush 2) 1 c2.Call z7 e9) (h14 : LR (rL (rL (rI .i64) 1) 1) 1 c2.Return z11 e13) (h18 : LR (rL (rI .i64) 1) 1 c2.Inner z15 e17) {r : Bool} (h : impl_ValidChecker_1_1 s1 c2 = some r) (hs : WF s) : ACall Cf 49 [(AV.int .i64 s1), (AV.eptr [(AV.int .i64 c2.Stack), (AV.int .i64 c2.Start), (AV.sl z3 f4 e5), (AV.sl z7 f8 e9), (AV.sl z11 f12 e13), (AV.sl z15 f16 e17)] 0)] s fun v _ s' => (rB) r v ∧ s' = s := by
 refine ACall.pure rfl rfl rfl .B ?_
 have hWF := hs.lo'
 unfold impl_ValidChecker_1_1 at h
 refine AW.sr ?_
 refine AOps.p rfl (rfl : _ = (AV.bool false)) ?_
 refine AOps.nilR ?_
 refine AW.sr ?_
 refine AOps.ldE (v := (AV.agg [(AV.int .i64 c2.Stack), (AV.int .i64 c2.Start), (AV.sl z3 f4 e5), (AV.sl z7 f8 e9), (AV.sl z11 f12 e13), (AV.sl z15 f16 e17)])) rfl rfl rfl rfl rfl rfl ?_
 refine AOps.p rfl (rfl : _ = (AV.int .i64 s1)) ?_
 obtain ⟨y19, h20, h⟩ := obind h
 refine AOps.callP (g := 42) (args := [(AV.agg [(AV.int .i64 c2.Stack), (AV.int .i64 c2.Start), (AV.sl z3 f4 e5), (AV.sl z7 f8 e9), (AV.sl z11 f12 e13), (AV.sl z15 f16 e17)]), (AV.int .i64 s1)]) (p := (rB) y19) rfl rfl rfl (impl_Checker_isState_ok h6 h10 h14 h18 h20 hWF) ?_
 intro _ o22 h21
 cases h21
 refine AOps.p rfl (rfl : _ = (AV.bool (!y19))) ?_
 refine AOps.assignR rfl rfl rfl (rfl : _ = (AV.bool (!y19))) rfl ?_
 refine AOps.nilR ?_
 cases h
 exact AW.ret ⟨rfl, _, _, rfl, rfl⟩
theorem impl_ValidChecker_1_ok {list1 : List Int} {many6 : Int} {c7 : Checker} {z2 : Nat} {f3 : Bool} {e4 : List AV} {z8 : Nat} {f9 : Bool} {e10 : List AV} {z12 : Nat} {f13 : Bool} {e14 : List AV} {z16 : Nat} {f17 : Bool} {e18 : List AV} {z20 : Nat} {f21 : Bool} {e22 : List AV} {s : St} (h5 : LR (rI .i64) 1 list1 z2 e4) (h11 : LR rB 1 c7.Accept z8 e10) (h15 : LR (rL rPush 2) 1 c7.Call z12 e14) (h19 : LR (rL (rL (rI .i64) 1) 1) 1 c7.Return z16 e18) (h23 : LR (rL (rI .i64) 1) 1 c7.Inner z20 e22) {r : Bool} (h : impl_ValidChecker_1 list1 many6 c7 = some r) (hs : WF s) : ACall Cf 46 [(AV.sl z2 f3 e4), (AV.int .i64 many6), (AV.eptr [(AV.int .i64 c7.Stack), (AV.int .i64 c7.Start), (AV.sl z8 f9 e10), (AV.sl z12 f13 e14), (AV.sl z16 f17 e18), (AV.sl z20 f21 e22)] 0)] s fun v _ s' => (rB) r v ∧ s' = s := by
 refine ACall.pure rfl rfl rfl .B ?_
 have hWF := hs.lo'
 unfold impl_ValidChecker_1 at h
 refine AW.sr ?_
 refine AOps.p rfl (rfl : _ = (AV.bool false)) ?_
 refine AOps.nilR ?_
 refine AW.sr ?_
 refine AOps.p rfl (rfl : _ = (AV.sl z2 f3 e4)) ?_
 obtain ⟨y24, h25, h⟩ := obind h
 refine AOps.callP (g := 47) (args := [(AV.sl z2 f3 e4)]) (p := (rI .i64) y24) rfl rfl rfl (impl_size_int64_ok h5 h25 hWF) ?_
 intro _ o27 h26
 cases h26
 refine AOps.p rfl (rfl : _ = (AV.int .i64 many6)) ?_
 refine AOps.p rfl (rfl : _ = (AV.bool (y24 == many6))) ?_
 refine AOps.p rfl (rfl : _ = (AV.bool (y24 == many6))) ?_
 obtain ⟨b29, hb, h⟩ := obind h
 refine AOps.split 5 (fun f' => ∃ tm' os', f' = ⟨updL tm' [(15, (AV.bool b29))], updL os' [], { s with lo := s.n }⟩) ?_ ?_
 ·rcases oite hb with ⟨hc28, hb⟩ | ⟨hc28, hb⟩
  ·have h := hb
   refine AOps.know (d := 10) rfl hc28 ?_
   refine AOps.p rfl (rfl : _ = (AV.sl z2 f3 e4)) ?_
   refine AOps.p rfl (rfl : _ = (AV.fn 49 [(AV.eptr [(AV.int .i64 c7.Stack), (AV.int .i64 c7.Start), (AV.sl z8 f9 e10), (AV.sl z12 f13 e14), (AV.sl z16 f17 e18), (AV.sl z20 f21 e22)] 0)])) ?_
   obtain ⟨y30, h31, h⟩ := obind h
   refine AOps.callP (g := 48) (args := [(AV.sl z2 f3 e4), (AV.fn 49 [(AV.eptr [(AV.int .i64 c7.Stack), (AV.int .i64 c7.Start), (AV.sl z8 f9 e10), (AV.sl z12 f13 e14), (AV.sl z16 f17 e18), (AV.sl z20 f21 e22)] 0)])]) (p := (rB) y30) rfl rfl rfl (slices_ContainsFunc_sint64_int64_ok h5 (by intro x vs y hc hx s hs; obtain ⟨_, _, rfl, hv0, hd0⟩ := Cs_cons hc; cases hv0; cases Cs_nil hd0; exact impl_ValidChecker_1_1_ok h11 h15 h19 h23 hx hs) h31 hWF) ?_
   intro _ o33 h32
   cases h32
   refine AOps.p rfl (rfl : _ = (AV.bool (!y30))) ?_
   refine AOps.p rfl (rfl : _ = (AV.bool (!y30))) ?_
   refine AOps.resR [(15, (AV.bool b29))] [] ?_ ?_ _ ⟨_, _, rfl⟩
   ·exact ⟨congrArg AV.bool (Option.some.inj h), trivial⟩
   exact trivial
  ·refine AOps.know (d := 10) rfl hc28 ?_
   refine AOps.skipR rfl rfl ?_
   refine AOps.skipR rfl rfl ?_
   refine AOps.skipR rfl rfl ?_
   refine AOps.skipR rfl rfl ?_
   refine AOps.p rfl (rfl : _ = (AV.bool false)) ?_
   refine AOps.resR [(15, (AV.bool b29))] [] ?_ ?_ _ ⟨_, _, rfl⟩
   ·exact ⟨congrArg AV.bool (Option.some.inj hb), trivial⟩
   exact trivial
 rintro _ ⟨tm, os, rfl⟩
 refine AOps.assignR rfl rfl rfl (rfl : _ = (AV.bool b29)) rfl ?_
 refine AOps.nilR ?_
 cases h
 exact AW.ret ⟨rfl, _, _, rfl, rfl⟩
theorem impl_Checker_isMark_ok {c1 : Checker} {x18 : Int} {z2 : Nat} {f3 : Bool} {e4 : List AV} {z6 : Nat} {f7 : Bool} {e8 : List AV} {z10 : Nat} {f11 : Bool} {e12 : List AV} {z14 : Nat} {f15 : Bool} {e16 : List AV} {s : St} (h5 : LR rB 1 c1.Accept z2 e4) (h9 : LR (rL rPush 2) 1 c1.Call z6 e8) (h13 : LR (rL (rL (rI .i64) 1) 1) 1 c1.Return z10 e12) (h17 : LR (rL (rI .i64) 1) 1 c1.Inner z14 e16) {r : Bool} (h : impl_Checker_isMark c1 x18 = some r) (hs : WF s) : ACall Cf 50 [(AV.agg [(AV.int .i64 c1.Stack), (AV.int .i64 c1.Start), (AV.sl z2 f3 e4), (AV.sl z6 f7 e8), (AV.sl z10 f11 e12), (AV.sl z14 f15 e16)]), (AV.int .i64 x18)] s fun v _ s' => (rB) r v ∧ s' = s := by
 refine ACall.pure rfl rfl rfl .B ?_
 have hWF := hs.lo'
 unfold impl_Checker_isMark at h
 refine AW.sr ?_
 refine AOps.makeR rfl rfl rfl rfl rfl rfl (rfl : _ = (AV.eptr [(AV.int .i64 c1.Stack), (AV.int .i64 c1.Start), (AV.sl z2 f3 e4), (AV.sl z6 f7 e8), (AV.sl z10 f11 e12), (AV.sl z14 f15 e16)] 0)) ?_
 refine AOps.p rfl (rfl : _ = (AV.bool false)) ?_
 refine AOps.nilR ?_
 refine AW.sr ?_
 refine AOps.p rfl (rfl : _ = (AV.int .i64 x18)) ?_
 refine AOps.p rfl (rfl : _ = (AV.eptr [(AV.int .i64 c1.Stack), (AV.int .i64 c1.Start), (AV.sl z2 f3 e4), (AV.sl z6 f7 e8), (AV.sl z10 f11 e12), (AV.sl z14 f15 e16)] 0)) ?_
 refine AOps.ldE (v := (AV.int .i64 c1.Stack)) rfl rfl rfl rfl rfl rfl ?_
 refine AOps.p rfl (rfl : _ = (AV.int .i64 (IntKind.wrap .i64 (c1.Stack - 1)))) ?_
 obtain ⟨y19, h20, h⟩ := obind h
 refine AOps.callP (g := 41) (args := [(AV.int .i64 x18), (AV.int .i64 0), (AV.int .i64 (IntKind.wrap .i64 (c1.Stack - 1)))]) (p := (rB) y19) rfl rfl rfl (impl_within_ok  h20 hWF) ?_
 intro _ o22 h21
 cases h21
 refine AOps.assignR rfl rfl rfl (rfl : _ = (AV.bool y19)) rfl ?_
 refine AOps.nilR ?_
 cases h
 exact AW.ret ⟨rfl, _, _, rfl, rfl⟩
end Go.Proofs.Ytmgpjpaajhcmpaa.law
