import Derived.Test.YtchahpmelikoaaaAeD
import Derived.Test.YtchahpmelikoaaaAe4
import Derived.Test.YtchahpmelikoaaaAeK2
set_option linter.unusedVariables false
set_option linter.unusedSimpArgs false
namespace Go.Proofs.Ytchahpmelikoaaa.law
open Go Go.Proofs Ae
set_option maxRecDepth 100000
set_option linter.unusedVariables false
theorem laws_eqContext_ok {a1 : Context} {b2 : Context} {s : St} {r : Bool} (h : laws_eqContext a1 b2 = some r) (hs : WF s) : ACall Cf 40 [(AV.agg [(AV.str a1.Front), (AV.str a1.Back)]), (AV.agg [(AV.str b2.Front), (AV.str b2.Back)])] s fun v _ s' => (rB) r v ∧ s' = s := by
 refine ACall.pure rfl rfl rfl .B ?_
 have hWF := hs.lo'
 unfold laws_eqContext at h
 refine AW.sr ?_
 refine AOps.makeR rfl rfl rfl rfl rfl rfl (rfl : _ = (AV.eptr [(AV.str a1.Front), (AV.str a1.Back)] 0)) ?_
 refine AOps.makeR rfl rfl rfl rfl rfl rfl (rfl : _ = (AV.eptr [(AV.str b2.Front), (AV.str b2.Back)] 0)) ?_
 refine AOps.p rfl (rfl : _ = (AV.bool false)) ?_
 refine AOps.nilR ?_
 refine AW.seq ?_
 refine AW.sr ?_
 refine AOps.p rfl (rfl : _ = (AV.eptr [(AV.str a1.Front), (AV.str a1.Back)] 0)) ?_
 refine AOps.ldE (v := (AV.str a1.Front)) rfl rfl rfl rfl rfl rfl ?_
 refine AOps.p rfl (rfl : _ = (AV.eptr [(AV.str b2.Front), (AV.str b2.Back)] 0)) ?_
 refine AOps.ldE (v := (AV.str b2.Front)) rfl rfl rfl rfl rfl rfl ?_
 refine AOps.p rfl (rfl : _ = (AV.bool (!(a1.Front == b2.Front)))) ?_
 refine AOps.nilR ?_
 rcases oite h with ⟨hc3, h⟩ | ⟨hc3, h⟩
 ·refine AW.condT (congrArg AV.bool hc3) ?_
  refine AW.sr ?_
  refine AOps.p rfl (rfl : _ = (AV.bool false)) ?_
  refine AOps.nilR ?_
  cases h
  exact AW.ret ⟨rfl, _, _, rfl, rfl⟩
 refine AW.condF (congrArg AV.bool hc3) ?_
 refine AW.skip ?_
 refine AW.seq ?_
 refine AW.sr ?_
 refine AOps.p rfl (rfl : _ = (AV.eptr [(AV.str a1.Front), (AV.str a1.Back)] 1)) ?_
 refine AOps.ldE (v := (AV.str a1.Back)) rfl rfl rfl rfl rfl rfl ?_
 refine AOps.p rfl (rfl : _ = (AV.eptr [(AV.str b2.Front), (AV.str b2.Back)] 1)) ?_
 refine AOps.ldE (v := (AV.str b2.Back)) rfl rfl rfl rfl rfl rfl ?_
 refine AOps.p rfl (rfl : _ = (AV.bool (!(a1.Back == b2.Back)))) ?_
 refine AOps.nilR ?_
 rcases oite h with ⟨hc4, h⟩ | ⟨hc4, h⟩
 ·refine AW.condT (congrArg AV.bool hc4) ?_
  refine AW.sr ?_
  refine AOps.p rfl (rfl : _ = (AV.bool false)) ?_
  refine AOps.nilR ?_
  cases h
  exact AW.ret ⟨rfl, _, _, rfl, rfl⟩
 refine AW.condF (congrArg AV.bool hc4) ?_
 refine AW.skip ?_
 refine AW.sr ?_
 refine AOps.p rfl (rfl : _ = (AV.bool true)) ?_
 refine AOps.nilR ?_
 cases h
 exact AW.ret ⟨rfl, _, _, rfl, rfl⟩
theorem laws_eqContextS_okN {a1 : List Context} {b6 : List Context} {z2 : Nat} {f3 : Bool} {e4 : List AV} {z7 : Nat} {f8 : Bool} {e9 : List AV} {s : St} (h5 : LR rContext 2 a1 z2 e4) (h10 : LR rContext 2 b6 z7 e9) {r : Bool} (h : laws_eqContextS a1 b6 = some r) (hs : WF s) : ACallN Cf 12 [(AV.sl z2 f3 e4), (AV.sl z7 f8 e9)] s fun v _ s' => (rB) r v ∧ s' = s := by
 refine ACallN.pure rfl rfl rfl .B ?_
 have hWF := hs.lo'
 unfold laws_eqContextS at h
 refine AW.sr ?_
 refine AOps.p rfl (rfl : _ = (AV.bool false)) ?_
 refine AOps.nilR ?_
 refine AW.seq ?_
 refine AW.sr ?_
 refine AOps.p rfl (rfl : _ = (AV.sl z2 f3 e4)) ?_
 refine AOps.p rfl (len_eq h5) ?_
 refine AOps.p rfl (rfl : _ = (AV.sl z7 f8 e9)) ?_
 refine AOps.p rfl (len_eq h10) ?_
 refine AOps.p rfl (rfl : _ = (AV.bool ((a1.length : Int) != (b6.length : Int)))) ?_
 refine AOps.nilR ?_
 rcases oite h with ⟨hc11, h⟩ | ⟨hc11, h⟩
 ·refine AW.condT (congrArg AV.bool hc11) ?_
  refine AW.sr ?_
  refine AOps.p rfl (rfl : _ = (AV.bool false)) ?_
  refine AOps.nilR ?_
  cases h
  exact AW.ret ⟨rfl, _, _, rfl, rfl⟩
 refine AW.condF (congrArg AV.bool hc11) ?_
 refine AW.skip ?_
 refine AW.seq ?_
 refine AW.sr ?_
 refine AOps.p rfl (rfl : _ = (AV.int .i64 0)) ?_
 refine AOps.nilR ?_
 refine AW.meet (σ := Unit) (fun _ tm os => ⟨updL tm [], updL os [], { s with lo := s.n }⟩) (fun _ => laws_eqContextS_J1 = some r) ?_ ?_
 ·rintro _ tm os h
  unfold laws_eqContextS_J1 at h
  refine AW.sr ?_
  refine AOps.p rfl (rfl : _ = (AV.bool true)) ?_
  refine AOps.nilR ?_
  cases h
  exact AW.ret ⟨rfl, _, _, rfl, rfl⟩
 intro KJ12
 refine AW.block ?_
 refine AW.res [(0, (AV.sl z2 f3 e4)), (1, (AV.sl z7 f8 e9)), (5, (AV.int .i64 0))] [] ⟨rfl, rfl, rfl, trivial⟩ trivial ?_
 refine AW.loopF (σ := Int) (τ := Unit) (fun i13 _ => True) (fun i13 _ tm os => ⟨updL tm [(0, (AV.sl z2 f3 e4)), (1, (AV.sl z7 f8 e9)), (5, (AV.int .i64 i13))], updL os [], { s with lo := s.n }⟩) ?_ (x := (0)) (y := ()) h trivial
 clear h
 rintro i13 _ tm os - e1 h hL1 hR1
 unfold laws_eqContextS_S1 at h
 refine AW.seq ?_
 refine AW.sr ?_
 refine AOps.p rfl (rfl : _ = (AV.int .i64 i13)) ?_
 refine AOps.p rfl (rfl : _ = (AV.sl z2 f3 e4)) ?_
 refine AOps.p rfl (len_eq h5) ?_
 refine AOps.p rfl (rfl : _ = (AV.bool (decide ((i13 : Int) < (a1.length : Int))))) ?_
 refine AOps.nilR ?_
 rcases oite h with ⟨hc14, h⟩ | ⟨hc14, h⟩
 ·refine AW.condT (congrArg AV.bool hc14) ?_
  refine AW.skip ?_
  refine AW.seq ?_
  refine AW.block ?_
  refine AW.sr ?_
  refine AOps.p rfl (rfl : _ = (AV.sl z2 f3 e4)) ?_
  refine AOps.p rfl (rfl : _ = (AV.int .i64 i13)) ?_
  obtain ⟨x15, h16, h⟩ := obind h
  obtain ⟨v19, h17, h18⟩ := idx_sl h5 h16
  obtain ⟨_, rfl, h20⟩ := h17
  obtain ⟨_, _, rfl, h21, h22⟩ := Cs_cons h20
  cases h21
  obtain ⟨_, _, rfl, h23, h24⟩ := Cs_cons h22
  cases h23
  cases Cs_nil h24
  refine AOps.pureR rfl rfl rfl h18 rfl (rfl : _ = (AV.eptr [(AV.str x15.Front), (AV.str x15.Back)] 0)) ?_
  refine AOps.ldE (v := (AV.agg [(AV.str x15.Front), (AV.str x15.Back)])) rfl rfl rfl rfl rfl rfl ?_
  refine AOps.p rfl (rfl : _ = (AV.sl z7 f8 e9)) ?_
  refine AOps.p rfl (rfl : _ = (AV.int .i64 i13)) ?_
  obtain ⟨x25, h26, h⟩ := obind h
  obtain ⟨v29, h27, h28⟩ := idx_sl h10 h26
  obtain ⟨_, rfl, h30⟩ := h27
  obtain ⟨_, _, rfl, h31, h32⟩ := Cs_cons h30
  cases h31
  obtain ⟨_, _, rfl, h33, h34⟩ := Cs_cons h32
  cases h33
  cases Cs_nil h34
  refine AOps.pureR rfl rfl rfl h28 rfl (rfl : _ = (AV.eptr [(AV.str x25.Front), (AV.str x25.Back)] 0)) ?_
  refine AOps.ldE (v := (AV.agg [(AV.str x25.Front), (AV.str x25.Back)])) rfl rfl rfl rfl rfl rfl ?_
  obtain ⟨y35, h36, h⟩ := obind h
  refine AOps.callDP (g := 40) (args := [(AV.agg [(AV.str x15.Front), (AV.str x15.Back)]), (AV.agg [(AV.str x25.Front), (AV.str x25.Back)])]) (p := (rB) y35) rfl rfl rfl (laws_eqContext_ok  h36 hWF.still) (fun v hv => Nice.pure (k := FINK) (p := (rB) y35) .B _ v hv) ?_
  intro _ o38 h37
  cases h37
  refine AOps.p rfl (rfl : _ = (AV.bool (!y35))) ?_
  refine AOps.nilR ?_
  rcases oite h with ⟨hc39, h⟩ | ⟨hc39, h⟩
  ·refine AW.condT (congrArg AV.bool hc39) ?_
   refine AW.sr ?_
   refine AOps.p rfl (rfl : _ = (AV.bool false)) ?_
   refine AOps.nilR ?_
   cases h
   have hr := hR1 _ rfl
   subst hr
   exact AW.ret ⟨rfl, _, _, rfl, rfl⟩
  refine AW.condF (congrArg AV.bool hc39) ?_
  refine AW.skip ?_
  refine AW.inBlock ?_
  refine AW.region ?_
  refine AOps.p rfl (rfl : _ = (AV.int .i64 i13)) ?_
  refine AOps.p rfl (rfl : _ = (AV.int .i64 (IntKind.wrap .i64 (i13 + 1)))) ?_
  refine AOps.assignR rfl rfl rfl (rfl : _ = (AV.int .i64 (IntKind.wrap .i64 (i13 + 1)))) rfl ?_
  refine AOps.nilR ?_
  cases h
  exact AW.res [(0, (AV.sl z2 f3 e4)), (1, (AV.sl z7 f8 e9)), (5, (AV.int .i64 (IntKind.wrap .i64 (i13 + 1))))] [] ⟨rfl, rfl, rfl, trivial⟩ trivial (hL1 _ rfl () _ _ trivial)
 refine AW.condF (congrArg AV.bool hc14) ?_
 refine AW.exit rfl ?_
 obtain ⟨r40, hm, hx⟩ := omap h
 clear h
 subst hx
 have hx := hR1 _ rfl
 rw [hx] at hm
 have h := hm
 exact AW.res [] [] trivial trivial (KJ12 () _ _ h)
theorem laws_markBoolS_K10_ok {a4 : List Bool} {k5 : Int} {h1 : AV} {k2 : KT} {s : St} (ho3 : h1.one = true) {ex : List Nat} {Ls0 : List (List BX)} (hH0 : HS ex true s s (([] : List BX) ++ List.flatten Ls0)) (hG0 : AllG [OS oE4 h1 k2 a4] Ls0) (hl : LoOK ex true s) {r : Int × (List Bool)} (h : laws_markBoolS_K10 a4 k5 = some r) (hs : WF s) : ACall Cf 15 [h1, (AV.int .i64 k5)] s (fun v _ s' => ∃ (Ls' : List (List BX)), v = (AV.int .i64 r.1) ∧ HS ex true s s' (([] : List BX) ++ List.flatten Ls') ∧ AllG [OS oE4 h1 k2 r.2] Ls') true := by
 refine ACall.keepR rfl rfl rfl ?_
 unfold laws_markBoolS_K10 at h
 refine AW.sr ?_
 refine AOps.p rfl (rfl : _ = (AV.int .i64 0)) ?_
 refine AOps.nilR ?_
 refine AW.seq ?_
 refine AW.sr ?_
 refine AOps.p rfl (rfl : _ = (AV.int .i64 0)) ?_
 refine AOps.nilR ?_
 refine AW.meet (σ := (List Bool) × Int × St × (List (List BX))) (fun (m6, k7, s8, Ls9) tm os => ⟨updL tm [(1, (AV.int .i64 k7))], updL os [], s8⟩) (fun (m6, k7, s8, Ls9) => (HS ex true s s8 (([] : List BX) ++ List.flatten Ls9)) ∧ (AllG [OS oE4 h1 k2 m6] Ls9) ∧ laws_markBoolS_K10_J1 m6 k7 = some r) ?_ ?_
 ·rintro ⟨m6, k7, s8, Ls9⟩ tm os ⟨hH10, hG11, h⟩
  unfold laws_markBoolS_K10_J1 at h
  refine AW.sr ?_
  refine AOps.p rfl (rfl : _ = (AV.int .i64 k7)) ?_
  refine AOps.assignR rfl rfl rfl (rfl : _ = (AV.int .i64 k7)) rfl ?_
  refine AOps.nilR ?_
  cases h
  exact AW.ret ⟨_, _, rfl, ⟨Ls9, rfl, hH10, hG11⟩⟩
 intro KJ12
 refine AW.block ?_
 refine AW.res [(0, h1), (1, (AV.int .i64 k5)), (5, (AV.int .i64 0))] [] ⟨rfl, rfl, rfl, trivial⟩ trivial ?_
 refine AW.loopF (σ := (List Bool) × Int × Int) (τ := St × (List (List BX))) (fun (m13, k14, i15) (s16, Ls17) => (HS ex true s s16 (([] : List BX) ++ List.flatten Ls17)) ∧ (AllG [OS oE4 h1 k2 m13] Ls17)) (fun (m13, k14, i15) (s16, Ls17) tm os => ⟨updL tm [(0, h1), (1, (AV.int .i64 k14)), (5, (AV.int .i64 i15))], updL os [], s16⟩) ?_ (x := (a4, k5, 0)) (y := (s, Ls0)) h ⟨hH0, hG0⟩
 clear h
 rintro ⟨m13, k14, i15⟩ ⟨s16, Ls17⟩ tm os ⟨hH18, hG19⟩ e1 h hL1 hR1
 unfold laws_markBoolS_K10_S1 at h
 dsimp only at h
 refine AW.seq ?_
 refine AW.sr ?_
 refine AOps.p rfl (rfl : _ = (AV.int .i64 i15)) ?_
 refine AOps.p rfl (rfl : _ = h1) ?_
 refine AOps.lenO (j := 0) hG19 rfl Sub.here rfl rfl rfl rfl rfl ?_
 refine AOps.p rfl (rfl : _ = (AV.bool (decide ((i15 : Int) < (m13.length : Int))))) ?_
 refine AOps.nilR ?_
 rcases oite h with ⟨hc20, h⟩ | ⟨hc20, h⟩
 ·refine AW.condT (congrArg AV.bool hc20) ?_
  refine AW.skip ?_
  refine AW.seq ?_
  refine AW.block ?_
  refine AW.sr ?_
  refine AOps.p rfl (rfl : _ = h1) ?_
  refine AOps.p rfl (rfl : _ = (AV.int .i64 i15)) ?_
  refine AOps.p rfl (rfl : _ = (AV.int .i64 k14)) ?_
  obtain ⟨q21, h22, h⟩ := obind h
  refine AOps.pureR rfl rfl rfl (rem_ok h22) rfl (rfl : _ = (AV.int .i64 q21)) ?_
  refine AOps.p rfl (rfl : _ = (AV.bool (q21 == 0))) ?_
  obtain ⟨x25, h26, h⟩ := obind h
  refine AOps.idxO (j := 0) hG19 rfl Sub.here h26 rfl rfl rfl rfl rfl rfl rfl rfl rfl ?_
  intro b23 hb24
  refine AOps.stO (j := 0) (q := 0) (v := (AV.bool (q21 == 0))) (y' := (q21 == 0)) hH18 hG19 hl rfl Sub.here h26 hb24 rfl rfl rfl rfl rfl rfl rfl rfl (lt_b rfl) (le_b rfl) rfl (fun c B hc => oLeaf_set hc rfl) ?_
  intro Ls27 s28 hG29 hH30
  change HS ex true s s28 (([] : List BX) ++ List.flatten Ls27) at hH30
  change AllG [OS oE4 h1 k2 (m13.set (Int.toNat i15) (q21 == 0))] Ls27 at hG29
  refine AOps.nilR ?_
  refine AW.region ?_
  refine AOps.p rfl (rfl : _ = (AV.int .i64 k14)) ?_
  refine AOps.p rfl (rfl : _ = (AV.int .i64 (IntKind.wrap .i64 (k14 + 1)))) ?_
  refine AOps.assignR rfl rfl rfl (rfl : _ = (AV.int .i64 (IntKind.wrap .i64 (k14 + 1)))) rfl ?_
  refine AOps.nilR ?_
  refine AW.inBlock ?_
  refine AW.region ?_
  refine AOps.p rfl (rfl : _ = (AV.int .i64 i15)) ?_
  refine AOps.p rfl (rfl : _ = (AV.int .i64 (IntKind.wrap .i64 (i15 + 1)))) ?_
  refine AOps.assignR rfl rfl rfl (rfl : _ = (AV.int .i64 (IntKind.wrap .i64 (i15 + 1)))) rfl ?_
  refine AOps.nilR ?_
  cases h
  exact AW.res [(0, h1), (1, (AV.int .i64 (IntKind.wrap .i64 (k14 + 1)))), (5, (AV.int .i64 (IntKind.wrap .i64 (i15 + 1))))] [] ⟨rfl, rfl, rfl, trivial⟩ trivial (hL1 _ rfl (s28, Ls27) _ _ ⟨hH30, hG29⟩)
 refine AW.condF (congrArg AV.bool hc20) ?_
 refine AW.exit rfl ?_
 obtain ⟨r31, hm, hx⟩ := omap h
 clear h
 subst hx
 have hx := hR1 _ rfl
 rw [hx] at hm
 have h := hm
 exact AW.res [(1, (AV.int .i64 k14))] [] ⟨rfl, trivial⟩ trivial (KJ12 (m13, k14, s16, Ls17) _ _ ⟨hH18, hG19, h⟩)
theorem laws_markPushS_K10_ok {a4 : List Push} {k5 : Int} {h1 : AV} {k2 : KT} {s : St} (ho3 : h1.one = true) {ex : List Nat} {Ls0 : List (List BX)} (hH0 : HS ex true s s (([] : List BX) ++ List.flatten Ls0)) (hG0 : AllG [OS oE84 h1 k2 a4] Ls0) (hl : LoOK ex true s) {r : Int × (List Push)} (h : laws_markPushS_K10 a4 k5 = some r) (hs : WF s) : ACall Cf 72 [h1, (AV.int .i64 k5)] s (fun v _ s' => ∃ (Ls' : List (List BX)), v = (AV.int .i64 r.1) ∧ HS ex true s s' (([] : List BX) ++ List.flatten Ls') ∧ AllG [OS oE84 h1 k2 r.2] Ls') true := by
 refine ACall.keepR rfl rfl rfl ?_
 unfold laws_markPushS_K10 at h
 refine AW.sr ?_
 refine AOps.p rfl (rfl : _ = (AV.int .i64 0)) ?_
 refine AOps.nilR ?_
 refine AW.seq ?_
 refine AW.sr ?_
 refine AOps.p rfl (rfl : _ = (AV.int .i64 0)) ?_
 refine AOps.nilR ?_
 refine AW.meet (σ := (List Push) × Int × St × (List (List BX))) (fun (m6, k7, s8, Ls9) tm os => ⟨updL tm [(1, (AV.int .i64 k7))], updL os [], s8⟩) (fun (m6, k7, s8, Ls9) => (HS ex true s s8 (([] : List BX) ++ List.flatten Ls9)) ∧ (AllG [OS oE84 h1 k2 m6] Ls9) ∧ laws_markPushS_K10_J1 m6 k7 = some r) ?_ ?_
 ·rintro ⟨m6, k7, s8, Ls9⟩ tm os ⟨hH10, hG11, h⟩
  unfold laws_markPushS_K10_J1 at h
  refine AW.sr ?_
  refine AOps.p rfl (rfl : _ = (AV.int .i64 k7)) ?_
  refine AOps.assignR rfl rfl rfl (rfl : _ = (AV.int .i64 k7)) rfl ?_
  refine AOps.nilR ?_
  cases h
  exact AW.ret ⟨_, _, rfl, ⟨Ls9, rfl, hH10, hG11⟩⟩
 intro KJ12
 refine AW.block ?_
 refine AW.res [(0, h1), (1, (AV.int .i64 k5)), (5, (AV.int .i64 0))] [] ⟨rfl, rfl, rfl, trivial⟩ trivial ?_
 refine AW.loopF (σ := (List Push) × Int × Int) (τ := St × (List (List BX))) (fun (m13, k14, i15) (s16, Ls17) => (HS ex true s s16 (([] : List BX) ++ List.flatten Ls17)) ∧ (AllG [OS oE84 h1 k2 m13] Ls17)) (fun (m13, k14, i15) (s16, Ls17) tm os => ⟨updL tm [(0, h1), (1, (AV.int .i64 k14)), (5, (AV.int .i64 i15))], updL os [], s16⟩) ?_ (x := (a4, k5, 0)) (y := (s, Ls0)) h ⟨hH0, hG0⟩
 clear h
 rintro ⟨m13, k14, i15⟩ ⟨s16, Ls17⟩ tm os ⟨hH18, hG19⟩ e1 h hL1 hR1
 unfold laws_markPushS_K10_S1 at h
 dsimp only at h
 refine AW.seq ?_
 refine AW.sr ?_
 refine AOps.p rfl (rfl : _ = (AV.int .i64 i15)) ?_
 refine AOps.p rfl (rfl : _ = h1) ?_
 refine AOps.lenO (j := 0) hG19 rfl Sub.here rfl rfl rfl rfl rfl ?_
 refine AOps.p rfl (rfl : _ = (AV.bool (decide ((i15 : Int) < (m13.length : Int))))) ?_
 refine AOps.nilR ?_
 rcases oite h with ⟨hc20, h⟩ | ⟨hc20, h⟩
 ·refine AW.condT (congrArg AV.bool hc20) ?_
  refine AW.skip ?_
  refine AW.seq ?_
  refine AW.block ?_
  refine AW.sr ?_
  refine AOps.p rfl (rfl : _ = h1) ?_
  refine AOps.p rfl (rfl : _ = (AV.int .i64 i15)) ?_
  refine AOps.p rfl (rfl : _ = (AV.int .i64 k14)) ?_
  obtain ⟨x23, h24, h⟩ := obind h
  refine AOps.idxO (j := 0) hG19 rfl Sub.here h24 rfl rfl rfl rfl rfl rfl rfl rfl rfl ?_
  intro b21 hb22
  refine AOps.p rfl (rfl : _ = (AV.ptr b21 (0 + Int.toNat i15 * 2))) ?_
  refine AOps.stO (j := 0) (q := 0) (v := (AV.int .i64 k14)) (y' := ({ x23 with To := k14 } : Push)) hH18 hG19 hl rfl Sub.here h24 hb22 rfl rfl rfl rfl rfl rfl rfl rfl (lt_b rfl) (le_b rfl) rfl (fun c B hc => by obtain ⟨⟨_, hr, rfl⟩, rfl⟩ := hc; obtain ⟨_, rfl, h29⟩ := hr; obtain ⟨_, _, rfl, h30, h31⟩ := Cs_cons h29; cases h30; obtain ⟨_, _, rfl, h32, h33⟩ := Cs_cons h31; cases h32; cases Cs_nil h33; exact ⟨⟨(AV.agg [(AV.int .i64 k14), (AV.int .i64 x23.Put)]), ⟨_, rfl, (.cons rfl (.cons rfl .nil))⟩, rfl⟩, rfl⟩) ?_
  intro Ls25 s26 hG27 hH28
  change HS ex true s s26 (([] : List BX) ++ List.flatten Ls25) at hH28
  change AllG [OS oE84 h1 k2 (m13.set (Int.toNat i15) ({ x23 with To := k14 } : Push))] Ls25 at hG27
  refine AOps.nilR ?_
  refine AW.sr ?_
  refine AOps.p rfl (rfl : _ = (AV.int .i64 k14)) ?_
  refine AOps.p rfl (rfl : _ = (AV.int .i64 (IntKind.wrap .i64 (k14 + 1)))) ?_
  refine AOps.assignR rfl rfl rfl (rfl : _ = (AV.int .i64 (IntKind.wrap .i64 (k14 + 1)))) rfl ?_
  refine AOps.nilR ?_
  refine AW.sr ?_
  refine AOps.p rfl (rfl : _ = h1) ?_
  refine AOps.p rfl (rfl : _ = (AV.int .i64 i15)) ?_
  refine AOps.p rfl (rfl : _ = (AV.int .i64 (IntKind.wrap .i64 (k14 + 1)))) ?_
  refine AOps.idxO (j := 0) hG27 rfl Sub.here (ix_set h24) rfl rfl rfl rfl rfl rfl rfl rfl rfl ?_
  intro b34 hb35
  refine AOps.p rfl (rfl : _ = (AV.ptr b34 (0 + Int.toNat i15 * 2 + 1))) ?_
  refine AOps.stO (j := 0) (q := 1) (v := (AV.int .i64 (IntKind.wrap .i64 (k14 + 1)))) (y' := ({ ({ x23 with To := k14 } : Push) with Put := IntKind.wrap .i64 (k14 + 1) } : Push)) hH28 hG27 hl rfl Sub.here (ix_set h24) hb35 rfl rfl rfl rfl rfl rfl rfl rfl (lt_b rfl) (le_b rfl) rfl (fun c B hc => by obtain ⟨⟨_, hr, rfl⟩, rfl⟩ := hc; obtain ⟨_, rfl, h40⟩ := hr; obtain ⟨_, _, rfl, h41, h42⟩ := Cs_cons h40; cases h41; obtain ⟨_, _, rfl, h43, h44⟩ := Cs_cons h42; cases h43; cases Cs_nil h44; exact ⟨⟨(AV.agg [(AV.int .i64 (({ x23 with To := k14 } : Push).To)), (AV.int .i64 (IntKind.wrap .i64 (k14 + 1)))]), ⟨_, rfl, (.cons rfl (.cons rfl .nil))⟩, rfl⟩, rfl⟩) ?_
  intro Ls36 s37 hG38 hH39
  change HS ex true s s37 (([] : List BX) ++ List.flatten Ls36) at hH39
  change AllG [OS oE84 h1 k2 ((m13.set (Int.toNat i15) ({ x23 with To := k14 } : Push)).set (Int.toNat i15) ({ ({ x23 with To := k14 } : Push) with Put := IntKind.wrap .i64 (k14 + 1) } : Push))] Ls36 at hG38
  refine AOps.nilR ?_
  refine AW.region ?_
  refine AOps.p rfl (rfl : _ = (AV.int .i64 (IntKind.wrap .i64 (k14 + 1)))) ?_
  refine AOps.p rfl (rfl : _ = (AV.int .i64 (IntKind.wrap .i64 ((IntKind.wrap .i64 (k14 + 1)) + 1)))) ?_
  refine AOps.assignR rfl rfl rfl (rfl : _ = (AV.int .i64 (IntKind.wrap .i64 ((IntKind.wrap .i64 (k14 + 1)) + 1)))) rfl ?_
  refine AOps.nilR ?_
  refine AW.inBlock ?_
  refine AW.region ?_
  refine AOps.p rfl (rfl : _ = (AV.int .i64 i15)) ?_
  refine AOps.p rfl (rfl : _ = (AV.int .i64 (IntKind.wrap .i64 (i15 + 1)))) ?_
  refine AOps.assignR rfl rfl rfl (rfl : _ = (AV.int .i64 (IntKind.wrap .i64 (i15 + 1)))) rfl ?_
  refine AOps.nilR ?_
  cases h
  exact AW.res [(0, h1), (1, (AV.int .i64 (IntKind.wrap .i64 ((IntKind.wrap .i64 (k14 + 1)) + 1)))), (5, (AV.int .i64 (IntKind.wrap .i64 (i15 + 1))))] [] ⟨rfl, rfl, rfl, trivial⟩ trivial (hL1 _ rfl (s37, Ls36) _ _ ⟨hH39, hG38⟩)
 refine AW.condF (congrArg AV.bool hc20) ?_
 refine AW.exit rfl ?_
 obtain ⟨r45, hm, hx⟩ := omap h
 clear h
 subst hx
 have hx := hR1 _ rfl
 rw [hx] at hm
 have h := hm
 exact AW.res [(1, (AV.int .i64 k14))] [] ⟨rfl, trivial⟩ trivial (KJ12 (m13, k14, s16, Ls17) _ _ ⟨hH18, hG19, h⟩)
theorem laws_markPushSS_K10_ok {a4 : List (List Push)} {k5 : Int} {h1 : AV} {k2 : KT} {s : St} (ho3 : h1.one = true) {ex : List Nat} {Ls0 : List (List BX)} (hH0 : HS ex true s s (([] : List BX) ++ List.flatten Ls0)) (hG0 : AllG [OS oE81 h1 k2 a4] Ls0) (hl : LoOK ex true s) {r : Int × (List (List Push))} (h : laws_markPushSS_K10 a4 k5 = some r) (hs : WF s) : ACall Cf 41 [h1, (AV.int .i64 k5)] s (fun v _ s' => ∃ (Ls' : List (List BX)), v = (AV.int .i64 r.1) ∧ HS ex true s s' (([] : List BX) ++ List.flatten Ls') ∧ AllG [OS oE81 h1 k2 r.2] Ls') true := by
 refine ACall.keepR rfl rfl rfl ?_
 unfold laws_markPushSS_K10 at h
 refine AW.sr ?_
 refine AOps.p rfl (rfl : _ = (AV.int .i64 0)) ?_
 refine AOps.nilR ?_
 refine AW.seq ?_
 refine AW.sr ?_
 refine AOps.p rfl (rfl : _ = (AV.int .i64 0)) ?_
 refine AOps.nilR ?_
 refine AW.meet (σ := (List (List Push)) × Int × St × (List (List BX))) (fun (m6, k7, s8, Ls9) tm os => ⟨updL tm [(1, (AV.int .i64 k7))], updL os [], s8⟩) (fun (m6, k7, s8, Ls9) => (HS ex true s s8 (([] : List BX) ++ List.flatten Ls9)) ∧ (AllG [OS oE81 h1 k2 m6] Ls9) ∧ laws_markPushSS_K10_J1 m6 k7 = some r) ?_ ?_
 ·rintro ⟨m6, k7, s8, Ls9⟩ tm os ⟨hH10, hG11, h⟩
  unfold laws_markPushSS_K10_J1 at h
  refine AW.sr ?_
  refine AOps.p rfl (rfl : _ = (AV.int .i64 k7)) ?_
  refine AOps.assignR rfl rfl rfl (rfl : _ = (AV.int .i64 k7)) rfl ?_
  refine AOps.nilR ?_
  cases h
  exact AW.ret ⟨_, _, rfl, ⟨Ls9, rfl, hH10, hG11⟩⟩
 intro KJ12
 refine AW.block ?_
 refine AW.res [(0, h1), (1, (AV.int .i64 k5)), (5, (AV.int .i64 0))] [] ⟨rfl, rfl, rfl, trivial⟩ trivial ?_
 refine AW.loopF (σ := (List (List Push)) × Int × Int) (τ := St × (List (List BX))) (fun (m13, k14, i15) (s16, Ls17) => (HS ex true s s16 (([] : List BX) ++ List.flatten Ls17)) ∧ (AllG [OS oE81 h1 k2 m13] Ls17)) (fun (m13, k14, i15) (s16, Ls17) tm os => ⟨updL tm [(0, h1), (1, (AV.int .i64 k14)), (5, (AV.int .i64 i15))], updL os [], s16⟩) ?_ (x := (a4, k5, 0)) (y := (s, Ls0)) h ⟨hH0, hG0⟩
 clear h
 rintro ⟨m13, k14, i15⟩ ⟨s16, Ls17⟩ tm os ⟨hH18, hG19⟩ e1 h hL1 hR1
 unfold laws_markPushSS_K10_S1 at h
 dsimp only at h
 refine AW.seq ?_
 refine AW.sr ?_
 refine AOps.p rfl (rfl : _ = (AV.int .i64 i15)) ?_
 refine AOps.p rfl (rfl : _ = h1) ?_
 refine AOps.lenO (j := 0) hG19 rfl Sub.here rfl rfl rfl rfl rfl ?_
 refine AOps.p rfl (rfl : _ = (AV.bool (decide ((i15 : Int) < (m13.length : Int))))) ?_
 refine AOps.nilR ?_
 rcases oite h with ⟨hc20, h⟩ | ⟨hc20, h⟩
 ·refine AW.condT (congrArg AV.bool hc20) ?_
  refine AW.skip ?_
  refine AW.seq ?_
  refine AW.block ?_
  refine AW.region ?_
  refine AOps.p rfl (rfl : _ = h1) ?_
  refine AOps.p rfl (rfl : _ = (AV.int .i64 i15)) ?_
  obtain ⟨x23, h24, h⟩ := obind h
  refine AOps.idxO (j := 0) hG19 rfl Sub.here h24 rfl rfl rfl rfl rfl rfl rfl rfl rfl ?_
  intro b21 hb22
  refine AOps.ldO (j := 0) (q := 0) hH18 hG19 rfl Sub.here h24 hb22 rfl rfl rfl rfl rfl (lt_b rfl) (le_b rfl) rfl rfl ?_ (fun c B hc => by obtain ⟨rfl, _⟩ := hc; exact ⟨_, rfl⟩)
  intro c25 B26 v27 h28 h29
  obtain ⟨rfl, _⟩ := h28
  cases h29
  refine AOps.p rfl (rfl : _ = (AV.int .i64 k14)) ?_
  obtain ⟨y30, h31, h⟩ := obind h
  have hP32 := HS.pop0 hH18
  have hF0 : AllG ([] : List (List BX → Prop)) [] := AllG.nil
  obtain ⟨Ls33, Lf34, hG35, hF36, hP37⟩ := HS.popS hP32 hG19 hF0 (j := 0) rfl (Sub.down Sub.here h24)
  refine AOps.callF (al := true) (g := 72) (args := [((KT.at k2 (Int.toNat i15)) []), (AV.int .i64 k14)]) rfl rfl rfl (laws_markPushS_K10_ok (Sub.one hG19 (j := 0) rfl (Sub.down Sub.here h24)) (HS.enterK hP37) hF36 (HS.enterLo hP37 hl) h31 (HS.wf' hH18)) ?_
  rintro _ _ s38 ⟨Ls40, rfl, hH41, hG42⟩
  have hJ43 := HS.joinK hP37 hH41
  obtain ⟨Ls44, Lf45, hG46, hF47, hP48⟩ := HS.pushS hJ43 hG35 hG42 (j := 0) rfl
  cases hF47
  have hH49 := HS.push0 hP48
  change HS ex true s s38 (([] : List BX) ++ List.flatten Ls44) at hH49
  change AllG [OS oE81 h1 k2 (m13.set (Int.toNat i15) y30.2)] Ls44 at hG46
  refine AOps.assignR rfl rfl rfl (rfl : _ = (AV.int .i64 y30.1)) rfl ?_
  refine AOps.nilR ?_
  refine AW.inBlock ?_
  refine AW.region ?_
  refine AOps.p rfl (rfl : _ = (AV.int .i64 i15)) ?_
  refine AOps.p rfl (rfl : _ = (AV.int .i64 (IntKind.wrap .i64 (i15 + 1)))) ?_
  refine AOps.assignR rfl rfl rfl (rfl : _ = (AV.int .i64 (IntKind.wrap .i64 (i15 + 1)))) rfl ?_
  refine AOps.nilR ?_
  cases h
  exact AW.res [(0, h1), (1, (AV.int .i64 y30.1)), (5, (AV.int .i64 (IntKind.wrap .i64 (i15 + 1))))] [] ⟨rfl, rfl, rfl, trivial⟩ trivial (hL1 _ rfl (s38, Ls44) _ _ ⟨hH49, hG46⟩)
 refine AW.condF (congrArg AV.bool hc20) ?_
 refine AW.exit rfl ?_
 obtain ⟨r50, hm, hx⟩ := omap h
 clear h
 subst hx
 have hx := hR1 _ rfl
 rw [hx] at hm
 have h := hm
 exact AW.res [(1, (AV.int .i64 k14))] [] ⟨rfl, trivial⟩ trivial (KJ12 (m13, k14, s16, Ls17) _ _ ⟨hH18, hG19, h⟩)
theorem laws_markInt64S_K10_ok {a4 : List Int} {k5 : Int} {h1 : AV} {k2 : KT} {s : St} (ho3 : h1.one = true) {ex : List Nat} {Ls0 : List (List BX)} (hH0 : HS ex true s s (([] : List BX) ++ List.flatten Ls0)) (hG0 : AllG [OS oE2 h1 k2 a4] Ls0) (hl : LoOK ex true s) {r : Int × (List Int)} (h : laws_markInt64S_K10 a4 k5 = some r) (hs : WF s) : ACall Cf 73 [h1, (AV.int .i64 k5)] s (fun v _ s' => ∃ (Ls' : List (List BX)), v = (AV.int .i64 r.1) ∧ HS ex true s s' (([] : List BX) ++ List.flatten Ls') ∧ AllG [OS oE2 h1 k2 r.2] Ls') true := by
 refine ACall.keepR rfl rfl rfl ?_
 unfold laws_markInt64S_K10 at h
 refine AW.sr ?_
 refine AOps.p rfl (rfl : _ = (AV.int .i64 0)) ?_
 refine AOps.nilR ?_
 refine AW.seq ?_
 refine AW.sr ?_
 refine AOps.p rfl (rfl : _ = (AV.int .i64 0)) ?_
 refine AOps.nilR ?_
 refine AW.meet (σ := (List Int) × Int × St × (List (List BX))) (fun (m6, k7, s8, Ls9) tm os => ⟨updL tm [(1, (AV.int .i64 k7))], updL os [], s8⟩) (fun (m6, k7, s8, Ls9) => (HS ex true s s8 (([] : List BX) ++ List.flatten Ls9)) ∧ (AllG [OS oE2 h1 k2 m6] Ls9) ∧ laws_markInt64S_K10_J1 m6 k7 = some r) ?_ ?_
 ·rintro ⟨m6, k7, s8, Ls9⟩ tm os ⟨hH10, hG11, h⟩
  unfold laws_markInt64S_K10_J1 at h
  refine AW.sr ?_
  refine AOps.p rfl (rfl : _ = (AV.int .i64 k7)) ?_
  refine AOps.assignR rfl rfl rfl (rfl : _ = (AV.int .i64 k7)) rfl ?_
  refine AOps.nilR ?_
  cases h
  exact AW.ret ⟨_, _, rfl, ⟨Ls9, rfl, hH10, hG11⟩⟩
 intro KJ12
 refine AW.block ?_
 refine AW.res [(0, h1), (1, (AV.int .i64 k5)), (5, (AV.int .i64 0))] [] ⟨rfl, rfl, rfl, trivial⟩ trivial ?_
 refine AW.loopF (σ := (List Int) × Int × Int) (τ := St × (List (List BX))) (fun (m13, k14, i15) (s16, Ls17) => (HS ex true s s16 (([] : List BX) ++ List.flatten Ls17)) ∧ (AllG [OS oE2 h1 k2 m13] Ls17)) (fun (m13, k14, i15) (s16, Ls17) tm os => ⟨updL tm [(0, h1), (1, (AV.int .i64 k14)), (5, (AV.int .i64 i15))], updL os [], s16⟩) ?_ (x := (a4, k5, 0)) (y := (s, Ls0)) h ⟨hH0, hG0⟩
 clear h
 rintro ⟨m13, k14, i15⟩ ⟨s16, Ls17⟩ tm os ⟨hH18, hG19⟩ e1 h hL1 hR1
 unfold laws_markInt64S_K10_S1 at h
 dsimp only at h
 refine AW.seq ?_
 refine AW.sr ?_
 refine AOps.p rfl (rfl : _ = (AV.int .i64 i15)) ?_
 refine AOps.p rfl (rfl : _ = h1) ?_
 refine AOps.lenO (j := 0) hG19 rfl Sub.here rfl rfl rfl rfl rfl ?_
 refine AOps.p rfl (rfl : _ = (AV.bool (decide ((i15 : Int) < (m13.length : Int))))) ?_
 refine AOps.nilR ?_
 rcases oite h with ⟨hc20, h⟩ | ⟨hc20, h⟩
 ·refine AW.condT (congrArg AV.bool hc20) ?_
  refine AW.skip ?_
  refine AW.seq ?_
  refine AW.block ?_
  refine AW.sr ?_
  refine AOps.p rfl (rfl : _ = h1) ?_
  refine AOps.p rfl (rfl : _ = (AV.int .i64 i15)) ?_
  refine AOps.p rfl (rfl : _ = (AV.int .i64 k14)) ?_
  obtain ⟨x23, h24, h⟩ := obind h
  refine AOps.idxO (j := 0) hG19 rfl Sub.here h24 rfl rfl rfl rfl rfl rfl rfl rfl rfl ?_
  intro b21 hb22
  refine AOps.stO (j := 0) (q := 0) (v := (AV.int .i64 k14)) (y' := k14) hH18 hG19 hl rfl Sub.here h24 hb22 rfl rfl rfl rfl rfl rfl rfl rfl (lt_b rfl) (le_b rfl) rfl (fun c B hc => oLeaf_set hc rfl) ?_
  intro Ls25 s26 hG27 hH28
  change HS ex true s s26 (([] : List BX) ++ List.flatten Ls25) at hH28
  change AllG [OS oE2 h1 k2 (m13.set (Int.toNat i15) k14)] Ls25 at hG27
  refine AOps.nilR ?_
  refine AW.region ?_
  refine AOps.p rfl (rfl : _ = (AV.int .i64 k14)) ?_
  refine AOps.p rfl (rfl : _ = (AV.int .i64 (IntKind.wrap .i64 (k14 + 1)))) ?_
  refine AOps.assignR rfl rfl rfl (rfl : _ = (AV.int .i64 (IntKind.wrap .i64 (k14 + 1)))) rfl ?_
  refine AOps.nilR ?_
  refine AW.inBlock ?_
  refine AW.region ?_
  refine AOps.p rfl (rfl : _ = (AV.int .i64 i15)) ?_
  refine AOps.p rfl (rfl : _ = (AV.int .i64 (IntKind.wrap .i64 (i15 + 1)))) ?_
  refine AOps.assignR rfl rfl rfl (rfl : _ = (AV.int .i64 (IntKind.wrap .i64 (i15 + 1)))) rfl ?_
  refine AOps.nilR ?_
  cases h
  exact AW.res [(0, h1), (1, (AV.int .i64 (IntKind.wrap .i64 (k14 + 1)))), (5, (AV.int .i64 (IntKind.wrap .i64 (i15 + 1))))] [] ⟨rfl, rfl, rfl, trivial⟩ trivial (hL1 _ rfl (s26, Ls25) _ _ ⟨hH28, hG27⟩)
 refine AW.condF (congrArg AV.bool hc20) ?_
 refine AW.exit rfl ?_
 obtain ⟨r29, hm, hx⟩ := omap h
 clear h
 subst hx
 have hx := hR1 _ rfl
 rw [hx] at hm
 have h := hm
 exact AW.res [(1, (AV.int .i64 k14))] [] ⟨rfl, trivial⟩ trivial (KJ12 (m13, k14, s16, Ls17) _ _ ⟨hH18, hG19, h⟩)
theorem laws_markInt64SS_K10_ok {a4 : List (List Int)} {k5 : Int} {h1 : AV} {k2 : KT} {s : St} (ho3 : h1.one = true) {ex : List Nat} {Ls0 : List (List BX)} (hH0 : HS ex true s s (([] : List BX) ++ List.flatten Ls0)) (hG0 : AllG [OS oE79 h1 k2 a4] Ls0) (hl : LoOK ex true s) {r : Int × (List (List Int))} (h : laws_markInt64SS_K10 a4 k5 = some r) (hs : WF s) : ACall Cf 43 [h1, (AV.int .i64 k5)] s (fun v _ s' => ∃ (Ls' : List (List BX)), v = (AV.int .i64 r.1) ∧ HS ex true s s' (([] : List BX) ++ List.flatten Ls') ∧ AllG [OS oE79 h1 k2 r.2] Ls') true := by
 refine ACall.keepR rfl rfl rfl ?_
 unfold laws_markInt64SS_K10 at h
 refine AW.sr ?_
 refine AOps.p rfl (rfl : _ = (AV.int .i64 0)) ?_
 refine AOps.nilR ?_
 refine AW.seq ?_
 refine AW.sr ?_
 refine AOps.p rfl (rfl : _ = (AV.int .i64 0)) ?_
 refine AOps.nilR ?_
 refine AW.meet (σ := (List (List Int)) × Int × St × (List (List BX))) (fun (m6, k7, s8, Ls9) tm os => ⟨updL tm [(1, (AV.int .i64 k7))], updL os [], s8⟩) (fun (m6, k7, s8, Ls9) => (HS ex true s s8 (([] : List BX) ++ List.flatten Ls9)) ∧ (AllG [OS oE79 h1 k2 m6] Ls9) ∧ laws_markInt64SS_K10_J1 m6 k7 = some r) ?_ ?_
 ·rintro ⟨m6, k7, s8, Ls9⟩ tm os ⟨hH10, hG11, h⟩
  unfold laws_markInt64SS_K10_J1 at h
  refine AW.sr ?_
  refine AOps.p rfl (rfl : _ = (AV.int .i64 k7)) ?_
  refine AOps.assignR rfl rfl rfl (rfl : _ = (AV.int .i64 k7)) rfl ?_
  refine AOps.nilR ?_
  cases h
  exact AW.ret ⟨_, _, rfl, ⟨Ls9, rfl, hH10, hG11⟩⟩
 intro KJ12
 refine AW.block ?_
 refine AW.res [(0, h1), (1, (AV.int .i64 k5)), (5, (AV.int .i64 0))] [] ⟨rfl, rfl, rfl, trivial⟩ trivial ?_
 refine AW.loopF (σ := (List (List Int)) × Int × Int) (τ := St × (List (List BX))) (fun (m13, k14, i15) (s16, Ls17) => (HS ex true s s16 (([] : List BX) ++ List.flatten Ls17)) ∧ (AllG [OS oE79 h1 k2 m13] Ls17)) (fun (m13, k14, i15) (s16, Ls17) tm os => ⟨updL tm [(0, h1), (1, (AV.int .i64 k14)), (5, (AV.int .i64 i15))], updL os [], s16⟩) ?_ (x := (a4, k5, 0)) (y := (s, Ls0)) h ⟨hH0, hG0⟩
 clear h
 rintro ⟨m13, k14, i15⟩ ⟨s16, Ls17⟩ tm os ⟨hH18, hG19⟩ e1 h hL1 hR1
 unfold laws_markInt64SS_K10_S1 at h
 dsimp only at h
 refine AW.seq ?_
 refine AW.sr ?_
 refine AOps.p rfl (rfl : _ = (AV.int .i64 i15)) ?_
 refine AOps.p rfl (rfl : _ = h1) ?_
 refine AOps.lenO (j := 0) hG19 rfl Sub.here rfl rfl rfl rfl rfl ?_
 refine AOps.p rfl (rfl : _ = (AV.bool (decide ((i15 : Int) < (m13.length : Int))))) ?_
 refine AOps.nilR ?_
 rcases oite h with ⟨hc20, h⟩ | ⟨hc20, h⟩
 ·refine AW.condT (congrArg AV.bool hc20) ?_
  refine AW.skip ?_
  refine AW.seq ?_
  refine AW.block ?_
  refine AW.region ?_
  refine AOps.p rfl (rfl : _ = h1) ?_
  refine AOps.p rfl (rfl : _ = (AV.int .i64 i15)) ?_
  obtain ⟨x23, h24, h⟩ := obind h
  refine AOps.idxO (j := 0) hG19 rfl Sub.here h24 rfl rfl rfl rfl rfl rfl rfl rfl rfl ?_
  intro b21 hb22
  refine AOps.ldO (j := 0) (q := 0) hH18 hG19 rfl Sub.here h24 hb22 rfl rfl rfl rfl rfl (lt_b rfl) (le_b rfl) rfl rfl ?_ (fun c B hc => by obtain ⟨rfl, _⟩ := hc; exact ⟨_, rfl⟩)
  intro c25 B26 v27 h28 h29
  obtain ⟨rfl, _⟩ := h28
  cases h29
  refine AOps.p rfl (rfl : _ = (AV.int .i64 k14)) ?_
  obtain ⟨y30, h31, h⟩ := obind h
  have hP32 := HS.pop0 hH18
  have hF0 : AllG ([] : List (List BX → Prop)) [] := AllG.nil
  obtain ⟨Ls33, Lf34, hG35, hF36, hP37⟩ := HS.popS hP32 hG19 hF0 (j := 0) rfl (Sub.down Sub.here h24)
  refine AOps.callF (al := true) (g := 73) (args := [((KT.at k2 (Int.toNat i15)) []), (AV.int .i64 k14)]) rfl rfl rfl (laws_markInt64S_K10_ok (Sub.one hG19 (j := 0) rfl (Sub.down Sub.here h24)) (HS.enterK hP37) hF36 (HS.enterLo hP37 hl) h31 (HS.wf' hH18)) ?_
  rintro _ _ s38 ⟨Ls40, rfl, hH41, hG42⟩
  have hJ43 := HS.joinK hP37 hH41
  obtain ⟨Ls44, Lf45, hG46, hF47, hP48⟩ := HS.pushS hJ43 hG35 hG42 (j := 0) rfl
  cases hF47
  have hH49 := HS.push0 hP48
  change HS ex true s s38 (([] : List BX) ++ List.flatten Ls44) at hH49
  change AllG [OS oE79 h1 k2 (m13.set (Int.toNat i15) y30.2)] Ls44 at hG46
  refine AOps.assignR rfl rfl rfl (rfl : _ = (AV.int .i64 y30.1)) rfl ?_
  refine AOps.nilR ?_
  refine AW.inBlock ?_
  refine AW.region ?_
  refine AOps.p rfl (rfl : _ = (AV.int .i64 i15)) ?_
  refine AOps.p rfl (rfl : _ = (AV.int .i64 (IntKind.wrap .i64 (i15 + 1)))) ?_
  refine AOps.assignR rfl rfl rfl (rfl : _ = (AV.int .i64 (IntKind.wrap .i64 (i15 + 1)))) rfl ?_
  refine AOps.nilR ?_
  cases h
  exact AW.res [(0, h1), (1, (AV.int .i64 y30.1)), (5, (AV.int .i64 (IntKind.wrap .i64 (i15 + 1))))] [] ⟨rfl, rfl, rfl, trivial⟩ trivial (hL1 _ rfl (s38, Ls44) _ _ ⟨hH49, hG46⟩)
 refine AW.condF (congrArg AV.bool hc20) ?_
 refine AW.exit rfl ?_
 obtain ⟨r50, hm, hx⟩ := omap h
 clear h
 subst hx
 have hx := hR1 _ rfl
 rw [hx] at hm
 have h := hm
 exact AW.res [(1, (AV.int .i64 k14))] [] ⟨rfl, trivial⟩ trivial (KJ12 (m13, k14, s16, Ls17) _ _ ⟨hH18, hG19, h⟩)
theorem laws_markInt64SSS_K10_ok {a4 : List (List (List Int))} {k5 : Int} {h1 : AV} {k2 : KT} {s : St} (ho3 : h1.one = true) {ex : List Nat} {Ls0 : List (List BX)} (hH0 : HS ex true s s (([] : List BX) ++ List.flatten Ls0)) (hG0 : AllG [OS oE25 h1 k2 a4] Ls0) (hl : LoOK ex true s) {r : Int × (List (List (List Int)))} (h : laws_markInt64SSS_K10 a4 k5 = some r) (hs : WF s) : ACall Cf 42 [h1, (AV.int .i64 k5)] s (fun v _ s' => ∃ (Ls' : List (List BX)), v = (AV.int .i64 r.1) ∧ HS ex true s s' (([] : List BX) ++ List.flatten Ls') ∧ AllG [OS oE25 h1 k2 r.2] Ls') true := by
 refine ACall.keepR rfl rfl rfl ?_
 unfold laws_markInt64SSS_K10 at h
 refine AW.sr ?_
 refine AOps.p rfl (rfl : _ = (AV.int .i64 0)) ?_
 refine AOps.nilR ?_
 refine AW.seq ?_
 refine AW.sr ?_
 refine AOps.p rfl (rfl : _ = (AV.int .i64 0)) ?_
 refine AOps.nilR ?_
 refine AW.meet (σ := (List (List (List Int))) × Int × St × (List (List BX))) (fun (m6, k7, s8, Ls9) tm os => ⟨updL tm [(1, (AV.int .i64 k7))], updL os [], s8⟩) (fun (m6, k7, s8, Ls9) => (HS ex true s s8 (([] : List BX) ++ List.flatten Ls9)) ∧ (AllG [OS oE25 h1 k2 m6] Ls9) ∧ laws_markInt64SSS_K10_J1 m6 k7 = some r) ?_ ?_
 ·rintro ⟨m6, k7, s8, Ls9⟩ tm os ⟨hH10, hG11, h⟩
  unfold laws_markInt64SSS_K10_J1 at h
  refine AW.sr ?_
  refine AOps.p rfl (rfl : _ = (AV.int .i64 k7)) ?_
  refine AOps.assignR rfl rfl rfl (rfl : _ = (AV.int .i64 k7)) rfl ?_
  refine AOps.nilR ?_
  cases h
  exact AW.ret ⟨_, _, rfl, ⟨Ls9, rfl, hH10, hG11⟩⟩
 intro KJ12
 refine AW.block ?_
 refine AW.res [(0, h1), (1, (AV.int .i64 k5)), (5, (AV.int .i64 0))] [] ⟨rfl, rfl, rfl, trivial⟩ trivial ?_
 refine AW.loopF (σ := (List (List (List Int))) × Int × Int) (τ := St × (List (List BX))) (fun (m13, k14, i15) (s16, Ls17) => (HS ex true s s16 (([] : List BX) ++ List.flatten Ls17)) ∧ (AllG [OS oE25 h1 k2 m13] Ls17)) (fun (m13, k14, i15) (s16, Ls17) tm os => ⟨updL tm [(0, h1), (1, (AV.int .i64 k14)), (5, (AV.int .i64 i15))], updL os [], s16⟩) ?_ (x := (a4, k5, 0)) (y := (s, Ls0)) h ⟨hH0, hG0⟩
 clear h
 rintro ⟨m13, k14, i15⟩ ⟨s16, Ls17⟩ tm os ⟨hH18, hG19⟩ e1 h hL1 hR1
 unfold laws_markInt64SSS_K10_S1 at h
 dsimp only at h
 refine AW.seq ?_
 refine AW.sr ?_
 refine AOps.p rfl (rfl : _ = (AV.int .i64 i15)) ?_
 refine AOps.p rfl (rfl : _ = h1) ?_
 refine AOps.lenO (j := 0) hG19 rfl Sub.here rfl rfl rfl rfl rfl ?_
 refine AOps.p rfl (rfl : _ = (AV.bool (decide ((i15 : Int) < (m13.length : Int))))) ?_
 refine AOps.nilR ?_
 rcases oite h with ⟨hc20, h⟩ | ⟨hc20, h⟩
 ·refine AW.condT (congrArg AV.bool hc20) ?_
  refine AW.skip ?_
  refine AW.seq ?_
  refine AW.block ?_
  refine AW.region ?_
  refine AOps.p rfl (rfl : _ = h1) ?_
  refine AOps.p rfl (rfl : _ = (AV.int .i64 i15)) ?_
  obtain ⟨x23, h24, h⟩ := obind h
  refine AOps.idxO (j := 0) hG19 rfl Sub.here h24 rfl rfl rfl rfl rfl rfl rfl rfl rfl ?_
  intro b21 hb22
  refine AOps.ldO (j := 0) (q := 0) hH18 hG19 rfl Sub.here h24 hb22 rfl rfl rfl rfl rfl (lt_b rfl) (le_b rfl) rfl rfl ?_ (fun c B hc => by obtain ⟨rfl, _⟩ := hc; exact ⟨_, rfl⟩)
  intro c25 B26 v27 h28 h29
  obtain ⟨rfl, _⟩ := h28
  cases h29
  refine AOps.p rfl (rfl : _ = (AV.int .i64 k14)) ?_
  obtain ⟨y30, h31, h⟩ := obind h
  have hP32 := HS.pop0 hH18
  have hF0 : AllG ([] : List (List BX → Prop)) [] := AllG.nil
  obtain ⟨Ls33, Lf34, hG35, hF36, hP37⟩ := HS.popS hP32 hG19 hF0 (j := 0) rfl (Sub.down Sub.here h24)
  refine AOps.callF (al := true) (g := 43) (args := [((KT.at k2 (Int.toNat i15)) []), (AV.int .i64 k14)]) rfl rfl rfl (laws_markInt64SS_K10_ok (Sub.one hG19 (j := 0) rfl (Sub.down Sub.here h24)) (HS.enterK hP37) hF36 (HS.enterLo hP37 hl) h31 (HS.wf' hH18)) ?_
  rintro _ _ s38 ⟨Ls40, rfl, hH41, hG42⟩
  have hJ43 := HS.joinK hP37 hH41
  obtain ⟨Ls44, Lf45, hG46, hF47, hP48⟩ := HS.pushS hJ43 hG35 hG42 (j := 0) rfl
  cases hF47
  have hH49 := HS.push0 hP48
  change HS ex true s s38 (([] : List BX) ++ List.flatten Ls44) at hH49
  change AllG [OS oE25 h1 k2 (m13.set (Int.toNat i15) y30.2)] Ls44 at hG46
  refine AOps.assignR rfl rfl rfl (rfl : _ = (AV.int .i64 y30.1)) rfl ?_
  refine AOps.nilR ?_
  refine AW.inBlock ?_
  refine AW.region ?_
  refine AOps.p rfl (rfl : _ = (AV.int .i64 i15)) ?_
  refine AOps.p rfl (rfl : _ = (AV.int .i64 (IntKind.wrap .i64 (i15 + 1)))) ?_
  refine AOps.assignR rfl rfl rfl (rfl : _ = (AV.int .i64 (IntKind.wrap .i64 (i15 + 1)))) rfl ?_
  refine AOps.nilR ?_
  cases h
  exact AW.res [(0, h1), (1, (AV.int .i64 y30.1)), (5, (AV.int .i64 (IntKind.wrap .i64 (i15 + 1))))] [] ⟨rfl, rfl, rfl, trivial⟩ trivial (hL1 _ rfl (s38, Ls44) _ _ ⟨hH49, hG46⟩)
 refine AW.condF (congrArg AV.bool hc20) ?_
 refine AW.exit rfl ?_
 obtain ⟨r50, hm, hx⟩ := omap h
 clear h
 subst hx
 have hx := hR1 _ rfl
 rw [hx] at hm
 have h := hm
 exact AW.res [(1, (AV.int .i64 k14))] [] ⟨rfl, trivial⟩ trivial (KJ12 (m13, k14, s16, Ls17) _ _ ⟨hH18, hG19, h⟩)
theorem laws_markChecker_K10_ok {a1 : Checker} {k14 : Int} {h2 : AV} {k3 : KT} {h5 : AV} {k6 : KT} {h8 : AV} {k9 : KT} {h11 : AV} {k12 : KT} {s : St} (ho4 : h2.one = true) (ho7 : h5.one = true) (ho10 : h8.one = true) (ho13 : h11.one = true) {ex : List Nat} {Ls0 : List (List BX)} (hH0 : HS ex true s s (([] : List BX) ++ List.flatten Ls0)) (hG0 : AllG [OS oE4 h2 k3 a1.Accept, OS oE81 h5 k6 a1.Call, OS oE25 h8 k9 a1.Return, OS oE79 h11 k12 a1.Inner] Ls0) (hl : LoOK ex true s) {r : Int × (List Bool) × (List (List Push)) × (List (List (List Int))) × (List (List Int))} (h : laws_markChecker_K10 a1 k14 = some r) (hs : WF s) : ACall Cf 13 [(AV.agg [(AV.int .i64 a1.Stack), (AV.int .i64 a1.Start), h2, h5, h8, h11]), (AV.int .i64 k14)] s (fun v _ s' => ∃ (Ls' : List (List BX)), v = (AV.int .i64 r.1) ∧ HS ex true s s' (([] : List BX) ++ List.flatten Ls') ∧ AllG [OS oE4 h2 k3 r.2.1, OS oE81 h5 k6 r.2.2.1, OS oE25 h8 k9 r.2.2.2.1, OS oE79 h11 k12 r.2.2.2.2] Ls') true := by
 refine ACall.keepR rfl rfl rfl ?_
 unfold laws_markChecker_K10 at h
 refine AW.sr ?_
 refine AOps.boxR (v := (AV.agg [(AV.int .i64 a1.Stack), (AV.int .i64 a1.Start), h2, h5, h8, h11])) rfl rfl rfl rfl rfl (lay_cons rfl (lay_cons rfl (lay_cons ho4 (lay_cons ho7 (lay_cons ho10 (lay_cons ho13 lay_nil)))))) rfl rfl ?_
 refine AOps.p rfl (rfl : _ = (AV.int .i64 0)) ?_
 refine AOps.nilR ?_
 refine AW.sr ?_
 refine AOps.p rfl (rfl : _ = (AV.eptr [(AV.int .i64 a1.Stack), (AV.int .i64 a1.Start), h2, h5, h8, h11] 2)) ?_
 refine AOps.ldE (v := h2) rfl rfl rfl rfl rfl rfl ?_
 refine AOps.p rfl (rfl : _ = (AV.int .i64 k14)) ?_
 obtain ⟨y15, h16, h⟩ := obind h
 have hP17 := HS.pop0 hH0
 have hF0 : AllG ([] : List (List BX → Prop)) [] := AllG.nil
 obtain ⟨Ls18, Lf19, hG20, hF21, hP22⟩ := HS.popG hP17 hG0 hF0 (j := 0) rfl
 refine AOps.callF (al := true) (g := 15) (args := [h2, (AV.int .i64 k14)]) rfl rfl rfl (laws_markBoolS_K10_ok ho4 (HS.enterK hP22) hF21 (HS.enterLo hP22 hl) h16 (HS.wf' hH0)) ?_
 rintro _ _ s23 ⟨Ls25, rfl, hH26, hG27⟩
 have hJ28 := HS.joinK hP22 hH26
 obtain ⟨Ls29, Lf30, hG31, hF32, hP33⟩ := HS.putG hJ28 hG20 hG27 (j := 0) rfl
 cases hF32
 have hH34 := HS.push0 hP33
 change HS ex true s s23 (([] : List BX) ++ List.flatten Ls29) at hH34
 change AllG [OS oE4 h2 k3 y15.2, OS oE81 h5 k6 a1.Call, OS oE25 h8 k9 a1.Return, OS oE79 h11 k12 a1.Inner] Ls29 at hG31
 refine AOps.assignR rfl rfl rfl (rfl : _ = (AV.int .i64 y15.1)) rfl ?_
 refine AOps.nilR ?_
 refine AW.sr ?_
 refine AOps.p rfl (rfl : _ = (AV.eptr [(AV.int .i64 a1.Stack), (AV.int .i64 a1.Start), h2, h5, h8, h11] 3)) ?_
 refine AOps.ldE (v := h5) rfl rfl rfl rfl rfl rfl ?_
 refine AOps.p rfl (rfl : _ = (AV.int .i64 y15.1)) ?_
 obtain ⟨y35, h36, h⟩ := obind h
 have hP37 := HS.pop0 hH34
 have hF0 : AllG ([] : List (List BX → Prop)) [] := AllG.nil
 obtain ⟨Ls38, Lf39, hG40, hF41, hP42⟩ := HS.popG hP37 hG31 hF0 (j := 1) rfl
 refine AOps.callF (al := true) (g := 41) (args := [h5, (AV.int .i64 y15.1)]) rfl rfl rfl (laws_markPushSS_K10_ok ho7 (HS.enterK hP42) hF41 (HS.enterLo hP42 hl) h36 (HS.wf' hH34)) ?_
 rintro _ _ s43 ⟨Ls45, rfl, hH46, hG47⟩
 have hJ48 := HS.joinK hP42 hH46
 obtain ⟨Ls49, Lf50, hG51, hF52, hP53⟩ := HS.putG hJ48 hG40 hG47 (j := 1) rfl
 cases hF52
 have hH54 := HS.push0 hP53
 change HS ex true s s43 (([] : List BX) ++ List.flatten Ls49) at hH54
 change AllG [OS oE4 h2 k3 y15.2, OS oE81 h5 k6 y35.2, OS oE25 h8 k9 a1.Return, OS oE79 h11 k12 a1.Inner] Ls49 at hG51
 refine AOps.assignR rfl rfl rfl (rfl : _ = (AV.int .i64 y35.1)) rfl ?_
 refine AOps.nilR ?_
 refine AW.sr ?_
 refine AOps.p rfl (rfl : _ = (AV.eptr [(AV.int .i64 a1.Stack), (AV.int .i64 a1.Start), h2, h5, h8, h11] 4)) ?_
 refine AOps.ldE (v := h8) rfl rfl rfl rfl rfl rfl ?_
 refine AOps.p rfl (rfl : _ = (AV.int .i64 y35.1)) ?_
 obtain ⟨y55, h56, h⟩ := obind h
 have hP57 := HS.pop0 hH54
 have hF0 : AllG ([] : List (List BX → Prop)) [] := AllG.nil
 obtain ⟨Ls58, Lf59, hG60, hF61, hP62⟩ := HS.popG hP57 hG51 hF0 (j := 2) rfl
 refine AOps.callF (al := true) (g := 42) (args := [h8, (AV.int .i64 y35.1)]) rfl rfl rfl (laws_markInt64SSS_K10_ok ho10 (HS.enterK hP62) hF61 (HS.enterLo hP62 hl) h56 (HS.wf' hH54)) ?_
 rintro _ _ s63 ⟨Ls65, rfl, hH66, hG67⟩
 have hJ68 := HS.joinK hP62 hH66
 obtain ⟨Ls69, Lf70, hG71, hF72, hP73⟩ := HS.putG hJ68 hG60 hG67 (j := 2) rfl
 cases hF72
 have hH74 := HS.push0 hP73
 change HS ex true s s63 (([] : List BX) ++ List.flatten Ls69) at hH74
 change AllG [OS oE4 h2 k3 y15.2, OS oE81 h5 k6 y35.2, OS oE25 h8 k9 y55.2, OS oE79 h11 k12 a1.Inner] Ls69 at hG71
 refine AOps.assignR rfl rfl rfl (rfl : _ = (AV.int .i64 y55.1)) rfl ?_
 refine AOps.nilR ?_
 refine AW.sr ?_
 refine AOps.p rfl (rfl : _ = (AV.eptr [(AV.int .i64 a1.Stack), (AV.int .i64 a1.Start), h2, h5, h8, h11] 5)) ?_
 refine AOps.ldE (v := h11) rfl rfl rfl rfl rfl rfl ?_
 refine AOps.p rfl (rfl : _ = (AV.int .i64 y55.1)) ?_
 obtain ⟨y75, h76, h⟩ := obind h
 have hP77 := HS.pop0 hH74
 have hF0 : AllG ([] : List (List BX → Prop)) [] := AllG.nil
 obtain ⟨Ls78, Lf79, hG80, hF81, hP82⟩ := HS.popG hP77 hG71 hF0 (j := 3) rfl
 refine AOps.callF (al := true) (g := 43) (args := [h11, (AV.int .i64 y55.1)]) rfl rfl rfl (laws_markInt64SS_K10_ok ho13 (HS.enterK hP82) hF81 (HS.enterLo hP82 hl) h76 (HS.wf' hH74)) ?_
 rintro _ _ s83 ⟨Ls85, rfl, hH86, hG87⟩
 have hJ88 := HS.joinK hP82 hH86
 obtain ⟨Ls89, Lf90, hG91, hF92, hP93⟩ := HS.putG hJ88 hG80 hG87 (j := 3) rfl
 cases hF92
 have hH94 := HS.push0 hP93
 change HS ex true s s83 (([] : List BX) ++ List.flatten Ls89) at hH94
 change AllG [OS oE4 h2 k3 y15.2, OS oE81 h5 k6 y35.2, OS oE25 h8 k9 y55.2, OS oE79 h11 k12 y75.2] Ls89 at hG91
 refine AOps.assignR rfl rfl rfl (rfl : _ = (AV.int .i64 y75.1)) rfl ?_
 refine AOps.nilR ?_
 refine AW.sr ?_
 refine AOps.p rfl (rfl : _ = (AV.int .i64 y75.1)) ?_
 refine AOps.assignR rfl rfl rfl (rfl : _ = (AV.int .i64 y75.1)) rfl ?_
 refine AOps.nilR ?_
 cases h
 exact AW.ret ⟨_, _, rfl, ⟨Ls89, rfl, hH94, hG91⟩⟩
theorem laws_markText_ok {k1 : Int} {s : St} {r : (List UInt8)} (h : laws_markText k1 = some r) (hs : WF s) : ACall Cf 44 [(AV.int .i64 k1)] s fun v _ s' => (rS) r v ∧ s' = s := by
 refine ACall.pure rfl rfl rfl .S ?_
 have hWF := hs.lo'
 unfold laws_markText at h
 refine AW.sr ?_
 refine AOps.p rfl (rfl : _ = (AV.str ([] : List UInt8))) ?_
 refine AOps.nilR ?_
 refine AW.seq ?_
 refine AW.sr ?_
 refine AOps.p rfl (rfl : _ = (AV.int .i64 k1)) ?_
 refine AOps.p rfl (rfl : _ = (AV.bool (decide ((k1 : Int) ≤ 0)))) ?_
 refine AOps.nilR ?_
 rcases oite h with ⟨hc2, h⟩ | ⟨hc2, h⟩
 ·refine AW.condT (congrArg AV.bool hc2) ?_
  refine AW.sr ?_
  refine AOps.p rfl (rfl : _ = (AV.str ([109, 48] : List UInt8))) ?_
  refine AOps.nilR ?_
  cases h
  exact AW.ret ⟨rfl, _, _, rfl, rfl⟩
 refine AW.condF (congrArg AV.bool hc2) ?_
 refine AW.skip ?_
 refine AW.sr ?_
 refine AOps.p rfl (rfl : _ = (AV.str ([] : List UInt8))) ?_
 refine AOps.nilR ?_
 refine AW.seq ?_
 refine AW.meet (σ := (List UInt8)) (fun out3 tm os => ⟨updL tm [(3, (AV.str out3))], updL os [], { s with lo := s.n }⟩) (fun out3 => laws_markText_J1 out3 = some r) ?_ ?_
 ·rintro out3 tm os h
  unfold laws_markText_J1 at h
  refine AW.sr ?_
  refine AOps.p rfl (rfl : _ = (AV.str out3)) ?_
  obtain ⟨w5, h6, h⟩ := obind h
  refine AOps.pureR rfl rfl rfl (add_str h6) rfl (rfl : _ = (AV.str w5)) ?_
  refine AOps.assignR rfl rfl rfl (rfl : _ = (AV.str w5)) rfl ?_
  refine AOps.nilR ?_
  cases h
  exact AW.ret ⟨rfl, _, _, rfl, rfl⟩
 intro KJ4
 refine AW.block ?_
 refine AW.res [(0, (AV.int .i64 k1)), (3, (AV.str ([] : List UInt8)))] [] ⟨rfl, rfl, trivial⟩ trivial ?_
 refine AW.loopF (σ := Int × (List UInt8)) (τ := Unit) (fun (k7, out8) _ => True) (fun (k7, out8) _ tm os => ⟨updL tm [(0, (AV.int .i64 k7)), (3, (AV.str out8))], updL os [], { s with lo := s.n }⟩) ?_ (x := (k1, ([] : List UInt8))) (y := ()) h trivial
 clear h
 rintro ⟨k7, out8⟩ _ tm os - e1 h hL1 hR1
 unfold laws_markText_S1 at h
 dsimp only at h
 refine AW.seq ?_
 refine AW.sr ?_
 refine AOps.p rfl (rfl : _ = (AV.int .i64 k7)) ?_
 refine AOps.p rfl (rfl : _ = (AV.bool (decide ((k7 : Int) > 0)))) ?_
 refine AOps.nilR ?_
 rcases oite h with ⟨hc9, h⟩ | ⟨hc9, h⟩
 ·refine AW.condT (congrArg AV.bool hc9) ?_
  refine AW.skip ?_
  refine AW.block ?_
  refine AW.sr ?_
  refine AOps.p rfl (rfl : _ = (AV.int .i64 k7)) ?_
  obtain ⟨q10, h11, h⟩ := obind h
  refine AOps.pureR rfl rfl rfl (rem_ok h11) rfl (rfl : _ = (AV.int .i64 q10)) ?_
  refine AOps.p rfl (rfl : _ = (AV.int .i64 (IntKind.wrap .i64 (48 + q10)))) ?_
  refine AOps.p rfl (rfl : _ = (AV.int .u8 (IntKind.wrap .u8 (IntKind.wrap .i64 (48 + q10))))) ?_
  refine AOps.makeR rfl rfl rfl rfl rfl rfl (rfl : _ = (AV.sl 1 true [(AV.int .u8 (IntKind.wrap .u8 (IntKind.wrap .i64 (48 + q10))))])) ?_
  refine AOps.pureR rfl rfl rfl (bytes_str (l := ([IntKind.wrap .u8 (IntKind.wrap .i64 (48 + q10))] : List Int)) (z := 1) (e := [(AV.int .u8 (IntKind.wrap .u8 (IntKind.wrap .i64 (48 + q10))))]) (LR.lit (r := rI .u8) (sz := 1) (.cons rfl .nil))) rfl (rfl : _ = (AV.str (bytesOf ([IntKind.wrap .u8 (IntKind.wrap .i64 (48 + q10))] : List Int)))) ?_
  refine AOps.p rfl (rfl : _ = (AV.str out8)) ?_
  obtain ⟨w12, h13, h⟩ := obind h
  refine AOps.pureR rfl rfl rfl (add_str h13) rfl (rfl : _ = (AV.str w12)) ?_
  refine AOps.assignR rfl rfl rfl (rfl : _ = (AV.str w12)) rfl ?_
  refine AOps.nilR ?_
  refine AW.region ?_
  refine AOps.p rfl (rfl : _ = (AV.int .i64 k7)) ?_
  obtain ⟨q14, h15, h⟩ := obind h
  refine AOps.pureR rfl rfl rfl (quo_ok h15) rfl (rfl : _ = (AV.int .i64 q14)) ?_
  refine AOps.assignR rfl rfl rfl (rfl : _ = (AV.int .i64 q14)) rfl ?_
  refine AOps.nilR ?_
  refine AW.inBlock ?_
  cases h
  exact AW.res [(0, (AV.int .i64 q14)), (3, (AV.str w12))] [] ⟨rfl, rfl, trivial⟩ trivial (hL1 _ rfl () _ _ trivial)
 refine AW.condF (congrArg AV.bool hc9) ?_
 refine AW.exit rfl ?_
 obtain ⟨r16, hm, hx⟩ := omap h
 clear h
 subst hx
 have hx := hR1 _ rfl
 rw [hx] at hm
 have h := hm
 exact AW.res [(3, (AV.str out8))] [] ⟨rfl, trivial⟩ trivial (KJ4 (out8) _ _ h)
theorem laws_markContextS_K10_ok {a4 : List Context} {k5 : Int} {h1 : AV} {k2 : KT} {s : St} (ho3 : h1.one = true) {ex : List Nat} {Ls0 : List (List BX)} (hH0 : HS ex true s s (([] : List BX) ++ List.flatten Ls0)) (hG0 : AllG [OS oE55 h1 k2 a4] Ls0) (hl : LoOK ex true s) {r : Int × (List Context)} (h : laws_markContextS_K10 a4 k5 = some r) (hs : WF s) : ACall Cf 14 [h1, (AV.int .i64 k5)] s (fun v _ s' => ∃ (Ls' : List (List BX)), v = (AV.int .i64 r.1) ∧ HS ex true s s' (([] : List BX) ++ List.flatten Ls') ∧ AllG [OS oE55 h1 k2 r.2] Ls') true := by
 refine ACall.keepR rfl rfl rfl ?_
 unfold laws_markContextS_K10 at h
 refine AW.sr ?_
 refine AOps.p rfl (rfl : _ = (AV.int .i64 0)) ?_
 refine AOps.nilR ?_
 refine AW.seq ?_
 refine AW.sr ?_
 refine AOps.p rfl (rfl : _ = (AV.int .i64 0)) ?_
 refine AOps.nilR ?_
 refine AW.meet (σ := (List Context) × Int × St × (List (List BX))) (fun (m6, k7, s8, Ls9) tm os => ⟨updL tm [(1, (AV.int .i64 k7))], updL os [], s8⟩) (fun (m6, k7, s8, Ls9) => (HS ex true s s8 (([] : List BX) ++ List.flatten Ls9)) ∧ (AllG [OS oE55 h1 k2 m6] Ls9) ∧ laws_markContextS_K10_J1 m6 k7 = some r) ?_ ?_
 ·rintro ⟨m6, k7, s8, Ls9⟩ tm os ⟨hH10, hG11, h⟩
  unfold laws_markContextS_K10_J1 at h
  refine AW.sr ?_
  refine AOps.p rfl (rfl : _ = (AV.int .i64 k7)) ?_
  refine AOps.assignR rfl rfl rfl (rfl : _ = (AV.int .i64 k7)) rfl ?_
  refine AOps.nilR ?_
  cases h
  exact AW.ret ⟨_, _, rfl, ⟨Ls9, rfl, hH10, hG11⟩⟩
 intro KJ12
 refine AW.block ?_
 refine AW.res [(0, h1), (1, (AV.int .i64 k5)), (5, (AV.int .i64 0))] [] ⟨rfl, rfl, rfl, trivial⟩ trivial ?_
 refine AW.loopF (σ := (List Context) × Int × Int) (τ := St × (List (List BX))) (fun (m13, k14, i15) (s16, Ls17) => (HS ex true s s16 (([] : List BX) ++ List.flatten Ls17)) ∧ (AllG [OS oE55 h1 k2 m13] Ls17)) (fun (m13, k14, i15) (s16, Ls17) tm os => ⟨updL tm [(0, h1), (1, (AV.int .i64 k14)), (5, (AV.int .i64 i15))], updL os [], s16⟩) ?_ (x := (a4, k5, 0)) (y := (s, Ls0)) h ⟨hH0, hG0⟩
 clear h
 rintro ⟨m13, k14, i15⟩ ⟨s16, Ls17⟩ tm os ⟨hH18, hG19⟩ e1 h hL1 hR1
 unfold laws_markContextS_K10_S1 at h
 dsimp only at h
 refine AW.seq ?_
 refine AW.sr ?_
 refine AOps.p rfl (rfl : _ = (AV.int .i64 i15)) ?_
 refine AOps.p rfl (rfl : _ = h1) ?_
 refine AOps.lenO (j := 0) hG19 rfl Sub.here rfl rfl rfl rfl rfl ?_
 refine AOps.p rfl (rfl : _ = (AV.bool (decide ((i15 : Int) < (m13.length : Int))))) ?_
 refine AOps.nilR ?_
 rcases oite h with ⟨hc20, h⟩ | ⟨hc20, h⟩
 ·refine AW.condT (congrArg AV.bool hc20) ?_
  refine AW.skip ?_
  refine AW.seq ?_
  refine AW.block ?_
  refine AW.sr ?_
  refine AOps.p rfl (rfl : _ = h1) ?_
  refine AOps.p rfl (rfl : _ = (AV.int .i64 i15)) ?_
  refine AOps.p rfl (rfl : _ = (AV.int .i64 k14)) ?_
  obtain ⟨y21, h22, h⟩ := obind h
  refine AOps.callP (g := 44) (args := [(AV.int .i64 k14)]) (p := (rS) y21) rfl rfl rfl (laws_markText_ok  h22 (HS.wf' hH18)) ?_
  intro _ o24 h23
  cases h23
  obtain ⟨x27, h28, h⟩ := obind h
  refine AOps.idxO (j := 0) hG19 rfl Sub.here h28 rfl rfl rfl rfl rfl rfl rfl rfl rfl ?_
  intro b25 hb26
  refine AOps.p rfl (rfl : _ = (AV.ptr b25 (0 + Int.toNat i15 * 2))) ?_
  refine AOps.stO (j := 0) (q := 0) (v := (AV.str y21)) (y' := ({ x27 with Front := y21 } : Context)) hH18 hG19 hl rfl Sub.here h28 hb26 rfl rfl rfl rfl rfl rfl rfl rfl (lt_b rfl) (le_b rfl) rfl (fun c B hc => by obtain ⟨⟨_, hr, rfl⟩, rfl⟩ := hc; obtain ⟨_, rfl, h33⟩ := hr; obtain ⟨_, _, rfl, h34, h35⟩ := Cs_cons h33; cases h34; obtain ⟨_, _, rfl, h36, h37⟩ := Cs_cons h35; cases h36; cases Cs_nil h37; exact ⟨⟨(AV.agg [(AV.str y21), (AV.str x27.Back)]), ⟨_, rfl, (.cons rfl (.cons rfl .nil))⟩, rfl⟩, rfl⟩) ?_
  intro Ls29 s30 hG31 hH32
  change HS ex true s s30 (([] : List BX) ++ List.flatten Ls29) at hH32
  change AllG [OS oE55 h1 k2 (m13.set (Int.toNat i15) ({ x27 with Front := y21 } : Context))] Ls29 at hG31
  refine AOps.nilR ?_
  refine AW.sr ?_
  refine AOps.p rfl (rfl : _ = (AV.int .i64 k14)) ?_
  refine AOps.p rfl (rfl : _ = (AV.int .i64 (IntKind.wrap .i64 (k14 + 1)))) ?_
  refine AOps.assignR rfl rfl rfl (rfl : _ = (AV.int .i64 (IntKind.wrap .i64 (k14 + 1)))) rfl ?_
  refine AOps.nilR ?_
  refine AW.sr ?_
  refine AOps.p rfl (rfl : _ = h1) ?_
  refine AOps.p rfl (rfl : _ = (AV.int .i64 i15)) ?_
  refine AOps.p rfl (rfl : _ = (AV.int .i64 (IntKind.wrap .i64 (k14 + 1)))) ?_
  obtain ⟨y38, h39, h⟩ := obind h
  refine AOps.callP (g := 44) (args := [(AV.int .i64 (IntKind.wrap .i64 (k14 + 1)))]) (p := (rS) y38) rfl rfl rfl (laws_markText_ok  h39 (HS.wf' hH32)) ?_
  intro _ o41 h40
  cases h40
  refine AOps.idxO (j := 0) hG31 rfl Sub.here (ix_set h28) rfl rfl rfl rfl rfl rfl rfl rfl rfl ?_
  intro b42 hb43
  refine AOps.p rfl (rfl : _ = (AV.ptr b42 (0 + Int.toNat i15 * 2 + 1))) ?_
  refine AOps.stO (j := 0) (q := 1) (v := (AV.str y38)) (y' := ({ ({ x27 with Front := y21 } : Context) with Back := y38 } : Context)) hH32 hG31 hl rfl Sub.here (ix_set h28) hb43 rfl rfl rfl rfl rfl rfl rfl rfl (lt_b rfl) (le_b rfl) rfl (fun c B hc => by obtain ⟨⟨_, hr, rfl⟩, rfl⟩ := hc; obtain ⟨_, rfl, h48⟩ := hr; obtain ⟨_, _, rfl, h49, h50⟩ := Cs_cons h48; cases h49; obtain ⟨_, _, rfl, h51, h52⟩ := Cs_cons h50; cases h51; cases Cs_nil h52; exact ⟨⟨(AV.agg [(AV.str (({ x27 with Front := y21 } : Context).Front)), (AV.str y38)]), ⟨_, rfl, (.cons rfl (.cons rfl .nil))⟩, rfl⟩, rfl⟩) ?_
  intro Ls44 s45 hG46 hH47
  change HS ex true s s45 (([] : List BX) ++ List.flatten Ls44) at hH47
  change AllG [OS oE55 h1 k2 ((m13.set (Int.toNat i15) ({ x27 with Front := y21 } : Context)).set (Int.toNat i15) ({ ({ x27 with Front := y21 } : Context) with Back := y38 } : Context))] Ls44 at hG46
  refine AOps.nilR ?_
  refine AW.region ?_
  refine AOps.p rfl (rfl : _ = (AV.int .i64 (IntKind.wrap .i64 (k14 + 1)))) ?_
  refine AOps.p rfl (rfl : _ = (AV.int .i64 (IntKind.wrap .i64 ((IntKind.wrap .i64 (k14 + 1)) + 1)))) ?_
  refine AOps.assignR rfl rfl rfl (rfl : _ = (AV.int .i64 (IntKind.wrap .i64 ((IntKind.wrap .i64 (k14 + 1)) + 1)))) rfl ?_
  refine AOps.nilR ?_
  refine AW.inBlock ?_
  refine AW.region ?_
  refine AOps.p rfl (rfl : _ = (AV.int .i64 i15)) ?_
  refine AOps.p rfl (rfl : _ = (AV.int .i64 (IntKind.wrap .i64 (i15 + 1)))) ?_
  refine AOps.assignR rfl rfl rfl (rfl : _ = (AV.int .i64 (IntKind.wrap .i64 (i15 + 1)))) rfl ?_
  refine AOps.nilR ?_
  cases h
  exact AW.res [(0, h1), (1, (AV.int .i64 (IntKind.wrap .i64 ((IntKind.wrap .i64 (k14 + 1)) + 1)))), (5, (AV.int .i64 (IntKind.wrap .i64 (i15 + 1))))] [] ⟨rfl, rfl, rfl, trivial⟩ trivial (hL1 _ rfl (s45, Ls44) _ _ ⟨hH47, hG46⟩)
 refine AW.condF (congrArg AV.bool hc20) ?_
 refine AW.exit rfl ?_
 obtain ⟨r53, hm, hx⟩ := omap h
 clear h
 subst hx
 have hx := hR1 _ rfl
 rw [hx] at hm
 have h := hm
 exact AW.res [(1, (AV.int .i64 k14))] [] ⟨rfl, trivial⟩ trivial (KJ12 (m13, k14, s16, Ls17) _ _ ⟨hH18, hG19, h⟩)
theorem laws_heldBoolS_okN {a1 : List Bool} {k6 : Int} {z2 : Nat} {f3 : Bool} {e4 : List AV} {s : St} (h5 : LR rB 1 a1 z2 e4) {r : Int} (h : laws_heldBoolS a1 k6 = some r) (hs : WF s) : ACallN Cf 16 [(AV.sl z2 f3 e4), (AV.int .i64 k6)] s fun v _ s' => (rI .i64) r v ∧ s' = s := by
 refine ACallN.pure rfl rfl rfl .I ?_
 have hWF := hs.lo'
 unfold laws_heldBoolS at h
 refine AW.sr ?_
 refine AOps.p rfl (rfl : _ = (AV.int .i64 0)) ?_
 refine AOps.nilR ?_
 refine AW.seq ?_
 refine AW.sr ?_
 refine AOps.p rfl (rfl : _ = (AV.int .i64 0)) ?_
 refine AOps.nilR ?_
 refine AW.meet (σ := Int) (fun k7 tm os => ⟨updL tm [(1, (AV.int .i64 k7))], updL os [], { s with lo := s.n }⟩) (fun k7 => laws_heldBoolS_J1 k7 = some r) ?_ ?_
 ·rintro k7 tm os h
  unfold laws_heldBoolS_J1 at h
  refine AW.sr ?_
  refine AOps.p rfl (rfl : _ = (AV.int .i64 k7)) ?_
  refine AOps.assignR rfl rfl rfl (rfl : _ = (AV.int .i64 k7)) rfl ?_
  refine AOps.nilR ?_
  cases h
  exact AW.ret ⟨rfl, _, _, rfl, rfl⟩
 intro KJ8
 refine AW.block ?_
 refine AW.res [(0, (AV.sl z2 f3 e4)), (1, (AV.int .i64 k6)), (5, (AV.int .i64 0))] [] ⟨rfl, rfl, rfl, trivial⟩ trivial ?_
 refine AW.loopF (σ := Int × Int) (τ := Unit) (fun (k9, i10) _ => True) (fun (k9, i10) _ tm os => ⟨updL tm [(0, (AV.sl z2 f3 e4)), (1, (AV.int .i64 k9)), (5, (AV.int .i64 i10))], updL os [], { s with lo := s.n }⟩) ?_ (x := (k6, 0)) (y := ()) h trivial
 clear h
 rintro ⟨k9, i10⟩ _ tm os - e1 h hL1 hR1
 unfold laws_heldBoolS_S1 at h
 dsimp only at h
 refine AW.seq ?_
 refine AW.sr ?_
 refine AOps.p rfl (rfl : _ = (AV.int .i64 i10)) ?_
 refine AOps.p rfl (rfl : _ = (AV.sl z2 f3 e4)) ?_
 refine AOps.p rfl (len_eq h5) ?_
 refine AOps.p rfl (rfl : _ = (AV.bool (decide ((i10 : Int) < (a1.length : Int))))) ?_
 refine AOps.nilR ?_
 rcases oite h with ⟨hc11, h⟩ | ⟨hc11, h⟩
 ·refine AW.condT (congrArg AV.bool hc11) ?_
  refine AW.skip ?_
  refine AW.seq ?_
  refine AW.block ?_
  refine AW.seq ?_
  refine AW.sr ?_
  refine AOps.p rfl (rfl : _ = (AV.sl z2 f3 e4)) ?_
  refine AOps.p rfl (rfl : _ = (AV.int .i64 i10)) ?_
  obtain ⟨x12, h13, h⟩ := obind h
  obtain ⟨v16, h14, h15⟩ := idx_sl h5 h13
  cases h14
  refine AOps.pureR rfl rfl rfl h15 rfl (rfl : _ = (AV.eptr [(AV.bool x12)] 0)) ?_
  refine AOps.ldE (v := (AV.bool x12)) rfl rfl rfl rfl rfl rfl ?_
  refine AOps.p rfl (rfl : _ = (AV.int .i64 k9)) ?_
  obtain ⟨q17, h18, h⟩ := obind h
  refine AOps.pureR rfl rfl rfl (rem_ok h18) rfl (rfl : _ = (AV.int .i64 q17)) ?_
  refine AOps.p rfl (rfl : _ = (AV.bool (q17 == 0))) ?_
  refine AOps.p rfl (rfl : _ = (AV.bool (!(x12 == (q17 == 0))))) ?_
  refine AOps.nilR ?_
  rcases oite h with ⟨hc19, h⟩ | ⟨hc19, h⟩
  ·refine AW.condT (congrArg AV.bool hc19) ?_
   refine AW.sr ?_
   refine AOps.p rfl (rfl : _ = (AV.int .i64 (-1))) ?_
   refine AOps.nilR ?_
   cases h
   have hr := hR1 _ rfl
   subst hr
   exact AW.ret ⟨rfl, _, _, rfl, rfl⟩
  refine AW.condF (congrArg AV.bool hc19) ?_
  refine AW.skip ?_
  refine AW.region ?_
  refine AOps.p rfl (rfl : _ = (AV.int .i64 k9)) ?_
  refine AOps.p rfl (rfl : _ = (AV.int .i64 (IntKind.wrap .i64 (k9 + 1)))) ?_
  refine AOps.assignR rfl rfl rfl (rfl : _ = (AV.int .i64 (IntKind.wrap .i64 (k9 + 1)))) rfl ?_
  refine AOps.nilR ?_
  refine AW.inBlock ?_
  refine AW.region ?_
  refine AOps.p rfl (rfl : _ = (AV.int .i64 i10)) ?_
  refine AOps.p rfl (rfl : _ = (AV.int .i64 (IntKind.wrap .i64 (i10 + 1)))) ?_
  refine AOps.assignR rfl rfl rfl (rfl : _ = (AV.int .i64 (IntKind.wrap .i64 (i10 + 1)))) rfl ?_
  refine AOps.nilR ?_
  cases h
  exact AW.res [(0, (AV.sl z2 f3 e4)), (1, (AV.int .i64 (IntKind.wrap .i64 (k9 + 1)))), (5, (AV.int .i64 (IntKind.wrap .i64 (i10 + 1))))] [] ⟨rfl, rfl, rfl, trivial⟩ trivial (hL1 _ rfl () _ _ trivial)
 refine AW.condF (congrArg AV.bool hc11) ?_
 refine AW.exit rfl ?_
 obtain ⟨r20, hm, hx⟩ := omap h
 clear h
 subst hx
 have hx := hR1 _ rfl
 rw [hx] at hm
 have h := hm
 exact AW.res [(1, (AV.int .i64 k9))] [] ⟨rfl, trivial⟩ trivial (KJ8 (k9) _ _ h)
theorem impl_asker_row_F2_ok {a14 : Int} {a15 : Int} {a16 : List Bool} {a111 : List (List Push)} {a116 : List (List (List Int))} {a121 : List (List Int)} {a126 : Bool} {u27 : List UInt8} {list28 : List Context} {b2 : Nat} {w3 : Nat → Bool} {z7 : Nat} {f8 : Bool} {e9 : List AV} {z12 : Nat} {f13 : Bool} {e14 : List AV} {z17 : Nat} {f18 : Bool} {e19 : List AV} {z22 : Nat} {f23 : Bool} {e24 : List AV} {z29 : Nat} {f30 : Bool} {e31 : List AV} {s : St} (h10 : LR rB 1 a16 z7 e9) (h15 : LR (rL rPush 2) 1 a111 z12 e14) (h20 : LR (rL (rL (rI .i64) 1) 1) 1 a116 z17 e19) (h25 : LR (rL (rI .i64) 1) 1 a121 z22 e24) (h32 : LR rContext 2 list28 z29 e31) (hE : HS [b2] false s { s with lo := s.n } [⟨some b2, [(AV.int .i64 a14), (AV.int .i64 a15), (AV.sl z7 f8 e9), (AV.sl z12 f13 e14), (AV.sl z17 f18 e19), (AV.sl z22 f23 e24), (AV.bool a126)], w3⟩]) {r : (List Bool) × Bool} (h : impl_asker_row_F2 a14 a15 a16 a111 a116 a121 a126 u27 list28 = some r) (hs : WF s) : ACall Cf 36 [(AV.ptr b2 0), (AV.str u27), (AV.sl z29 f30 e31)] s fun v _ s' => (rL rB 1) r.1 v ∧ ∃ (w0' : Nat → Bool), Fx [b2] s s' [⟨some b2, [(AV.int .i64 a14), (AV.int .i64 a15), (AV.sl z7 f8 e9), (AV.sl z12 f13 e14), (AV.sl z17 f18 e19), (AV.sl z22 f23 e24), (AV.bool r.2)], w0'⟩] := by
 refine ACall.foreign rfl rfl rfl ?_
 unfold impl_asker_row_F2 at h
 refine AW.sr ?_
 refine AOps.p rfl (rfl : _ = (AV.sl 0 true [])) ?_
 refine AOps.nilR ?_
 refine AW.sr ?_
 refine AOps.makeR rfl rfl rfl rfl rfl rfl (rfl : _ = (AV.sl 1 true [])) ?_
 refine AOps.assignR rfl rfl rfl (rfl : _ = (AV.sl 1 true [])) rfl ?_
 refine AOps.nilR ?_
 refine AW.seq ?_
 refine AW.sr ?_
 refine AOps.p rfl (rfl : _ = (AV.sl z29 f30 e31)) ?_
 refine AOps.p rfl (len_eq h32) ?_
 refine AOps.p rfl (rfl : _ = (AV.int .i64 0)) ?_
 refine AOps.nilR ?_
 refine AW.meet (σ := (List Bool) × Bool × Nat × Bool × (List AV) × Bool × (Nat → Bool) × St) (fun (out33, m41, z34, f35, e36, o38, w40, s42) tm os => ⟨updL tm [(7, (AV.sl z34 f35 e36))], updL os [(7, o38)], s42⟩) (fun (out33, m41, z34, f35, e36, o38, w40, s42) => (LR rB 1 out33 z34 e36) ∧ (f35 = true ∨ o38 = true) ∧ (HS [b2] false s s42 [⟨some b2, [(AV.int .i64 a14), (AV.int .i64 a15), (AV.sl z7 f8 e9), (AV.sl z12 f13 e14), (AV.sl z17 f18 e19), (AV.sl z22 f23 e24), (AV.bool m41)], w40⟩]) ∧ impl_asker_row_F2_J1 out33 m41 = some r) ?_ ?_
 ·rintro ⟨out33, m41, z34, f35, e36, o38, w40, s42⟩ tm os ⟨h37, h39, hH43, h⟩
  unfold impl_asker_row_F2_J1 at h
  refine AW.sr ?_
  refine AOps.p rfl (rfl : _ = (AV.sl z34 f35 e36)) ?_
  refine AOps.assignR rfl rfl rfl (rfl : _ = (AV.sl z34 f35 e36)) rfl ?_
  refine AOps.nilR ?_
  cases h
  exact AW.ret ⟨_, _, rfl, finF (p := (rL rB 1) out33) (Fin.of (p := (rL rB 1) out33) (.L fun _ => .B) (⟨_, _, _, rfl, h37⟩)) ⟨w40, HS.leaveP hH43 [0] rfl⟩⟩
 intro KJ44
 refine AW.block ?_
 refine AW.res [(0, (AV.ptr b2 0)), (1, (AV.str u27)), (7, (AV.sl 1 true [])), (11, (AV.sl z29 f30 e31)), (12, (AV.int .i64 (list28.length : Int))), (13, (AV.int .i64 0))] [(7, false)] ⟨rfl, rfl, rfl, rfl, rfl, rfl, trivial⟩ ⟨rfl, trivial⟩ ?_
 refine AW.loopF (σ := Bool × (List Bool) × Int) (τ := (Nat → Bool) × Nat × Bool × (List AV) × Bool × St) (fun (m46, out47, t54) (w45, z48, f49, e50, o52, s55) => (LR rB 1 out47 z48 e50) ∧ (f49 = true ∨ o52 = true) ∧ (HS [b2] false s s55 [⟨some b2, [(AV.int .i64 a14), (AV.int .i64 a15), (AV.sl z7 f8 e9), (AV.sl z12 f13 e14), (AV.sl z17 f18 e19), (AV.sl z22 f23 e24), (AV.bool m46)], w45⟩])) (fun (m46, out47, t54) (w45, z48, f49, e50, o52, s55) tm os => ⟨updL tm [(0, (AV.ptr b2 0)), (1, (AV.str u27)), (7, (AV.sl z48 f49 e50)), (11, (AV.sl z29 f30 e31)), (12, (AV.int .i64 (list28.length : Int))), (13, (AV.int .i64 t54))], updL os [(7, o52)], s55⟩) ?_ (x := (a126, ([] : List Bool), 0)) (y := (w3, 1, true, [], false, { s with lo := s.n })) h ⟨⟨.inl rfl, .nil⟩, (Or.inl rfl), (HS.sel hE [some 0] (by decide))⟩
 clear h
 rintro ⟨m46, out47, t54⟩ ⟨w45, z48, f49, e50, o52, s55⟩ tm os ⟨h51, h53, hH56⟩ e1 h hL1 hR1
 unfold impl_asker_row_F2_S1 at h
 dsimp only at h
 refine AW.sr ?_
 refine AOps.p rfl (rfl : _ = (AV.bool (decide ((t54 : Int) < (list28.length : Int))))) ?_
 refine AOps.nilR ?_
 refine AW.seq ?_
 rcases oite h with ⟨hc57, h⟩ | ⟨hc57, h⟩
 ·refine AW.condT (congrArg AV.bool hc57) ?_
  refine AW.skip ?_
  refine AW.seq ?_
  refine AW.block ?_
  refine AW.sr ?_
  obtain ⟨x58, h59, h⟩ := obind h
  obtain ⟨v62, h60, h61⟩ := idx_sl h32 h59
  obtain ⟨_, rfl, h63⟩ := h60
  obtain ⟨_, _, rfl, h64, h65⟩ := Cs_cons h63
  cases h64
  obtain ⟨_, _, rfl, h66, h67⟩ := Cs_cons h65
  cases h66
  cases Cs_nil h67
  refine AOps.pureR rfl rfl rfl h61 rfl (rfl : _ = (AV.eptr [(AV.str x58.Front), (AV.str x58.Back)] 0)) ?_
  refine AOps.ldE (v := (AV.agg [(AV.str x58.Front), (AV.str x58.Back)])) rfl rfl rfl rfl rfl rfl ?_
  refine AOps.allocP rfl rfl rfl rfl ⟨rfl, rfl⟩ rfl ?_
  refine AOps.stP (v := (AV.agg [(AV.str x58.Front), (AV.str x58.Back)])) rfl rfl rfl rfl rfl rfl rfl rfl rfl (lt_b rfl) rfl ?_
  refine AOps.nilR ?_
  refine AW.region ?_
  refine AOps.moveR rfl rfl rfl rfl (rfl : _ = (AV.sl z48 f49 e50)) rfl ?_
  refine AOps.p rfl (rfl : _ = (AV.ptr b2 0)) ?_
  refine AOps.ldE (v := (AV.agg [(AV.str x58.Front), (AV.str x58.Back)])) rfl rfl rfl rfl rfl rfl ?_
  refine AOps.p rfl (rfl : _ = (AV.str u27)) ?_
  obtain ⟨y68, h69, h⟩ := obind h
  refine AOps.callP (g := 69) (args := [(AV.agg [(AV.str x58.Front), (AV.str x58.Back)]), (AV.str u27)]) (p := (rS) y68) rfl rfl rfl (impl_Context_around_ok  h69 (HS.wf' hH56)) ?_
  intro _ o71 h70
  cases h70
  obtain ⟨y72, h73, h⟩ := obind h
  refine AOps.callF (g := 68) (args := [(AV.ptr b2 0), (AV.str y68)]) rfl rfl rfl (impl_asker_takes_F1_ok h10 h15 h20 h25 (HS.enterP hH56 [0] [b2] rfl (by decide)) h73 (HS.wf' hH56)) ?_
  intro _ o79 s76 h78
  obtain ⟨h74, w80, h75⟩ := h78
  have hH77 := HS.callP hH56 [0] h75 rfl rfl
  change HS [b2] false s s76 [⟨some b2, [(AV.int .i64 a14), (AV.int .i64 a15), (AV.sl z7 f8 e9), (AV.sl z12 f13 e14), (AV.sl z17 f18 e19), (AV.sl z22 f23 e24), (AV.bool y72.2)], w80⟩] at hH77
  cases h74
  refine AOps.makeR rfl rfl rfl rfl rfl rfl (rfl : _ = (AV.sl 1 true [(AV.bool y72.1)])) ?_
  obtain ⟨l81, h82, h⟩ := obind h
  obtain ⟨h83, h84⟩ := app_LR h51 (LR.lit (r := rB) (sz := 1) (.cons rfl .nil)) h82
  refine AOps.appL (z := z48) (f := f49) (e := e50) (z' := 1) (f' := true) (e' := [(AV.bool y72.1)]) rfl rfl rfl rfl rfl rfl rfl (appSrc_sl (LR.z (LR.lit (r := rB) (sz := 1) (.cons rfl .nil))) rfl) (LR.z h51) ⟨by decide, by decide, rfl, rfl⟩ rfl rfl h84 (own_tmp h53 rfl rfl) ?_
  refine AOps.assignR rfl rfl rfl (rfl : _ = (AV.sl 1 false (e50 ++ [(AV.bool y72.1)]))) rfl ?_
  refine AOps.nilR ?_
  refine AW.inBlock ?_
  refine AW.region ?_
  refine AOps.p rfl (rfl : _ = (AV.int .i64 (IntKind.wrap .i64 (t54 + 1)))) ?_
  refine AOps.p rfl (rfl : _ = (AV.int .i64 (IntKind.wrap .i64 (t54 + 1)))) ?_
  refine AOps.nilR ?_
  cases h
  exact AW.res [(0, (AV.ptr b2 0)), (1, (AV.str u27)), (7, (AV.sl 1 false (e50 ++ [(AV.bool y72.1)]))), (11, (AV.sl z29 f30 e31)), (12, (AV.int .i64 (list28.length : Int))), (13, (AV.int .i64 (IntKind.wrap .i64 (t54 + 1))))] [(7, true)] ⟨rfl, rfl, rfl, rfl, rfl, rfl, trivial⟩ ⟨rfl, trivial⟩ (hL1 _ rfl (w80, 1, false, (e50 ++ [(AV.bool y72.1)]), true, s76) _ _ ⟨h83, (Or.inr rfl), (HS.sel hH77 [some 0] (by decide))⟩)
 refine AW.condF (congrArg AV.bool hc57) ?_
 refine AW.exit rfl ?_
 obtain ⟨r85, hm, hx⟩ := omap h
 clear h
 subst hx
 have hx := hR1 _ rfl
 rw [hx] at hm
 have h := hm
 exact AW.res [(7, (AV.sl z48 f49 e50))] [(7, o52)] ⟨rfl, trivial⟩ ⟨rfl, trivial⟩ (KJ44 (out47, m46, z48, f49, e50, o52, w45, s55) _ _ ⟨h51, h53, (HS.sel hH56 [some 0] (by decide)), h⟩)
theorem impl_RowOf_ok {c1 : Checker} {u18 : List UInt8} {list19 : List Context} {z2 : Nat} {f3 : Bool} {e4 : List AV} {z6 : Nat} {f7 : Bool} {e8 : List AV} {z10 : Nat} {f11 : Bool} {e12 : List AV} {z14 : Nat} {f15 : Bool} {e16 : List AV} {z20 : Nat} {f21 : Bool} {e22 : List AV} {s : St} (h5 : LR rB 1 c1.Accept z2 e4) (h9 : LR (rL rPush 2) 1 c1.Call z6 e8) (h13 : LR (rL (rL (rI .i64) 1) 1) 1 c1.Return z10 e12) (h17 : LR (rL (rI .i64) 1) 1 c1.Inner z14 e16) (h23 : LR rContext 2 list19 z20 e22) {r : (List Bool) × Int} (h : impl_RowOf c1 u18 list19 = some r) (hs : WF s) : ACall Cf 9 [(AV.agg [(AV.int .i64 c1.Stack), (AV.int .i64 c1.Start), (AV.sl z2 f3 e4), (AV.sl z6 f7 e8), (AV.sl z10 f11 e12), (AV.sl z14 f15 e16)]), (AV.str u18), (AV.sl z20 f21 e22)] s fun v _ s' => (fun x => rT [(rL rB 1) x.1, (rI .i64) x.2]) r v ∧ s' = s := by
 refine ACall.boxes rfl rfl rfl ?_
 have hH0 := HS.init hs
 unfold impl_RowOf at h
 refine AW.sr ?_
 refine AOps.makeR rfl rfl rfl rfl rfl rfl (rfl : _ = (AV.eptr [(AV.int .i64 c1.Stack), (AV.int .i64 c1.Start), (AV.sl z2 f3 e4), (AV.sl z6 f7 e8), (AV.sl z10 f11 e12), (AV.sl z14 f15 e16)] 0)) ?_
 refine AOps.p rfl (rfl : _ = (AV.sl 0 true [])) ?_
 refine AOps.p rfl (rfl : _ = (AV.int .i64 0)) ?_
 refine AOps.nilR ?_
 refine AW.seq ?_
 refine AW.block ?_
 refine AW.sr ?_
 refine AOps.ldE (v := (AV.agg [(AV.int .i64 c1.Stack), (AV.int .i64 c1.Start), (AV.sl z2 f3 e4), (AV.sl z6 f7 e8), (AV.sl z10 f11 e12), (AV.sl z14 f15 e16)])) rfl rfl rfl rfl rfl rfl ?_
 obtain ⟨y24, h25, h⟩ := obind h
 refine AOps.callP (g := 31) (args := [(AV.agg [(AV.int .i64 c1.Stack), (AV.int .i64 c1.Start), (AV.sl z2 f3 e4), (AV.sl z6 f7 e8), (AV.sl z10 f11 e12), (AV.sl z14 f15 e16)])]) (p := (rB) y24) rfl rfl rfl (impl_ValidChecker_ok h5 h9 h13 h17 h25 (HS.wf' hH0)) ?_
 intro _ o27 h26
 cases h26
 refine AOps.p rfl (rfl : _ = (AV.bool (!y24))) ?_
 refine AOps.p rfl (rfl : _ = (AV.bool (!y24))) ?_
 obtain ⟨b29, hb, h⟩ := obind h
 refine AOps.split 4 (fun f' => ∃ tm' os', f' = ⟨updL tm' [(1, (AV.str u18)), (2, (AV.sl z20 f21 e22)), (3, (AV.eptr [(AV.int .i64 c1.Stack), (AV.int .i64 c1.Start), (AV.sl z2 f3 e4), (AV.sl z6 f7 e8), (AV.sl z10 f11 e12), (AV.sl z14 f15 e16)] 0)), (18, (AV.bool b29))], updL os' [], { s with lo := s.n }⟩) ?_ ?_
 ·rcases oite hb with ⟨hc28, hb⟩ | ⟨hc28, hb⟩
  ·refine AOps.know (d := 14) rfl hc28 ?_
   refine AOps.skipR rfl rfl ?_
   refine AOps.skipR rfl rfl ?_
   refine AOps.skipR rfl rfl ?_
   refine AOps.p rfl (rfl : _ = (AV.bool true)) ?_
   refine AOps.resR [(1, (AV.str u18)), (2, (AV.sl z20 f21 e22)), (3, (AV.eptr [(AV.int .i64 c1.Stack), (AV.int .i64 c1.Start), (AV.sl z2 f3 e4), (AV.sl z6 f7 e8), (AV.sl z10 f11 e12), (AV.sl z14 f15 e16)] 0)), (18, (AV.bool b29))] [] ?_ ?_ _ ⟨_, _, rfl⟩
   ·exact ⟨rfl, rfl, rfl, congrArg AV.bool (Option.some.inj hb), trivial⟩
   exact trivial
  ·have h := hb
   refine AOps.know (d := 14) rfl hc28 ?_
   refine AOps.p rfl (rfl : _ = (AV.str u18)) ?_
   obtain ⟨y30, h31, h⟩ := obind h
   refine AOps.callP (g := 32) (args := [(AV.str u18)]) (p := (rB) y30) rfl rfl rfl (impl_ValidWord_ok  h31 (HS.wf' hH0)) ?_
   intro _ o33 h32
   cases h32
   refine AOps.p rfl (rfl : _ = (AV.bool (!y30))) ?_
   refine AOps.p rfl (rfl : _ = (AV.bool (!y30))) ?_
   refine AOps.resR [(1, (AV.str u18)), (2, (AV.sl z20 f21 e22)), (3, (AV.eptr [(AV.int .i64 c1.Stack), (AV.int .i64 c1.Start), (AV.sl z2 f3 e4), (AV.sl z6 f7 e8), (AV.sl z10 f11 e12), (AV.sl z14 f15 e16)] 0)), (18, (AV.bool b29))] [] ?_ ?_ _ ⟨_, _, rfl⟩
   ·exact ⟨rfl, rfl, rfl, congrArg AV.bool (Option.some.inj h), trivial⟩
   exact trivial
 rintro _ ⟨tm, os, rfl⟩
 refine AOps.assignR rfl rfl rfl (rfl : _ = (AV.bool b29)) rfl ?_
 refine AOps.nilR ?_
 rcases oite h with ⟨hc34, h⟩ | ⟨hc34, h⟩
 ·refine AW.condT (congrArg AV.bool hc34) ?_
  refine AW.sr ?_
  refine AOps.p rfl (rfl : _ = (AV.sl 0 true [])) ?_
  refine AOps.p rfl (rfl : _ = (AV.int .i64 1)) ?_
  refine AOps.nilR ?_
  cases h
  exact AW.ret ⟨⟨_, hH0⟩, _, _, rfl, (Fin.T (.cons (Fin.of (p := (rL rB 1) ([] : List Bool)) (.L fun _ => .B) (⟨_, _, _, rfl, ⟨.inr ⟨rfl, rfl⟩, .nil⟩⟩)) (.cons (Fin.of (p := (rI .i64) 1) .I rfl) .nil))).2⟩
 refine AW.condF (congrArg AV.bool hc34) ?_
 refine AW.sr ?_
 refine AOps.p rfl (rfl : _ = (AV.sl z20 f21 e22)) ?_
 refine AOps.p rfl (len_eq h23) ?_
 refine AOps.p rfl (rfl : _ = (AV.bool (decide (((list19.length : Int) : Int) > 40)))) ?_
 refine AOps.p rfl (rfl : _ = (AV.bool (decide (((list19.length : Int) : Int) > 40)))) ?_
 obtain ⟨b36, hb, h⟩ := obind h
 refine AOps.split 3 (fun f' => ∃ tm' os', f' = ⟨updL tm' [(1, (AV.str u18)), (2, (AV.sl z20 f21 e22)), (3, (AV.eptr [(AV.int .i64 c1.Stack), (AV.int .i64 c1.Start), (AV.sl z2 f3 e4), (AV.sl z6 f7 e8), (AV.sl z10 f11 e12), (AV.sl z14 f15 e16)] 0)), (26, (AV.bool b36))], updL os' [], { s with lo := s.n }⟩) ?_ ?_
 ·rcases oite hb with ⟨hc35, hb⟩ | ⟨hc35, hb⟩
  ·refine AOps.know (d := 23) rfl hc35 ?_
   refine AOps.skipR rfl rfl ?_
   refine AOps.skipR rfl rfl ?_
   refine AOps.p rfl (rfl : _ = (AV.bool true)) ?_
   refine AOps.resR [(1, (AV.str u18)), (2, (AV.sl z20 f21 e22)), (3, (AV.eptr [(AV.int .i64 c1.Stack), (AV.int .i64 c1.Start), (AV.sl z2 f3 e4), (AV.sl z6 f7 e8), (AV.sl z10 f11 e12), (AV.sl z14 f15 e16)] 0)), (26, (AV.bool b36))] [] ?_ ?_ _ ⟨_, _, rfl⟩
   ·exact ⟨rfl, rfl, rfl, congrArg AV.bool (Option.some.inj hb), trivial⟩
   exact trivial
  ·have h := hb
   refine AOps.know (d := 23) rfl hc35 ?_
   refine AOps.p rfl (rfl : _ = (AV.sl z20 f21 e22)) ?_
   obtain ⟨y42, h43, h⟩ := obind h
   refine AOps.callP (g := 33) (args := [(AV.sl z20 f21 e22), (AV.fn 34 [])]) (p := (rB) y42) rfl rfl rfl (slices_ContainsFunc_simpl_Context_impl_Context_ok h23 (by intro x vs y hc hx s hs; obtain ⟨_, _, rfl, hv0, hd0⟩ := Cs_cons hc; obtain ⟨_, rfl, h37⟩ := hv0; obtain ⟨_, _, rfl, h38, h39⟩ := Cs_cons h37; cases h38; obtain ⟨_, _, rfl, h40, h41⟩ := Cs_cons h39; cases h40; cases Cs_nil h41; cases Cs_nil hd0; exact impl_RowOf_1_ok  hx hs) h43 (HS.wf' hH0)) ?_
   intro _ o45 h44
   cases h44
   refine AOps.p rfl (rfl : _ = (AV.bool y42)) ?_
   refine AOps.resR [(1, (AV.str u18)), (2, (AV.sl z20 f21 e22)), (3, (AV.eptr [(AV.int .i64 c1.Stack), (AV.int .i64 c1.Start), (AV.sl z2 f3 e4), (AV.sl z6 f7 e8), (AV.sl z10 f11 e12), (AV.sl z14 f15 e16)] 0)), (26, (AV.bool b36))] [] ?_ ?_ _ ⟨_, _, rfl⟩
   ·exact ⟨rfl, rfl, rfl, congrArg AV.bool (Option.some.inj h), trivial⟩
   exact trivial
 rintro _ ⟨tm, os, rfl⟩
 refine AOps.assignR rfl rfl rfl (rfl : _ = (AV.bool b36)) rfl ?_
 refine AOps.nilR ?_
 rcases oite h with ⟨hc46, h⟩ | ⟨hc46, h⟩
 ·refine AW.condT (congrArg AV.bool hc46) ?_
  refine AW.sr ?_
  refine AOps.p rfl (rfl : _ = (AV.sl 0 true [])) ?_
  refine AOps.p rfl (rfl : _ = (AV.int .i64 2)) ?_
  refine AOps.nilR ?_
  cases h
  exact AW.ret ⟨⟨_, hH0⟩, _, _, rfl, (Fin.T (.cons (Fin.of (p := (rL rB 1) ([] : List Bool)) (.L fun _ => .B) (⟨_, _, _, rfl, ⟨.inr ⟨rfl, rfl⟩, .nil⟩⟩)) (.cons (Fin.of (p := (rI .i64) 2) .I rfl) .nil))).2⟩
 refine AW.condF (congrArg AV.bool hc46) ?_
 refine AW.sr ?_
 refine AOps.p rfl (rfl : _ = (AV.str u18)) ?_
 obtain ⟨y47, h48, h⟩ := obind h
 refine AOps.callP (g := 35) (args := [(AV.str u18)]) (p := (rB) y47) rfl rfl rfl (impl_isMatched_ok  h48 (HS.wf' hH0)) ?_
 intro _ o50 h49
 cases h49
 refine AOps.p rfl (rfl : _ = (AV.bool (!y47))) ?_
 refine AOps.assignR rfl rfl rfl (rfl : _ = (AV.bool (!y47))) rfl ?_
 refine AOps.nilR ?_
 rcases oite h with ⟨hc51, h⟩ | ⟨hc51, h⟩
 ·refine AW.condT (congrArg AV.bool hc51) ?_
  refine AW.sr ?_
  refine AOps.p rfl (rfl : _ = (AV.sl 0 true [])) ?_
  refine AOps.p rfl (rfl : _ = (AV.int .i64 4)) ?_
  refine AOps.nilR ?_
  cases h
  exact AW.ret ⟨⟨_, hH0⟩, _, _, rfl, (Fin.T (.cons (Fin.of (p := (rL rB 1) ([] : List Bool)) (.L fun _ => .B) (⟨_, _, _, rfl, ⟨.inr ⟨rfl, rfl⟩, .nil⟩⟩)) (.cons (Fin.of (p := (rI .i64) 4) .I rfl) .nil))).2⟩
 refine AW.condF (congrArg AV.bool hc51) ?_
 refine AW.skip ?_
 refine AW.inBlock ?_
 refine AW.sr ?_
 refine AOps.ldE (v := (AV.agg [(AV.int .i64 c1.Stack), (AV.int .i64 c1.Start), (AV.sl z2 f3 e4), (AV.sl z6 f7 e8), (AV.sl z10 f11 e12), (AV.sl z14 f15 e16)])) rfl rfl rfl rfl rfl rfl ?_
 refine AOps.p rfl (rfl : _ = (AV.agg [(AV.int .i64 c1.Stack), (AV.int .i64 c1.Start), (AV.sl z2 f3 e4), (AV.sl z6 f7 e8), (AV.sl z10 f11 e12), (AV.sl z14 f15 e16), (AV.bool false)])) ?_
 refine AOps.box1 (v := (AV.agg [(AV.int .i64 c1.Stack), (AV.int .i64 c1.Start), (AV.sl z2 f3 e4), (AV.sl z6 f7 e8), (AV.sl z10 f11 e12), (AV.sl z14 f15 e16), (AV.bool false)])) hH0 rfl rfl rfl rfl rfl rfl rfl rfl ?_
 intro b52 s53 hH54
 change HS [] false s s53 [⟨some b52, [(AV.int .i64 c1.Stack), (AV.int .i64 c1.Start), (AV.sl z2 f3 e4), (AV.sl z6 f7 e8), (AV.sl z10 f11 e12), (AV.sl z14 f15 e16), (AV.bool false)], (fun _ => false)⟩] at hH54
 refine AOps.assignR rfl rfl rfl (rfl : _ = (AV.ptr b52 0)) rfl ?_
 refine AOps.nilR ?_
 refine AW.sr ?_
 refine AOps.p rfl (rfl : _ = (AV.ptr b52 0)) ?_
 refine AOps.p rfl (rfl : _ = (AV.str u18)) ?_
 refine AOps.p rfl (rfl : _ = (AV.sl z20 f21 e22)) ?_
 obtain ⟨y55, h56, h⟩ := obind h
 refine AOps.callF (g := 36) (args := [(AV.ptr b52 0), (AV.str u18), (AV.sl z20 f21 e22)]) rfl rfl rfl (impl_asker_row_F2_ok h5 h9 h13 h17 h23 (HS.enterP hH54 [0] [b52] rfl (by decide)) h56 (HS.wf' hH54)) ?_
 intro _ o66 s59 h61
 obtain ⟨h57, w67, h58⟩ := h61
 have hH60 := HS.callP hH54 [0] h58 rfl rfl
 change HS [] false s s59 [⟨some b52, [(AV.int .i64 c1.Stack), (AV.int .i64 c1.Start), (AV.sl z2 f3 e4), (AV.sl z6 f7 e8), (AV.sl z10 f11 e12), (AV.sl z14 f15 e16), (AV.bool y55.2)], w67⟩] at hH60
 obtain ⟨z62, f63, e64, rfl, h65⟩ := h57
 refine AOps.assignR rfl rfl rfl (rfl : _ = (AV.sl z62 f63 e64)) rfl ?_
 refine AOps.nilR ?_
 refine AW.seq ?_
 refine AW.sr ?_
 refine AOps.p rfl (rfl : _ = (AV.ptr b52 0)) ?_
 refine AOps.p rfl (rfl : _ = (AV.ptr b52 0)) ?_
 refine AOps.p rfl (rfl : _ = (AV.ptr b52 6)) ?_
 refine AOps.ldB (i := 0) (v := (AV.bool y55.2)) hH60 rfl rfl rfl rfl rfl rfl rfl rfl rfl ?_
 refine AOps.nilR ?_
 rcases oite h with ⟨hc68, h⟩ | ⟨hc68, h⟩
 ·refine AW.condT (congrArg AV.bool hc68) ?_
  refine AW.sr ?_
  refine AOps.p rfl (rfl : _ = (AV.sl 0 true [])) ?_
  refine AOps.p rfl (rfl : _ = (AV.int .i64 3)) ?_
  refine AOps.nilR ?_
  cases h
  exact AW.ret ⟨⟨_, hH60⟩, _, _, rfl, (Fin.T (.cons (Fin.of (p := (rL rB 1) ([] : List Bool)) (.L fun _ => .B) (⟨_, _, _, rfl, ⟨.inr ⟨rfl, rfl⟩, .nil⟩⟩)) (.cons (Fin.of (p := (rI .i64) 3) .I rfl) .nil))).2⟩
 refine AW.condF (congrArg AV.bool hc68) ?_
 refine AW.skip ?_
 refine AW.sr ?_
 refine AOps.p rfl (rfl : _ = (AV.sl z62 f63 e64)) ?_
 refine AOps.assignR rfl rfl rfl (rfl : _ = (AV.sl z62 f63 e64)) rfl ?_
 refine AOps.p rfl (rfl : _ = (AV.int .i64 0)) ?_
 refine AOps.nilR ?_
 cases h
 exact AW.ret ⟨⟨_, hH60⟩, _, _, rfl, (Fin.T (.cons (Fin.of (p := (rL rB 1) y55.1) (.L fun _ => .B) (⟨_, _, _, rfl, h65⟩)) (.cons (Fin.of (p := (rI .i64) 0) .I rfl) .nil))).2⟩
theorem laws_FnExactRowOf_ok {p1 : Checker} {p1_18 : List UInt8} {p2_19 : List Context} {z2 : Nat} {f3 : Bool} {e4 : List AV} {z6 : Nat} {f7 : Bool} {e8 : List AV} {z10 : Nat} {f11 : Bool} {e12 : List AV} {z14 : Nat} {f15 : Bool} {e16 : List AV} {z20 : Nat} {f21 : Bool} {e22 : List AV} {s : St} (h5 : LR rB 1 p1.Accept z2 e4) (h9 : LR (rL rPush 2) 1 p1.Call z6 e8) (h13 : LR (rL (rL (rI .i64) 1) 1) 1 p1.Return z10 e12) (h17 : LR (rL (rI .i64) 1) 1 p1.Inner z14 e16) (h23 : LR rContext 2 p2_19 z20 e22) {r : Bool} (h : laws_FnExactRowOf p1 p1_18 p2_19 = some r) (hs : WF s) (hz : s.n = 0 ∧ s.ro = 0) : ACall Cf 3 [(AV.agg [(AV.int .i64 p1.Stack), (AV.int .i64 p1.Start), (AV.sl z2 f3 e4), (AV.sl z6 f7 e8), (AV.sl z10 f11 e12), (AV.sl z14 f15 e16)]), (AV.str p1_18), (AV.sl z20 f21 e22)] s fun v _ s' => (rB) r v ∧ s' = s := by
 refine ACall.boxes rfl rfl rfl ?_
 have hH0 := HS.g0 (HS.init hs)
 have hG0 := AllG.nil
 have hl : LoOK [] false s := LoOK.nil
 unfold laws_FnExactRowOf at h
 refine AW.sr ?_
 refine AOps.makeR rfl rfl rfl rfl rfl rfl (rfl : _ = (AV.eptr [(AV.int .i64 p1.Stack), (AV.int .i64 p1.Start), (AV.sl z2 f3 e4), (AV.sl z6 f7 e8), (AV.sl z10 f11 e12), (AV.sl z14 f15 e16)] 0)) ?_
 refine AOps.p rfl (rfl : _ = (AV.bool false)) ?_
 refine AOps.nilR ?_
 refine AW.seq ?_
 refine AW.sr ?_
 refine AOps.p rfl (rfl : _ = (AV.str p1_18)) ?_
 refine AOps.p rfl (rfl : _ = (AV.int .i64 (p1_18.length : Int))) ?_
 refine AOps.p rfl (rfl : _ = (AV.bool (decide (((p1_18.length : Int) : Int) > 1048576)))) ?_
 refine AOps.nilR ?_
 rcases oite h with ⟨hc24, h⟩ | ⟨hc24, h⟩
 ·refine AW.condT (congrArg AV.bool hc24) ?_
  refine AW.sr ?_
  refine AOps.p rfl (rfl : _ = (AV.bool true)) ?_
  refine AOps.nilR ?_
  cases h
  exact AW.ret ⟨⟨_, hH0⟩, _, _, rfl, (Fin.of (p := (rB) true) .B rfl).2⟩
 refine AW.condF (congrArg AV.bool hc24) ?_
 refine AW.skip ?_
 refine AW.sr ?_
 refine AOps.p rfl (rfl : _ = (AV.int .i64 1048576)) ?_
 refine AOps.nilR ?_
 refine AW.sr ?_
 refine AOps.ldE (v := (AV.agg [(AV.int .i64 p1.Stack), (AV.int .i64 p1.Start), (AV.sl z2 f3 e4), (AV.sl z6 f7 e8), (AV.sl z10 f11 e12), (AV.sl z14 f15 e16)])) rfl rfl rfl rfl rfl rfl ?_
 refine AOps.p rfl (rfl : _ = (AV.int .i64 1048576)) ?_
 obtain ⟨y25, h26, h⟩ := obind h
 refine AOps.callP (g := 4) (args := [(AV.agg [(AV.int .i64 p1.Stack), (AV.int .i64 p1.Start), (AV.sl z2 f3 e4), (AV.sl z6 f7 e8), (AV.sl z10 f11 e12), (AV.sl z14 f15 e16)]), (AV.int .i64 1048576)]) (p := (rI .i64) y25) rfl rfl rfl (laws_szChecker_ok h5 h9 h13 h17 h26 (HS.wf' hH0)) ?_
 intro _ o28 h27
 cases h27
 refine AOps.assignR rfl rfl rfl (rfl : _ = (AV.int .i64 y25)) rfl ?_
 refine AOps.nilR ?_
 refine AW.seq ?_
 refine AW.sr ?_
 refine AOps.p rfl (rfl : _ = (AV.int .i64 y25)) ?_
 refine AOps.p rfl (rfl : _ = (AV.bool (decide ((y25 : Int) < 0)))) ?_
 refine AOps.nilR ?_
 rcases oite h with ⟨hc29, h⟩ | ⟨hc29, h⟩
 ·refine AW.condT (congrArg AV.bool hc29) ?_
  refine AW.sr ?_
  refine AOps.p rfl (rfl : _ = (AV.bool true)) ?_
  refine AOps.nilR ?_
  cases h
  exact AW.ret ⟨⟨_, hH0⟩, _, _, rfl, (Fin.of (p := (rB) true) .B rfl).2⟩
 refine AW.condF (congrArg AV.bool hc29) ?_
 refine AW.skip ?_
 refine AW.sr ?_
 refine AOps.p rfl (rfl : _ = (AV.sl z20 f21 e22)) ?_
 refine AOps.p rfl (rfl : _ = (AV.int .i64 y25)) ?_
 obtain ⟨y30, h31, h⟩ := obind h
 refine AOps.callP (g := 5) (args := [(AV.sl z20 f21 e22), (AV.int .i64 y25)]) (p := (rI .i64) y30) rfl rfl rfl (laws_szContextS_ok h23 h31 (HS.wf' hH0)) ?_
 intro _ o33 h32
 cases h32
 refine AOps.assignR rfl rfl rfl (rfl : _ = (AV.int .i64 y30)) rfl ?_
 refine AOps.nilR ?_
 refine AW.seq ?_
 refine AW.sr ?_
 refine AOps.p rfl (rfl : _ = (AV.int .i64 y30)) ?_
 refine AOps.p rfl (rfl : _ = (AV.bool (decide ((y30 : Int) < 0)))) ?_
 refine AOps.nilR ?_
 rcases oite h with ⟨hc34, h⟩ | ⟨hc34, h⟩
 ·refine AW.condT (congrArg AV.bool hc34) ?_
  refine AW.sr ?_
  refine AOps.p rfl (rfl : _ = (AV.bool true)) ?_
  refine AOps.nilR ?_
  cases h
  exact AW.ret ⟨⟨_, hH0⟩, _, _, rfl, (Fin.of (p := (rB) true) .B rfl).2⟩
 refine AW.condF (congrArg AV.bool hc34) ?_
 refine AW.skip ?_
 refine AW.sr ?_
 refine AOps.ldE (v := (AV.agg [(AV.int .i64 p1.Stack), (AV.int .i64 p1.Start), (AV.sl z2 f3 e4), (AV.sl z6 f7 e8), (AV.sl z10 f11 e12), (AV.sl z14 f15 e16)])) rfl rfl rfl rfl rfl rfl ?_
 obtain ⟨y35, h36, h⟩ := obind h
 refine AOps.callP (g := 7) (args := [(AV.agg [(AV.int .i64 p1.Stack), (AV.int .i64 p1.Start), (AV.sl z2 f3 e4), (AV.sl z6 f7 e8), (AV.sl z10 f11 e12), (AV.sl z14 f15 e16)])]) (p := (rChecker) y35) rfl rfl rfl (laws_toChecker_ok h5 h9 h13 h17 h36 (HS.wf' hH0)) ?_
 intro _ o67 h37
 obtain ⟨_, rfl, h38⟩ := h37
 obtain ⟨_, _, rfl, h39, h40⟩ := Cs_cons h38
 cases h39
 obtain ⟨_, _, rfl, h41, h42⟩ := Cs_cons h40
 cases h41
 obtain ⟨_, _, rfl, h43, h44⟩ := Cs_cons h42
 obtain ⟨z45, f46, e47, rfl, h48⟩ := h43
 obtain ⟨_, _, rfl, h49, h50⟩ := Cs_cons h44
 obtain ⟨z51, f52, e53, rfl, h54⟩ := h49
 obtain ⟨_, _, rfl, h55, h56⟩ := Cs_cons h50
 obtain ⟨z57, f58, e59, rfl, h60⟩ := h55
 obtain ⟨_, _, rfl, h61, h62⟩ := Cs_cons h56
 obtain ⟨z63, f64, e65, rfl, h66⟩ := h61
 cases Cs_nil h62
 refine AOps.p rfl (rfl : _ = (AV.str p1_18)) ?_
 refine AOps.p rfl (rfl : _ = (AV.sl z20 f21 e22)) ?_
 obtain ⟨y68, h69, h⟩ := obind h
 refine AOps.callP (g := 8) (args := [(AV.sl z20 f21 e22)]) (p := (rL rContext 2) y68) rfl rfl rfl (laws_toContextS_ok h23 h69 (HS.wf' hH0)) ?_
 intro _ o75 h70
 obtain ⟨z71, f72, e73, rfl, h74⟩ := h70
 obtain ⟨y76, h77, h⟩ := obind h
 refine AOps.callP (g := 6) (args := [(AV.agg [(AV.int .i64 y35.Stack), (AV.int .i64 y35.Start), (AV.sl z45 f46 e47), (AV.sl z51 f52 e53), (AV.sl z57 f58 e59), (AV.sl z63 f64 e65)]), (AV.str p1_18), (AV.sl z71 f72 e73)]) (p := (fun x => rT [(rL rB 1) x.1, (rI .i64) x.2]) y76) rfl rfl rfl (spec_RowOf_ok h48 h54 h60 h66 h74 h77 (HS.wf' hH0)) ?_
 intro _ o88 h78
 obtain ⟨_, rfl, h79⟩ := h78
 obtain ⟨_, _, rfl, h80, h81⟩ := Cs_cons h79
 obtain ⟨z82, f83, e84, rfl, h85⟩ := h80
 obtain ⟨_, _, rfl, h86, h87⟩ := Cs_cons h81
 cases h86
 cases Cs_nil h87
 refine AOps.p rfl (rfl : _ = (AV.tup [(AV.sl z82 f83 e84), (AV.int .i64 y76.2)])) ?_
 refine AOps.p rfl (rfl : _ = (AV.sl z82 f83 e84)) ?_
 refine AOps.p rfl (rfl : _ = (AV.int .i64 y76.2)) ?_
 refine AOps.assignR rfl rfl rfl (rfl : _ = (AV.sl z82 f83 e84)) rfl ?_
 refine AOps.assignR rfl rfl rfl (rfl : _ = (AV.int .i64 y76.2)) rfl ?_
 refine AOps.nilR ?_
 refine AW.sr ?_
 refine AOps.ldE (v := (AV.agg [(AV.int .i64 p1.Stack), (AV.int .i64 p1.Start), (AV.sl z2 f3 e4), (AV.sl z6 f7 e8), (AV.sl z10 f11 e12), (AV.sl z14 f15 e16)])) rfl rfl rfl rfl rfl rfl ?_
 obtain ⟨y89, h90, h⟩ := obind h
 have hP103 := HS.pop0 hH0
 refine AOps.callF (al := true) (g := 7) (args := [(AV.agg [(AV.int .i64 p1.Stack), (AV.int .i64 p1.Start), (AV.sl z2 f3 e4), (AV.sl z6 f7 e8), (AV.sl z10 f11 e12), (AV.sl z14 f15 e16)])]) rfl rfl rfl (laws_toChecker_K0_ok h5 h9 h13 h17  h90 (HS.wf' hH0)) ?_
 rintro _ _ s104 ⟨h91, k92, h94, k95, h97, k98, h100, k101, Ls106, rfl, hH107, hG108, ho93, ho96, ho99, ho102⟩
 have hJ109 := HS.joinK0 hP103 hH107
 obtain ⟨Ls110, Lf111, hG112, hF113, hP114⟩ := HS.pushN hJ109 hG0 hG108
 obtain ⟨Ls115, Lf116, hG117, hF118, hP119⟩ := HS.pushN hP114 hG112 hF113
 obtain ⟨Ls120, Lf121, hG122, hF123, hP124⟩ := HS.pushN hP119 hG117 hF118
 obtain ⟨Ls125, Lf126, hG127, hF128, hP129⟩ := HS.pushN hP124 hG122 hF123
 cases hF128
 have hH130 := HS.push0 hP129
 change HS [] false s s104 (([] : List BX) ++ List.flatten Ls125) at hH130
 change AllG [OS oE79 h100 k101 y89.Inner, OS oE25 h97 k98 y89.Return, OS oE81 h94 k95 y89.Call, OS oE4 h91 k92 y89.Accept] Ls125 at hG127
 refine AOps.allocP rfl rfl rfl rfl ⟨rfl, rfl⟩ rfl ?_
 refine AOps.stP (v := (AV.agg [(AV.int .i64 y89.Stack), (AV.int .i64 y89.Start), h91, h94, h97, h100])) rfl rfl rfl rfl rfl rfl rfl (lay_cons rfl (lay_cons rfl (lay_cons ho93 (lay_cons ho96 (lay_cons ho99 (lay_cons ho102 lay_nil)))))) rfl (lt_b rfl) rfl ?_
 refine AOps.nilR ?_
 refine AW.sr ?_
 refine AOps.p rfl (rfl : _ = (AV.sl z20 f21 e22)) ?_
 obtain ⟨y131, h132, h⟩ := obind h
 have hP136 := HS.pop0 hH130
 refine AOps.callF (al := true) (g := 8) (args := [(AV.sl z20 f21 e22)]) rfl rfl rfl (laws_toContextS_K0_ok h23  h132 (HS.wf' hH130)) ?_
 rintro h133 _ s137 ⟨_, k134, Ls139, rfl, hH140, hG141, ho135⟩
 have hJ142 := HS.joinK0 hP136 hH140
 obtain ⟨Ls143, Lf144, hG145, hF146, hP147⟩ := HS.pushN hJ142 hG127 hG141
 cases hF146
 have hH148 := HS.push0 hP147
 change HS [] false s s137 (([] : List BX) ++ List.flatten Ls143) at hH148
 change AllG [OS oE55 h133 k134 y131, OS oE79 h100 k101 y89.Inner, OS oE25 h97 k98 y89.Return, OS oE81 h94 k95 y89.Call, OS oE4 h91 k92 y89.Accept] Ls143 at hG145
 refine AOps.assignR rfl rfl rfl (rfl : _ = h133) rfl ?_
 refine AOps.nilR ?_
 refine AW.sr ?_
 refine AOps.ldE (v := (AV.agg [(AV.int .i64 y89.Stack), (AV.int .i64 y89.Start), h91, h94, h97, h100])) rfl rfl rfl rfl rfl rfl ?_
 refine AOps.p rfl (rfl : _ = (AV.str p1_18)) ?_
 refine AOps.p rfl (rfl : _ = h133) ?_
 obtain ⟨y149, h150, h⟩ := obind h
 refine AOps.lendK (al := true) (g := 9) (args := [(AV.agg [(AV.int .i64 y89.Stack), (AV.int .i64 y89.Start), h91, h94, h97, h100]), (AV.str p1_18), h133]) (ps := [(rChecker) y89, (rS) p1_18, (rL rContext 2) y131]) (p := fun v s' => ∃ (h184 : AV) (k185 : KT) (Ls' : List (List BX)), v = (AV.tup [h184, (AV.int .i64 y149.2)]) ∧ HS [] true s137.blind s' (([] : List BX) ++ List.flatten Ls') ∧ AllG [OS oE4 h184 k185 y149.1] Ls' ∧ h184.one = true) rfl rfl rfl rfl rfl rfl rfl (.cons (Fin.A (.cons (Fin.of (p := (rI .i64) y89.Stack) .I rfl) (.cons (Fin.of (p := (rI .i64) y89.Start) .I rfl) (.cons (Fin.up (by decide) (HS.finS hH148 hG145 (j := 4) rfl Sub.here (Or.inl rfl))) (.cons (Fin.up (by decide) (HS.finS hH148 hG145 (j := 3) rfl Sub.here (Or.inl rfl))) (.cons (Fin.up (by decide) (HS.finS hH148 hG145 (j := 2) rfl Sub.here (Or.inl rfl))) (.cons (Fin.up (by decide) (HS.finS hH148 hG145 (j := 1) rfl Sub.here (Or.inl rfl))) .nil))))))) (.cons (Fin.of (p := (rS) p1_18) .S rfl) (.cons (Fin.up (by decide) (HS.finS hH148 hG145 (j := 0) rfl Sub.here (Or.inl rfl))) .nil))) (fun args' hc => by obtain ⟨_, _, rfl, hv0, hd0⟩ := Cs_cons hc; obtain ⟨_, rfl, h151⟩ := hv0; obtain ⟨_, _, rfl, h152, h153⟩ := Cs_cons h151; cases h152; obtain ⟨_, _, rfl, h154, h155⟩ := Cs_cons h153; cases h154; obtain ⟨_, _, rfl, h156, h157⟩ := Cs_cons h155; obtain ⟨z158, f159, e160, rfl, h161⟩ := h156; obtain ⟨_, _, rfl, h162, h163⟩ := Cs_cons h157; obtain ⟨z164, f165, e166, rfl, h167⟩ := h162; obtain ⟨_, _, rfl, h168, h169⟩ := Cs_cons h163; obtain ⟨z170, f171, e172, rfl, h173⟩ := h168; obtain ⟨_, _, rfl, h174, h175⟩ := Cs_cons h169; obtain ⟨z176, f177, e178, rfl, h179⟩ := h174; cases Cs_nil h175; obtain ⟨_, _, rfl, hv1, hd1⟩ := Cs_cons hd0; cases hv1; obtain ⟨_, _, rfl, hv2, hd2⟩ := Cs_cons hd1; obtain ⟨z180, f181, e182, rfl, h183⟩ := hv2; cases Cs_nil hd2; exact impl_RowOf_K000_okN h161 h167 h173 h179 h183 h150 WF.blind) (by rintro v s1 ⟨_, _, Lq, rfl, hHq, hGq, _⟩; simp [AV.flatB, AV.flatL, HS.flatB0 hHq hGq (j := 0) rfl (Flt.leaf (fun x v n hr => by cases hr; rfl))]) ?_
 rintro _ s187 ⟨h184, k185, Ls189, rfl, hH190, hG191, ho186⟩
 have hH192 := HS.joinL (Lf := Ls189) hH148 (by simpa using hH190) hG191 (FG.cons (Flt.leaf (fun x v n hr => by cases hr; rfl)) FG.nil)
 have hG193 := AllG.app hG191 hG145
 have hH194 := HS.reL hH192
 change HS [] false s (St.join s137 s187) (([] : List BX) ++ List.flatten (Ls189 ++ Ls143)) at hH194
 change AllG [OS oE4 h184 k185 y149.1, OS oE55 h133 k134 y131, OS oE79 h100 k101 y89.Inner, OS oE25 h97 k98 y89.Return, OS oE81 h94 k95 y89.Call, OS oE4 h91 k92 y89.Accept] (Ls189 ++ Ls143) at hG193
 refine AOps.p rfl (rfl : _ = (AV.tup [h184, (AV.int .i64 y149.2)])) ?_
 refine AOps.p rfl (rfl : _ = h184) ?_
 refine AOps.p rfl (rfl : _ = (AV.int .i64 y149.2)) ?_
 refine AOps.assignR rfl rfl rfl (rfl : _ = h184) rfl ?_
 refine AOps.assignR rfl rfl rfl (rfl : _ = (AV.int .i64 y149.2)) rfl ?_
 refine AOps.nilR ?_
 refine AW.seq ?_
 refine AW.sr ?_
 refine AOps.p rfl (rfl : _ = h184) ?_
 refine AOps.p rfl (rfl : _ = (AV.sl z82 f83 e84)) ?_
 obtain ⟨y195, h196, h⟩ := obind h
 refine AOps.lendP (g := 10) (args := [h184, (AV.sl z82 f83 e84)]) (ps := [(rL rB 1) y149.1, (rL rB 1) y76.1]) (p := (rB) y195) rfl rfl rfl rfl rfl rfl rfl (.cons (Fin.up (by decide) (HS.finS hH194 hG193 (j := 0) rfl Sub.here (Or.inl rfl))) (.cons (Fin.of (p := (rL rB 1) y76.1) (.L fun _ => .B) (⟨_, _, _, rfl, h85⟩)) .nil)) (fun args' hc => by obtain ⟨_, _, rfl, hv0, hd0⟩ := Cs_cons hc; obtain ⟨z197, f198, e199, rfl, h200⟩ := hv0; obtain ⟨_, _, rfl, hv1, hd1⟩ := Cs_cons hd0; obtain ⟨z201, f202, e203, rfl, h204⟩ := hv1; cases Cs_nil hd1; exact laws_eqBoolS_okN h200 h204 h196 WF.blind) (fun v n hv => by cases hv; rfl) ?_
 intro _ h205
 cases h205
 refine AOps.p rfl (rfl : _ = (AV.bool (!y195))) ?_
 refine AOps.p rfl (rfl : _ = (AV.bool (!y195))) ?_
 refine AOps.split 4 (fun f' => ∃ tm' os', f' = ⟨updL tm' [(1, (AV.str p1_18)), (2, (AV.sl z20 f21 e22)), (3, (AV.eptr [(AV.int .i64 p1.Stack), (AV.int .i64 p1.Start), (AV.sl z2 f3 e4), (AV.sl z6 f7 e8), (AV.sl z10 f11 e12), (AV.sl z14 f15 e16)] 0)), (8, (AV.sl z82 f83 e84)), (9, (AV.int .i64 y76.2)), (10, (AV.eptr [(AV.int .i64 y89.Stack), (AV.int .i64 y89.Start), h91, h94, h97, h100] 0)), (11, h133), (12, h184), (13, (AV.int .i64 y149.2)), (60, (AV.bool ((!y195) || (y149.2 != y76.2))))], updL os' [], (St.join s137 s187)⟩) ?_ ?_
 ·rcases Bool.eq_false_or_eq_true (!y195) with hc206 | hc206
  ·refine AOps.know (d := 56) rfl hc206 ?_
   refine AOps.skipR rfl rfl ?_
   refine AOps.skipR rfl rfl ?_
   refine AOps.skipR rfl rfl ?_
   refine AOps.p rfl (rfl : _ = (AV.bool true)) ?_
   refine AOps.resR [(1, (AV.str p1_18)), (2, (AV.sl z20 f21 e22)), (3, (AV.eptr [(AV.int .i64 p1.Stack), (AV.int .i64 p1.Start), (AV.sl z2 f3 e4), (AV.sl z6 f7 e8), (AV.sl z10 f11 e12), (AV.sl z14 f15 e16)] 0)), (8, (AV.sl z82 f83 e84)), (9, (AV.int .i64 y76.2)), (10, (AV.eptr [(AV.int .i64 y89.Stack), (AV.int .i64 y89.Start), h91, h94, h97, h100] 0)), (11, h133), (12, h184), (13, (AV.int .i64 y149.2)), (60, (AV.bool ((!y195) || (y149.2 != y76.2))))] [] ?_ ?_ _ ⟨_, _, rfl⟩
   ·exact ⟨rfl, rfl, rfl, rfl, rfl, rfl, rfl, rfl, rfl, congrArg AV.bool (or_t hc206), trivial⟩
   exact trivial
  ·refine AOps.know (d := 56) rfl hc206 ?_
   refine AOps.p rfl (rfl : _ = (AV.int .i64 y149.2)) ?_
   refine AOps.p rfl (rfl : _ = (AV.int .i64 y76.2)) ?_
   refine AOps.p rfl (rfl : _ = (AV.bool (y149.2 != y76.2))) ?_
   refine AOps.p rfl (rfl : _ = (AV.bool (y149.2 != y76.2))) ?_
   refine AOps.resR [(1, (AV.str p1_18)), (2, (AV.sl z20 f21 e22)), (3, (AV.eptr [(AV.int .i64 p1.Stack), (AV.int .i64 p1.Start), (AV.sl z2 f3 e4), (AV.sl z6 f7 e8), (AV.sl z10 f11 e12), (AV.sl z14 f15 e16)] 0)), (8, (AV.sl z82 f83 e84)), (9, (AV.int .i64 y76.2)), (10, (AV.eptr [(AV.int .i64 y89.Stack), (AV.int .i64 y89.Start), h91, h94, h97, h100] 0)), (11, h133), (12, h184), (13, (AV.int .i64 y149.2)), (60, (AV.bool ((!y195) || (y149.2 != y76.2))))] [] ?_ ?_ _ ⟨_, _, rfl⟩
   ·exact ⟨rfl, rfl, rfl, rfl, rfl, rfl, rfl, rfl, rfl, congrArg AV.bool (or_f hc206), trivial⟩
   exact trivial
 rintro _ ⟨tm, os, rfl⟩
 refine AOps.nilR ?_
 rcases oite h with ⟨hc207, h⟩ | ⟨hc207, h⟩
 ·refine AW.condT (congrArg AV.bool hc207) ?_
  refine AW.sr ?_
  refine AOps.p rfl (rfl : _ = (AV.bool false)) ?_
  refine AOps.nilR ?_
  cases h
  exact AW.ret ⟨⟨_, hH194⟩, _, _, rfl, (Fin.of (p := (rB) false) .B rfl).2⟩
 refine AW.condF (congrArg AV.bool hc207) ?_
 refine AW.skip ?_
 refine AW.seq ?_
 refine AW.sr ?_
 refine AOps.ldE (v := (AV.agg [(AV.int .i64 y89.Stack), (AV.int .i64 y89.Start), h91, h94, h97, h100])) rfl rfl rfl rfl rfl rfl ?_
 refine AOps.ldE (v := (AV.agg [(AV.int .i64 p1.Stack), (AV.int .i64 p1.Start), (AV.sl z2 f3 e4), (AV.sl z6 f7 e8), (AV.sl z10 f11 e12), (AV.sl z14 f15 e16)])) rfl rfl rfl rfl rfl rfl ?_
 obtain ⟨y208, h209, h⟩ := obind h
 refine AOps.callDP (g := 7) (args := [(AV.agg [(AV.int .i64 p1.Stack), (AV.int .i64 p1.Start), (AV.sl z2 f3 e4), (AV.sl z6 f7 e8), (AV.sl z10 f11 e12), (AV.sl z14 f15 e16)])]) (p := (rChecker) y208) rfl rfl rfl (laws_toChecker_ok h5 h9 h13 h17 h209 ((HS.wf' hH194).still)) (fun v hv => Nice.pure (k := FINK) (p := (rChecker) y208) (.A (.cons .I (.cons .I (.cons (.L fun _ => .B) (.cons (.L fun _ => (.L fun _ => (.A (.cons .I (.cons .I .nil))))) (.cons (.L fun _ => (.L fun _ => (.L fun _ => .I))) (.cons (.L fun _ => (.L fun _ => .I)) .nil))))))) _ v hv) ?_
 intro _ o240 h210
 obtain ⟨_, rfl, h211⟩ := h210
 obtain ⟨_, _, rfl, h212, h213⟩ := Cs_cons h211
 cases h212
 obtain ⟨_, _, rfl, h214, h215⟩ := Cs_cons h213
 cases h214
 obtain ⟨_, _, rfl, h216, h217⟩ := Cs_cons h215
 obtain ⟨z218, f219, e220, rfl, h221⟩ := h216
 obtain ⟨_, _, rfl, h222, h223⟩ := Cs_cons h217
 obtain ⟨z224, f225, e226, rfl, h227⟩ := h222
 obtain ⟨_, _, rfl, h228, h229⟩ := Cs_cons h223
 obtain ⟨z230, f231, e232, rfl, h233⟩ := h228
 obtain ⟨_, _, rfl, h234, h235⟩ := Cs_cons h229
 obtain ⟨z236, f237, e238, rfl, h239⟩ := h234
 cases Cs_nil h235
 obtain ⟨y241, h242, h⟩ := obind h
 refine AOps.lendD (g := 11) (args := [(AV.agg [(AV.int .i64 y89.Stack), (AV.int .i64 y89.Start), h91, h94, h97, h100]), (AV.agg [(AV.int .i64 y208.Stack), (AV.int .i64 y208.Start), (AV.sl z218 f219 e220), (AV.sl z224 f225 e226), (AV.sl z230 f231 e232), (AV.sl z236 f237 e238)])]) (ps := [(rChecker) y89, (rChecker) y208]) (p := (rB) y241) rfl rfl rfl rfl rfl rfl rfl (.cons (Fin.A (.cons (Fin.of (p := (rI .i64) y89.Stack) .I rfl) (.cons (Fin.of (p := (rI .i64) y89.Start) .I rfl) (.cons (Fin.up (by decide) (HS.finSt hH194 hG193 (j := 5) rfl Sub.here)) (.cons (Fin.up (by decide) (HS.finSt hH194 hG193 (j := 4) rfl Sub.here)) (.cons (Fin.up (by decide) (HS.finSt hH194 hG193 (j := 3) rfl Sub.here)) (.cons (Fin.up (by decide) (HS.finSt hH194 hG193 (j := 2) rfl Sub.here)) .nil))))))) (.cons (Fin.of (p := (rChecker) y208) (.A (.cons .I (.cons .I (.cons (.L fun _ => .B) (.cons (.L fun _ => (.L fun _ => (.A (.cons .I (.cons .I .nil))))) (.cons (.L fun _ => (.L fun _ => (.L fun _ => .I))) (.cons (.L fun _ => (.L fun _ => .I)) .nil))))))) (⟨_, rfl, (.cons rfl (.cons rfl (.cons ⟨_, _, _, rfl, h221⟩ (.cons ⟨_, _, _, rfl, h227⟩ (.cons ⟨_, _, _, rfl, h233⟩ (.cons ⟨_, _, _, rfl, h239⟩ .nil))))))⟩)) .nil)) (fun args' hc => by obtain ⟨_, _, rfl, hv0, hd0⟩ := Cs_cons hc; obtain ⟨_, rfl, h243⟩ := hv0; obtain ⟨_, _, rfl, h244, h245⟩ := Cs_cons h243; cases h244; obtain ⟨_, _, rfl, h246, h247⟩ := Cs_cons h245; cases h246; obtain ⟨_, _, rfl, h248, h249⟩ := Cs_cons h247; obtain ⟨z250, f251, e252, rfl, h253⟩ := h248; obtain ⟨_, _, rfl, h254, h255⟩ := Cs_cons h249; obtain ⟨z256, f257, e258, rfl, h259⟩ := h254; obtain ⟨_, _, rfl, h260, h261⟩ := Cs_cons h255; obtain ⟨z262, f263, e264, rfl, h265⟩ := h260; obtain ⟨_, _, rfl, h266, h267⟩ := Cs_cons h261; obtain ⟨z268, f269, e270, rfl, h271⟩ := h266; cases Cs_nil h267; obtain ⟨_, _, rfl, hv1, hd1⟩ := Cs_cons hd0; obtain ⟨_, rfl, h272⟩ := hv1; obtain ⟨_, _, rfl, h273, h274⟩ := Cs_cons h272; cases h273; obtain ⟨_, _, rfl, h275, h276⟩ := Cs_cons h274; cases h275; obtain ⟨_, _, rfl, h277, h278⟩ := Cs_cons h276; obtain ⟨z279, f280, e281, rfl, h282⟩ := h277; obtain ⟨_, _, rfl, h283, h284⟩ := Cs_cons h278; obtain ⟨z285, f286, e287, rfl, h288⟩ := h283; obtain ⟨_, _, rfl, h289, h290⟩ := Cs_cons h284; obtain ⟨z291, f292, e293, rfl, h294⟩ := h289; obtain ⟨_, _, rfl, h295, h296⟩ := Cs_cons h290; obtain ⟨z297, f298, e299, rfl, h300⟩ := h295; cases Cs_nil h296; cases Cs_nil hd1; exact laws_eqChecker_okN h253 h259 h265 h271 h282 h288 h294 h300 h242 WF.blind) (fun v n hv => by cases hv; rfl) (fun v hv => Nice.pure (k := FINK) (p := (rB) y241) .B _ v hv) ?_
 intro _ h301
 cases h301
 refine AOps.p rfl (rfl : _ = (AV.bool (!y241))) ?_
 refine AOps.nilR ?_
 rcases oite h with ⟨hc302, h⟩ | ⟨hc302, h⟩
 ·refine AW.condT (congrArg AV.bool hc302) ?_
  refine AW.sr ?_
  refine AOps.p rfl (rfl : _ = (AV.bool false)) ?_
  refine AOps.nilR ?_
  cases h
  exact AW.ret ⟨⟨_, hH194⟩, _, _, rfl, (Fin.of (p := (rB) false) .B rfl).2⟩
 refine AW.condF (congrArg AV.bool hc302) ?_
 refine AW.skip ?_
 refine AW.seq ?_
 refine AW.sr ?_
 refine AOps.p rfl (rfl : _ = h133) ?_
 refine AOps.p rfl (rfl : _ = (AV.sl z20 f21 e22)) ?_
 obtain ⟨y303, h304, h⟩ := obind h
 refine AOps.callP (g := 8) (args := [(AV.sl z20 f21 e22)]) (p := (rL rContext 2) y303) rfl rfl rfl (laws_toContextS_ok h23 h304 (HS.wf' hH194)) ?_
 intro _ o310 h305
 obtain ⟨z306, f307, e308, rfl, h309⟩ := h305
 obtain ⟨y311, h312, h⟩ := obind h
 refine AOps.lendP (g := 12) (args := [h133, (AV.sl z306 f307 e308)]) (ps := [(rL rContext 2) y131, (rL rContext 2) y303]) (p := (rB) y311) rfl rfl rfl rfl rfl rfl rfl (.cons (Fin.up (by decide) (HS.finS hH194 hG193 (j := 1) rfl Sub.here (Or.inl rfl))) (.cons (Fin.of (p := (rL rContext 2) y303) (.L fun _ => (.A (.cons .S (.cons .S .nil)))) (⟨_, _, _, rfl, h309⟩)) .nil)) (fun args' hc => by obtain ⟨_, _, rfl, hv0, hd0⟩ := Cs_cons hc; obtain ⟨z313, f314, e315, rfl, h316⟩ := hv0; obtain ⟨_, _, rfl, hv1, hd1⟩ := Cs_cons hd0; obtain ⟨z317, f318, e319, rfl, h320⟩ := hv1; cases Cs_nil hd1; exact laws_eqContextS_okN h316 h320 h312 WF.blind) (fun v n hv => by cases hv; rfl) ?_
 intro _ h321
 cases h321
 refine AOps.p rfl (rfl : _ = (AV.bool (!y311))) ?_
 refine AOps.nilR ?_
 rcases oite h with ⟨hc322, h⟩ | ⟨hc322, h⟩
 ·refine AW.condT (congrArg AV.bool hc322) ?_
  refine AW.sr ?_
  refine AOps.p rfl (rfl : _ = (AV.bool false)) ?_
  refine AOps.nilR ?_
  cases h
  exact AW.ret ⟨⟨_, hH194⟩, _, _, rfl, (Fin.of (p := (rB) false) .B rfl).2⟩
 refine AW.condF (congrArg AV.bool hc322) ?_
 refine AW.skip ?_
 refine AW.sr ?_
 refine AOps.p rfl (rfl : _ = (AV.int .i64 1)) ?_
 refine AOps.nilR ?_
 refine AW.sr ?_
 refine AOps.ldE (v := (AV.agg [(AV.int .i64 y89.Stack), (AV.int .i64 y89.Start), h91, h94, h97, h100])) rfl rfl rfl rfl rfl rfl ?_
 refine AOps.p rfl (rfl : _ = (AV.int .i64 1)) ?_
 obtain ⟨y323, h324, h⟩ := obind h
 have hP325 := HS.pop0 hH194
 have hF0 : AllG ([] : List (List BX → Prop)) [] := AllG.nil
 obtain ⟨Ls326, Lf327, hG328, hF329, hP330⟩ := HS.popG hP325 hG193 hF0 (j := 5) rfl
 obtain ⟨Ls331, Lf332, hG333, hF334, hP335⟩ := HS.popG hP330 hG328 hF329 (j := 4) rfl
 obtain ⟨Ls336, Lf337, hG338, hF339, hP340⟩ := HS.popG hP335 hG333 hF334 (j := 3) rfl
 obtain ⟨Ls341, Lf342, hG343, hF344, hP345⟩ := HS.popG hP340 hG338 hF339 (j := 2) rfl
 refine AOps.callF (al := true) (g := 13) (args := [(AV.agg [(AV.int .i64 y89.Stack), (AV.int .i64 y89.Start), h91, h94, h97, h100]), (AV.int .i64 1)]) rfl rfl rfl (laws_markChecker_K10_ok ho93 ho96 ho99 ho102 (HS.enterK hP345) hF344 (HS.enterLo hP345 hl) h324 (HS.wf' hH194)) ?_
 rintro _ _ s346 ⟨Ls348, rfl, hH349, hG350⟩
 have hJ351 := HS.joinK hP345 hH349
 obtain ⟨Ls352, Lf353, hG354, hF355, hP356⟩ := HS.putG hJ351 hG343 hG350 (j := 5) rfl
 obtain ⟨Ls357, Lf358, hG359, hF360, hP361⟩ := HS.putG hP356 hG354 hF355 (j := 4) rfl
 obtain ⟨Ls362, Lf363, hG364, hF365, hP366⟩ := HS.putG hP361 hG359 hF360 (j := 3) rfl
 obtain ⟨Ls367, Lf368, hG369, hF370, hP371⟩ := HS.putG hP366 hG364 hF365 (j := 2) rfl
 cases hF370
 have hH372 := HS.push0 hP371
 change HS [] false s s346 (([] : List BX) ++ List.flatten Ls367) at hH372
 change AllG [OS oE4 h184 k185 y149.1, OS oE55 h133 k134 y131, OS oE79 h100 k101 y323.2.2.2.2, OS oE25 h97 k98 y323.2.2.2.1, OS oE81 h94 k95 y323.2.2.1, OS oE4 h91 k92 y323.2.1] Ls367 at hG369
 refine AOps.assignR rfl rfl rfl (rfl : _ = (AV.int .i64 y323.1)) rfl ?_
 refine AOps.nilR ?_
 refine AW.sr ?_
 refine AOps.p rfl (rfl : _ = h133) ?_
 refine AOps.p rfl (rfl : _ = (AV.int .i64 y323.1)) ?_
 obtain ⟨y373, h374, h⟩ := obind h
 have hP375 := HS.pop0 hH372
 have hF0 : AllG ([] : List (List BX → Prop)) [] := AllG.nil
 obtain ⟨Ls376, Lf377, hG378, hF379, hP380⟩ := HS.popG hP375 hG369 hF0 (j := 1) rfl
 refine AOps.callF (al := true) (g := 14) (args := [h133, (AV.int .i64 y323.1)]) rfl rfl rfl (laws_markContextS_K10_ok ho135 (HS.enterK hP380) hF379 (HS.enterLo hP380 hl) h374 (HS.wf' hH372)) ?_
 rintro _ _ s381 ⟨Ls383, rfl, hH384, hG385⟩
 have hJ386 := HS.joinK hP380 hH384
 obtain ⟨Ls387, Lf388, hG389, hF390, hP391⟩ := HS.putG hJ386 hG378 hG385 (j := 1) rfl
 cases hF390
 have hH392 := HS.push0 hP391
 change HS [] false s s381 (([] : List BX) ++ List.flatten Ls387) at hH392
 change AllG [OS oE4 h184 k185 y149.1, OS oE55 h133 k134 y373.2, OS oE79 h100 k101 y323.2.2.2.2, OS oE25 h97 k98 y323.2.2.2.1, OS oE81 h94 k95 y323.2.2.1, OS oE4 h91 k92 y323.2.1] Ls387 at hG389
 refine AOps.assignR rfl rfl rfl (rfl : _ = (AV.int .i64 y373.1)) rfl ?_
 refine AOps.nilR ?_
 refine AW.seq ?_
 refine AW.sr ?_
 refine AOps.p rfl (rfl : _ = (AV.int .i64 y373.1)) ?_
 refine AOps.p rfl (rfl : _ = (AV.bool (decide ((y373.1 : Int) < 0)))) ?_
 refine AOps.p rfl (rfl : _ = (AV.bool (decide ((y373.1 : Int) < 0)))) ?_
 obtain ⟨b394, hb, h⟩ := obind h
 refine AOps.split 5 (fun f' => ∃ tm' os', f' = ⟨updL tm' [(1, (AV.str p1_18)), (2, (AV.sl z20 f21 e22)), (3, (AV.eptr [(AV.int .i64 p1.Stack), (AV.int .i64 p1.Start), (AV.sl z2 f3 e4), (AV.sl z6 f7 e8), (AV.sl z10 f11 e12), (AV.sl z14 f15 e16)] 0)), (8, (AV.sl z82 f83 e84)), (9, (AV.int .i64 y76.2)), (12, h184), (13, (AV.int .i64 y149.2)), (84, (AV.bool b394))], updL os' [], s381⟩) ?_ ?_
 ·rcases oite hb with ⟨hc393, hb⟩ | ⟨hc393, hb⟩
  ·refine AOps.know (d := 79) rfl hc393 ?_
   refine AOps.skipR rfl rfl ?_
   refine AOps.skipR rfl rfl ?_
   refine AOps.skipR rfl rfl ?_
   refine AOps.skipR rfl rfl ?_
   refine AOps.p rfl (rfl : _ = (AV.bool true)) ?_
   refine AOps.resR [(1, (AV.str p1_18)), (2, (AV.sl z20 f21 e22)), (3, (AV.eptr [(AV.int .i64 p1.Stack), (AV.int .i64 p1.Start), (AV.sl z2 f3 e4), (AV.sl z6 f7 e8), (AV.sl z10 f11 e12), (AV.sl z14 f15 e16)] 0)), (8, (AV.sl z82 f83 e84)), (9, (AV.int .i64 y76.2)), (12, h184), (13, (AV.int .i64 y149.2)), (84, (AV.bool b394))] [] ?_ ?_ _ ⟨_, _, rfl⟩
   ·exact ⟨rfl, rfl, rfl, rfl, rfl, rfl, rfl, congrArg AV.bool (Option.some.inj hb), trivial⟩
   exact trivial
  ·have h := hb
   refine AOps.know (d := 79) rfl hc393 ?_
   refine AOps.p rfl (rfl : _ = h184) ?_
   refine AOps.p rfl (rfl : _ = (AV.sl z82 f83 e84)) ?_
   obtain ⟨y395, h396, h⟩ := obind h
   refine AOps.lendP (g := 10) (args := [h184, (AV.sl z82 f83 e84)]) (ps := [(rL rB 1) y149.1, (rL rB 1) y76.1]) (p := (rB) y395) rfl rfl rfl rfl rfl rfl rfl (.cons (Fin.up (by decide) (HS.finS hH392 hG389 (j := 0) rfl Sub.here (Or.inl rfl))) (.cons (Fin.of (p := (rL rB 1) y76.1) (.L fun _ => .B) (⟨_, _, _, rfl, h85⟩)) .nil)) (fun args' hc => by obtain ⟨_, _, rfl, hv0, hd0⟩ := Cs_cons hc; obtain ⟨z397, f398, e399, rfl, h400⟩ := hv0; obtain ⟨_, _, rfl, hv1, hd1⟩ := Cs_cons hd0; obtain ⟨z401, f402, e403, rfl, h404⟩ := hv1; cases Cs_nil hd1; exact laws_eqBoolS_okN h400 h404 h396 WF.blind) (fun v n hv => by cases hv; rfl) ?_
   intro _ h405
   cases h405
   refine AOps.p rfl (rfl : _ = (AV.bool (!y395))) ?_
   refine AOps.p rfl (rfl : _ = (AV.bool (!y395))) ?_
   refine AOps.resR [(1, (AV.str p1_18)), (2, (AV.sl z20 f21 e22)), (3, (AV.eptr [(AV.int .i64 p1.Stack), (AV.int .i64 p1.Start), (AV.sl z2 f3 e4), (AV.sl z6 f7 e8), (AV.sl z10 f11 e12), (AV.sl z14 f15 e16)] 0)), (8, (AV.sl z82 f83 e84)), (9, (AV.int .i64 y76.2)), (12, h184), (13, (AV.int .i64 y149.2)), (84, (AV.bool b394))] [] ?_ ?_ _ ⟨_, _, rfl⟩
   ·exact ⟨rfl, rfl, rfl, rfl, rfl, rfl, rfl, congrArg AV.bool (Option.some.inj h), trivial⟩
   exact trivial
 rintro _ ⟨tm, os, rfl⟩
 refine AOps.p rfl (rfl : _ = (AV.bool b394)) ?_
 refine AOps.split 4 (fun f' => ∃ tm' os', f' = ⟨updL tm' [(1, (AV.str p1_18)), (2, (AV.sl z20 f21 e22)), (3, (AV.eptr [(AV.int .i64 p1.Stack), (AV.int .i64 p1.Start), (AV.sl z2 f3 e4), (AV.sl z6 f7 e8), (AV.sl z10 f11 e12), (AV.sl z14 f15 e16)] 0)), (8, (AV.sl z82 f83 e84)), (9, (AV.int .i64 y76.2)), (12, h184), (89, (AV.bool (b394 || (y149.2 != y76.2))))], updL os' [], s381⟩) ?_ ?_
 ·rcases Bool.eq_false_or_eq_true b394 with hc406 | hc406
  ·refine AOps.know (d := 85) rfl hc406 ?_
   refine AOps.skipR rfl rfl ?_
   refine AOps.skipR rfl rfl ?_
   refine AOps.skipR rfl rfl ?_
   refine AOps.p rfl (rfl : _ = (AV.bool true)) ?_
   refine AOps.resR [(1, (AV.str p1_18)), (2, (AV.sl z20 f21 e22)), (3, (AV.eptr [(AV.int .i64 p1.Stack), (AV.int .i64 p1.Start), (AV.sl z2 f3 e4), (AV.sl z6 f7 e8), (AV.sl z10 f11 e12), (AV.sl z14 f15 e16)] 0)), (8, (AV.sl z82 f83 e84)), (9, (AV.int .i64 y76.2)), (12, h184), (89, (AV.bool (b394 || (y149.2 != y76.2))))] [] ?_ ?_ _ ⟨_, _, rfl⟩
   ·exact ⟨rfl, rfl, rfl, rfl, rfl, rfl, congrArg AV.bool (or_t hc406), trivial⟩
   exact trivial
  ·refine AOps.know (d := 85) rfl hc406 ?_
   refine AOps.p rfl (rfl : _ = (AV.int .i64 y149.2)) ?_
   refine AOps.p rfl (rfl : _ = (AV.int .i64 y76.2)) ?_
   refine AOps.p rfl (rfl : _ = (AV.bool (y149.2 != y76.2))) ?_
   refine AOps.p rfl (rfl : _ = (AV.bool (y149.2 != y76.2))) ?_
   refine AOps.resR [(1, (AV.str p1_18)), (2, (AV.sl z20 f21 e22)), (3, (AV.eptr [(AV.int .i64 p1.Stack), (AV.int .i64 p1.Start), (AV.sl z2 f3 e4), (AV.sl z6 f7 e8), (AV.sl z10 f11 e12), (AV.sl z14 f15 e16)] 0)), (8, (AV.sl z82 f83 e84)), (9, (AV.int .i64 y76.2)), (12, h184), (89, (AV.bool (b394 || (y149.2 != y76.2))))] [] ?_ ?_ _ ⟨_, _, rfl⟩
   ·exact ⟨rfl, rfl, rfl, rfl, rfl, rfl, congrArg AV.bool (or_f hc406), trivial⟩
   exact trivial
 rintro _ ⟨tm, os, rfl⟩
 refine AOps.nilR ?_
 rcases oite h with ⟨hc407, h⟩ | ⟨hc407, h⟩
 ·refine AW.condT (congrArg AV.bool hc407) ?_
  refine AW.sr ?_
  refine AOps.p rfl (rfl : _ = (AV.bool false)) ?_
  refine AOps.nilR ?_
  cases h
  exact AW.ret ⟨⟨_, hH392⟩, _, _, rfl, (Fin.of (p := (rB) false) .B rfl).2⟩
 refine AW.condF (congrArg AV.bool hc407) ?_
 refine AW.skip ?_
 refine AW.sr ?_
 refine AOps.p rfl (rfl : _ = (AV.int .i64 1)) ?_
 refine AOps.nilR ?_
 refine AW.sr ?_
 refine AOps.p rfl (rfl : _ = h184) ?_
 refine AOps.p rfl (rfl : _ = (AV.int .i64 1)) ?_
 obtain ⟨y408, h409, h⟩ := obind h
 have hP410 := HS.pop0 hH392
 have hF0 : AllG ([] : List (List BX → Prop)) [] := AllG.nil
 obtain ⟨Ls411, Lf412, hG413, hF414, hP415⟩ := HS.popG hP410 hG389 hF0 (j := 0) rfl
 refine AOps.callF (al := true) (g := 15) (args := [h184, (AV.int .i64 1)]) rfl rfl rfl (laws_markBoolS_K10_ok ho186 (HS.enterK hP415) hF414 (HS.enterLo hP415 hl) h409 (HS.wf' hH392)) ?_
 rintro _ _ s416 ⟨Ls418, rfl, hH419, hG420⟩
 have hJ421 := HS.joinK hP415 hH419
 obtain ⟨Ls422, Lf423, hG424, hF425, hP426⟩ := HS.putG hJ421 hG413 hG420 (j := 0) rfl
 cases hF425
 have hH427 := HS.push0 hP426
 change HS [] false s s416 (([] : List BX) ++ List.flatten Ls422) at hH427
 change AllG [OS oE4 h184 k185 y408.2, OS oE55 h133 k134 y373.2, OS oE79 h100 k101 y323.2.2.2.2, OS oE25 h97 k98 y323.2.2.2.1, OS oE81 h94 k95 y323.2.2.1, OS oE4 h91 k92 y323.2.1] Ls422 at hG424
 refine AOps.assignR rfl rfl rfl (rfl : _ = (AV.int .i64 y408.1)) rfl ?_
 refine AOps.nilR ?_
 refine AW.sr ?_
 refine AOps.p rfl (rfl : _ = (AV.int .i64 1)) ?_
 refine AOps.nilR ?_
 refine AW.sr ?_
 refine AOps.p rfl (rfl : _ = h184) ?_
 refine AOps.p rfl (rfl : _ = (AV.int .i64 1)) ?_
 obtain ⟨y428, h429, h⟩ := obind h
 refine AOps.lendP (g := 16) (args := [h184, (AV.int .i64 1)]) (ps := [(rL rB 1) y408.2, (rI .i64) 1]) (p := (rI .i64) y428) rfl rfl rfl rfl rfl rfl rfl (.cons (Fin.up (by decide) (HS.finS hH427 hG424 (j := 0) rfl Sub.here (Or.inl rfl))) (.cons (Fin.of (p := (rI .i64) 1) .I rfl) .nil)) (fun args' hc => by obtain ⟨_, _, rfl, hv0, hd0⟩ := Cs_cons hc; obtain ⟨z430, f431, e432, rfl, h433⟩ := hv0; obtain ⟨_, _, rfl, hv1, hd1⟩ := Cs_cons hd0; cases hv1; cases Cs_nil hd1; exact laws_heldBoolS_okN h433 h429 WF.blind) (fun v n hv => by cases hv; rfl) ?_
 intro _ h434
 cases h434
 refine AOps.assignR rfl rfl rfl (rfl : _ = (AV.int .i64 y428)) rfl ?_
 refine AOps.nilR ?_
 refine AW.seq ?_
 refine AW.sr ?_
 refine AOps.p rfl (rfl : _ = (AV.int .i64 y428)) ?_
 refine AOps.p rfl (rfl : _ = (AV.bool (decide ((y428 : Int) < 0)))) ?_
 refine AOps.nilR ?_
 rcases oite h with ⟨hc435, h⟩ | ⟨hc435, h⟩
 ·refine AW.condT (congrArg AV.bool hc435) ?_
  refine AW.sr ?_
  refine AOps.p rfl (rfl : _ = (AV.bool false)) ?_
  refine AOps.nilR ?_
  cases h
  exact AW.ret ⟨⟨_, hH427⟩, _, _, rfl, (Fin.of (p := (rB) false) .B rfl).2⟩
 refine AW.condF (congrArg AV.bool hc435) ?_
 refine AW.skip ?_
 refine AW.seq ?_
 refine AW.sr ?_
 refine AOps.p rfl (rfl : _ = (AV.int .i64 y428)) ?_
 refine AOps.p rfl (rfl : _ = (AV.int .i64 y408.1)) ?_
 refine AOps.p rfl (rfl : _ = (AV.bool (y428 != y408.1))) ?_
 refine AOps.nilR ?_
 rcases oite h with ⟨hc436, h⟩ | ⟨hc436, h⟩
 ·refine AW.condT (congrArg AV.bool hc436) ?_
  refine AW.sr ?_
  refine AOps.p rfl (rfl : _ = (AV.bool false)) ?_
  refine AOps.nilR ?_
  cases h
  exact AW.ret ⟨⟨_, hH427⟩, _, _, rfl, (Fin.of (p := (rB) false) .B rfl).2⟩
 refine AW.condF (congrArg AV.bool hc436) ?_
 refine AW.skip ?_
 refine AW.sr ?_
 refine AOps.ldE (v := (AV.agg [(AV.int .i64 p1.Stack), (AV.int .i64 p1.Start), (AV.sl z2 f3 e4), (AV.sl z6 f7 e8), (AV.sl z10 f11 e12), (AV.sl z14 f15 e16)])) rfl rfl rfl rfl rfl rfl ?_
 obtain ⟨y437, h438, h⟩ := obind h
 refine AOps.callP (g := 7) (args := [(AV.agg [(AV.int .i64 p1.Stack), (AV.int .i64 p1.Start), (AV.sl z2 f3 e4), (AV.sl z6 f7 e8), (AV.sl z10 f11 e12), (AV.sl z14 f15 e16)])]) (p := (rChecker) y437) rfl rfl rfl (laws_toChecker_ok h5 h9 h13 h17 h438 (HS.wf' hH427)) ?_
 intro _ o469 h439
 obtain ⟨_, rfl, h440⟩ := h439
 obtain ⟨_, _, rfl, h441, h442⟩ := Cs_cons h440
 cases h441
 obtain ⟨_, _, rfl, h443, h444⟩ := Cs_cons h442
 cases h443
 obtain ⟨_, _, rfl, h445, h446⟩ := Cs_cons h444
 obtain ⟨z447, f448, e449, rfl, h450⟩ := h445
 obtain ⟨_, _, rfl, h451, h452⟩ := Cs_cons h446
 obtain ⟨z453, f454, e455, rfl, h456⟩ := h451
 obtain ⟨_, _, rfl, h457, h458⟩ := Cs_cons h452
 obtain ⟨z459, f460, e461, rfl, h462⟩ := h457
 obtain ⟨_, _, rfl, h463, h464⟩ := Cs_cons h458
 obtain ⟨z465, f466, e467, rfl, h468⟩ := h463
 cases Cs_nil h464
 refine AOps.p rfl (rfl : _ = (AV.str p1_18)) ?_
 refine AOps.p rfl (rfl : _ = (AV.sl z20 f21 e22)) ?_
 obtain ⟨y470, h471, h⟩ := obind h
 refine AOps.callP (g := 8) (args := [(AV.sl z20 f21 e22)]) (p := (rL rContext 2) y470) rfl rfl rfl (laws_toContextS_ok h23 h471 (HS.wf' hH427)) ?_
 intro _ o477 h472
 obtain ⟨z473, f474, e475, rfl, h476⟩ := h472
 obtain ⟨y478, h479, h⟩ := obind h
 refine AOps.callP (g := 9) (args := [(AV.agg [(AV.int .i64 y437.Stack), (AV.int .i64 y437.Start), (AV.sl z447 f448 e449), (AV.sl z453 f454 e455), (AV.sl z459 f460 e461), (AV.sl z465 f466 e467)]), (AV.str p1_18), (AV.sl z473 f474 e475)]) (p := (fun x => rT [(rL rB 1) x.1, (rI .i64) x.2]) y478) rfl rfl rfl (impl_RowOf_ok h450 h456 h462 h468 h476 h479 (HS.wf' hH427)) ?_
 intro _ o490 h480
 obtain ⟨_, rfl, h481⟩ := h480
 obtain ⟨_, _, rfl, h482, h483⟩ := Cs_cons h481
 obtain ⟨z484, f485, e486, rfl, h487⟩ := h482
 obtain ⟨_, _, rfl, h488, h489⟩ := Cs_cons h483
 cases h488
 cases Cs_nil h489
 refine AOps.p rfl (rfl : _ = (AV.tup [(AV.sl z484 f485 e486), (AV.int .i64 y478.2)])) ?_
 refine AOps.p rfl (rfl : _ = (AV.sl z484 f485 e486)) ?_
 refine AOps.p rfl (rfl : _ = (AV.int .i64 y478.2)) ?_
 refine AOps.assignR rfl rfl rfl (rfl : _ = (AV.sl z484 f485 e486)) rfl ?_
 refine AOps.assignR rfl rfl rfl (rfl : _ = (AV.int .i64 y478.2)) rfl ?_
 refine AOps.nilR ?_
 refine AW.seq ?_
 refine AW.sr ?_
 refine AOps.p rfl (rfl : _ = (AV.sl z484 f485 e486)) ?_
 refine AOps.p rfl (rfl : _ = (AV.sl z82 f83 e84)) ?_
 obtain ⟨y491, h492, h⟩ := obind h
 refine AOps.lendP (g := 10) (args := [(AV.sl z484 f485 e486), (AV.sl z82 f83 e84)]) (ps := [(rL rB 1) y478.1, (rL rB 1) y76.1]) (p := (rB) y491) rfl rfl rfl rfl rfl rfl rfl (.cons (Fin.of (p := (rL rB 1) y478.1) (.L fun _ => .B) (⟨_, _, _, rfl, h487⟩)) (.cons (Fin.of (p := (rL rB 1) y76.1) (.L fun _ => .B) (⟨_, _, _, rfl, h85⟩)) .nil)) (fun args' hc => by obtain ⟨_, _, rfl, hv0, hd0⟩ := Cs_cons hc; obtain ⟨z493, f494, e495, rfl, h496⟩ := hv0; obtain ⟨_, _, rfl, hv1, hd1⟩ := Cs_cons hd0; obtain ⟨z497, f498, e499, rfl, h500⟩ := hv1; cases Cs_nil hd1; exact laws_eqBoolS_okN h496 h500 h492 WF.blind) (fun v n hv => by cases hv; rfl) ?_
 intro _ h501
 cases h501
 refine AOps.p rfl (rfl : _ = (AV.bool (!y491))) ?_
 refine AOps.p rfl (rfl : _ = (AV.bool (!y491))) ?_
 refine AOps.split 4 (fun f' => ∃ tm' os', f' = ⟨updL tm' [(12, h184), (15, (AV.int .i64 y408.1)), (118, (AV.bool ((!y491) || (y478.2 != y76.2))))], updL os' [], s416⟩) ?_ ?_
 ·rcases Bool.eq_false_or_eq_true (!y491) with hc502 | hc502
  ·refine AOps.know (d := 114) rfl hc502 ?_
   refine AOps.skipR rfl rfl ?_
   refine AOps.skipR rfl rfl ?_
   refine AOps.skipR rfl rfl ?_
   refine AOps.p rfl (rfl : _ = (AV.bool true)) ?_
   refine AOps.resR [(12, h184), (15, (AV.int .i64 y408.1)), (118, (AV.bool ((!y491) || (y478.2 != y76.2))))] [] ?_ ?_ _ ⟨_, _, rfl⟩
   ·exact ⟨rfl, rfl, congrArg AV.bool (or_t hc502), trivial⟩
   exact trivial
  ·refine AOps.know (d := 114) rfl hc502 ?_
   refine AOps.p rfl (rfl : _ = (AV.int .i64 y478.2)) ?_
   refine AOps.p rfl (rfl : _ = (AV.int .i64 y76.2)) ?_
   refine AOps.p rfl (rfl : _ = (AV.bool (y478.2 != y76.2))) ?_
   refine AOps.p rfl (rfl : _ = (AV.bool (y478.2 != y76.2))) ?_
   refine AOps.resR [(12, h184), (15, (AV.int .i64 y408.1)), (118, (AV.bool ((!y491) || (y478.2 != y76.2))))] [] ?_ ?_ _ ⟨_, _, rfl⟩
   ·exact ⟨rfl, rfl, congrArg AV.bool (or_f hc502), trivial⟩
   exact trivial
 rintro _ ⟨tm, os, rfl⟩
 refine AOps.nilR ?_
 rcases oite h with ⟨hc503, h⟩ | ⟨hc503, h⟩
 ·refine AW.condT (congrArg AV.bool hc503) ?_
  refine AW.sr ?_
  refine AOps.p rfl (rfl : _ = (AV.bool false)) ?_
  refine AOps.nilR ?_
  cases h
  exact AW.ret ⟨⟨_, hH427⟩, _, _, rfl, (Fin.of (p := (rB) false) .B rfl).2⟩
 refine AW.condF (congrArg AV.bool hc503) ?_
 refine AW.skip ?_
 refine AW.sr ?_
 refine AOps.p rfl (rfl : _ = (AV.int .i64 1)) ?_
 refine AOps.nilR ?_
 refine AW.sr ?_
 refine AOps.p rfl (rfl : _ = h184) ?_
 refine AOps.p rfl (rfl : _ = (AV.int .i64 1)) ?_
 obtain ⟨y504, h505, h⟩ := obind h
 refine AOps.lendP (g := 16) (args := [h184, (AV.int .i64 1)]) (ps := [(rL rB 1) y408.2, (rI .i64) 1]) (p := (rI .i64) y504) rfl rfl rfl rfl rfl rfl rfl (.cons (Fin.up (by decide) (HS.finS hH427 hG424 (j := 0) rfl Sub.here (Or.inl rfl))) (.cons (Fin.of (p := (rI .i64) 1) .I rfl) .nil)) (fun args' hc => by obtain ⟨_, _, rfl, hv0, hd0⟩ := Cs_cons hc; obtain ⟨z506, f507, e508, rfl, h509⟩ := hv0; obtain ⟨_, _, rfl, hv1, hd1⟩ := Cs_cons hd0; cases hv1; cases Cs_nil hd1; exact laws_heldBoolS_okN h509 h505 WF.blind) (fun v n hv => by cases hv; rfl) ?_
 intro _ h510
 cases h510
 refine AOps.assignR rfl rfl rfl (rfl : _ = (AV.int .i64 y504)) rfl ?_
 refine AOps.nilR ?_
 refine AW.seq ?_
 refine AW.sr ?_
 refine AOps.p rfl (rfl : _ = (AV.int .i64 y504)) ?_
 refine AOps.p rfl (rfl : _ = (AV.bool (decide ((y504 : Int) < 0)))) ?_
 refine AOps.nilR ?_
 rcases oite h with ⟨hc511, h⟩ | ⟨hc511, h⟩
 ·refine AW.condT (congrArg AV.bool hc511) ?_
  refine AW.sr ?_
  refine AOps.p rfl (rfl : _ = (AV.bool false)) ?_
  refine AOps.nilR ?_
  cases h
  exact AW.ret ⟨⟨_, hH427⟩, _, _, rfl, (Fin.of (p := (rB) false) .B rfl).2⟩
 refine AW.condF (congrArg AV.bool hc511) ?_
 refine AW.skip ?_
 refine AW.seq ?_
 refine AW.sr ?_
 refine AOps.p rfl (rfl : _ = (AV.int .i64 y504)) ?_
 refine AOps.p rfl (rfl : _ = (AV.int .i64 y408.1)) ?_
 refine AOps.p rfl (rfl : _ = (AV.bool (y504 != y408.1))) ?_
 refine AOps.nilR ?_
 rcases oite h with ⟨hc512, h⟩ | ⟨hc512, h⟩
 ·refine AW.condT (congrArg AV.bool hc512) ?_
  refine AW.sr ?_
  refine AOps.p rfl (rfl : _ = (AV.bool false)) ?_
  refine AOps.nilR ?_
  cases h
  exact AW.ret ⟨⟨_, hH427⟩, _, _, rfl, (Fin.of (p := (rB) false) .B rfl).2⟩
 refine AW.condF (congrArg AV.bool hc512) ?_
 refine AW.skip ?_
 refine AW.sr ?_
 refine AOps.p rfl (rfl : _ = (AV.bool true)) ?_
 refine AOps.nilR ?_
 cases h
 exact AW.ret ⟨⟨_, hH427⟩, _, _, rfl, (Fin.of (p := (rB) true) .B rfl).2⟩
end Go.Proofs.Ytchahpmelikoaaa.law
