import Derived.Test.YthnilfmdmaebfaaAeD
import Derived.Test.YthnilfmdmaebfaaAe4
set_option linter.unusedVariables false
set_option linter.unusedSimpArgs false
namespace Go.Proofs.Ythnilfmdmaebfaa.law
open Go Go.Proofs Ae
set_option maxRecDepth 100000
set_option linter.unusedVariables false
theorem ext_byte_ok {s : List UInt8} {c r : Int} (h : ixByteM s c = some r) {st : St} (hs : WF st) : ACall Cf 74 [.str s, .int .u8 c] st fun v _ s' => rI .i64 r v ∧ s' = st := by
 cases h
 exact ⟨0, _, _, _, rfl, rfl, rfl⟩
noncomputable def oE2 : OT Int := oLeaf (rI .i64) false 1 4 Sh.I (fun _ => rfl) (fun _ => .I)
noncomputable def oE26 : OT (List Int) := oSl oE2
noncomputable def oE63 : OT Link := oLeaf rLink true 4 4 (Sh.A (f := csLink) (fun _ => ⟨(.cons (One.of Sh.I _) (.cons (One.of Sh.I _) (.cons (One.of Sh.S _) (.cons (One.of Sh.I _) .nil)))), rfl⟩)) (fun h => by cases h) (fun _ => (.A (.cons .I (.cons .I (.cons .S (.cons .I .nil))))))
noncomputable def oE60 : OT Module := oStr [(fdLeaf (rI .i64) (fun x : Module => x.Nodes) 4 (fun x v h => by cases h; rfl) (fun _ => .I)), (fdSl oE63 (fun x : Module => x.Links))] rModule 5 (fun _ => rfl) ⟨(by decide), (by decide), trivial⟩
theorem fld60_1 : Fld oE60 1 oE63 (fun x : Module => x.Links) (fun x ys => { x with Links := ys }) := oStr_fld [(fdLeaf (rI .i64) (fun x : Module => x.Nodes) 4 (fun x v h => by cases h; rfl) (fun _ => .I))] [] (fun _ _ => rfl) ⟨(fun _ _ _ _ _ h => h), trivial⟩ trivial
theorem laws_szLink_ok {a1 : Link} {left2 : Int} {s : St} {r : Int} (h : laws_szLink a1 left2 = some r) (hs : WF s) : ACall Cf 66 [(AV.agg [(AV.int .i64 a1.From), (AV.int .i64 a1.To), (AV.str a1.Act), (AV.int .i64 a1.Module)]), (AV.int .i64 left2)] s fun v _ s' => (rI .i64) r v ∧ s' = s := by
 refine ACall.pure rfl rfl rfl .I ?_
 have hWF := hs.lo'
 unfold laws_szLink at h
 refine AW.sr ?_
 refine AOps.makeR rfl rfl rfl rfl rfl rfl (rfl : _ = (AV.eptr [(AV.int .i64 a1.From), (AV.int .i64 a1.To), (AV.str a1.Act), (AV.int .i64 a1.Module)] 0)) ?_
 refine AOps.p rfl (rfl : _ = (AV.int .i64 0)) ?_
 refine AOps.nilR ?_
 refine AW.sr ?_
 refine AOps.p rfl (rfl : _ = (AV.int .i64 left2)) ?_
 refine AOps.p rfl (rfl : _ = (AV.eptr [(AV.int .i64 a1.From), (AV.int .i64 a1.To), (AV.str a1.Act), (AV.int .i64 a1.Module)] 2)) ?_
 refine AOps.ldE (v := (AV.str a1.Act)) rfl rfl rfl rfl rfl rfl ?_
 refine AOps.p rfl (rfl : _ = (AV.int .i64 (a1.Act.length : Int))) ?_
 refine AOps.p rfl (rfl : _ = (AV.int .i64 (IntKind.wrap .i64 (left2 - (a1.Act.length : Int))))) ?_
 refine AOps.assignR rfl rfl rfl (rfl : _ = (AV.int .i64 (IntKind.wrap .i64 (left2 - (a1.Act.length : Int))))) rfl ?_
 refine AOps.nilR ?_
 refine AW.seq ?_
 refine AW.sr ?_
 refine AOps.p rfl (rfl : _ = (AV.int .i64 (IntKind.wrap .i64 (left2 - (a1.Act.length : Int))))) ?_
 refine AOps.p rfl (rfl : _ = (AV.bool (decide ((IntKind.wrap .i64 (left2 - (a1.Act.length : Int)) : Int) < 0)))) ?_
 refine AOps.nilR ?_
 rcases oite h with ⟨hc3, h⟩ | ⟨hc3, h⟩
 ·refine AW.condT (congrArg AV.bool hc3) ?_
  refine AW.sr ?_
  refine AOps.p rfl (rfl : _ = (AV.int .i64 (-1))) ?_
  refine AOps.nilR ?_
  cases h
  exact AW.ret ⟨rfl, _, _, rfl, rfl⟩
 refine AW.condF (congrArg AV.bool hc3) ?_
 refine AW.skip ?_
 refine AW.sr ?_
 refine AOps.p rfl (rfl : _ = (AV.int .i64 (IntKind.wrap .i64 (left2 - (a1.Act.length : Int))))) ?_
 refine AOps.assignR rfl rfl rfl (rfl : _ = (AV.int .i64 (IntKind.wrap .i64 (left2 - (a1.Act.length : Int))))) rfl ?_
 refine AOps.nilR ?_
 cases h
 exact AW.ret ⟨rfl, _, _, rfl, rfl⟩
theorem laws_szLinkS_ok {a1 : List Link} {left6 : Int} {z2 : Nat} {f3 : Bool} {e4 : List AV} {s : St} (h5 : LR rLink 4 a1 z2 e4) {r : Int} (h : laws_szLinkS a1 left6 = some r) (hs : WF s) : ACall Cf 42 [(AV.sl z2 f3 e4), (AV.int .i64 left6)] s fun v _ s' => (rI .i64) r v ∧ s' = s := by
 refine ACall.pure rfl rfl rfl .I ?_
 have hWF := hs.lo'
 unfold laws_szLinkS at h
 refine AW.sr ?_
 refine AOps.p rfl (rfl : _ = (AV.int .i64 0)) ?_
 refine AOps.nilR ?_
 refine AW.sr ?_
 refine AOps.p rfl (rfl : _ = (AV.int .i64 left6)) ?_
 refine AOps.p rfl (rfl : _ = (AV.sl z2 f3 e4)) ?_
 refine AOps.p rfl (len_eq h5) ?_
 refine AOps.p rfl (rfl : _ = (AV.int .i64 (IntKind.wrap .i64 (left6 - (a1.length : Int))))) ?_
 refine AOps.assignR rfl rfl rfl (rfl : _ = (AV.int .i64 (IntKind.wrap .i64 (left6 - (a1.length : Int))))) rfl ?_
 refine AOps.nilR ?_
 refine AW.seq ?_
 refine AW.sr ?_
 refine AOps.p rfl (rfl : _ = (AV.int .i64 (IntKind.wrap .i64 (left6 - (a1.length : Int))))) ?_
 refine AOps.p rfl (rfl : _ = (AV.bool (decide ((IntKind.wrap .i64 (left6 - (a1.length : Int)) : Int) < 0)))) ?_
 refine AOps.nilR ?_
 rcases oite h with ⟨hc7, h⟩ | ⟨hc7, h⟩
 ·refine AW.condT (congrArg AV.bool hc7) ?_
  refine AW.sr ?_
  refine AOps.p rfl (rfl : _ = (AV.int .i64 (-1))) ?_
  refine AOps.nilR ?_
  cases h
  exact AW.ret ⟨rfl, _, _, rfl, rfl⟩
 refine AW.condF (congrArg AV.bool hc7) ?_
 refine AW.skip ?_
 refine AW.seq ?_
 refine AW.sr ?_
 refine AOps.p rfl (rfl : _ = (AV.int .i64 0)) ?_
 refine AOps.nilR ?_
 refine AW.meet (σ := Int) (fun left8 tm os => ⟨updL tm [(1, (AV.int .i64 left8))], updL os [], { s with lo := s.n }⟩) (fun left8 => laws_szLinkS_J1 left8 = some r) ?_ ?_
 ·rintro left8 tm os h
  unfold laws_szLinkS_J1 at h
  refine AW.sr ?_
  refine AOps.p rfl (rfl : _ = (AV.int .i64 left8)) ?_
  refine AOps.assignR rfl rfl rfl (rfl : _ = (AV.int .i64 left8)) rfl ?_
  refine AOps.nilR ?_
  cases h
  exact AW.ret ⟨rfl, _, _, rfl, rfl⟩
 intro KJ9
 refine AW.block ?_
 refine AW.res [(0, (AV.sl z2 f3 e4)), (1, (AV.int .i64 (IntKind.wrap .i64 (left6 - (a1.length : Int))))), (5, (AV.int .i64 0))] [] ⟨rfl, rfl, rfl, trivial⟩ trivial ?_
 refine AW.loopF (σ := Int × Int) (τ := Unit) (fun (left10, i11) _ => True) (fun (left10, i11) _ tm os => ⟨updL tm [(0, (AV.sl z2 f3 e4)), (1, (AV.int .i64 left10)), (5, (AV.int .i64 i11))], updL os [], { s with lo := s.n }⟩) ?_ (x := (IntKind.wrap .i64 (left6 - (a1.length : Int)), 0)) (y := ()) h trivial
 clear h
 rintro ⟨left10, i11⟩ _ tm os - ee1 h hL1 hR1
 unfold laws_szLinkS_S1 at h
 dsimp only at h
 refine AW.seq ?_
 refine AW.sr ?_
 refine AOps.p rfl (rfl : _ = (AV.int .i64 i11)) ?_
 refine AOps.p rfl (rfl : _ = (AV.sl z2 f3 e4)) ?_
 refine AOps.p rfl (len_eq h5) ?_
 refine AOps.p rfl (rfl : _ = (AV.bool (decide ((i11 : Int) < (a1.length : Int))))) ?_
 refine AOps.nilR ?_
 rcases oite h with ⟨hc12, h⟩ | ⟨hc12, h⟩
 ·refine AW.condT (congrArg AV.bool hc12) ?_
  refine AW.skip ?_
  refine AW.seq ?_
  refine AW.block ?_
  refine AW.sr ?_
  refine AOps.p rfl (rfl : _ = (AV.sl z2 f3 e4)) ?_
  refine AOps.p rfl (rfl : _ = (AV.int .i64 i11)) ?_
  obtain ⟨x13, h14, h⟩ := obind h
  obtain ⟨v17, h15, h16⟩ := idx_sl h5 h14
  obtain ⟨_, rfl, h18⟩ := h15
  obtain ⟨_, _, rfl, h19, h20⟩ := Cs_cons h18
  cases h19
  obtain ⟨_, _, rfl, h21, h22⟩ := Cs_cons h20
  cases h21
  obtain ⟨_, _, rfl, h23, h24⟩ := Cs_cons h22
  cases h23
  obtain ⟨_, _, rfl, h25, h26⟩ := Cs_cons h24
  cases h25
  cases Cs_nil h26
  refine AOps.pureR rfl rfl rfl h16 rfl (rfl : _ = (AV.eptr [(AV.int .i64 x13.From), (AV.int .i64 x13.To), (AV.str x13.Act), (AV.int .i64 x13.Module)] 0)) ?_
  refine AOps.ldE (v := (AV.agg [(AV.int .i64 x13.From), (AV.int .i64 x13.To), (AV.str x13.Act), (AV.int .i64 x13.Module)])) rfl rfl rfl rfl rfl rfl ?_
  refine AOps.p rfl (rfl : _ = (AV.int .i64 left10)) ?_
  obtain ⟨y27, h28, h⟩ := obind h
  refine AOps.callP (g := 66) (args := [(AV.agg [(AV.int .i64 x13.From), (AV.int .i64 x13.To), (AV.str x13.Act), (AV.int .i64 x13.Module)]), (AV.int .i64 left10)]) (p := (rI .i64) y27) rfl rfl rfl (laws_szLink_ok  h28 hWF) ?_
  intro _ o30 h29
  cases h29
  refine AOps.assignR rfl rfl rfl (rfl : _ = (AV.int .i64 y27)) rfl ?_
  refine AOps.nilR ?_
  refine AW.sr ?_
  refine AOps.p rfl (rfl : _ = (AV.int .i64 y27)) ?_
  refine AOps.p rfl (rfl : _ = (AV.bool (decide ((y27 : Int) < 0)))) ?_
  refine AOps.nilR ?_
  rcases oite h with ⟨hc31, h⟩ | ⟨hc31, h⟩
  ·refine AW.condT (congrArg AV.bool hc31) ?_
   refine AW.sr ?_
   refine AOps.p rfl (rfl : _ = (AV.int .i64 (-1))) ?_
   refine AOps.nilR ?_
   cases h
   have hr := hR1 _ rfl
   subst hr
   exact AW.ret ⟨rfl, _, _, rfl, rfl⟩
  refine AW.condF (congrArg AV.bool hc31) ?_
  refine AW.skip ?_
  refine AW.inBlock ?_
  refine AW.region ?_
  refine AOps.p rfl (rfl : _ = (AV.int .i64 i11)) ?_
  refine AOps.p rfl (rfl : _ = (AV.int .i64 (IntKind.wrap .i64 (i11 + 1)))) ?_
  refine AOps.assignR rfl rfl rfl (rfl : _ = (AV.int .i64 (IntKind.wrap .i64 (i11 + 1)))) rfl ?_
  refine AOps.nilR ?_
  cases h
  exact AW.res [(0, (AV.sl z2 f3 e4)), (1, (AV.int .i64 y27)), (5, (AV.int .i64 (IntKind.wrap .i64 (i11 + 1))))] [] ⟨rfl, rfl, rfl, trivial⟩ trivial (hL1 _ rfl () _ _ trivial)
 refine AW.condF (congrArg AV.bool hc12) ?_
 refine AW.exit rfl ?_
 obtain ⟨r32, hm, hx⟩ := omap h
 clear h
 subst hx
 have hx := hR1 _ rfl
 rw [hx] at hm
 have h := hm
 exact AW.res [(1, (AV.int .i64 left10))] [] ⟨rfl, trivial⟩ trivial (KJ9 (left10) _ _ h)
theorem laws_szModule_ok {a1 : Module} {left6 : Int} {z2 : Nat} {f3 : Bool} {e4 : List AV} {s : St} (h5 : LR rLink 4 a1.Links z2 e4) {r : Int} (h : laws_szModule a1 left6 = some r) (hs : WF s) : ACall Cf 24 [(AV.agg [(AV.int .i64 a1.Nodes), (AV.sl z2 f3 e4)]), (AV.int .i64 left6)] s fun v _ s' => (rI .i64) r v ∧ s' = s := by
 refine ACall.pure rfl rfl rfl .I ?_
 have hWF := hs.lo'
 unfold laws_szModule at h
 refine AW.sr ?_
 refine AOps.makeR rfl rfl rfl rfl rfl rfl (rfl : _ = (AV.eptr [(AV.int .i64 a1.Nodes), (AV.sl z2 f3 e4)] 0)) ?_
 refine AOps.p rfl (rfl : _ = (AV.int .i64 0)) ?_
 refine AOps.nilR ?_
 refine AW.sr ?_
 refine AOps.p rfl (rfl : _ = (AV.eptr [(AV.int .i64 a1.Nodes), (AV.sl z2 f3 e4)] 1)) ?_
 refine AOps.ldE (v := (AV.sl z2 f3 e4)) rfl rfl rfl rfl rfl rfl ?_
 refine AOps.p rfl (rfl : _ = (AV.int .i64 left6)) ?_
 obtain ⟨y7, h8, h⟩ := obind h
 refine AOps.callP (g := 42) (args := [(AV.sl z2 f3 e4), (AV.int .i64 left6)]) (p := (rI .i64) y7) rfl rfl rfl (laws_szLinkS_ok h5 h8 hWF) ?_
 intro _ o10 h9
 cases h9
 refine AOps.assignR rfl rfl rfl (rfl : _ = (AV.int .i64 y7)) rfl ?_
 refine AOps.nilR ?_
 refine AW.seq ?_
 refine AW.sr ?_
 refine AOps.p rfl (rfl : _ = (AV.int .i64 y7)) ?_
 refine AOps.p rfl (rfl : _ = (AV.bool (decide ((y7 : Int) < 0)))) ?_
 refine AOps.nilR ?_
 rcases oite h with ⟨hc11, h⟩ | ⟨hc11, h⟩
 ·refine AW.condT (congrArg AV.bool hc11) ?_
  refine AW.sr ?_
  refine AOps.p rfl (rfl : _ = (AV.int .i64 (-1))) ?_
  refine AOps.nilR ?_
  cases h
  exact AW.ret ⟨rfl, _, _, rfl, rfl⟩
 refine AW.condF (congrArg AV.bool hc11) ?_
 refine AW.skip ?_
 refine AW.sr ?_
 refine AOps.p rfl (rfl : _ = (AV.int .i64 y7)) ?_
 refine AOps.assignR rfl rfl rfl (rfl : _ = (AV.int .i64 y7)) rfl ?_
 refine AOps.nilR ?_
 cases h
 exact AW.ret ⟨rfl, _, _, rfl, rfl⟩
theorem laws_szModuleS_ok {a1 : List Module} {left6 : Int} {z2 : Nat} {f3 : Bool} {e4 : List AV} {s : St} (h5 : LR rModule 2 a1 z2 e4) {r : Int} (h : laws_szModuleS a1 left6 = some r) (hs : WF s) : ACall Cf 13 [(AV.sl z2 f3 e4), (AV.int .i64 left6)] s fun v _ s' => (rI .i64) r v ∧ s' = s := by
 refine ACall.pure rfl rfl rfl .I ?_
 have hWF := hs.lo'
 unfold laws_szModuleS at h
 refine AW.sr ?_
 refine AOps.p rfl (rfl : _ = (AV.int .i64 0)) ?_
 refine AOps.nilR ?_
 refine AW.sr ?_
 refine AOps.p rfl (rfl : _ = (AV.int .i64 left6)) ?_
 refine AOps.p rfl (rfl : _ = (AV.sl z2 f3 e4)) ?_
 refine AOps.p rfl (len_eq h5) ?_
 refine AOps.p rfl (rfl : _ = (AV.int .i64 (IntKind.wrap .i64 (left6 - (a1.length : Int))))) ?_
 refine AOps.assignR rfl rfl rfl (rfl : _ = (AV.int .i64 (IntKind.wrap .i64 (left6 - (a1.length : Int))))) rfl ?_
 refine AOps.nilR ?_
 refine AW.seq ?_
 refine AW.sr ?_
 refine AOps.p rfl (rfl : _ = (AV.int .i64 (IntKind.wrap .i64 (left6 - (a1.length : Int))))) ?_
 refine AOps.p rfl (rfl : _ = (AV.bool (decide ((IntKind.wrap .i64 (left6 - (a1.length : Int)) : Int) < 0)))) ?_
 refine AOps.nilR ?_
 rcases oite h with ⟨hc7, h⟩ | ⟨hc7, h⟩
 ·refine AW.condT (congrArg AV.bool hc7) ?_
  refine AW.sr ?_
  refine AOps.p rfl (rfl : _ = (AV.int .i64 (-1))) ?_
  refine AOps.nilR ?_
  cases h
  exact AW.ret ⟨rfl, _, _, rfl, rfl⟩
 refine AW.condF (congrArg AV.bool hc7) ?_
 refine AW.skip ?_
 refine AW.seq ?_
 refine AW.sr ?_
 refine AOps.p rfl (rfl : _ = (AV.int .i64 0)) ?_
 refine AOps.nilR ?_
 refine AW.meet (σ := Int) (fun left8 tm os => ⟨updL tm [(1, (AV.int .i64 left8))], updL os [], { s with lo := s.n }⟩) (fun left8 => laws_szModuleS_J1 left8 = some r) ?_ ?_
 ·rintro left8 tm os h
  unfold laws_szModuleS_J1 at h
  refine AW.sr ?_
  refine AOps.p rfl (rfl : _ = (AV.int .i64 left8)) ?_
  refine AOps.assignR rfl rfl rfl (rfl : _ = (AV.int .i64 left8)) rfl ?_
  refine AOps.nilR ?_
  cases h
  exact AW.ret ⟨rfl, _, _, rfl, rfl⟩
 intro KJ9
 refine AW.block ?_
 refine AW.res [(0, (AV.sl z2 f3 e4)), (1, (AV.int .i64 (IntKind.wrap .i64 (left6 - (a1.length : Int))))), (5, (AV.int .i64 0))] [] ⟨rfl, rfl, rfl, trivial⟩ trivial ?_
 refine AW.loopF (σ := Int × Int) (τ := Unit) (fun (left10, i11) _ => True) (fun (left10, i11) _ tm os => ⟨updL tm [(0, (AV.sl z2 f3 e4)), (1, (AV.int .i64 left10)), (5, (AV.int .i64 i11))], updL os [], { s with lo := s.n }⟩) ?_ (x := (IntKind.wrap .i64 (left6 - (a1.length : Int)), 0)) (y := ()) h trivial
 clear h
 rintro ⟨left10, i11⟩ _ tm os - ee1 h hL1 hR1
 unfold laws_szModuleS_S1 at h
 dsimp only at h
 refine AW.seq ?_
 refine AW.sr ?_
 refine AOps.p rfl (rfl : _ = (AV.int .i64 i11)) ?_
 refine AOps.p rfl (rfl : _ = (AV.sl z2 f3 e4)) ?_
 refine AOps.p rfl (len_eq h5) ?_
 refine AOps.p rfl (rfl : _ = (AV.bool (decide ((i11 : Int) < (a1.length : Int))))) ?_
 refine AOps.nilR ?_
 rcases oite h with ⟨hc12, h⟩ | ⟨hc12, h⟩
 ·refine AW.condT (congrArg AV.bool hc12) ?_
  refine AW.skip ?_
  refine AW.seq ?_
  refine AW.block ?_
  refine AW.sr ?_
  refine AOps.p rfl (rfl : _ = (AV.sl z2 f3 e4)) ?_
  refine AOps.p rfl (rfl : _ = (AV.int .i64 i11)) ?_
  obtain ⟨x13, h14, h⟩ := obind h
  obtain ⟨v17, h15, h16⟩ := idx_sl h5 h14
  obtain ⟨_, rfl, h18⟩ := h15
  obtain ⟨_, _, rfl, h19, h20⟩ := Cs_cons h18
  cases h19
  obtain ⟨_, _, rfl, h21, h22⟩ := Cs_cons h20
  obtain ⟨z23, f24, e25, rfl, h26⟩ := h21
  cases Cs_nil h22
  refine AOps.pureR rfl rfl rfl h16 rfl (rfl : _ = (AV.eptr [(AV.int .i64 x13.Nodes), (AV.sl z23 f24 e25)] 0)) ?_
  refine AOps.ldE (v := (AV.agg [(AV.int .i64 x13.Nodes), (AV.sl z23 f24 e25)])) rfl rfl rfl rfl rfl rfl ?_
  refine AOps.p rfl (rfl : _ = (AV.int .i64 left10)) ?_
  obtain ⟨y27, h28, h⟩ := obind h
  refine AOps.callP (g := 24) (args := [(AV.agg [(AV.int .i64 x13.Nodes), (AV.sl z23 f24 e25)]), (AV.int .i64 left10)]) (p := (rI .i64) y27) rfl rfl rfl (laws_szModule_ok h26 h28 hWF) ?_
  intro _ o30 h29
  cases h29
  refine AOps.assignR rfl rfl rfl (rfl : _ = (AV.int .i64 y27)) rfl ?_
  refine AOps.nilR ?_
  refine AW.sr ?_
  refine AOps.p rfl (rfl : _ = (AV.int .i64 y27)) ?_
  refine AOps.p rfl (rfl : _ = (AV.bool (decide ((y27 : Int) < 0)))) ?_
  refine AOps.nilR ?_
  rcases oite h with ⟨hc31, h⟩ | ⟨hc31, h⟩
  ·refine AW.condT (congrArg AV.bool hc31) ?_
   refine AW.sr ?_
   refine AOps.p rfl (rfl : _ = (AV.int .i64 (-1))) ?_
   refine AOps.nilR ?_
   cases h
   have hr := hR1 _ rfl
   subst hr
   exact AW.ret ⟨rfl, _, _, rfl, rfl⟩
  refine AW.condF (congrArg AV.bool hc31) ?_
  refine AW.skip ?_
  refine AW.inBlock ?_
  refine AW.region ?_
  refine AOps.p rfl (rfl : _ = (AV.int .i64 i11)) ?_
  refine AOps.p rfl (rfl : _ = (AV.int .i64 (IntKind.wrap .i64 (i11 + 1)))) ?_
  refine AOps.assignR rfl rfl rfl (rfl : _ = (AV.int .i64 (IntKind.wrap .i64 (i11 + 1)))) rfl ?_
  refine AOps.nilR ?_
  cases h
  exact AW.res [(0, (AV.sl z2 f3 e4)), (1, (AV.int .i64 y27)), (5, (AV.int .i64 (IntKind.wrap .i64 (i11 + 1))))] [] ⟨rfl, rfl, rfl, trivial⟩ trivial (hL1 _ rfl () _ _ trivial)
 refine AW.condF (congrArg AV.bool hc12) ?_
 refine AW.exit rfl ?_
 obtain ⟨r32, hm, hx⟩ := omap h
 clear h
 subst hx
 have hx := hR1 _ rfl
 rw [hx] at hm
 have h := hm
 exact AW.res [(1, (AV.int .i64 left10))] [] ⟨rfl, trivial⟩ trivial (KJ9 (left10) _ _ h)
theorem laws_szProgram_ok {a1 : ProgramT} {left6 : Int} {z2 : Nat} {f3 : Bool} {e4 : List AV} {s : St} (h5 : LR rModule 2 a1.Modules z2 e4) {r : Int} (h : laws_szProgram a1 left6 = some r) (hs : WF s) : ACall Cf 4 [(AV.agg [(AV.sl z2 f3 e4)]), (AV.int .i64 left6)] s fun v _ s' => (rI .i64) r v ∧ s' = s := by
 refine ACall.pure rfl rfl rfl .I ?_
 have hWF := hs.lo'
 unfold laws_szProgram at h
 refine AW.sr ?_
 refine AOps.makeR rfl rfl rfl rfl rfl rfl (rfl : _ = (AV.eptr [(AV.sl z2 f3 e4)] 0)) ?_
 refine AOps.p rfl (rfl : _ = (AV.int .i64 0)) ?_
 refine AOps.nilR ?_
 refine AW.sr ?_
 refine AOps.p rfl (rfl : _ = (AV.eptr [(AV.sl z2 f3 e4)] 0)) ?_
 refine AOps.ldE (v := (AV.sl z2 f3 e4)) rfl rfl rfl rfl rfl rfl ?_
 refine AOps.p rfl (rfl : _ = (AV.int .i64 left6)) ?_
 obtain ⟨y7, h8, h⟩ := obind h
 refine AOps.callP (g := 13) (args := [(AV.sl z2 f3 e4), (AV.int .i64 left6)]) (p := (rI .i64) y7) rfl rfl rfl (laws_szModuleS_ok h5 h8 hWF) ?_
 intro _ o10 h9
 cases h9
 refine AOps.assignR rfl rfl rfl (rfl : _ = (AV.int .i64 y7)) rfl ?_
 refine AOps.nilR ?_
 refine AW.seq ?_
 refine AW.sr ?_
 refine AOps.p rfl (rfl : _ = (AV.int .i64 y7)) ?_
 refine AOps.p rfl (rfl : _ = (AV.bool (decide ((y7 : Int) < 0)))) ?_
 refine AOps.nilR ?_
 rcases oite h with ⟨hc11, h⟩ | ⟨hc11, h⟩
 ·refine AW.condT (congrArg AV.bool hc11) ?_
  refine AW.sr ?_
  refine AOps.p rfl (rfl : _ = (AV.int .i64 (-1))) ?_
  refine AOps.nilR ?_
  cases h
  exact AW.ret ⟨rfl, _, _, rfl, rfl⟩
 refine AW.condF (congrArg AV.bool hc11) ?_
 refine AW.skip ?_
 refine AW.sr ?_
 refine AOps.p rfl (rfl : _ = (AV.int .i64 y7)) ?_
 refine AOps.assignR rfl rfl rfl (rfl : _ = (AV.int .i64 y7)) rfl ?_
 refine AOps.nilR ?_
 cases h
 exact AW.ret ⟨rfl, _, _, rfl, rfl⟩
theorem laws_toLink_ok {a1 : Link} {s : St} {r : Link} (h : laws_toLink a1 = some r) (hs : WF s) : ACall Cf 69 [(AV.agg [(AV.int .i64 a1.From), (AV.int .i64 a1.To), (AV.str a1.Act), (AV.int .i64 a1.Module)])] s fun v _ s' => (rLink) r v ∧ s' = s := by
 refine ACall.boxes rfl rfl rfl ?_
 have hH0 := HS.init hs
 unfold laws_toLink at h
 refine AW.sr ?_
 refine AOps.makeR rfl rfl rfl rfl rfl rfl (rfl : _ = (AV.eptr [(AV.int .i64 a1.From), (AV.int .i64 a1.To), (AV.str a1.Act), (AV.int .i64 a1.Module)] 0)) ?_
 refine AOps.allocP rfl rfl rfl rfl ⟨rfl, rfl⟩ rfl ?_
 refine AOps.nilR ?_
 refine AW.sr ?_
 refine AOps.alloc1 hH0 rfl rfl rfl rfl rfl rfl ?_
 intro b2 s3 hH4
 change HS [] false s s3 [⟨some b2, [(AV.int .i64 0), (AV.int .i64 0), (AV.str ([] : List UInt8)), (AV.int .i64 0)], (fun _ => false)⟩] at hH4
 refine AOps.nilR ?_
 refine AW.sr ?_
 refine AOps.p rfl (rfl : _ = (AV.eptr [(AV.int .i64 a1.From), (AV.int .i64 a1.To), (AV.str a1.Act), (AV.int .i64 a1.Module)] 0)) ?_
 refine AOps.ldE (v := (AV.int .i64 a1.From)) rfl rfl rfl rfl rfl rfl ?_
 refine AOps.p rfl (rfl : _ = (AV.ptr b2 0)) ?_
 refine AOps.stB (i := 0) (v := (AV.int .i64 a1.From)) hH4 rfl rfl rfl rfl rfl rfl rfl rfl rfl (lt_b rfl) (le_b rfl) rfl ?_
 intro w5 s6 h7 h8 hH9
 change HS [] false s s6 [⟨some b2, [(AV.int .i64 a1.From), (AV.int .i64 0), (AV.str ([] : List UInt8)), (AV.int .i64 0)], w5⟩] at hH9
 refine AOps.nilR ?_
 refine AW.sr ?_
 refine AOps.p rfl (rfl : _ = (AV.eptr [(AV.int .i64 a1.From), (AV.int .i64 a1.To), (AV.str a1.Act), (AV.int .i64 a1.Module)] 1)) ?_
 refine AOps.ldE (v := (AV.int .i64 a1.To)) rfl rfl rfl rfl rfl rfl ?_
 refine AOps.p rfl (rfl : _ = (AV.ptr b2 1)) ?_
 refine AOps.stB (i := 0) (v := (AV.int .i64 a1.To)) hH9 rfl rfl rfl rfl rfl rfl rfl rfl rfl (lt_b rfl) (le_b rfl) rfl ?_
 intro w10 s11 h12 h13 hH14
 change HS [] false s s11 [⟨some b2, [(AV.int .i64 a1.From), (AV.int .i64 a1.To), (AV.str ([] : List UInt8)), (AV.int .i64 0)], w10⟩] at hH14
 refine AOps.nilR ?_
 refine AW.sr ?_
 refine AOps.p rfl (rfl : _ = (AV.eptr [(AV.int .i64 a1.From), (AV.int .i64 a1.To), (AV.str a1.Act), (AV.int .i64 a1.Module)] 2)) ?_
 refine AOps.ldE (v := (AV.str a1.Act)) rfl rfl rfl rfl rfl rfl ?_
 refine AOps.p rfl (rfl : _ = (AV.ptr b2 2)) ?_
 refine AOps.stB (i := 0) (v := (AV.str a1.Act)) hH14 rfl rfl rfl rfl rfl rfl rfl rfl rfl (lt_b rfl) (le_b rfl) rfl ?_
 intro w15 s16 h17 h18 hH19
 change HS [] false s s16 [⟨some b2, [(AV.int .i64 a1.From), (AV.int .i64 a1.To), (AV.str a1.Act), (AV.int .i64 0)], w15⟩] at hH19
 refine AOps.nilR ?_
 refine AW.sr ?_
 refine AOps.p rfl (rfl : _ = (AV.eptr [(AV.int .i64 a1.From), (AV.int .i64 a1.To), (AV.str a1.Act), (AV.int .i64 a1.Module)] 3)) ?_
 refine AOps.ldE (v := (AV.int .i64 a1.Module)) rfl rfl rfl rfl rfl rfl ?_
 refine AOps.p rfl (rfl : _ = (AV.ptr b2 3)) ?_
 refine AOps.stB (i := 0) (v := (AV.int .i64 a1.Module)) hH19 rfl rfl rfl rfl rfl rfl rfl rfl rfl (lt_b rfl) (le_b rfl) rfl ?_
 intro w20 s21 h22 h23 hH24
 change HS [] false s s21 [⟨some b2, [(AV.int .i64 a1.From), (AV.int .i64 a1.To), (AV.str a1.Act), (AV.int .i64 a1.Module)], w20⟩] at hH24
 refine AOps.nilR ?_
 refine AW.sr ?_
 refine AOps.ldB (i := 0) (v := (AV.agg [(AV.int .i64 a1.From), (AV.int .i64 a1.To), (AV.str a1.Act), (AV.int .i64 a1.Module)])) hH24 rfl rfl rfl rfl rfl rfl rfl rfl rfl ?_
 refine AOps.stP (v := (AV.agg [(AV.int .i64 a1.From), (AV.int .i64 a1.To), (AV.str a1.Act), (AV.int .i64 a1.Module)])) rfl rfl rfl rfl rfl rfl rfl rfl rfl (lt_b rfl) rfl ?_
 refine AOps.nilR ?_
 cases h
 exact AW.ret ⟨⟨_, hH24⟩, _, _, rfl, (Fin.of (p := (rLink) _) (.A (.cons .I (.cons .I (.cons .S (.cons .I .nil))))) (⟨_, rfl, (.cons rfl (.cons rfl (.cons rfl (.cons rfl .nil))))⟩)).2⟩
theorem laws_toLinkS_ok {a1 : List Link} {z2 : Nat} {f3 : Bool} {e4 : List AV} {s : St} (h5 : LR rLink 4 a1 z2 e4) {r : (List Link)} (h : laws_toLinkS a1 = some r) (hs : WF s) : ACall Cf 49 [(AV.sl z2 f3 e4)] s fun v _ s' => (rL rLink 4) r v ∧ s' = s := by
 refine ACall.boxes rfl rfl rfl ?_
 have hH0 := HS.init hs
 unfold laws_toLinkS at h
 refine AW.sr ?_
 refine AOps.p rfl (rfl : _ = (AV.sl 0 true [])) ?_
 refine AOps.nilR ?_
 refine AW.sr ?_
 refine AOps.p rfl (rfl : _ = (AV.sl z2 f3 e4)) ?_
 refine AOps.p rfl (len_eq h5) ?_
 obtain ⟨l6, h7, h⟩ := obind h
 refine AOps.mkS (r := rLink) hH0 rfl rfl rfl rfl rfl rfl rfl ⟨rfl, rfl, by decide⟩ h7 ⟨_, rfl, (.cons rfl (.cons rfl (.cons rfl (.cons rfl .nil))))⟩ ((Sh.A (f := csLink) (fun _ => ⟨(.cons (One.of Sh.I _) (.cons (One.of Sh.I _) (.cons (One.of Sh.S _) (.cons (One.of Sh.I _) .nil)))), rfl⟩)) ((⟨0, 0, ([] : List UInt8), 0⟩ : Link) : Link) _ ⟨_, rfl, (.cons rfl (.cons rfl (.cons rfl (.cons rfl .nil))))⟩) rfl ?_
 intro b8 s9 cs10 h11 hH12
 change HS [] false s s9 [⟨some b8, cs10, fun _ => false⟩] at hH12
 refine AOps.assignR rfl rfl rfl (rfl : _ = (AV.ms true 4 b8 0 (Int.toNat (a1.length : Int)))) rfl ?_
 refine AOps.nilR ?_
 refine AW.seq ?_
 refine AW.sr ?_
 refine AOps.p rfl (rfl : _ = (AV.int .i64 0)) ?_
 refine AOps.nilR ?_
 refine AW.meet (σ := (List Link) × BX × Nat × Nat × St) (fun (out13, x14, b15, n17, s19) tm os => ⟨updL tm [(3, (AV.ms true 4 b15 0 n17))], updL os [], s19⟩) (fun (out13, x14, b15, n17, s19) => (x14.b = some b15) ∧ (MS rLink true 4 out13 n17 x14.cs) ∧ (HS [] false s s19 [x14]) ∧ laws_toLinkS_J1 out13 = some r) ?_ ?_
 ·rintro ⟨out13, x14, b15, n17, s19⟩ tm os ⟨h16, h18, hH20, h⟩
  unfold laws_toLinkS_J1 at h
  refine AW.sr ?_
  refine AOps.p rfl (rfl : _ = (AV.ms true 4 b15 0 n17)) ?_
  refine AOps.assignR rfl rfl rfl (rfl : _ = (AV.ms true 4 b15 0 n17)) rfl ?_
  refine AOps.nilR ?_
  cases h
  exact AW.ret ⟨⟨_, hH20⟩, _, _, rfl, (Fin.ms (r := rLink) hH20 (i := 0) rfl h16 h18 (fun _ => (.A (.cons .I (.cons .I (.cons .S (.cons .I .nil)))))) (fun h => by cases h)).2⟩
 intro KJ21
 refine AW.block ?_
 refine AW.res [(0, (AV.sl z2 f3 e4)), (3, (AV.ms true 4 b8 0 (Int.toNat (a1.length : Int)))), (4, (AV.int .i64 0))] [] ⟨rfl, rfl, rfl, trivial⟩ trivial ?_
 refine AW.loopF (σ := (List Link) × Int) (τ := BX × Nat × Nat × St) (fun (out22, i28) (x23, b24, n26, s29) => (x23.b = some b24) ∧ (MS rLink true 4 out22 n26 x23.cs) ∧ (HS [] false s s29 [x23])) (fun (out22, i28) (x23, b24, n26, s29) tm os => ⟨updL tm [(0, (AV.sl z2 f3 e4)), (3, (AV.ms true 4 b24 0 n26)), (4, (AV.int .i64 i28))], updL os [], s29⟩) ?_ (x := (l6, 0)) (y := (⟨some b8, cs10, fun _ => false⟩, b8, Int.toNat (a1.length : Int), s9)) h ⟨rfl, h11, (HS.sel hH12 [some 0] (by decide))⟩
 clear h
 rintro ⟨out22, i28⟩ ⟨x23, b24, n26, s29⟩ tm os ⟨h25, h27, hH30⟩ ee1 h hL1 hR1
 unfold laws_toLinkS_S1 at h
 dsimp only at h
 refine AW.seq ?_
 refine AW.sr ?_
 refine AOps.p rfl (rfl : _ = (AV.int .i64 i28)) ?_
 refine AOps.p rfl (rfl : _ = (AV.sl z2 f3 e4)) ?_
 refine AOps.p rfl (len_eq h5) ?_
 refine AOps.p rfl (rfl : _ = (AV.bool (decide ((i28 : Int) < (a1.length : Int))))) ?_
 refine AOps.nilR ?_
 rcases oite h with ⟨hc31, h⟩ | ⟨hc31, h⟩
 ·refine AW.condT (congrArg AV.bool hc31) ?_
  refine AW.skip ?_
  refine AW.seq ?_
  refine AW.block ?_
  refine AW.region ?_
  refine AOps.p rfl (rfl : _ = (AV.ms true 4 b24 0 n26)) ?_
  refine AOps.p rfl (rfl : _ = (AV.int .i64 i28)) ?_
  refine AOps.p rfl (rfl : _ = (AV.sl z2 f3 e4)) ?_
  refine AOps.p rfl (rfl : _ = (AV.int .i64 i28)) ?_
  obtain ⟨x32, h33, h⟩ := obind h
  obtain ⟨v36, h34, h35⟩ := idx_sl h5 h33
  obtain ⟨_, rfl, h37⟩ := h34
  obtain ⟨_, _, rfl, h38, h39⟩ := Cs_cons h37
  cases h38
  obtain ⟨_, _, rfl, h40, h41⟩ := Cs_cons h39
  cases h40
  obtain ⟨_, _, rfl, h42, h43⟩ := Cs_cons h41
  cases h42
  obtain ⟨_, _, rfl, h44, h45⟩ := Cs_cons h43
  cases h44
  cases Cs_nil h45
  refine AOps.pureR rfl rfl rfl h35 rfl (rfl : _ = (AV.eptr [(AV.int .i64 x32.From), (AV.int .i64 x32.To), (AV.str x32.Act), (AV.int .i64 x32.Module)] 0)) ?_
  refine AOps.ldE (v := (AV.agg [(AV.int .i64 x32.From), (AV.int .i64 x32.To), (AV.str x32.Act), (AV.int .i64 x32.Module)])) rfl rfl rfl rfl rfl rfl ?_
  obtain ⟨y46, h47, h⟩ := obind h
  refine AOps.callP (g := 69) (args := [(AV.agg [(AV.int .i64 x32.From), (AV.int .i64 x32.To), (AV.str x32.Act), (AV.int .i64 x32.Module)])]) (p := (rLink) y46) rfl rfl rfl (laws_toLink_ok  h47 (HS.wf' hH30)) ?_
  intro _ o58 h48
  obtain ⟨_, rfl, h49⟩ := h48
  obtain ⟨_, _, rfl, h50, h51⟩ := Cs_cons h49
  cases h50
  obtain ⟨_, _, rfl, h52, h53⟩ := Cs_cons h51
  cases h52
  obtain ⟨_, _, rfl, h54, h55⟩ := Cs_cons h53
  cases h54
  obtain ⟨_, _, rfl, h56, h57⟩ := Cs_cons h55
  cases h56
  cases Cs_nil h57
  obtain ⟨x59, h60, h⟩ := obind h
  refine AOps.pureR rfl rfl rfl (idx_ms h27 h60) rfl (rfl : _ = (AV.ptr b24 (0 + Int.toNat i28 * 4))) ?_
  refine AOps.stM (i := 0) (r := rLink) (v := (AV.agg [(AV.int .i64 y46.From), (AV.int .i64 y46.To), (AV.str y46.Act), (AV.int .i64 y46.Module)])) (y := y46) hH30 rfl h25 h27 h60 rfl rfl rfl rfl rfl ⟨_, rfl, (.cons rfl (.cons rfl (.cons rfl (.cons rfl .nil))))⟩ ((Sh.A (f := csLink) (fun _ => ⟨(.cons (One.of Sh.I _) (.cons (One.of Sh.I _) (.cons (One.of Sh.S _) (.cons (One.of Sh.I _) .nil)))), rfl⟩)) y46 _ ⟨_, rfl, (.cons rfl (.cons rfl (.cons rfl (.cons rfl .nil))))⟩) rfl rfl (lt_b rfl) rfl rfl ?_
  intro cs61 w62 s63 h64 hH65
  change HS [] false s s63 [⟨some b24, cs61, w62⟩] at hH65
  refine AOps.nilR ?_
  refine AW.inBlock ?_
  refine AW.region ?_
  refine AOps.p rfl (rfl : _ = (AV.int .i64 i28)) ?_
  refine AOps.p rfl (rfl : _ = (AV.int .i64 (IntKind.wrap .i64 (i28 + 1)))) ?_
  refine AOps.assignR rfl rfl rfl (rfl : _ = (AV.int .i64 (IntKind.wrap .i64 (i28 + 1)))) rfl ?_
  refine AOps.nilR ?_
  cases h
  exact AW.res [(0, (AV.sl z2 f3 e4)), (3, (AV.ms true 4 b24 0 n26)), (4, (AV.int .i64 (IntKind.wrap .i64 (i28 + 1))))] [] ⟨rfl, rfl, rfl, trivial⟩ trivial (hL1 _ rfl (⟨some b24, cs61, w62⟩, b24, n26, s63) _ _ ⟨rfl, h64, (HS.sel hH65 [some 0] (by decide))⟩)
 refine AW.condF (congrArg AV.bool hc31) ?_
 refine AW.exit rfl ?_
 obtain ⟨r66, hm, hx⟩ := omap h
 clear h
 subst hx
 have hx := hR1 _ rfl
 rw [hx] at hm
 have h := hm
 exact AW.res [(3, (AV.ms true 4 b24 0 n26))] [] ⟨rfl, trivial⟩ trivial (KJ21 (out22, x23, b24, n26, s29) _ _ ⟨h25, h27, (HS.sel hH30 [some 0] (by decide)), h⟩)
theorem laws_toModule_ok {a1 : Module} {z2 : Nat} {f3 : Bool} {e4 : List AV} {s : St} (h5 : LR rLink 4 a1.Links z2 e4) {r : Module} (h : laws_toModule a1 = some r) (hs : WF s) : ACall Cf 32 [(AV.agg [(AV.int .i64 a1.Nodes), (AV.sl z2 f3 e4)])] s fun v _ s' => (rModule) r v ∧ s' = s := by
 refine ACall.boxes rfl rfl rfl ?_
 have hH0 := HS.init hs
 unfold laws_toModule at h
 refine AW.sr ?_
 refine AOps.makeR rfl rfl rfl rfl rfl rfl (rfl : _ = (AV.eptr [(AV.int .i64 a1.Nodes), (AV.sl z2 f3 e4)] 0)) ?_
 refine AOps.allocP rfl rfl rfl rfl ⟨rfl, rfl⟩ rfl ?_
 refine AOps.nilR ?_
 refine AW.sr ?_
 refine AOps.alloc1 hH0 rfl rfl rfl rfl rfl rfl ?_
 intro b6 s7 hH8
 change HS [] false s s7 [⟨some b6, [(AV.int .i64 0), (AV.sl 0 true [])], (fun _ => false)⟩] at hH8
 refine AOps.nilR ?_
 refine AW.sr ?_
 refine AOps.p rfl (rfl : _ = (AV.eptr [(AV.int .i64 a1.Nodes), (AV.sl z2 f3 e4)] 0)) ?_
 refine AOps.ldE (v := (AV.int .i64 a1.Nodes)) rfl rfl rfl rfl rfl rfl ?_
 refine AOps.p rfl (rfl : _ = (AV.ptr b6 0)) ?_
 refine AOps.stB (i := 0) (v := (AV.int .i64 a1.Nodes)) hH8 rfl rfl rfl rfl rfl rfl rfl rfl rfl (lt_b rfl) (le_b rfl) rfl ?_
 intro w9 s10 h11 h12 hH13
 change HS [] false s s10 [⟨some b6, [(AV.int .i64 a1.Nodes), (AV.sl 0 true [])], w9⟩] at hH13
 refine AOps.nilR ?_
 refine AW.sr ?_
 refine AOps.p rfl (rfl : _ = (AV.eptr [(AV.int .i64 a1.Nodes), (AV.sl z2 f3 e4)] 1)) ?_
 refine AOps.ldE (v := (AV.sl z2 f3 e4)) rfl rfl rfl rfl rfl rfl ?_
 obtain ⟨y14, h15, h⟩ := obind h
 refine AOps.callP (g := 49) (args := [(AV.sl z2 f3 e4)]) (p := (rL rLink 4) y14) rfl rfl rfl (laws_toLinkS_ok h5 h15 (HS.wf' hH13)) ?_
 intro _ o21 h16
 obtain ⟨z17, f18, e19, rfl, h20⟩ := h16
 refine AOps.p rfl (rfl : _ = (AV.ptr b6 1)) ?_
 refine AOps.stB (i := 0) (v := (AV.sl z17 f18 e19)) hH13 rfl rfl rfl rfl rfl rfl rfl rfl rfl (lt_b rfl) (le_b rfl) rfl ?_
 intro w22 s23 h24 h25 hH26
 change HS [] false s s23 [⟨some b6, [(AV.int .i64 a1.Nodes), (AV.sl z17 f18 e19)], w22⟩] at hH26
 refine AOps.nilR ?_
 refine AW.sr ?_
 refine AOps.ldB (i := 0) (v := (AV.agg [(AV.int .i64 a1.Nodes), (AV.sl z17 f18 e19)])) hH26 rfl rfl rfl rfl rfl rfl rfl rfl rfl ?_
 refine AOps.stP (v := (AV.agg [(AV.int .i64 a1.Nodes), (AV.sl z17 f18 e19)])) rfl rfl rfl rfl rfl rfl rfl rfl rfl (lt_b rfl) rfl ?_
 refine AOps.nilR ?_
 cases h
 exact AW.ret ⟨⟨_, hH26⟩, _, _, rfl, (Fin.of (p := (rModule) (⟨a1.Nodes, y14⟩ : Module)) (.A (.cons .I (.cons (.L fun _ => (.A (.cons .I (.cons .I (.cons .S (.cons .I .nil)))))) .nil))) (⟨_, rfl, (.cons rfl (.cons ⟨_, _, _, rfl, h20⟩ .nil))⟩)).2⟩
theorem laws_toModuleS_ok {a1 : List Module} {z2 : Nat} {f3 : Bool} {e4 : List AV} {s : St} (h5 : LR rModule 2 a1 z2 e4) {r : (List Module)} (h : laws_toModuleS a1 = some r) (hs : WF s) : ACall Cf 18 [(AV.sl z2 f3 e4)] s fun v _ s' => (rL rModule 2) r v ∧ s' = s := by
 refine ACall.boxes rfl rfl rfl ?_
 have hH0 := HS.init hs
 unfold laws_toModuleS at h
 refine AW.sr ?_
 refine AOps.p rfl (rfl : _ = (AV.sl 0 true [])) ?_
 refine AOps.nilR ?_
 refine AW.sr ?_
 refine AOps.p rfl (rfl : _ = (AV.sl z2 f3 e4)) ?_
 refine AOps.p rfl (len_eq h5) ?_
 obtain ⟨l6, h7, h⟩ := obind h
 refine AOps.mkS (r := rModule) hH0 rfl rfl rfl rfl rfl rfl rfl ⟨rfl, rfl, by decide⟩ h7 ⟨_, rfl, (.cons rfl (.cons ⟨_, _, _, rfl, ⟨.inr ⟨rfl, rfl⟩, .nil⟩⟩ .nil))⟩ ((Sh.A (f := csModule) (fun _ => ⟨(.cons (One.of Sh.I _) (.cons (One.of (Sh.L (r := rLink) (sz := 4)) _) .nil)), rfl⟩)) ((⟨0, ([] : List Link)⟩ : Module) : Module) _ ⟨_, rfl, (.cons rfl (.cons ⟨_, _, _, rfl, ⟨.inr ⟨rfl, rfl⟩, .nil⟩⟩ .nil))⟩) rfl ?_
 intro b8 s9 cs10 h11 hH12
 change HS [] false s s9 [⟨some b8, cs10, fun _ => false⟩] at hH12
 refine AOps.assignR rfl rfl rfl (rfl : _ = (AV.ms true 2 b8 0 (Int.toNat (a1.length : Int)))) rfl ?_
 refine AOps.nilR ?_
 refine AW.seq ?_
 refine AW.sr ?_
 refine AOps.p rfl (rfl : _ = (AV.int .i64 0)) ?_
 refine AOps.nilR ?_
 refine AW.meet (σ := (List Module) × BX × Nat × Nat × St) (fun (out13, x14, b15, n17, s19) tm os => ⟨updL tm [(3, (AV.ms true 2 b15 0 n17))], updL os [], s19⟩) (fun (out13, x14, b15, n17, s19) => (x14.b = some b15) ∧ (MS rModule true 2 out13 n17 x14.cs) ∧ (HS [] false s s19 [x14]) ∧ laws_toModuleS_J1 out13 = some r) ?_ ?_
 ·rintro ⟨out13, x14, b15, n17, s19⟩ tm os ⟨h16, h18, hH20, h⟩
  unfold laws_toModuleS_J1 at h
  refine AW.sr ?_
  refine AOps.p rfl (rfl : _ = (AV.ms true 2 b15 0 n17)) ?_
  refine AOps.assignR rfl rfl rfl (rfl : _ = (AV.ms true 2 b15 0 n17)) rfl ?_
  refine AOps.nilR ?_
  cases h
  exact AW.ret ⟨⟨_, hH20⟩, _, _, rfl, (Fin.ms (r := rModule) hH20 (i := 0) rfl h16 h18 (fun _ => (.A (.cons .I (.cons (.L fun _ => (.A (.cons .I (.cons .I (.cons .S (.cons .I .nil)))))) .nil)))) (fun h => by cases h)).2⟩
 intro KJ21
 refine AW.block ?_
 refine AW.res [(0, (AV.sl z2 f3 e4)), (3, (AV.ms true 2 b8 0 (Int.toNat (a1.length : Int)))), (4, (AV.int .i64 0))] [] ⟨rfl, rfl, rfl, trivial⟩ trivial ?_
 refine AW.loopF (σ := (List Module) × Int) (τ := BX × Nat × Nat × St) (fun (out22, i28) (x23, b24, n26, s29) => (x23.b = some b24) ∧ (MS rModule true 2 out22 n26 x23.cs) ∧ (HS [] false s s29 [x23])) (fun (out22, i28) (x23, b24, n26, s29) tm os => ⟨updL tm [(0, (AV.sl z2 f3 e4)), (3, (AV.ms true 2 b24 0 n26)), (4, (AV.int .i64 i28))], updL os [], s29⟩) ?_ (x := (l6, 0)) (y := (⟨some b8, cs10, fun _ => false⟩, b8, Int.toNat (a1.length : Int), s9)) h ⟨rfl, h11, (HS.sel hH12 [some 0] (by decide))⟩
 clear h
 rintro ⟨out22, i28⟩ ⟨x23, b24, n26, s29⟩ tm os ⟨h25, h27, hH30⟩ ee1 h hL1 hR1
 unfold laws_toModuleS_S1 at h
 dsimp only at h
 refine AW.seq ?_
 refine AW.sr ?_
 refine AOps.p rfl (rfl : _ = (AV.int .i64 i28)) ?_
 refine AOps.p rfl (rfl : _ = (AV.sl z2 f3 e4)) ?_
 refine AOps.p rfl (len_eq h5) ?_
 refine AOps.p rfl (rfl : _ = (AV.bool (decide ((i28 : Int) < (a1.length : Int))))) ?_
 refine AOps.nilR ?_
 rcases oite h with ⟨hc31, h⟩ | ⟨hc31, h⟩
 ·refine AW.condT (congrArg AV.bool hc31) ?_
  refine AW.skip ?_
  refine AW.seq ?_
  refine AW.block ?_
  refine AW.region ?_
  refine AOps.p rfl (rfl : _ = (AV.ms true 2 b24 0 n26)) ?_
  refine AOps.p rfl (rfl : _ = (AV.int .i64 i28)) ?_
  refine AOps.p rfl (rfl : _ = (AV.sl z2 f3 e4)) ?_
  refine AOps.p rfl (rfl : _ = (AV.int .i64 i28)) ?_
  obtain ⟨x32, h33, h⟩ := obind h
  obtain ⟨v36, h34, h35⟩ := idx_sl h5 h33
  obtain ⟨_, rfl, h37⟩ := h34
  obtain ⟨_, _, rfl, h38, h39⟩ := Cs_cons h37
  cases h38
  obtain ⟨_, _, rfl, h40, h41⟩ := Cs_cons h39
  obtain ⟨z42, f43, e44, rfl, h45⟩ := h40
  cases Cs_nil h41
  refine AOps.pureR rfl rfl rfl h35 rfl (rfl : _ = (AV.eptr [(AV.int .i64 x32.Nodes), (AV.sl z42 f43 e44)] 0)) ?_
  refine AOps.ldE (v := (AV.agg [(AV.int .i64 x32.Nodes), (AV.sl z42 f43 e44)])) rfl rfl rfl rfl rfl rfl ?_
  obtain ⟨y46, h47, h⟩ := obind h
  refine AOps.callP (g := 32) (args := [(AV.agg [(AV.int .i64 x32.Nodes), (AV.sl z42 f43 e44)])]) (p := (rModule) y46) rfl rfl rfl (laws_toModule_ok h45 h47 (HS.wf' hH30)) ?_
  intro _ o58 h48
  obtain ⟨_, rfl, h49⟩ := h48
  obtain ⟨_, _, rfl, h50, h51⟩ := Cs_cons h49
  cases h50
  obtain ⟨_, _, rfl, h52, h53⟩ := Cs_cons h51
  obtain ⟨z54, f55, e56, rfl, h57⟩ := h52
  cases Cs_nil h53
  obtain ⟨x59, h60, h⟩ := obind h
  refine AOps.pureR rfl rfl rfl (idx_ms h27 h60) rfl (rfl : _ = (AV.ptr b24 (0 + Int.toNat i28 * 2))) ?_
  refine AOps.stM (i := 0) (r := rModule) (v := (AV.agg [(AV.int .i64 y46.Nodes), (AV.sl z54 f55 e56)])) (y := y46) hH30 rfl h25 h27 h60 rfl rfl rfl rfl rfl ⟨_, rfl, (.cons rfl (.cons ⟨_, _, _, rfl, h57⟩ .nil))⟩ ((Sh.A (f := csModule) (fun _ => ⟨(.cons (One.of Sh.I _) (.cons (One.of (Sh.L (r := rLink) (sz := 4)) _) .nil)), rfl⟩)) y46 _ ⟨_, rfl, (.cons rfl (.cons ⟨_, _, _, rfl, h57⟩ .nil))⟩) rfl rfl (lt_b rfl) rfl rfl ?_
  intro cs61 w62 s63 h64 hH65
  change HS [] false s s63 [⟨some b24, cs61, w62⟩] at hH65
  refine AOps.nilR ?_
  refine AW.inBlock ?_
  refine AW.region ?_
  refine AOps.p rfl (rfl : _ = (AV.int .i64 i28)) ?_
  refine AOps.p rfl (rfl : _ = (AV.int .i64 (IntKind.wrap .i64 (i28 + 1)))) ?_
  refine AOps.assignR rfl rfl rfl (rfl : _ = (AV.int .i64 (IntKind.wrap .i64 (i28 + 1)))) rfl ?_
  refine AOps.nilR ?_
  cases h
  exact AW.res [(0, (AV.sl z2 f3 e4)), (3, (AV.ms true 2 b24 0 n26)), (4, (AV.int .i64 (IntKind.wrap .i64 (i28 + 1))))] [] ⟨rfl, rfl, rfl, trivial⟩ trivial (hL1 _ rfl (⟨some b24, cs61, w62⟩, b24, n26, s63) _ _ ⟨rfl, h64, (HS.sel hH65 [some 0] (by decide))⟩)
 refine AW.condF (congrArg AV.bool hc31) ?_
 refine AW.exit rfl ?_
 obtain ⟨r66, hm, hx⟩ := omap h
 clear h
 subst hx
 have hx := hR1 _ rfl
 rw [hx] at hm
 have h := hm
 exact AW.res [(3, (AV.ms true 2 b24 0 n26))] [] ⟨rfl, trivial⟩ trivial (KJ21 (out22, x23, b24, n26, s29) _ _ ⟨h25, h27, (HS.sel hH30 [some 0] (by decide)), h⟩)
theorem laws_toProgram_ok {a1 : ProgramT} {z2 : Nat} {f3 : Bool} {e4 : List AV} {s : St} (h5 : LR rModule 2 a1.Modules z2 e4) {r : ProgramT} (h : laws_toProgram a1 = some r) (hs : WF s) : ACall Cf 6 [(AV.agg [(AV.sl z2 f3 e4)])] s fun v _ s' => (rProgramT) r v ∧ s' = s := by
 refine ACall.boxes rfl rfl rfl ?_
 have hH0 := HS.init hs
 unfold laws_toProgram at h
 refine AW.sr ?_
 refine AOps.makeR rfl rfl rfl rfl rfl rfl (rfl : _ = (AV.eptr [(AV.sl z2 f3 e4)] 0)) ?_
 refine AOps.allocP rfl rfl rfl rfl ⟨rfl, rfl⟩ rfl ?_
 refine AOps.nilR ?_
 refine AW.sr ?_
 refine AOps.alloc1 hH0 rfl rfl rfl rfl rfl rfl ?_
 intro b6 s7 hH8
 change HS [] false s s7 [⟨some b6, [(AV.sl 0 true [])], (fun _ => false)⟩] at hH8
 refine AOps.nilR ?_
 refine AW.sr ?_
 refine AOps.p rfl (rfl : _ = (AV.eptr [(AV.sl z2 f3 e4)] 0)) ?_
 refine AOps.ldE (v := (AV.sl z2 f3 e4)) rfl rfl rfl rfl rfl rfl ?_
 obtain ⟨y9, h10, h⟩ := obind h
 refine AOps.callP (g := 18) (args := [(AV.sl z2 f3 e4)]) (p := (rL rModule 2) y9) rfl rfl rfl (laws_toModuleS_ok h5 h10 (HS.wf' hH8)) ?_
 intro _ o16 h11
 obtain ⟨z12, f13, e14, rfl, h15⟩ := h11
 refine AOps.p rfl (rfl : _ = (AV.ptr b6 0)) ?_
 refine AOps.stB (i := 0) (v := (AV.sl z12 f13 e14)) hH8 rfl rfl rfl rfl rfl rfl rfl rfl rfl (lt_b rfl) (le_b rfl) rfl ?_
 intro w17 s18 h19 h20 hH21
 change HS [] false s s18 [⟨some b6, [(AV.sl z12 f13 e14)], w17⟩] at hH21
 refine AOps.nilR ?_
 refine AW.sr ?_
 refine AOps.ldB (i := 0) (v := (AV.agg [(AV.sl z12 f13 e14)])) hH21 rfl rfl rfl rfl rfl rfl rfl rfl rfl ?_
 refine AOps.stP (v := (AV.agg [(AV.sl z12 f13 e14)])) rfl rfl rfl rfl rfl rfl rfl rfl rfl (lt_b rfl) rfl ?_
 refine AOps.nilR ?_
 cases h
 exact AW.ret ⟨⟨_, hH21⟩, _, _, rfl, (Fin.of (p := (rProgramT) (⟨y9⟩ : ProgramT)) (.A (.cons (.L fun _ => (.A (.cons .I (.cons (.L fun _ => (.A (.cons .I (.cons .I (.cons .S (.cons .I .nil)))))) .nil)))) .nil)) (⟨_, rfl, (.cons ⟨_, _, _, rfl, h15⟩ .nil)⟩)).2⟩
theorem spec_l00In_ok {n1 : Int} {low2 : Int} {high3 : Int} {s : St} {r : Bool} (h : spec_l00In n1 low2 high3 = some r) (hs : WF s) : ACall Cf 25 [(AV.int .i64 n1), (AV.int .i64 low2), (AV.int .i64 high3)] s fun v _ s' => (rB) r v ∧ s' = s := by
 refine ACall.pure rfl rfl rfl .B ?_
 have hWF := hs.lo'
 unfold spec_l00In at h
 refine AW.sr ?_
 refine AOps.p rfl (rfl : _ = (AV.bool false)) ?_
 refine AOps.nilR ?_
 refine AW.sr ?_
 refine AOps.p rfl (rfl : _ = (AV.int .i64 n1)) ?_
 refine AOps.p rfl (rfl : _ = (AV.int .i64 low2)) ?_
 refine AOps.p rfl (rfl : _ = (AV.bool (decide ((n1 : Int) ≥ low2)))) ?_
 refine AOps.p rfl (rfl : _ = (AV.bool (decide ((n1 : Int) ≥ low2)))) ?_
 refine AOps.split 4 (fun f' => ∃ tm' os', f' = ⟨updL tm' [(14, (AV.bool ((decide ((n1 : Int) ≥ low2)) && (decide ((n1 : Int) ≤ high3)))))], updL os' [], { s with lo := s.n }⟩) ?_ ?_
 ·rcases Bool.eq_false_or_eq_true (decide ((n1 : Int) ≥ low2)) with hc4 | hc4
  ·refine AOps.know (d := 10) rfl hc4 ?_
   refine AOps.p rfl (rfl : _ = (AV.int .i64 n1)) ?_
   refine AOps.p rfl (rfl : _ = (AV.int .i64 high3)) ?_
   refine AOps.p rfl (rfl : _ = (AV.bool (decide ((n1 : Int) ≤ high3)))) ?_
   refine AOps.p rfl (rfl : _ = (AV.bool (decide ((n1 : Int) ≤ high3)))) ?_
   refine AOps.resR [(14, (AV.bool ((decide ((n1 : Int) ≥ low2)) && (decide ((n1 : Int) ≤ high3)))))] [] ?_ ?_ _ ⟨_, _, rfl⟩
   ·exact ⟨congrArg AV.bool (and_t hc4), trivial⟩
   exact trivial
  ·refine AOps.know (d := 10) rfl hc4 ?_
   refine AOps.skipR rfl rfl ?_
   refine AOps.skipR rfl rfl ?_
   refine AOps.skipR rfl rfl ?_
   refine AOps.p rfl (rfl : _ = (AV.bool false)) ?_
   refine AOps.resR [(14, (AV.bool ((decide ((n1 : Int) ≥ low2)) && (decide ((n1 : Int) ≤ high3)))))] [] ?_ ?_ _ ⟨_, _, rfl⟩
   ·exact ⟨congrArg AV.bool (and_f hc4), trivial⟩
   exact trivial
 rintro _ ⟨tm, os, rfl⟩
 refine AOps.assignR rfl rfl rfl (rfl : _ = (AV.bool ((decide ((n1 : Int) ≥ low2)) && (decide ((n1 : Int) ≤ high3))))) rfl ?_
 refine AOps.nilR ?_
 cases h
 exact AW.ret ⟨rfl, _, _, rfl, rfl⟩
theorem spec_l01Call_ok {b1 : Int} {s : St} {r : Bool} (h : spec_l01Call b1 = some r) (hs : WF s) : ACall Cf 43 [(AV.int .u8 b1)] s fun v _ s' => (rB) r v ∧ s' = s := by
 refine ACall.pure rfl rfl rfl .B ?_
 have hWF := hs.lo'
 unfold spec_l01Call at h
 refine AW.sr ?_
 refine AOps.p rfl (rfl : _ = (AV.bool false)) ?_
 refine AOps.nilR ?_
 refine AW.sr ?_
 refine AOps.p rfl (rfl : _ = (AV.int .u8 b1)) ?_
 refine AOps.p rfl (rfl : _ = (AV.bool (b1 == 40))) ?_
 refine AOps.p rfl (rfl : _ = (AV.bool (b1 == 40))) ?_
 refine AOps.split 3 (fun f' => ∃ tm' os', f' = ⟨updL tm' [(8, (AV.bool ((b1 == 40) || (b1 == 91))))], updL os' [], { s with lo := s.n }⟩) ?_ ?_
 ·rcases Bool.eq_false_or_eq_true (b1 == 40) with hc2 | hc2
  ·refine AOps.know (d := 5) rfl hc2 ?_
   refine AOps.skipR rfl rfl ?_
   refine AOps.skipR rfl rfl ?_
   refine AOps.p rfl (rfl : _ = (AV.bool true)) ?_
   refine AOps.resR [(8, (AV.bool ((b1 == 40) || (b1 == 91))))] [] ?_ ?_ _ ⟨_, _, rfl⟩
   ·exact ⟨congrArg AV.bool (or_t hc2), trivial⟩
   exact trivial
  ·refine AOps.know (d := 5) rfl hc2 ?_
   refine AOps.p rfl (rfl : _ = (AV.int .u8 b1)) ?_
   refine AOps.p rfl (rfl : _ = (AV.bool (b1 == 91))) ?_
   refine AOps.p rfl (rfl : _ = (AV.bool (b1 == 91))) ?_
   refine AOps.resR [(8, (AV.bool ((b1 == 40) || (b1 == 91))))] [] ?_ ?_ _ ⟨_, _, rfl⟩
   ·exact ⟨congrArg AV.bool (or_f hc2), trivial⟩
   exact trivial
 rintro _ ⟨tm, os, rfl⟩
 refine AOps.assignR rfl rfl rfl (rfl : _ = (AV.bool ((b1 == 40) || (b1 == 91)))) rfl ?_
 refine AOps.nilR ?_
 cases h
 exact AW.ret ⟨rfl, _, _, rfl, rfl⟩
theorem spec_l01Return_ok {b1 : Int} {s : St} {r : Bool} (h : spec_l01Return b1 = some r) (hs : WF s) : ACall Cf 44 [(AV.int .u8 b1)] s fun v _ s' => (rB) r v ∧ s' = s := by
 refine ACall.pure rfl rfl rfl .B ?_
 have hWF := hs.lo'
 unfold spec_l01Return at h
 refine AW.sr ?_
 refine AOps.p rfl (rfl : _ = (AV.bool false)) ?_
 refine AOps.nilR ?_
 refine AW.sr ?_
 refine AOps.p rfl (rfl : _ = (AV.int .u8 b1)) ?_
 refine AOps.p rfl (rfl : _ = (AV.bool (b1 == 41))) ?_
 refine AOps.p rfl (rfl : _ = (AV.bool (b1 == 41))) ?_
 refine AOps.split 3 (fun f' => ∃ tm' os', f' = ⟨updL tm' [(8, (AV.bool ((b1 == 41) || (b1 == 93))))], updL os' [], { s with lo := s.n }⟩) ?_ ?_
 ·rcases Bool.eq_false_or_eq_true (b1 == 41) with hc2 | hc2
  ·refine AOps.know (d := 5) rfl hc2 ?_
   refine AOps.skipR rfl rfl ?_
   refine AOps.skipR rfl rfl ?_
   refine AOps.p rfl (rfl : _ = (AV.bool true)) ?_
   refine AOps.resR [(8, (AV.bool ((b1 == 41) || (b1 == 93))))] [] ?_ ?_ _ ⟨_, _, rfl⟩
   ·exact ⟨congrArg AV.bool (or_t hc2), trivial⟩
   exact trivial
  ·refine AOps.know (d := 5) rfl hc2 ?_
   refine AOps.p rfl (rfl : _ = (AV.int .u8 b1)) ?_
   refine AOps.p rfl (rfl : _ = (AV.bool (b1 == 93))) ?_
   refine AOps.p rfl (rfl : _ = (AV.bool (b1 == 93))) ?_
   refine AOps.resR [(8, (AV.bool ((b1 == 41) || (b1 == 93))))] [] ?_ ?_ _ ⟨_, _, rfl⟩
   ·exact ⟨congrArg AV.bool (or_f hc2), trivial⟩
   exact trivial
 rintro _ ⟨tm, os, rfl⟩
 refine AOps.assignR rfl rfl rfl (rfl : _ = (AV.bool ((b1 == 41) || (b1 == 93)))) rfl ?_
 refine AOps.nilR ?_
 cases h
 exact AW.ret ⟨rfl, _, _, rfl, rfl⟩
theorem spec_l06Brackets_ok {p0_1 : List UInt8} {s : St} {r : Bool} (h : spec_l06Brackets p0_1 = some r) (hs : WF s) : ACall Cf 26 [(AV.str p0_1)] s fun v _ s' => (rB) r v ∧ s' = s := by
 refine ACall.pure rfl rfl rfl .B ?_
 have hWF := hs.lo'
 unfold spec_l06Brackets at h
 refine AW.sr ?_
 refine AOps.p rfl (rfl : _ = (AV.bool false)) ?_
 refine AOps.nilR ?_
 refine AW.sr ?_
 refine AOps.p rfl (rfl : _ = (AV.str p0_1)) ?_
 refine AOps.p rfl (rfl : _ = (AV.int .i64 (p0_1.length : Int))) ?_
 refine AOps.p rfl (rfl : _ = (AV.bool ((p0_1.length : Int) == 2))) ?_
 refine AOps.p rfl (rfl : _ = (AV.bool ((p0_1.length : Int) == 2))) ?_
 obtain ⟨b3, hb, h⟩ := obind h
 refine AOps.split 4 (fun f' => ∃ tm' os', f' = ⟨updL tm' [(0, (AV.str p0_1)), (10, (AV.bool b3))], updL os' [], { s with lo := s.n }⟩) ?_ ?_
 ·rcases oite hb with ⟨hc2, hb⟩ | ⟨hc2, hb⟩
  ·have h := hb
   refine AOps.know (d := 6) rfl hc2 ?_
   refine AOps.p rfl (rfl : _ = (AV.str p0_1)) ?_
   obtain ⟨c4, h5, h⟩ := obind h
   refine AOps.pureR rfl rfl rfl (chr_str h5) rfl (rfl : _ = (AV.int .u8 c4)) ?_
   obtain ⟨y6, h7, h⟩ := obind h
   refine AOps.callP (g := 43) (args := [(AV.int .u8 c4)]) (p := (rB) y6) rfl rfl rfl (spec_l01Call_ok  h7 hWF) ?_
   intro _ o9 h8
   cases h8
   refine AOps.p rfl (rfl : _ = (AV.bool y6)) ?_
   refine AOps.resR [(0, (AV.str p0_1)), (10, (AV.bool b3))] [] ?_ ?_ _ ⟨_, _, rfl⟩
   ·exact ⟨rfl, congrArg AV.bool (Option.some.inj h), trivial⟩
   exact trivial
  ·refine AOps.know (d := 6) rfl hc2 ?_
   refine AOps.skipR rfl rfl ?_
   refine AOps.skipR rfl rfl ?_
   refine AOps.skipR rfl rfl ?_
   refine AOps.p rfl (rfl : _ = (AV.bool false)) ?_
   refine AOps.resR [(0, (AV.str p0_1)), (10, (AV.bool b3))] [] ?_ ?_ _ ⟨_, _, rfl⟩
   ·exact ⟨rfl, congrArg AV.bool (Option.some.inj hb), trivial⟩
   exact trivial
 rintro _ ⟨tm, os, rfl⟩
 refine AOps.p rfl (rfl : _ = (AV.bool b3)) ?_
 obtain ⟨b11, hb, h⟩ := obind h
 refine AOps.split 4 (fun f' => ∃ tm' os', f' = ⟨updL tm' [(15, (AV.bool b11))], updL os' [], { s with lo := s.n }⟩) ?_ ?_
 ·rcases oite hb with ⟨hc10, hb⟩ | ⟨hc10, hb⟩
  ·have h := hb
   refine AOps.know (d := 11) rfl hc10 ?_
   refine AOps.p rfl (rfl : _ = (AV.str p0_1)) ?_
   obtain ⟨c12, h13, h⟩ := obind h
   refine AOps.pureR rfl rfl rfl (chr_str h13) rfl (rfl : _ = (AV.int .u8 c12)) ?_
   obtain ⟨y14, h15, h⟩ := obind h
   refine AOps.callP (g := 44) (args := [(AV.int .u8 c12)]) (p := (rB) y14) rfl rfl rfl (spec_l01Return_ok  h15 hWF) ?_
   intro _ o17 h16
   cases h16
   refine AOps.p rfl (rfl : _ = (AV.bool y14)) ?_
   refine AOps.resR [(15, (AV.bool b11))] [] ?_ ?_ _ ⟨_, _, rfl⟩
   ·exact ⟨congrArg AV.bool (Option.some.inj h), trivial⟩
   exact trivial
  ·refine AOps.know (d := 11) rfl hc10 ?_
   refine AOps.skipR rfl rfl ?_
   refine AOps.skipR rfl rfl ?_
   refine AOps.skipR rfl rfl ?_
   refine AOps.p rfl (rfl : _ = (AV.bool false)) ?_
   refine AOps.resR [(15, (AV.bool b11))] [] ?_ ?_ _ ⟨_, _, rfl⟩
   ·exact ⟨congrArg AV.bool (Option.some.inj hb), trivial⟩
   exact trivial
 rintro _ ⟨tm, os, rfl⟩
 refine AOps.assignR rfl rfl rfl (rfl : _ = (AV.bool b11)) rfl ?_
 refine AOps.nilR ?_
 cases h
 exact AW.ret ⟨rfl, _, _, rfl, rfl⟩
theorem spec_l07Inner_ok {l1 : Link} {s : St} {r : Bool} (h : spec_l07Inner l1 = some r) (hs : WF s) : ACall Cf 27 [(AV.eptr [(AV.int .i64 l1.From), (AV.int .i64 l1.To), (AV.str l1.Act), (AV.int .i64 l1.Module)] 0)] s fun v _ s' => (rB) r v ∧ s' = s := by
 refine ACall.pure rfl rfl rfl .B ?_
 have hWF := hs.lo'
 unfold spec_l07Inner at h
 refine AW.sr ?_
 refine AOps.p rfl (rfl : _ = (AV.bool false)) ?_
 refine AOps.nilR ?_
 refine AW.sr ?_
 refine AOps.p rfl (rfl : _ = (AV.eptr [(AV.int .i64 l1.From), (AV.int .i64 l1.To), (AV.str l1.Act), (AV.int .i64 l1.Module)] 0)) ?_
 refine AOps.p rfl (rfl : _ = (AV.eptr [(AV.int .i64 l1.From), (AV.int .i64 l1.To), (AV.str l1.Act), (AV.int .i64 l1.Module)] 0)) ?_
 refine AOps.p rfl (rfl : _ = (AV.eptr [(AV.int .i64 l1.From), (AV.int .i64 l1.To), (AV.str l1.Act), (AV.int .i64 l1.Module)] 2)) ?_
 refine AOps.ldE (v := (AV.str l1.Act)) rfl rfl rfl rfl rfl rfl ?_
 refine AOps.p rfl (rfl : _ = (AV.int .i64 (l1.Act.length : Int))) ?_
 refine AOps.p rfl (rfl : _ = (AV.bool ((l1.Act.length : Int) == 1))) ?_
 refine AOps.assignR rfl rfl rfl (rfl : _ = (AV.bool ((l1.Act.length : Int) == 1))) rfl ?_
 refine AOps.nilR ?_
 cases h
 exact AW.ret ⟨rfl, _, _, rfl, rfl⟩
theorem spec_l07Ok_ok {p1 : ProgramT} {z2 : Nat} {f3 : Bool} {e4 : List AV} {s : St} (h5 : LR rModule 2 p1.Modules z2 e4) {r : Bool} (h : spec_l07Ok p1 = some r) (hs : WF s) : ACall Cf 14 [(AV.eptr [(AV.sl z2 f3 e4)] 0)] s fun v _ s' => (rB) r v ∧ s' = s := by
 refine ACall.pure rfl rfl rfl .B ?_
 have hWF := hs.lo'
 unfold spec_l07Ok at h
 refine AW.sr ?_
 refine AOps.p rfl (rfl : _ = (AV.bool false)) ?_
 refine AOps.nilR ?_
 refine AW.sr ?_
 refine AOps.p rfl (rfl : _ = (AV.eptr [(AV.sl z2 f3 e4)] 0)) ?_
 refine AOps.p rfl (rfl : _ = (AV.eptr [(AV.sl z2 f3 e4)] 0)) ?_
 refine AOps.p rfl (rfl : _ = (AV.eptr [(AV.sl z2 f3 e4)] 0)) ?_
 refine AOps.ldE (v := (AV.sl z2 f3 e4)) rfl rfl rfl rfl rfl rfl ?_
 refine AOps.p rfl (len_eq h5) ?_
 refine AOps.assignR rfl rfl rfl (rfl : _ = (AV.int .i64 (p1.Modules.length : Int))) rfl ?_
 refine AOps.nilR ?_
 refine AW.seq ?_
 refine AW.sr ?_
 refine AOps.p rfl (rfl : _ = (AV.int .i64 (p1.Modules.length : Int))) ?_
 obtain ⟨y6, h7, h⟩ := obind h
 refine AOps.callP (g := 25) (args := [(AV.int .i64 (p1.Modules.length : Int)), (AV.int .i64 1), (AV.int .i64 4)]) (p := (rB) y6) rfl rfl rfl (spec_l00In_ok  h7 hWF) ?_
 intro _ o9 h8
 cases h8
 refine AOps.p rfl (rfl : _ = (AV.bool (!y6))) ?_
 refine AOps.nilR ?_
 rcases oite h with ⟨hc10, h⟩ | ⟨hc10, h⟩
 ·refine AW.condT (congrArg AV.bool hc10) ?_
  refine AW.sr ?_
  refine AOps.p rfl (rfl : _ = (AV.bool false)) ?_
  refine AOps.nilR ?_
  cases h
  exact AW.ret ⟨rfl, _, _, rfl, rfl⟩
 refine AW.condF (congrArg AV.bool hc10) ?_
 refine AW.skip ?_
 refine AW.seq ?_
 refine AW.sr ?_
 refine AOps.p rfl (rfl : _ = (AV.int .i64 0)) ?_
 refine AOps.nilR ?_
 refine AW.meet (σ := Unit) (fun _ tm os => ⟨updL tm [], updL os [], { s with lo := s.n }⟩) (fun _ => spec_l07Ok_J1 = some r) ?_ ?_
 ·rintro _ tm os h
  unfold spec_l07Ok_J1 at h
  refine AW.sr ?_
  refine AOps.p rfl (rfl : _ = (AV.bool true)) ?_
  refine AOps.nilR ?_
  cases h
  exact AW.ret ⟨rfl, _, _, rfl, rfl⟩
 intro KJ11
 refine AW.block ?_
 refine AW.res [(0, (AV.eptr [(AV.sl z2 f3 e4)] 0)), (3, (AV.int .i64 (p1.Modules.length : Int))), (4, (AV.int .i64 0))] [] ⟨rfl, rfl, rfl, trivial⟩ trivial ?_
 refine AW.loopF (σ := Int) (τ := Unit) (fun t12 _ => True) (fun t12 _ tm os => ⟨updL tm [(0, (AV.eptr [(AV.sl z2 f3 e4)] 0)), (3, (AV.int .i64 (p1.Modules.length : Int))), (4, (AV.int .i64 t12))], updL os [], { s with lo := s.n }⟩) ?_ (x := (0)) (y := ()) h trivial
 clear h
 rintro t12 _ tm os - ee1 h hL1 hR1
 unfold spec_l07Ok_S1 at h
 refine AW.seq ?_
 refine AW.sr ?_
 refine AOps.p rfl (rfl : _ = (AV.int .i64 t12)) ?_
 refine AOps.p rfl (rfl : _ = (AV.int .i64 (p1.Modules.length : Int))) ?_
 refine AOps.p rfl (rfl : _ = (AV.bool (decide ((t12 : Int) < (p1.Modules.length : Int))))) ?_
 refine AOps.nilR ?_
 rcases oite h with ⟨hc13, h⟩ | ⟨hc13, h⟩
 ·refine AW.condT (congrArg AV.bool hc13) ?_
  refine AW.skip ?_
  refine AW.seq ?_
  refine AW.block ?_
  refine AW.sr ?_
  refine AOps.p rfl (rfl : _ = (AV.eptr [(AV.sl z2 f3 e4)] 0)) ?_
  refine AOps.p rfl (rfl : _ = (AV.eptr [(AV.sl z2 f3 e4)] 0)) ?_
  refine AOps.p rfl (rfl : _ = (AV.eptr [(AV.sl z2 f3 e4)] 0)) ?_
  refine AOps.ldE (v := (AV.sl z2 f3 e4)) rfl rfl rfl rfl rfl rfl ?_
  refine AOps.p rfl (rfl : _ = (AV.int .i64 t12)) ?_
  obtain ⟨x14, h15, h⟩ := obind h
  obtain ⟨v18, h16, h17⟩ := idx_sl h5 h15
  obtain ⟨_, rfl, h19⟩ := h16
  obtain ⟨_, _, rfl, h20, h21⟩ := Cs_cons h19
  cases h20
  obtain ⟨_, _, rfl, h22, h23⟩ := Cs_cons h21
  obtain ⟨z24, f25, e26, rfl, h27⟩ := h22
  cases Cs_nil h23
  refine AOps.pureR rfl rfl rfl h17 rfl (rfl : _ = (AV.eptr [(AV.int .i64 x14.Nodes), (AV.sl z24 f25 e26)] 0)) ?_
  refine AOps.assignR rfl rfl rfl (rfl : _ = (AV.eptr [(AV.int .i64 x14.Nodes), (AV.sl z24 f25 e26)] 0)) rfl ?_
  refine AOps.nilR ?_
  refine AW.seq ?_
  refine AW.sr ?_
  refine AOps.p rfl (rfl : _ = (AV.eptr [(AV.int .i64 x14.Nodes), (AV.sl z24 f25 e26)] 0)) ?_
  refine AOps.p rfl (rfl : _ = (AV.eptr [(AV.int .i64 x14.Nodes), (AV.sl z24 f25 e26)] 0)) ?_
  refine AOps.p rfl (rfl : _ = (AV.eptr [(AV.int .i64 x14.Nodes), (AV.sl z24 f25 e26)] 0)) ?_
  refine AOps.ldE (v := (AV.int .i64 x14.Nodes)) rfl rfl rfl rfl rfl rfl ?_
  obtain ⟨y28, h29, h⟩ := obind h
  refine AOps.callP (g := 25) (args := [(AV.int .i64 x14.Nodes), (AV.int .i64 1), (AV.int .i64 8)]) (p := (rB) y28) rfl rfl rfl (spec_l00In_ok  h29 hWF) ?_
  intro _ o31 h30
  cases h30
  refine AOps.p rfl (rfl : _ = (AV.bool (!y28))) ?_
  refine AOps.p rfl (rfl : _ = (AV.bool (!y28))) ?_
  refine AOps.split 7 (fun f' => ∃ tm' os', f' = ⟨updL tm' [(0, (AV.eptr [(AV.sl z2 f3 e4)] 0)), (3, (AV.int .i64 (p1.Modules.length : Int))), (4, (AV.int .i64 t12)), (5, (AV.eptr [(AV.int .i64 x14.Nodes), (AV.sl z24 f25 e26)] 0)), (40, (AV.bool ((!y28) || (decide (((x14.Links.length : Int) : Int) > 12)))))], updL os' [], { s with lo := s.n }⟩) ?_ ?_
  ·rcases Bool.eq_false_or_eq_true (!y28) with hc32 | hc32
   ·refine AOps.know (d := 33) rfl hc32 ?_
    refine AOps.skipR rfl rfl ?_
    refine AOps.skipR rfl rfl ?_
    refine AOps.skipR rfl rfl ?_
    refine AOps.skipR rfl rfl ?_
    refine AOps.skipR rfl rfl ?_
    refine AOps.skipR rfl rfl ?_
    refine AOps.p rfl (rfl : _ = (AV.bool true)) ?_
    refine AOps.resR [(0, (AV.eptr [(AV.sl z2 f3 e4)] 0)), (3, (AV.int .i64 (p1.Modules.length : Int))), (4, (AV.int .i64 t12)), (5, (AV.eptr [(AV.int .i64 x14.Nodes), (AV.sl z24 f25 e26)] 0)), (40, (AV.bool ((!y28) || (decide (((x14.Links.length : Int) : Int) > 12)))))] [] ?_ ?_ _ ⟨_, _, rfl⟩
    ·exact ⟨rfl, rfl, rfl, rfl, congrArg AV.bool (or_t hc32), trivial⟩
    exact trivial
   ·refine AOps.know (d := 33) rfl hc32 ?_
    refine AOps.p rfl (rfl : _ = (AV.eptr [(AV.int .i64 x14.Nodes), (AV.sl z24 f25 e26)] 0)) ?_
    refine AOps.p rfl (rfl : _ = (AV.eptr [(AV.int .i64 x14.Nodes), (AV.sl z24 f25 e26)] 0)) ?_
    refine AOps.p rfl (rfl : _ = (AV.eptr [(AV.int .i64 x14.Nodes), (AV.sl z24 f25 e26)] 1)) ?_
    refine AOps.ldE (v := (AV.sl z24 f25 e26)) rfl rfl rfl rfl rfl rfl ?_
    refine AOps.p rfl (len_eq h27) ?_
    refine AOps.p rfl (rfl : _ = (AV.bool (decide (((x14.Links.length : Int) : Int) > 12)))) ?_
    refine AOps.p rfl (rfl : _ = (AV.bool (decide (((x14.Links.length : Int) : Int) > 12)))) ?_
    refine AOps.resR [(0, (AV.eptr [(AV.sl z2 f3 e4)] 0)), (3, (AV.int .i64 (p1.Modules.length : Int))), (4, (AV.int .i64 t12)), (5, (AV.eptr [(AV.int .i64 x14.Nodes), (AV.sl z24 f25 e26)] 0)), (40, (AV.bool ((!y28) || (decide (((x14.Links.length : Int) : Int) > 12)))))] [] ?_ ?_ _ ⟨_, _, rfl⟩
    ·exact ⟨rfl, rfl, rfl, rfl, congrArg AV.bool (or_f hc32), trivial⟩
    exact trivial
  rintro _ ⟨tm, os, rfl⟩
  refine AOps.nilR ?_
  rcases oite h with ⟨hc33, h⟩ | ⟨hc33, h⟩
  ·refine AW.condT (congrArg AV.bool hc33) ?_
   refine AW.sr ?_
   refine AOps.p rfl (rfl : _ = (AV.bool false)) ?_
   refine AOps.nilR ?_
   cases h
   have hr := hR1 _ rfl
   subst hr
   exact AW.ret ⟨rfl, _, _, rfl, rfl⟩
  refine AW.condF (congrArg AV.bool hc33) ?_
  refine AW.skip ?_
  refine AW.sr ?_
  refine AOps.p rfl (rfl : _ = (AV.int .i64 0)) ?_
  refine AOps.nilR ?_
  refine AW.meet (σ := Unit) (fun _ tm os => ⟨updL tm [(0, (AV.eptr [(AV.sl z2 f3 e4)] 0)), (3, (AV.int .i64 (p1.Modules.length : Int))), (4, (AV.int .i64 t12))], updL os [], { s with lo := s.n }⟩) (fun _ => spec_l07Ok_J2 t12 = some ee1) ?_ ?_
  ·rintro _ tm os h
   unfold spec_l07Ok_J2 at h
   refine AW.inBlock ?_
   refine AW.region ?_
   refine AOps.p rfl (rfl : _ = (AV.int .i64 t12)) ?_
   refine AOps.p rfl (rfl : _ = (AV.int .i64 (IntKind.wrap .i64 (t12 + 1)))) ?_
   refine AOps.assignR rfl rfl rfl (rfl : _ = (AV.int .i64 (IntKind.wrap .i64 (t12 + 1)))) rfl ?_
   refine AOps.nilR ?_
   cases h
   exact AW.res [(0, (AV.eptr [(AV.sl z2 f3 e4)] 0)), (3, (AV.int .i64 (p1.Modules.length : Int))), (4, (AV.int .i64 (IntKind.wrap .i64 (t12 + 1))))] [] ⟨rfl, rfl, rfl, trivial⟩ trivial (hL1 _ rfl () _ _ trivial)
  intro KJ34
  refine AW.block ?_
  refine AW.res [(0, (AV.eptr [(AV.sl z2 f3 e4)] 0)), (3, (AV.int .i64 (p1.Modules.length : Int))), (4, (AV.int .i64 t12)), (5, (AV.eptr [(AV.int .i64 x14.Nodes), (AV.sl z24 f25 e26)] 0)), (6, (AV.int .i64 0))] [] ⟨rfl, rfl, rfl, rfl, rfl, trivial⟩ trivial ?_
  refine AW.loopF (σ := Int) (τ := Unit) (fun t35 _ => True) (fun t35 _ tm os => ⟨updL tm [(0, (AV.eptr [(AV.sl z2 f3 e4)] 0)), (3, (AV.int .i64 (p1.Modules.length : Int))), (4, (AV.int .i64 t12)), (5, (AV.eptr [(AV.int .i64 x14.Nodes), (AV.sl z24 f25 e26)] 0)), (6, (AV.int .i64 t35))], updL os [], { s with lo := s.n }⟩) ?_ (x := (0)) (y := ()) h trivial
  clear h
  rintro t35 _ tm os - ee2 h hL2 hR2
  unfold spec_l07Ok_S2 at h
  refine AW.seq ?_
  refine AW.sr ?_
  refine AOps.p rfl (rfl : _ = (AV.int .i64 t35)) ?_
  refine AOps.p rfl (rfl : _ = (AV.eptr [(AV.int .i64 x14.Nodes), (AV.sl z24 f25 e26)] 0)) ?_
  refine AOps.p rfl (rfl : _ = (AV.eptr [(AV.int .i64 x14.Nodes), (AV.sl z24 f25 e26)] 0)) ?_
  refine AOps.p rfl (rfl : _ = (AV.eptr [(AV.int .i64 x14.Nodes), (AV.sl z24 f25 e26)] 1)) ?_
  refine AOps.ldE (v := (AV.sl z24 f25 e26)) rfl rfl rfl rfl rfl rfl ?_
  refine AOps.p rfl (len_eq h27) ?_
  refine AOps.p rfl (rfl : _ = (AV.bool (decide ((t35 : Int) < (x14.Links.length : Int))))) ?_
  refine AOps.nilR ?_
  rcases oite h with ⟨hc36, h⟩ | ⟨hc36, h⟩
  ·refine AW.condT (congrArg AV.bool hc36) ?_
   refine AW.skip ?_
   refine AW.seq ?_
   refine AW.block ?_
   refine AW.sr ?_
   refine AOps.p rfl (rfl : _ = (AV.eptr [(AV.int .i64 x14.Nodes), (AV.sl z24 f25 e26)] 0)) ?_
   refine AOps.p rfl (rfl : _ = (AV.eptr [(AV.int .i64 x14.Nodes), (AV.sl z24 f25 e26)] 0)) ?_
   refine AOps.p rfl (rfl : _ = (AV.eptr [(AV.int .i64 x14.Nodes), (AV.sl z24 f25 e26)] 1)) ?_
   refine AOps.ldE (v := (AV.sl z24 f25 e26)) rfl rfl rfl rfl rfl rfl ?_
   refine AOps.p rfl (rfl : _ = (AV.int .i64 t35)) ?_
   obtain ⟨x37, h38, h⟩ := obind h
   obtain ⟨v41, h39, h40⟩ := idx_sl h27 h38
   obtain ⟨_, rfl, h42⟩ := h39
   obtain ⟨_, _, rfl, h43, h44⟩ := Cs_cons h42
   cases h43
   obtain ⟨_, _, rfl, h45, h46⟩ := Cs_cons h44
   cases h45
   obtain ⟨_, _, rfl, h47, h48⟩ := Cs_cons h46
   cases h47
   obtain ⟨_, _, rfl, h49, h50⟩ := Cs_cons h48
   cases h49
   cases Cs_nil h50
   refine AOps.pureR rfl rfl rfl h40 rfl (rfl : _ = (AV.eptr [(AV.int .i64 x37.From), (AV.int .i64 x37.To), (AV.str x37.Act), (AV.int .i64 x37.Module)] 0)) ?_
   refine AOps.assignR rfl rfl rfl (rfl : _ = (AV.eptr [(AV.int .i64 x37.From), (AV.int .i64 x37.To), (AV.str x37.Act), (AV.int .i64 x37.Module)] 0)) rfl ?_
   refine AOps.nilR ?_
   refine AW.seq ?_
   refine AW.sr ?_
   refine AOps.p rfl (rfl : _ = (AV.eptr [(AV.int .i64 x37.From), (AV.int .i64 x37.To), (AV.str x37.Act), (AV.int .i64 x37.Module)] 0)) ?_
   refine AOps.p rfl (rfl : _ = (AV.eptr [(AV.int .i64 x37.From), (AV.int .i64 x37.To), (AV.str x37.Act), (AV.int .i64 x37.Module)] 0)) ?_
   refine AOps.p rfl (rfl : _ = (AV.eptr [(AV.int .i64 x37.From), (AV.int .i64 x37.To), (AV.str x37.Act), (AV.int .i64 x37.Module)] 0)) ?_
   refine AOps.ldE (v := (AV.int .i64 x37.From)) rfl rfl rfl rfl rfl rfl ?_
   refine AOps.p rfl (rfl : _ = (AV.eptr [(AV.int .i64 x14.Nodes), (AV.sl z24 f25 e26)] 0)) ?_
   refine AOps.p rfl (rfl : _ = (AV.eptr [(AV.int .i64 x14.Nodes), (AV.sl z24 f25 e26)] 0)) ?_
   refine AOps.p rfl (rfl : _ = (AV.eptr [(AV.int .i64 x14.Nodes), (AV.sl z24 f25 e26)] 0)) ?_
   refine AOps.ldE (v := (AV.int .i64 x14.Nodes)) rfl rfl rfl rfl rfl rfl ?_
   refine AOps.p rfl (rfl : _ = (AV.int .i64 (IntKind.wrap .i64 (x14.Nodes - 1)))) ?_
   obtain ⟨y51, h52, h⟩ := obind h
   refine AOps.callDP (g := 25) (args := [(AV.int .i64 x37.From), (AV.int .i64 0), (AV.int .i64 (IntKind.wrap .i64 (x14.Nodes - 1)))]) (p := (rB) y51) rfl rfl rfl (spec_l00In_ok  h52 hWF.still) (fun v hv => Nice.pure (k := FINK) (p := (rB) y51) .B _ v hv) ?_
   intro _ o54 h53
   cases h53
   refine AOps.p rfl (rfl : _ = (AV.bool (!y51))) ?_
   refine AOps.p rfl (rfl : _ = (AV.bool (!y51))) ?_
   obtain ⟨b56, hb, h⟩ := obind h
   refine AOps.split 12 (fun f' => ∃ tm' os', f' = ⟨updL tm' [(0, (AV.eptr [(AV.sl z2 f3 e4)] 0)), (3, (AV.int .i64 (p1.Modules.length : Int))), (4, (AV.int .i64 t12)), (5, (AV.eptr [(AV.int .i64 x14.Nodes), (AV.sl z24 f25 e26)] 0)), (6, (AV.int .i64 t35)), (7, (AV.eptr [(AV.int .i64 x37.From), (AV.int .i64 x37.To), (AV.str x37.Act), (AV.int .i64 x37.Module)] 0)), (79, (AV.bool b56))], updL os' [], { s with lo := s.n }⟩) ?_ ?_
   ·rcases oite hb with ⟨hc55, hb⟩ | ⟨hc55, hb⟩
    ·refine AOps.know (d := 67) rfl hc55 ?_
     refine AOps.skipR rfl rfl ?_
     refine AOps.skipR rfl rfl ?_
     refine AOps.skipR rfl rfl ?_
     refine AOps.skipR rfl rfl ?_
     refine AOps.skipR rfl rfl ?_
     refine AOps.skipR rfl rfl ?_
     refine AOps.skipR rfl rfl ?_
     refine AOps.skipR rfl rfl ?_
     refine AOps.skipR rfl rfl ?_
     refine AOps.skipR rfl rfl ?_
     refine AOps.skipR rfl rfl ?_
     refine AOps.p rfl (rfl : _ = (AV.bool true)) ?_
     refine AOps.resR [(0, (AV.eptr [(AV.sl z2 f3 e4)] 0)), (3, (AV.int .i64 (p1.Modules.length : Int))), (4, (AV.int .i64 t12)), (5, (AV.eptr [(AV.int .i64 x14.Nodes), (AV.sl z24 f25 e26)] 0)), (6, (AV.int .i64 t35)), (7, (AV.eptr [(AV.int .i64 x37.From), (AV.int .i64 x37.To), (AV.str x37.Act), (AV.int .i64 x37.Module)] 0)), (79, (AV.bool b56))] [] ?_ ?_ _ ⟨_, _, rfl⟩
     ·exact ⟨rfl, rfl, rfl, rfl, rfl, rfl, congrArg AV.bool (Option.some.inj hb), trivial⟩
     exact trivial
    ·have h := hb
     refine AOps.know (d := 67) rfl hc55 ?_
     refine AOps.p rfl (rfl : _ = (AV.eptr [(AV.int .i64 x37.From), (AV.int .i64 x37.To), (AV.str x37.Act), (AV.int .i64 x37.Module)] 0)) ?_
     refine AOps.p rfl (rfl : _ = (AV.eptr [(AV.int .i64 x37.From), (AV.int .i64 x37.To), (AV.str x37.Act), (AV.int .i64 x37.Module)] 0)) ?_
     refine AOps.p rfl (rfl : _ = (AV.eptr [(AV.int .i64 x37.From), (AV.int .i64 x37.To), (AV.str x37.Act), (AV.int .i64 x37.Module)] 1)) ?_
     refine AOps.ldE (v := (AV.int .i64 x37.To)) rfl rfl rfl rfl rfl rfl ?_
     refine AOps.p rfl (rfl : _ = (AV.eptr [(AV.int .i64 x14.Nodes), (AV.sl z24 f25 e26)] 0)) ?_
     refine AOps.p rfl (rfl : _ = (AV.eptr [(AV.int .i64 x14.Nodes), (AV.sl z24 f25 e26)] 0)) ?_
     refine AOps.p rfl (rfl : _ = (AV.eptr [(AV.int .i64 x14.Nodes), (AV.sl z24 f25 e26)] 0)) ?_
     refine AOps.ldE (v := (AV.int .i64 x14.Nodes)) rfl rfl rfl rfl rfl rfl ?_
     refine AOps.p rfl (rfl : _ = (AV.int .i64 (IntKind.wrap .i64 (x14.Nodes - 1)))) ?_
     obtain ⟨y57, h58, h⟩ := obind h
     refine AOps.callDP (g := 25) (args := [(AV.int .i64 x37.To), (AV.int .i64 0), (AV.int .i64 (IntKind.wrap .i64 (x14.Nodes - 1)))]) (p := (rB) y57) rfl rfl rfl (spec_l00In_ok  h58 hWF.still) (fun v hv => Nice.pure (k := FINK) (p := (rB) y57) .B _ v hv) ?_
     intro _ o60 h59
     cases h59
     refine AOps.p rfl (rfl : _ = (AV.bool (!y57))) ?_
     refine AOps.p rfl (rfl : _ = (AV.bool (!y57))) ?_
     refine AOps.resR [(0, (AV.eptr [(AV.sl z2 f3 e4)] 0)), (3, (AV.int .i64 (p1.Modules.length : Int))), (4, (AV.int .i64 t12)), (5, (AV.eptr [(AV.int .i64 x14.Nodes), (AV.sl z24 f25 e26)] 0)), (6, (AV.int .i64 t35)), (7, (AV.eptr [(AV.int .i64 x37.From), (AV.int .i64 x37.To), (AV.str x37.Act), (AV.int .i64 x37.Module)] 0)), (79, (AV.bool b56))] [] ?_ ?_ _ ⟨_, _, rfl⟩
     ·exact ⟨rfl, rfl, rfl, rfl, rfl, rfl, congrArg AV.bool (Option.some.inj h), trivial⟩
     exact trivial
   rintro _ ⟨tm, os, rfl⟩
   refine AOps.nilR ?_
   rcases oite h with ⟨hc61, h⟩ | ⟨hc61, h⟩
   ·refine AW.condT (congrArg AV.bool hc61) ?_
    refine AW.sr ?_
    refine AOps.p rfl (rfl : _ = (AV.bool false)) ?_
    refine AOps.nilR ?_
    cases h
    have hr := hR2 _ rfl
    cases hr
    have hr := hR1 _ rfl
    subst hr
    exact AW.ret ⟨rfl, _, _, rfl, rfl⟩
   refine AW.condF (congrArg AV.bool hc61) ?_
   refine AW.skip ?_
   refine AW.sr ?_
   refine AOps.p rfl (rfl : _ = (AV.eptr [(AV.int .i64 x37.From), (AV.int .i64 x37.To), (AV.str x37.Act), (AV.int .i64 x37.Module)] 0)) ?_
   refine AOps.p rfl (rfl : _ = (AV.eptr [(AV.int .i64 x37.From), (AV.int .i64 x37.To), (AV.str x37.Act), (AV.int .i64 x37.Module)] 0)) ?_
   refine AOps.p rfl (rfl : _ = (AV.eptr [(AV.int .i64 x37.From), (AV.int .i64 x37.To), (AV.str x37.Act), (AV.int .i64 x37.Module)] 2)) ?_
   refine AOps.ldE (v := (AV.str x37.Act)) rfl rfl rfl rfl rfl rfl ?_
   refine AOps.p rfl (rfl : _ = (AV.bool (!(x37.Act == ([97] : List UInt8))))) ?_
   refine AOps.p rfl (rfl : _ = (AV.bool (!(x37.Act == ([97] : List UInt8))))) ?_
   refine AOps.split 6 (fun f' => ∃ tm' os', f' = ⟨updL tm' [(0, (AV.eptr [(AV.sl z2 f3 e4)] 0)), (3, (AV.int .i64 (p1.Modules.length : Int))), (4, (AV.int .i64 t12)), (5, (AV.eptr [(AV.int .i64 x14.Nodes), (AV.sl z24 f25 e26)] 0)), (6, (AV.int .i64 t35)), (7, (AV.eptr [(AV.int .i64 x37.From), (AV.int .i64 x37.To), (AV.str x37.Act), (AV.int .i64 x37.Module)] 0)), (91, (AV.bool ((!(x37.Act == ([97] : List UInt8))) && (!(x37.Act == ([98] : List UInt8))))))], updL os' [], { s with lo := s.n }⟩) ?_ ?_
   ·rcases Bool.eq_false_or_eq_true (!(x37.Act == ([97] : List UInt8))) with hc62 | hc62
    ·refine AOps.know (d := 85) rfl hc62 ?_
     refine AOps.p rfl (rfl : _ = (AV.eptr [(AV.int .i64 x37.From), (AV.int .i64 x37.To), (AV.str x37.Act), (AV.int .i64 x37.Module)] 0)) ?_
     refine AOps.p rfl (rfl : _ = (AV.eptr [(AV.int .i64 x37.From), (AV.int .i64 x37.To), (AV.str x37.Act), (AV.int .i64 x37.Module)] 0)) ?_
     refine AOps.p rfl (rfl : _ = (AV.eptr [(AV.int .i64 x37.From), (AV.int .i64 x37.To), (AV.str x37.Act), (AV.int .i64 x37.Module)] 2)) ?_
     refine AOps.ldE (v := (AV.str x37.Act)) rfl rfl rfl rfl rfl rfl ?_
     refine AOps.p rfl (rfl : _ = (AV.bool (!(x37.Act == ([98] : List UInt8))))) ?_
     refine AOps.p rfl (rfl : _ = (AV.bool (!(x37.Act == ([98] : List UInt8))))) ?_
     refine AOps.resR [(0, (AV.eptr [(AV.sl z2 f3 e4)] 0)), (3, (AV.int .i64 (p1.Modules.length : Int))), (4, (AV.int .i64 t12)), (5, (AV.eptr [(AV.int .i64 x14.Nodes), (AV.sl z24 f25 e26)] 0)), (6, (AV.int .i64 t35)), (7, (AV.eptr [(AV.int .i64 x37.From), (AV.int .i64 x37.To), (AV.str x37.Act), (AV.int .i64 x37.Module)] 0)), (91, (AV.bool ((!(x37.Act == ([97] : List UInt8))) && (!(x37.Act == ([98] : List UInt8))))))] [] ?_ ?_ _ ⟨_, _, rfl⟩
     ·exact ⟨rfl, rfl, rfl, rfl, rfl, rfl, congrArg AV.bool (and_t hc62), trivial⟩
     exact trivial
    ·refine AOps.know (d := 85) rfl hc62 ?_
     refine AOps.skipR rfl rfl ?_
     refine AOps.skipR rfl rfl ?_
     refine AOps.skipR rfl rfl ?_
     refine AOps.skipR rfl rfl ?_
     refine AOps.skipR rfl rfl ?_
     refine AOps.p rfl (rfl : _ = (AV.bool false)) ?_
     refine AOps.resR [(0, (AV.eptr [(AV.sl z2 f3 e4)] 0)), (3, (AV.int .i64 (p1.Modules.length : Int))), (4, (AV.int .i64 t12)), (5, (AV.eptr [(AV.int .i64 x14.Nodes), (AV.sl z24 f25 e26)] 0)), (6, (AV.int .i64 t35)), (7, (AV.eptr [(AV.int .i64 x37.From), (AV.int .i64 x37.To), (AV.str x37.Act), (AV.int .i64 x37.Module)] 0)), (91, (AV.bool ((!(x37.Act == ([97] : List UInt8))) && (!(x37.Act == ([98] : List UInt8))))))] [] ?_ ?_ _ ⟨_, _, rfl⟩
     ·exact ⟨rfl, rfl, rfl, rfl, rfl, rfl, congrArg AV.bool (and_f hc62), trivial⟩
     exact trivial
   rintro _ ⟨tm, os, rfl⟩
   refine AOps.p rfl (rfl : _ = (AV.bool ((!(x37.Act == ([97] : List UInt8))) && (!(x37.Act == ([98] : List UInt8)))))) ?_
   obtain ⟨b64, hb, h⟩ := obind h
   refine AOps.split 7 (fun f' => ∃ tm' os', f' = ⟨updL tm' [(0, (AV.eptr [(AV.sl z2 f3 e4)] 0)), (3, (AV.int .i64 (p1.Modules.length : Int))), (4, (AV.int .i64 t12)), (5, (AV.eptr [(AV.int .i64 x14.Nodes), (AV.sl z24 f25 e26)] 0)), (6, (AV.int .i64 t35)), (7, (AV.eptr [(AV.int .i64 x37.From), (AV.int .i64 x37.To), (AV.str x37.Act), (AV.int .i64 x37.Module)] 0)), (99, (AV.bool b64))], updL os' [], { s with lo := s.n }⟩) ?_ ?_
   ·rcases oite hb with ⟨hc63, hb⟩ | ⟨hc63, hb⟩
    ·have h := hb
     refine AOps.know (d := 92) rfl hc63 ?_
     refine AOps.p rfl (rfl : _ = (AV.eptr [(AV.int .i64 x37.From), (AV.int .i64 x37.To), (AV.str x37.Act), (AV.int .i64 x37.Module)] 0)) ?_
     refine AOps.p rfl (rfl : _ = (AV.eptr [(AV.int .i64 x37.From), (AV.int .i64 x37.To), (AV.str x37.Act), (AV.int .i64 x37.Module)] 0)) ?_
     refine AOps.p rfl (rfl : _ = (AV.eptr [(AV.int .i64 x37.From), (AV.int .i64 x37.To), (AV.str x37.Act), (AV.int .i64 x37.Module)] 2)) ?_
     refine AOps.ldE (v := (AV.str x37.Act)) rfl rfl rfl rfl rfl rfl ?_
     obtain ⟨y65, h66, h⟩ := obind h
     refine AOps.callP (g := 26) (args := [(AV.str x37.Act)]) (p := (rB) y65) rfl rfl rfl (spec_l06Brackets_ok  h66 hWF) ?_
     intro _ o68 h67
     cases h67
     refine AOps.p rfl (rfl : _ = (AV.bool (!y65))) ?_
     refine AOps.p rfl (rfl : _ = (AV.bool (!y65))) ?_
     refine AOps.resR [(0, (AV.eptr [(AV.sl z2 f3 e4)] 0)), (3, (AV.int .i64 (p1.Modules.length : Int))), (4, (AV.int .i64 t12)), (5, (AV.eptr [(AV.int .i64 x14.Nodes), (AV.sl z24 f25 e26)] 0)), (6, (AV.int .i64 t35)), (7, (AV.eptr [(AV.int .i64 x37.From), (AV.int .i64 x37.To), (AV.str x37.Act), (AV.int .i64 x37.Module)] 0)), (99, (AV.bool b64))] [] ?_ ?_ _ ⟨_, _, rfl⟩
     ·exact ⟨rfl, rfl, rfl, rfl, rfl, rfl, congrArg AV.bool (Option.some.inj h), trivial⟩
     exact trivial
    ·refine AOps.know (d := 92) rfl hc63 ?_
     refine AOps.skipR rfl rfl ?_
     refine AOps.skipR rfl rfl ?_
     refine AOps.skipR rfl rfl ?_
     refine AOps.skipR rfl rfl ?_
     refine AOps.skipR rfl rfl ?_
     refine AOps.skipR rfl rfl ?_
     refine AOps.p rfl (rfl : _ = (AV.bool false)) ?_
     refine AOps.resR [(0, (AV.eptr [(AV.sl z2 f3 e4)] 0)), (3, (AV.int .i64 (p1.Modules.length : Int))), (4, (AV.int .i64 t12)), (5, (AV.eptr [(AV.int .i64 x14.Nodes), (AV.sl z24 f25 e26)] 0)), (6, (AV.int .i64 t35)), (7, (AV.eptr [(AV.int .i64 x37.From), (AV.int .i64 x37.To), (AV.str x37.Act), (AV.int .i64 x37.Module)] 0)), (99, (AV.bool b64))] [] ?_ ?_ _ ⟨_, _, rfl⟩
     ·exact ⟨rfl, rfl, rfl, rfl, rfl, rfl, congrArg AV.bool (Option.some.inj hb), trivial⟩
     exact trivial
   rintro _ ⟨tm, os, rfl⟩
   refine AOps.p rfl (rfl : _ = (AV.bool b64)) ?_
   obtain ⟨b70, hb, h⟩ := obind h
   refine AOps.split 9 (fun f' => ∃ tm' os', f' = ⟨updL tm' [(0, (AV.eptr [(AV.sl z2 f3 e4)] 0)), (3, (AV.int .i64 (p1.Modules.length : Int))), (4, (AV.int .i64 t12)), (5, (AV.eptr [(AV.int .i64 x14.Nodes), (AV.sl z24 f25 e26)] 0)), (6, (AV.int .i64 t35)), (7, (AV.eptr [(AV.int .i64 x37.From), (AV.int .i64 x37.To), (AV.str x37.Act), (AV.int .i64 x37.Module)] 0)), (109, (AV.bool b70))], updL os' [], { s with lo := s.n }⟩) ?_ ?_
   ·rcases oite hb with ⟨hc69, hb⟩ | ⟨hc69, hb⟩
    ·refine AOps.know (d := 100) rfl hc69 ?_
     refine AOps.skipR rfl rfl ?_
     refine AOps.skipR rfl rfl ?_
     refine AOps.skipR rfl rfl ?_
     refine AOps.skipR rfl rfl ?_
     refine AOps.skipR rfl rfl ?_
     refine AOps.skipR rfl rfl ?_
     refine AOps.skipR rfl rfl ?_
     refine AOps.skipR rfl rfl ?_
     refine AOps.p rfl (rfl : _ = (AV.bool true)) ?_
     refine AOps.resR [(0, (AV.eptr [(AV.sl z2 f3 e4)] 0)), (3, (AV.int .i64 (p1.Modules.length : Int))), (4, (AV.int .i64 t12)), (5, (AV.eptr [(AV.int .i64 x14.Nodes), (AV.sl z24 f25 e26)] 0)), (6, (AV.int .i64 t35)), (7, (AV.eptr [(AV.int .i64 x37.From), (AV.int .i64 x37.To), (AV.str x37.Act), (AV.int .i64 x37.Module)] 0)), (109, (AV.bool b70))] [] ?_ ?_ _ ⟨_, _, rfl⟩
     ·exact ⟨rfl, rfl, rfl, rfl, rfl, rfl, congrArg AV.bool (Option.some.inj hb), trivial⟩
     exact trivial
    ·have h := hb
     refine AOps.know (d := 100) rfl hc69 ?_
     refine AOps.p rfl (rfl : _ = (AV.eptr [(AV.int .i64 x37.From), (AV.int .i64 x37.To), (AV.str x37.Act), (AV.int .i64 x37.Module)] 0)) ?_
     refine AOps.p rfl (rfl : _ = (AV.eptr [(AV.int .i64 x37.From), (AV.int .i64 x37.To), (AV.str x37.Act), (AV.int .i64 x37.Module)] 0)) ?_
     refine AOps.p rfl (rfl : _ = (AV.eptr [(AV.int .i64 x37.From), (AV.int .i64 x37.To), (AV.str x37.Act), (AV.int .i64 x37.Module)] 3)) ?_
     refine AOps.ldE (v := (AV.int .i64 x37.Module)) rfl rfl rfl rfl rfl rfl ?_
     refine AOps.p rfl (rfl : _ = (AV.int .i64 (p1.Modules.length : Int))) ?_
     refine AOps.p rfl (rfl : _ = (AV.int .i64 (IntKind.wrap .i64 ((p1.Modules.length : Int) - 1)))) ?_
     obtain ⟨y71, h72, h⟩ := obind h
     refine AOps.callP (g := 25) (args := [(AV.int .i64 x37.Module), (AV.int .i64 0), (AV.int .i64 (IntKind.wrap .i64 ((p1.Modules.length : Int) - 1)))]) (p := (rB) y71) rfl rfl rfl (spec_l00In_ok  h72 hWF) ?_
     intro _ o74 h73
     cases h73
     refine AOps.p rfl (rfl : _ = (AV.bool (!y71))) ?_
     refine AOps.p rfl (rfl : _ = (AV.bool (!y71))) ?_
     refine AOps.resR [(0, (AV.eptr [(AV.sl z2 f3 e4)] 0)), (3, (AV.int .i64 (p1.Modules.length : Int))), (4, (AV.int .i64 t12)), (5, (AV.eptr [(AV.int .i64 x14.Nodes), (AV.sl z24 f25 e26)] 0)), (6, (AV.int .i64 t35)), (7, (AV.eptr [(AV.int .i64 x37.From), (AV.int .i64 x37.To), (AV.str x37.Act), (AV.int .i64 x37.Module)] 0)), (109, (AV.bool b70))] [] ?_ ?_ _ ⟨_, _, rfl⟩
     ·exact ⟨rfl, rfl, rfl, rfl, rfl, rfl, congrArg AV.bool (Option.some.inj h), trivial⟩
     exact trivial
   rintro _ ⟨tm, os, rfl⟩
   refine AOps.p rfl (rfl : _ = (AV.bool b70)) ?_
   obtain ⟨b76, hb, h⟩ := obind h
   refine AOps.split 10 (fun f' => ∃ tm' os', f' = ⟨updL tm' [(0, (AV.eptr [(AV.sl z2 f3 e4)] 0)), (3, (AV.int .i64 (p1.Modules.length : Int))), (4, (AV.int .i64 t12)), (5, (AV.eptr [(AV.int .i64 x14.Nodes), (AV.sl z24 f25 e26)] 0)), (6, (AV.int .i64 t35)), (120, (AV.bool b76))], updL os' [], { s with lo := s.n }⟩) ?_ ?_
   ·rcases oite hb with ⟨hc75, hb⟩ | ⟨hc75, hb⟩
    ·refine AOps.know (d := 110) rfl hc75 ?_
     refine AOps.skipR rfl rfl ?_
     refine AOps.skipR rfl rfl ?_
     refine AOps.skipR rfl rfl ?_
     refine AOps.skipR rfl rfl ?_
     refine AOps.skipR rfl rfl ?_
     refine AOps.skipR rfl rfl ?_
     refine AOps.skipR rfl rfl ?_
     refine AOps.skipR rfl rfl ?_
     refine AOps.skipR rfl rfl ?_
     refine AOps.p rfl (rfl : _ = (AV.bool true)) ?_
     refine AOps.resR [(0, (AV.eptr [(AV.sl z2 f3 e4)] 0)), (3, (AV.int .i64 (p1.Modules.length : Int))), (4, (AV.int .i64 t12)), (5, (AV.eptr [(AV.int .i64 x14.Nodes), (AV.sl z24 f25 e26)] 0)), (6, (AV.int .i64 t35)), (120, (AV.bool b76))] [] ?_ ?_ _ ⟨_, _, rfl⟩
     ·exact ⟨rfl, rfl, rfl, rfl, rfl, congrArg AV.bool (Option.some.inj hb), trivial⟩
     exact trivial
    ·have h := hb
     refine AOps.know (d := 110) rfl hc75 ?_
     refine AOps.p rfl (rfl : _ = (AV.eptr [(AV.int .i64 x37.From), (AV.int .i64 x37.To), (AV.str x37.Act), (AV.int .i64 x37.Module)] 0)) ?_
     obtain ⟨y77, h78, h⟩ := obind h
     refine AOps.callP (g := 27) (args := [(AV.eptr [(AV.int .i64 x37.From), (AV.int .i64 x37.To), (AV.str x37.Act), (AV.int .i64 x37.Module)] 0)]) (p := (rB) y77) rfl rfl rfl (spec_l07Inner_ok  h78 hWF) ?_
     intro _ o80 h79
     cases h79
     refine AOps.p rfl (rfl : _ = (AV.bool y77)) ?_
     refine AOps.split 6 (fun f' => ∃ tm' os', f' = ⟨updL tm' [(0, (AV.eptr [(AV.sl z2 f3 e4)] 0)), (3, (AV.int .i64 (p1.Modules.length : Int))), (4, (AV.int .i64 t12)), (5, (AV.eptr [(AV.int .i64 x14.Nodes), (AV.sl z24 f25 e26)] 0)), (6, (AV.int .i64 t35)), (110, (AV.bool false)), (111, (AV.eptr [(AV.int .i64 x37.From), (AV.int .i64 x37.To), (AV.str x37.Act), (AV.int .i64 x37.Module)] 0)), (112, (AV.bool y77)), (113, (AV.bool y77)), (119, (AV.bool (y77 && (x37.Module != 0))))], updL os' [], { s with lo := s.n }⟩) ?_ ?_
     ·rcases Bool.eq_false_or_eq_true y77 with hc81 | hc81
      ·refine AOps.know (d := 113) rfl hc81 ?_
       refine AOps.p rfl (rfl : _ = (AV.eptr [(AV.int .i64 x37.From), (AV.int .i64 x37.To), (AV.str x37.Act), (AV.int .i64 x37.Module)] 0)) ?_
       refine AOps.p rfl (rfl : _ = (AV.eptr [(AV.int .i64 x37.From), (AV.int .i64 x37.To), (AV.str x37.Act), (AV.int .i64 x37.Module)] 0)) ?_
       refine AOps.p rfl (rfl : _ = (AV.eptr [(AV.int .i64 x37.From), (AV.int .i64 x37.To), (AV.str x37.Act), (AV.int .i64 x37.Module)] 3)) ?_
       refine AOps.ldE (v := (AV.int .i64 x37.Module)) rfl rfl rfl rfl rfl rfl ?_
       refine AOps.p rfl (rfl : _ = (AV.bool (x37.Module != 0))) ?_
       refine AOps.p rfl (rfl : _ = (AV.bool (x37.Module != 0))) ?_
       refine AOps.resR [(0, (AV.eptr [(AV.sl z2 f3 e4)] 0)), (3, (AV.int .i64 (p1.Modules.length : Int))), (4, (AV.int .i64 t12)), (5, (AV.eptr [(AV.int .i64 x14.Nodes), (AV.sl z24 f25 e26)] 0)), (6, (AV.int .i64 t35)), (110, (AV.bool false)), (111, (AV.eptr [(AV.int .i64 x37.From), (AV.int .i64 x37.To), (AV.str x37.Act), (AV.int .i64 x37.Module)] 0)), (112, (AV.bool y77)), (113, (AV.bool y77)), (119, (AV.bool (y77 && (x37.Module != 0))))] [] ?_ ?_ _ ⟨_, _, rfl⟩
       ·exact ⟨rfl, rfl, rfl, rfl, rfl, rfl, rfl, rfl, congrArg AV.bool hc81.symm, congrArg AV.bool (and_t hc81), trivial⟩
       exact trivial
      ·refine AOps.know (d := 113) rfl hc81 ?_
       refine AOps.skipR rfl rfl ?_
       refine AOps.skipR rfl rfl ?_
       refine AOps.skipR rfl rfl ?_
       refine AOps.skipR rfl rfl ?_
       refine AOps.skipR rfl rfl ?_
       refine AOps.p rfl (rfl : _ = (AV.bool false)) ?_
       refine AOps.resR [(0, (AV.eptr [(AV.sl z2 f3 e4)] 0)), (3, (AV.int .i64 (p1.Modules.length : Int))), (4, (AV.int .i64 t12)), (5, (AV.eptr [(AV.int .i64 x14.Nodes), (AV.sl z24 f25 e26)] 0)), (6, (AV.int .i64 t35)), (110, (AV.bool false)), (111, (AV.eptr [(AV.int .i64 x37.From), (AV.int .i64 x37.To), (AV.str x37.Act), (AV.int .i64 x37.Module)] 0)), (112, (AV.bool y77)), (113, (AV.bool y77)), (119, (AV.bool (y77 && (x37.Module != 0))))] [] ?_ ?_ _ ⟨_, _, rfl⟩
       ·exact ⟨rfl, rfl, rfl, rfl, rfl, rfl, rfl, rfl, congrArg AV.bool hc81.symm, congrArg AV.bool (and_f hc81), trivial⟩
       exact trivial
     rintro _ ⟨tm, os, rfl⟩
     refine AOps.p rfl (rfl : _ = (AV.bool (y77 && (x37.Module != 0)))) ?_
     refine AOps.resR [(0, (AV.eptr [(AV.sl z2 f3 e4)] 0)), (3, (AV.int .i64 (p1.Modules.length : Int))), (4, (AV.int .i64 t12)), (5, (AV.eptr [(AV.int .i64 x14.Nodes), (AV.sl z24 f25 e26)] 0)), (6, (AV.int .i64 t35)), (120, (AV.bool b76))] [] ?_ ?_ _ ⟨_, _, rfl⟩
     ·exact ⟨rfl, rfl, rfl, rfl, rfl, congrArg AV.bool (Option.some.inj h), trivial⟩
     exact trivial
   rintro _ ⟨tm, os, rfl⟩
   refine AOps.nilR ?_
   rcases oite h with ⟨hc82, h⟩ | ⟨hc82, h⟩
   ·refine AW.condT (congrArg AV.bool hc82) ?_
    refine AW.sr ?_
    refine AOps.p rfl (rfl : _ = (AV.bool false)) ?_
    refine AOps.nilR ?_
    cases h
    have hr := hR2 _ rfl
    cases hr
    have hr := hR1 _ rfl
    subst hr
    exact AW.ret ⟨rfl, _, _, rfl, rfl⟩
   refine AW.condF (congrArg AV.bool hc82) ?_
   refine AW.skip ?_
   refine AW.inBlock ?_
   refine AW.region ?_
   refine AOps.p rfl (rfl : _ = (AV.int .i64 t35)) ?_
   refine AOps.p rfl (rfl : _ = (AV.int .i64 (IntKind.wrap .i64 (t35 + 1)))) ?_
   refine AOps.assignR rfl rfl rfl (rfl : _ = (AV.int .i64 (IntKind.wrap .i64 (t35 + 1)))) rfl ?_
   refine AOps.nilR ?_
   cases h
   exact AW.res [(0, (AV.eptr [(AV.sl z2 f3 e4)] 0)), (3, (AV.int .i64 (p1.Modules.length : Int))), (4, (AV.int .i64 t12)), (5, (AV.eptr [(AV.int .i64 x14.Nodes), (AV.sl z24 f25 e26)] 0)), (6, (AV.int .i64 (IntKind.wrap .i64 (t35 + 1))))] [] ⟨rfl, rfl, rfl, rfl, rfl, trivial⟩ trivial (hL2 _ rfl () _ _ trivial)
  refine AW.condF (congrArg AV.bool hc36) ?_
  refine AW.exit rfl ?_
  obtain ⟨r83, hm, hx⟩ := omap h
  clear h
  subst hx
  have hx := hR2 _ rfl
  rw [hx] at hm
  have h := hm
  exact AW.res [(0, (AV.eptr [(AV.sl z2 f3 e4)] 0)), (3, (AV.int .i64 (p1.Modules.length : Int))), (4, (AV.int .i64 t12))] [] ⟨rfl, rfl, rfl, trivial⟩ trivial (KJ34 () _ _ h)
 refine AW.condF (congrArg AV.bool hc13) ?_
 refine AW.exit rfl ?_
 obtain ⟨r84, hm, hx⟩ := omap h
 clear h
 subst hx
 have hx := hR1 _ rfl
 rw [hx] at hm
 have h := hm
 exact AW.res [] [] trivial trivial (KJ11 () _ _ h)
theorem spec_l01Symbol_ok {b1 : Int} {s : St} {r : Int} (h : spec_l01Symbol b1 = some r) (hs : WF s) : ACall Cf 28 [(AV.int .u8 b1)] s fun v _ s' => (rI .i64) r v ∧ s' = s := by
 refine ACall.pure rfl rfl rfl .I ?_
 have hWF := hs.lo'
 unfold spec_l01Symbol at h
 refine AW.sr ?_
 refine AOps.p rfl (rfl : _ = (AV.int .i64 0)) ?_
 refine AOps.nilR ?_
 refine AW.seq ?_
 refine AW.sr ?_
 refine AOps.p rfl (rfl : _ = (AV.int .i64 0)) ?_
 refine AOps.nilR ?_
 refine AW.meet (σ := Unit) (fun _ tm os => ⟨updL tm [], updL os [], { s with lo := s.n }⟩) (fun _ => spec_l01Symbol_J1 = some r) ?_ ?_
 ·rintro _ tm os h
  unfold spec_l01Symbol_J1 at h
  refine AW.sr ?_
  refine AOps.p rfl (rfl : _ = (AV.int .i64 (-1))) ?_
  refine AOps.nilR ?_
  cases h
  exact AW.ret ⟨rfl, _, _, rfl, rfl⟩
 intro KJ2
 refine AW.block ?_
 refine AW.res [(0, (AV.int .u8 b1)), (3, (AV.int .i64 0))] [] ⟨rfl, rfl, trivial⟩ trivial ?_
 refine AW.loopF (σ := Int) (τ := Unit) (fun k3 _ => True) (fun k3 _ tm os => ⟨updL tm [(0, (AV.int .u8 b1)), (3, (AV.int .i64 k3))], updL os [], { s with lo := s.n }⟩) ?_ (x := (0)) (y := ()) h trivial
 clear h
 rintro k3 _ tm os - ee1 h hL1 hR1
 unfold spec_l01Symbol_S1 at h
 refine AW.seq ?_
 refine AW.sr ?_
 refine AOps.p rfl (rfl : _ = (AV.int .i64 k3)) ?_
 refine AOps.p rfl (rfl : _ = (AV.bool (decide ((k3 : Int) < 6)))) ?_
 refine AOps.nilR ?_
 rcases oite h with ⟨hc4, h⟩ | ⟨hc4, h⟩
 ·refine AW.condT (congrArg AV.bool hc4) ?_
  refine AW.skip ?_
  refine AW.seq ?_
  refine AW.block ?_
  refine AW.sr ?_
  refine AOps.p rfl (rfl : _ = (AV.int .i64 k3)) ?_
  obtain ⟨c5, h6, h⟩ := obind h
  refine AOps.pureR rfl rfl rfl (chr_str h6) rfl (rfl : _ = (AV.int .u8 c5)) ?_
  refine AOps.p rfl (rfl : _ = (AV.int .u8 b1)) ?_
  refine AOps.p rfl (rfl : _ = (AV.bool (c5 == b1))) ?_
  refine AOps.nilR ?_
  rcases oite h with ⟨hc7, h⟩ | ⟨hc7, h⟩
  ·refine AW.condT (congrArg AV.bool hc7) ?_
   refine AW.sr ?_
   refine AOps.p rfl (rfl : _ = (AV.int .i64 k3)) ?_
   refine AOps.assignR rfl rfl rfl (rfl : _ = (AV.int .i64 k3)) rfl ?_
   refine AOps.nilR ?_
   cases h
   have hr := hR1 _ rfl
   subst hr
   exact AW.ret ⟨rfl, _, _, rfl, rfl⟩
  refine AW.condF (congrArg AV.bool hc7) ?_
  refine AW.skip ?_
  refine AW.inBlock ?_
  refine AW.region ?_
  refine AOps.p rfl (rfl : _ = (AV.int .i64 k3)) ?_
  refine AOps.p rfl (rfl : _ = (AV.int .i64 (IntKind.wrap .i64 (k3 + 1)))) ?_
  refine AOps.assignR rfl rfl rfl (rfl : _ = (AV.int .i64 (IntKind.wrap .i64 (k3 + 1)))) rfl ?_
  refine AOps.nilR ?_
  cases h
  exact AW.res [(0, (AV.int .u8 b1)), (3, (AV.int .i64 (IntKind.wrap .i64 (k3 + 1))))] [] ⟨rfl, rfl, trivial⟩ trivial (hL1 _ rfl () _ _ trivial)
 refine AW.condF (congrArg AV.bool hc4) ?_
 refine AW.exit rfl ?_
 obtain ⟨r8, hm, hx⟩ := omap h
 clear h
 subst hx
 have hx := hR1 _ rfl
 rw [hx] at hm
 have h := hm
 exact AW.res [] [] trivial trivial (KJ2 () _ _ h)
theorem spec_l01Ok_ok {w1 : List UInt8} {s : St} {r : Bool} (h : spec_l01Ok w1 = some r) (hs : WF s) : ACall Cf 15 [(AV.str w1)] s fun v _ s' => (rB) r v ∧ s' = s := by
 refine ACall.pure rfl rfl rfl .B ?_
 have hWF := hs.lo'
 unfold spec_l01Ok at h
 refine AW.sr ?_
 refine AOps.p rfl (rfl : _ = (AV.bool false)) ?_
 refine AOps.nilR ?_
 refine AW.seq ?_
 refine AW.sr ?_
 refine AOps.p rfl (rfl : _ = (AV.int .i64 0)) ?_
 refine AOps.nilR ?_
 refine AW.meet (σ := Unit) (fun _ tm os => ⟨updL tm [(0, (AV.str w1))], updL os [], { s with lo := s.n }⟩) (fun _ => spec_l01Ok_J1 w1 = some r) ?_ ?_
 ·rintro _ tm os h
  unfold spec_l01Ok_J1 at h
  refine AW.sr ?_
  refine AOps.p rfl (rfl : _ = (AV.str w1)) ?_
  refine AOps.p rfl (rfl : _ = (AV.int .i64 (w1.length : Int))) ?_
  refine AOps.p rfl (rfl : _ = (AV.bool (decide (((w1.length : Int) : Int) ≤ 60)))) ?_
  refine AOps.assignR rfl rfl rfl (rfl : _ = (AV.bool (decide (((w1.length : Int) : Int) ≤ 60)))) rfl ?_
  refine AOps.nilR ?_
  cases h
  exact AW.ret ⟨rfl, _, _, rfl, rfl⟩
 intro KJ2
 refine AW.block ?_
 refine AW.res [(0, (AV.str w1)), (3, (AV.int .i64 0))] [] ⟨rfl, rfl, trivial⟩ trivial ?_
 refine AW.loopF (σ := Int) (τ := Unit) (fun i3 _ => True) (fun i3 _ tm os => ⟨updL tm [(0, (AV.str w1)), (3, (AV.int .i64 i3))], updL os [], { s with lo := s.n }⟩) ?_ (x := (0)) (y := ()) h trivial
 clear h
 rintro i3 _ tm os - ee1 h hL1 hR1
 unfold spec_l01Ok_S1 at h
 refine AW.seq ?_
 refine AW.sr ?_
 refine AOps.p rfl (rfl : _ = (AV.int .i64 i3)) ?_
 refine AOps.p rfl (rfl : _ = (AV.str w1)) ?_
 refine AOps.p rfl (rfl : _ = (AV.int .i64 (w1.length : Int))) ?_
 refine AOps.p rfl (rfl : _ = (AV.bool (decide ((i3 : Int) < (w1.length : Int))))) ?_
 refine AOps.nilR ?_
 rcases oite h with ⟨hc4, h⟩ | ⟨hc4, h⟩
 ·refine AW.condT (congrArg AV.bool hc4) ?_
  refine AW.skip ?_
  refine AW.seq ?_
  refine AW.block ?_
  refine AW.sr ?_
  refine AOps.p rfl (rfl : _ = (AV.str w1)) ?_
  refine AOps.p rfl (rfl : _ = (AV.int .i64 i3)) ?_
  obtain ⟨c5, h6, h⟩ := obind h
  refine AOps.pureR rfl rfl rfl (chr_str h6) rfl (rfl : _ = (AV.int .u8 c5)) ?_
  obtain ⟨y7, h8, h⟩ := obind h
  refine AOps.callP (g := 28) (args := [(AV.int .u8 c5)]) (p := (rI .i64) y7) rfl rfl rfl (spec_l01Symbol_ok  h8 hWF) ?_
  intro _ o10 h9
  cases h9
  refine AOps.p rfl (rfl : _ = (AV.bool (decide ((y7 : Int) < 0)))) ?_
  refine AOps.nilR ?_
  rcases oite h with ⟨hc11, h⟩ | ⟨hc11, h⟩
  ·refine AW.condT (congrArg AV.bool hc11) ?_
   refine AW.sr ?_
   refine AOps.p rfl (rfl : _ = (AV.bool false)) ?_
   refine AOps.nilR ?_
   cases h
   have hr := hR1 _ rfl
   subst hr
   exact AW.ret ⟨rfl, _, _, rfl, rfl⟩
  refine AW.condF (congrArg AV.bool hc11) ?_
  refine AW.skip ?_
  refine AW.inBlock ?_
  refine AW.region ?_
  refine AOps.p rfl (rfl : _ = (AV.int .i64 i3)) ?_
  refine AOps.p rfl (rfl : _ = (AV.int .i64 (IntKind.wrap .i64 (i3 + 1)))) ?_
  refine AOps.assignR rfl rfl rfl (rfl : _ = (AV.int .i64 (IntKind.wrap .i64 (i3 + 1)))) rfl ?_
  refine AOps.nilR ?_
  cases h
  exact AW.res [(0, (AV.str w1)), (3, (AV.int .i64 (IntKind.wrap .i64 (i3 + 1))))] [] ⟨rfl, rfl, trivial⟩ trivial (hL1 _ rfl () _ _ trivial)
 refine AW.condF (congrArg AV.bool hc4) ?_
 refine AW.exit rfl ?_
 obtain ⟨r12, hm, hx⟩ := omap h
 clear h
 subst hx
 have hx := hR1 _ rfl
 rw [hx] at hm
 have h := hm
 exact AW.res [(0, (AV.str w1))] [] ⟨rfl, trivial⟩ trivial (KJ2 () _ _ h)
theorem spec_l01Partners_ok {p1 : List UInt8} {s : St} {r : (List Int)} (h : spec_l01Partners p1 = some r) (hs : WF s) : ACall Cf 48 [(AV.str p1)] s fun v _ s' => (rL (rI .i64) 1) r v ∧ s' = s := by
 refine ACall.boxes rfl rfl rfl ?_
 have hH0 := HS.init hs
 unfold spec_l01Partners at h
 refine AW.sr ?_
 refine AOps.p rfl (rfl : _ = (AV.sl 0 true [])) ?_
 refine AOps.nilR ?_
 refine AW.sr ?_
 refine AOps.makeR rfl rfl rfl rfl rfl rfl (rfl : _ = (AV.sl 1 true [])) ?_
 refine AOps.assignR rfl rfl rfl (rfl : _ = (AV.sl 1 true [])) rfl ?_
 refine AOps.nilR ?_
 refine AW.sr ?_
 refine AOps.makeR rfl rfl rfl rfl rfl rfl (rfl : _ = (AV.sl 1 true [])) ?_
 refine AOps.assignR rfl rfl rfl (rfl : _ = (AV.sl 1 true [])) rfl ?_
 refine AOps.nilR ?_
 refine AW.seq ?_
 refine AW.sr ?_
 refine AOps.p rfl (rfl : _ = (AV.int .i64 0)) ?_
 refine AOps.nilR ?_
 refine AW.meet (σ := (List Int) × BX × AV × St) (fun (t2, x3, v4, s6) tm os => ⟨updL tm [(3, v4)], updL os [], s6⟩) (fun (t2, x3, v4, s6) => (DY (rI .i64) false 1 t2 v4 x3) ∧ (HS [] false s s6 [x3]) ∧ spec_l01Partners_J1 t2 = some r) ?_ ?_
 ·rintro ⟨t2, x3, v4, s6⟩ tm os ⟨h5, hH7, h⟩
  unfold spec_l01Partners_J1 at h
  refine AW.sr ?_
  refine AOps.p rfl (rfl : _ = v4) ?_
  refine AOps.assignR rfl rfl rfl (rfl : _ = v4) rfl ?_
  refine AOps.nilR ?_
  cases h
  exact AW.ret ⟨⟨_, hH7⟩, resA_dy (k := 8) (r := rI .i64) rfl rfl hH7 (i := 0) rfl h5 (fun _ => .I) (fun _ => rfl)⟩
 intro KJ8
 refine AW.block ?_
 refine AW.res [(0, (AV.str p1)), (3, (AV.sl 1 true [])), (4, (AV.sl 1 true [])), (5, (AV.int .i64 0))] [] ⟨rfl, rfl, rfl, rfl, trivial⟩ trivial ?_
 refine AW.loopF (σ := (List Int) × (List Int) × Int) (τ := BX × AV × BX × AV × St) (fun (t9, t13, t17) (x10, v11, x14, v15, s18) => (DY (rI .i64) false 1 t9 v11 x10) ∧ (DY (rI .i64) false 1 t13 v15 x14) ∧ (HS [] false s s18 [x10, x14])) (fun (t9, t13, t17) (x10, v11, x14, v15, s18) tm os => ⟨updL tm [(0, (AV.str p1)), (3, v11), (4, v15), (5, (AV.int .i64 t17))], updL os [], s18⟩) ?_ (x := (([] : List Int), ([] : List Int), 0)) (y := (noBX, (AV.sl 1 true []), noBX, (AV.sl 1 true []), { s with lo := s.n })) h ⟨DY.nil', DY.nil', (HS.sel hH0 [none, none] (by decide))⟩
 clear h
 rintro ⟨t9, t13, t17⟩ ⟨x10, v11, x14, v15, s18⟩ tm os ⟨h12, h16, hH19⟩ ee1 h hL1 hR1
 unfold spec_l01Partners_S1 at h
 dsimp only at h
 refine AW.seq ?_
 refine AW.sr ?_
 refine AOps.p rfl (rfl : _ = (AV.int .i64 t17)) ?_
 refine AOps.p rfl (rfl : _ = (AV.str p1)) ?_
 refine AOps.p rfl (rfl : _ = (AV.int .i64 (p1.length : Int))) ?_
 refine AOps.p rfl (rfl : _ = (AV.bool (decide ((t17 : Int) < (p1.length : Int))))) ?_
 refine AOps.nilR ?_
 rcases oite h with ⟨hc20, h⟩ | ⟨hc20, h⟩
 ·refine AW.condT (congrArg AV.bool hc20) ?_
  refine AW.skip ?_
  refine AW.seq ?_
  refine AW.block ?_
  refine AW.block ?_
  refine AW.sr ?_
  refine AOps.p rfl (rfl : _ = (AV.str p1)) ?_
  refine AOps.p rfl (rfl : _ = (AV.int .i64 t17)) ?_
  obtain ⟨c21, h22, h⟩ := obind h
  refine AOps.pureR rfl rfl rfl (chr_str h22) rfl (rfl : _ = (AV.int .u8 c21)) ?_
  obtain ⟨y23, h24, h⟩ := obind h
  refine AOps.callP (g := 43) (args := [(AV.int .u8 c21)]) (p := (rB) y23) rfl rfl rfl (spec_l01Call_ok  h24 (HS.wf' hH19)) ?_
  intro _ o26 h25
  cases h25
  refine AOps.assignR rfl rfl rfl (rfl : _ = (AV.bool y23)) rfl ?_
  refine AOps.nilR ?_
  refine AW.meet (σ := (List Int) × (List Int) × BX × Nat × Nat × BX × AV × St) (fun (t27, t33, x28, b29, n31, x34, v35, s37) tm os => ⟨updL tm [(0, (AV.str p1)), (3, (AV.ms false 1 b29 0 n31)), (4, v35), (5, (AV.int .i64 t17))], updL os [], s37⟩) (fun (t27, t33, x28, b29, n31, x34, v35, s37) => (x28.b = some b29) ∧ (MS (rI .i64) false 1 t27 n31 x28.cs) ∧ (DY (rI .i64) false 1 t33 v35 x34) ∧ (HS [] false s s37 [x28, x34]) ∧ spec_l01Partners_J2 t17 t27 t33 = some ee1) ?_ ?_
  ·rintro ⟨t27, t33, x28, b29, n31, x34, v35, s37⟩ tm os ⟨h30, h32, h36, hH38, h⟩
   unfold spec_l01Partners_J2 at h
   refine AW.inBlock ?_
   refine AW.inBlock ?_
   refine AW.region ?_
   refine AOps.p rfl (rfl : _ = (AV.int .i64 t17)) ?_
   refine AOps.p rfl (rfl : _ = (AV.int .i64 (IntKind.wrap .i64 (t17 + 1)))) ?_
   refine AOps.assignR rfl rfl rfl (rfl : _ = (AV.int .i64 (IntKind.wrap .i64 (t17 + 1)))) rfl ?_
   refine AOps.nilR ?_
   cases h
   exact AW.res [(0, (AV.str p1)), (3, (AV.ms false 1 b29 0 n31)), (4, v35), (5, (AV.int .i64 (IntKind.wrap .i64 (t17 + 1))))] [] ⟨rfl, rfl, rfl, rfl, trivial⟩ trivial (hL1 _ rfl (x28, (AV.ms false 1 b29 0 n31), x34, v35, s37) _ _ ⟨(DY.ms h30 h32), h36, (HS.sel hH38 [some 0, some 1] (by decide))⟩)
  intro KJ39
  rcases oite h with ⟨hc40, h⟩ | ⟨hc40, h⟩
  ·refine AW.condT (congrArg AV.bool hc40) ?_
   refine AW.sr ?_
   refine AOps.p rfl (rfl : _ = v11) ?_
   refine AOps.makeR rfl rfl rfl rfl rfl rfl (rfl : _ = (AV.sl 1 true [(AV.int .i64 (-2))])) ?_
   obtain ⟨l41, h42, h⟩ := obind h
   refine AOps.appD (i := 0) (r := rI .i64) (ei := ty2) (z' := 1) (f' := true) (e' := [(AV.int .i64 (-2))]) hH19 rfl h12 Sh.I rfl rfl rfl rfl rfl rfl rfl (appSrc_sl (LR.z (LR.lit (r := rI .i64) (sz := 1) (.cons rfl .nil))) rfl) (LR.el (LR.lit (r := rI .i64) (sz := 1) (.cons rfl .nil))) rfl ⟨by decide, by decide, rfl, rfl⟩ rfl rfl h42 ?_
   intro b43 n44 cs45 s46 h47 hH48
   change HS [] false s s46 [⟨some b43, cs45, fun _ => false⟩, x14] at hH48
   refine AOps.assignR rfl rfl rfl (rfl : _ = (AV.ms false 1 b43 0 n44)) rfl ?_
   refine AOps.nilR ?_
   refine AW.region ?_
   refine AOps.p rfl (rfl : _ = v15) ?_
   refine AOps.p rfl (rfl : _ = (AV.int .i64 t17)) ?_
   refine AOps.makeR rfl rfl rfl rfl rfl rfl (rfl : _ = (AV.sl 1 true [(AV.int .i64 t17)])) ?_
   obtain ⟨l49, h50, h⟩ := obind h
   refine AOps.appD (i := 1) (r := rI .i64) (ei := ty3) (z' := 1) (f' := true) (e' := [(AV.int .i64 t17)]) hH48 rfl h16 Sh.I rfl rfl rfl rfl rfl rfl rfl (appSrc_sl (LR.z (LR.lit (r := rI .i64) (sz := 1) (.cons rfl .nil))) rfl) (LR.el (LR.lit (r := rI .i64) (sz := 1) (.cons rfl .nil))) rfl ⟨by decide, by decide, rfl, rfl⟩ rfl rfl h50 ?_
   intro b51 n52 cs53 s54 h55 hH56
   change HS [] false s s54 [⟨some b43, cs45, fun _ => false⟩, ⟨some b51, cs53, fun _ => false⟩] at hH56
   refine AOps.assignR rfl rfl rfl (rfl : _ = (AV.ms false 1 b51 0 n52)) rfl ?_
   refine AOps.nilR ?_
   exact AW.res [(0, (AV.str p1)), (3, (AV.ms false 1 b43 0 n44)), (4, (AV.ms false 1 b51 0 n52)), (5, (AV.int .i64 t17))] [] ⟨rfl, rfl, rfl, rfl, trivial⟩ trivial (KJ39 (l41, l49, ⟨some b43, cs45, fun _ => false⟩, b43, n44, ⟨some b51, cs53, fun _ => false⟩, (AV.ms false 1 b51 0 n52), s54) _ _ ⟨rfl, h47, (DY.ms rfl h55), (HS.sel hH56 [some 0, some 1] (by decide)), h⟩)
  refine AW.condF (congrArg AV.bool hc40) ?_
  refine AW.sr ?_
  refine AOps.p rfl (rfl : _ = (AV.str p1)) ?_
  refine AOps.p rfl (rfl : _ = (AV.int .i64 t17)) ?_
  obtain ⟨c57, h58, h⟩ := obind h
  refine AOps.pureR rfl rfl rfl (chr_str h58) rfl (rfl : _ = (AV.int .u8 c57)) ?_
  obtain ⟨y59, h60, h⟩ := obind h
  refine AOps.callP (g := 44) (args := [(AV.int .u8 c57)]) (p := (rB) y59) rfl rfl rfl (spec_l01Return_ok  h60 (HS.wf' hH19)) ?_
  intro _ o62 h61
  cases h61
  refine AOps.p rfl (rfl : _ = (AV.bool y59)) ?_
  refine AOps.split 4 (fun f' => ∃ tm' os', f' = ⟨updL tm' [(0, (AV.str p1)), (3, v11), (4, v15), (5, (AV.int .i64 t17)), (39, (AV.bool (y59 && (decide (((t13.length : Int) : Int) > 0)))))], updL os' [], s18⟩) ?_ ?_
  ·rcases Bool.eq_false_or_eq_true y59 with hc63 | hc63
   ·refine AOps.know (d := 35) rfl hc63 ?_
    refine AOps.p rfl (rfl : _ = v15) ?_
    refine AOps.pureR rfl rfl rfl (DY.len h16 rfl rfl rfl) rfl (rfl : _ = (AV.int .i64 (t13.length : Int))) ?_
    refine AOps.p rfl (rfl : _ = (AV.bool (decide (((t13.length : Int) : Int) > 0)))) ?_
    refine AOps.p rfl (rfl : _ = (AV.bool (decide (((t13.length : Int) : Int) > 0)))) ?_
    refine AOps.resR [(0, (AV.str p1)), (3, v11), (4, v15), (5, (AV.int .i64 t17)), (39, (AV.bool (y59 && (decide (((t13.length : Int) : Int) > 0)))))] [] ?_ ?_ _ ⟨_, _, rfl⟩
    ·exact ⟨rfl, rfl, rfl, rfl, congrArg AV.bool (and_t hc63), trivial⟩
    exact trivial
   ·refine AOps.know (d := 35) rfl hc63 ?_
    refine AOps.skipR rfl rfl ?_
    refine AOps.skipR rfl rfl ?_
    refine AOps.skipR rfl rfl ?_
    refine AOps.p rfl (rfl : _ = (AV.bool false)) ?_
    refine AOps.resR [(0, (AV.str p1)), (3, v11), (4, v15), (5, (AV.int .i64 t17)), (39, (AV.bool (y59 && (decide (((t13.length : Int) : Int) > 0)))))] [] ?_ ?_ _ ⟨_, _, rfl⟩
    ·exact ⟨rfl, rfl, rfl, rfl, congrArg AV.bool (and_f hc63), trivial⟩
    exact trivial
  rintro _ ⟨tm, os, rfl⟩
  refine AOps.assignR rfl rfl rfl (rfl : _ = (AV.bool (y59 && (decide (((t13.length : Int) : Int) > 0))))) rfl ?_
  refine AOps.nilR ?_
  rcases oite h with ⟨hc64, h⟩ | ⟨hc64, h⟩
  ·refine AW.condT (congrArg AV.bool hc64) ?_
   refine AW.sr ?_
   refine AOps.p rfl (rfl : _ = v15) ?_
   refine AOps.p rfl (rfl : _ = v15) ?_
   refine AOps.pureR rfl rfl rfl (DY.len h16 rfl rfl rfl) rfl (rfl : _ = (AV.int .i64 (t13.length : Int))) ?_
   refine AOps.p rfl (rfl : _ = (AV.int .i64 (IntKind.wrap .i64 ((t13.length : Int) - 1)))) ?_
   obtain ⟨x65, h66, h⟩ := obind h
   obtain ⟨b67, n68, h69, h71, h70⟩ := DY.has h16 h66
   subst h71
   refine AOps.pureR rfl rfl rfl (idx_ms h70 h66) rfl (rfl : _ = (AV.ptr b67 (0 + Int.toNat (IntKind.wrap .i64 ((t13.length : Int) - 1)) * 1))) ?_
   refine AOps.ldM (i := 1) (r := rI .i64) (off := 0) hH19 rfl h69 h70 h66 rfl rfl rfl rfl rfl (lt_b rfl) (le_b rfl) rfl rfl ?_ (fun c hr hs => by cases hr; exact ⟨_, rfl⟩)
   intro c72 h73 h74 v75 h76
   cases h73
   cases h76
   refine AOps.assignR rfl rfl rfl (rfl : _ = (AV.int .i64 x65)) rfl ?_
   refine AOps.nilR ?_
   refine AW.sr ?_
   refine AOps.p rfl (rfl : _ = (AV.ms false 1 b67 0 n68)) ?_
   refine AOps.p rfl (rfl : _ = (AV.ms false 1 b67 0 n68)) ?_
   refine AOps.p rfl (len_ms h70) ?_
   refine AOps.p rfl (rfl : _ = (AV.int .i64 (IntKind.wrap .i64 ((t13.length : Int) - 1)))) ?_
   obtain ⟨l77, h78, h⟩ := obind h
   obtain ⟨h79, h80⟩ := MS.cut (b := b67) (k := .i64) h70 h78
   refine AOps.pureR rfl rfl rfl h80 rfl (rfl : _ = (AV.ms false 1 b67 0 (Int.toNat (IntKind.wrap .i64 ((t13.length : Int) - 1))))) ?_
   refine AOps.assignR rfl rfl rfl (rfl : _ = (AV.ms false 1 b67 0 (Int.toNat (IntKind.wrap .i64 ((t13.length : Int) - 1))))) rfl ?_
   refine AOps.nilR ?_
   refine AW.sr ?_
   refine AOps.p rfl (rfl : _ = v11) ?_
   refine AOps.p rfl (rfl : _ = (AV.int .i64 x65)) ?_
   refine AOps.p rfl (rfl : _ = (AV.int .i64 t17)) ?_
   obtain ⟨x81, h82, h⟩ := obind h
   obtain ⟨b83, n84, h85, h87, h86⟩ := DY.has h12 h82
   subst h87
   refine AOps.pureR rfl rfl rfl (idx_ms h86 h82) rfl (rfl : _ = (AV.ptr b83 (0 + Int.toNat x65 * 1))) ?_
   refine AOps.stM (i := 0) (r := rI .i64) (v := (AV.int .i64 t17)) (y := t17) hH19 rfl h85 h86 h82 rfl rfl rfl rfl rfl rfl (Sh.I t17 _ rfl) rfl rfl (lt_b rfl) rfl rfl ?_
   intro cs88 w89 s90 h91 hH92
   change HS [] false s s90 [⟨some b83, cs88, w89⟩, x14] at hH92
   refine AOps.nilR ?_
   refine AW.region ?_
   refine AOps.p rfl (rfl : _ = (AV.ms false 1 b83 0 n84)) ?_
   refine AOps.p rfl (rfl : _ = (AV.int .i64 x65)) ?_
   refine AOps.makeR rfl rfl rfl rfl rfl rfl (rfl : _ = (AV.sl 1 true [(AV.int .i64 x65)])) ?_
   obtain ⟨l93, h94, h⟩ := obind h
   refine AOps.appB' (i := 0) (r := rI .i64) (ei := ty2) (z' := 1) (f' := true) (e' := [(AV.int .i64 x65)]) hH92 rfl rfl h91 Sh.I rfl rfl rfl rfl rfl rfl rfl (appSrc_sl (LR.z (LR.lit (r := rI .i64) (sz := 1) (.cons rfl .nil))) rfl) (LR.el (LR.lit (r := rI .i64) (sz := 1) (.cons rfl .nil))) ⟨by decide, by decide, rfl, rfl⟩ rfl rfl h94 ?_
   intro b95 n96 cs97 s98 h99 hH100
   change HS [] false s s98 [⟨some b95, cs97, fun _ => false⟩, x14] at hH100
   refine AOps.assignR rfl rfl rfl (rfl : _ = (AV.ms false 1 b95 0 n96)) rfl ?_
   refine AOps.nilR ?_
   exact AW.res [(0, (AV.str p1)), (3, (AV.ms false 1 b95 0 n96)), (4, (AV.ms false 1 b67 0 (Int.toNat (IntKind.wrap .i64 ((t13.length : Int) - 1))))), (5, (AV.int .i64 t17))] [] ⟨rfl, rfl, rfl, rfl, trivial⟩ trivial (KJ39 (l93, l77, ⟨some b95, cs97, fun _ => false⟩, b95, n96, x14, (AV.ms false 1 b67 0 (Int.toNat (IntKind.wrap .i64 ((t13.length : Int) - 1)))), s98) _ _ ⟨rfl, h99, (DY.ms h69 h79), (HS.sel hH100 [some 0, some 1] (by decide)), h⟩)
  refine AW.condF (congrArg AV.bool hc64) ?_
  refine AW.sr ?_
  refine AOps.p rfl (rfl : _ = (AV.str p1)) ?_
  refine AOps.p rfl (rfl : _ = (AV.int .i64 t17)) ?_
  obtain ⟨c101, h102, h⟩ := obind h
  refine AOps.pureR rfl rfl rfl (chr_str h102) rfl (rfl : _ = (AV.int .u8 c101)) ?_
  obtain ⟨y103, h104, h⟩ := obind h
  refine AOps.callP (g := 44) (args := [(AV.int .u8 c101)]) (p := (rB) y103) rfl rfl rfl (spec_l01Return_ok  h104 (HS.wf' hH19)) ?_
  intro _ o106 h105
  cases h105
  refine AOps.assignR rfl rfl rfl (rfl : _ = (AV.bool y103)) rfl ?_
  refine AOps.nilR ?_
  rcases oite h with ⟨hc107, h⟩ | ⟨hc107, h⟩
  ·refine AW.condT (congrArg AV.bool hc107) ?_
   refine AW.region ?_
   refine AOps.p rfl (rfl : _ = v11) ?_
   refine AOps.makeR rfl rfl rfl rfl rfl rfl (rfl : _ = (AV.sl 1 true [(AV.int .i64 (-2))])) ?_
   obtain ⟨l108, h109, h⟩ := obind h
   refine AOps.appD (i := 0) (r := rI .i64) (ei := ty2) (z' := 1) (f' := true) (e' := [(AV.int .i64 (-2))]) hH19 rfl h12 Sh.I rfl rfl rfl rfl rfl rfl rfl (appSrc_sl (LR.z (LR.lit (r := rI .i64) (sz := 1) (.cons rfl .nil))) rfl) (LR.el (LR.lit (r := rI .i64) (sz := 1) (.cons rfl .nil))) rfl ⟨by decide, by decide, rfl, rfl⟩ rfl rfl h109 ?_
   intro b110 n111 cs112 s113 h114 hH115
   change HS [] false s s113 [⟨some b110, cs112, fun _ => false⟩, x14] at hH115
   refine AOps.assignR rfl rfl rfl (rfl : _ = (AV.ms false 1 b110 0 n111)) rfl ?_
   refine AOps.nilR ?_
   exact AW.res [(0, (AV.str p1)), (3, (AV.ms false 1 b110 0 n111)), (4, v15), (5, (AV.int .i64 t17))] [] ⟨rfl, rfl, rfl, rfl, trivial⟩ trivial (KJ39 (l108, t13, ⟨some b110, cs112, fun _ => false⟩, b110, n111, x14, v15, s113) _ _ ⟨rfl, h114, h16, (HS.sel hH115 [some 0, some 1] (by decide)), h⟩)
  refine AW.condF (congrArg AV.bool hc107) ?_
  refine AW.region ?_
  refine AOps.p rfl (rfl : _ = v11) ?_
  refine AOps.makeR rfl rfl rfl rfl rfl rfl (rfl : _ = (AV.sl 1 true [(AV.int .i64 (-1))])) ?_
  obtain ⟨l116, h117, h⟩ := obind h
  refine AOps.appD (i := 0) (r := rI .i64) (ei := ty2) (z' := 1) (f' := true) (e' := [(AV.int .i64 (-1))]) hH19 rfl h12 Sh.I rfl rfl rfl rfl rfl rfl rfl (appSrc_sl (LR.z (LR.lit (r := rI .i64) (sz := 1) (.cons rfl .nil))) rfl) (LR.el (LR.lit (r := rI .i64) (sz := 1) (.cons rfl .nil))) rfl ⟨by decide, by decide, rfl, rfl⟩ rfl rfl h117 ?_
  intro b118 n119 cs120 s121 h122 hH123
  change HS [] false s s121 [⟨some b118, cs120, fun _ => false⟩, x14] at hH123
  refine AOps.assignR rfl rfl rfl (rfl : _ = (AV.ms false 1 b118 0 n119)) rfl ?_
  refine AOps.nilR ?_
  exact AW.res [(0, (AV.str p1)), (3, (AV.ms false 1 b118 0 n119)), (4, v15), (5, (AV.int .i64 t17))] [] ⟨rfl, rfl, rfl, rfl, trivial⟩ trivial (KJ39 (l116, t13, ⟨some b118, cs120, fun _ => false⟩, b118, n119, x14, v15, s121) _ _ ⟨rfl, h122, h16, (HS.sel hH123 [some 0, some 1] (by decide)), h⟩)
 refine AW.condF (congrArg AV.bool hc20) ?_
 refine AW.exit rfl ?_
 obtain ⟨r124, hm, hx⟩ := omap h
 clear h
 subst hx
 have hx := hR1 _ rfl
 rw [hx] at hm
 have h := hm
 exact AW.res [(3, v11)] [] ⟨rfl, trivial⟩ trivial (KJ8 (t9, x10, v11, s18) _ _ ⟨h12, (HS.sel hH19 [some 0] (by decide)), h⟩)
theorem spec_l01Pending_ok {w1 : List UInt8} {s : St} {r : Int × Int} (h : spec_l01Pending w1 = some r) (hs : WF s) : ACall Cf 45 [(AV.str w1)] s fun v _ s' => (fun x => rT [(rI .i64) x.1, (rI .i64) x.2]) r v ∧ s' = s := by
 refine ACall.pure rfl rfl rfl (.T (.cons .I (.cons .I .nil))) ?_
 have hWF := hs.lo'
 unfold spec_l01Pending at h
 refine AW.sr ?_
 refine AOps.p rfl (rfl : _ = (AV.int .i64 0)) ?_
 refine AOps.p rfl (rfl : _ = (AV.int .i64 0)) ?_
 refine AOps.nilR ?_
 refine AW.sr ?_
 refine AOps.p rfl (rfl : _ = (AV.str w1)) ?_
 obtain ⟨y2, h3, h⟩ := obind h
 refine AOps.callP (g := 48) (args := [(AV.str w1)]) (p := (rL (rI .i64) 1) y2) rfl rfl rfl (spec_l01Partners_ok  h3 hWF) ?_
 intro _ o9 h4
 obtain ⟨z5, f6, e7, rfl, h8⟩ := h4
 refine AOps.assignR rfl rfl rfl (rfl : _ = (AV.sl z5 f6 e7)) rfl ?_
 refine AOps.nilR ?_
 refine AW.sr ?_
 refine AOps.p rfl (rfl : _ = (AV.int .i64 0)) ?_
 refine AOps.nilR ?_
 refine AW.sr ?_
 refine AOps.p rfl (rfl : _ = (AV.int .i64 0)) ?_
 refine AOps.nilR ?_
 refine AW.seq ?_
 refine AW.sr ?_
 refine AOps.p rfl (rfl : _ = (AV.int .i64 0)) ?_
 refine AOps.nilR ?_
 refine AW.meet (σ := Int × Int) (fun (returns10, calls11) tm os => ⟨updL tm [(5, (AV.int .i64 returns10)), (6, (AV.int .i64 calls11))], updL os [], { s with lo := s.n }⟩) (fun (returns10, calls11) => spec_l01Pending_J1 returns10 calls11 = some r) ?_ ?_
 ·rintro ⟨returns10, calls11⟩ tm os h
  unfold spec_l01Pending_J1 at h
  refine AW.sr ?_
  refine AOps.p rfl (rfl : _ = (AV.int .i64 returns10)) ?_
  refine AOps.p rfl (rfl : _ = (AV.int .i64 calls11)) ?_
  refine AOps.assignR rfl rfl rfl (rfl : _ = (AV.int .i64 returns10)) rfl ?_
  refine AOps.assignR rfl rfl rfl (rfl : _ = (AV.int .i64 calls11)) rfl ?_
  refine AOps.nilR ?_
  cases h
  exact AW.ret ⟨rfl, _, _, rfl, ⟨_, rfl, (.cons rfl (.cons rfl .nil))⟩⟩
 intro KJ12
 refine AW.block ?_
 refine AW.res [(0, (AV.str w1)), (4, (AV.sl z5 f6 e7)), (5, (AV.int .i64 0)), (6, (AV.int .i64 0)), (7, (AV.int .i64 0))] [] ⟨rfl, rfl, rfl, rfl, rfl, trivial⟩ trivial ?_
 refine AW.loopF (σ := Int × Int × Int) (τ := Unit) (fun (returns13, calls14, i15) _ => True) (fun (returns13, calls14, i15) _ tm os => ⟨updL tm [(0, (AV.str w1)), (4, (AV.sl z5 f6 e7)), (5, (AV.int .i64 returns13)), (6, (AV.int .i64 calls14)), (7, (AV.int .i64 i15))], updL os [], { s with lo := s.n }⟩) ?_ (x := (0, 0, 0)) (y := ()) h trivial
 clear h
 rintro ⟨returns13, calls14, i15⟩ _ tm os - ee1 h hL1 hR1
 unfold spec_l01Pending_S1 at h
 dsimp only at h
 refine AW.seq ?_
 refine AW.sr ?_
 refine AOps.p rfl (rfl : _ = (AV.int .i64 i15)) ?_
 refine AOps.p rfl (rfl : _ = (AV.str w1)) ?_
 refine AOps.p rfl (rfl : _ = (AV.int .i64 (w1.length : Int))) ?_
 refine AOps.p rfl (rfl : _ = (AV.bool (decide ((i15 : Int) < (w1.length : Int))))) ?_
 refine AOps.nilR ?_
 rcases oite h with ⟨hc16, h⟩ | ⟨hc16, h⟩
 ·refine AW.condT (congrArg AV.bool hc16) ?_
  refine AW.skip ?_
  refine AW.seq ?_
  refine AW.block ?_
  refine AW.seq ?_
  refine AW.sr ?_
  refine AOps.p rfl (rfl : _ = (AV.sl z5 f6 e7)) ?_
  refine AOps.p rfl (rfl : _ = (AV.int .i64 i15)) ?_
  obtain ⟨x17, h18, h⟩ := obind h
  obtain ⟨v21, h19, h20⟩ := idx_sl h8 h18
  cases h19
  refine AOps.pureR rfl rfl rfl h20 rfl (rfl : _ = (AV.eptr [(AV.int .i64 x17)] 0)) ?_
  refine AOps.ldE (v := (AV.int .i64 x17)) rfl rfl rfl rfl rfl rfl ?_
  refine AOps.p rfl (rfl : _ = (AV.bool (x17 == (-2)))) ?_
  refine AOps.p rfl (rfl : _ = (AV.bool (x17 == (-2)))) ?_
  obtain ⟨b23, hb, h⟩ := obind h
  refine AOps.split 5 (fun f' => ∃ tm' os', f' = ⟨updL tm' [(0, (AV.str w1)), (4, (AV.sl z5 f6 e7)), (5, (AV.int .i64 returns13)), (6, (AV.int .i64 calls14)), (7, (AV.int .i64 i15)), (26, (AV.bool b23))], updL os' [], { s with lo := s.n }⟩) ?_ ?_
  ·rcases oite hb with ⟨hc22, hb⟩ | ⟨hc22, hb⟩
   ·have h := hb
    refine AOps.know (d := 21) rfl hc22 ?_
    refine AOps.p rfl (rfl : _ = (AV.str w1)) ?_
    refine AOps.p rfl (rfl : _ = (AV.int .i64 i15)) ?_
    obtain ⟨c24, h25, h⟩ := obind h
    refine AOps.pureR rfl rfl rfl (chr_str h25) rfl (rfl : _ = (AV.int .u8 c24)) ?_
    obtain ⟨y26, h27, h⟩ := obind h
    refine AOps.callP (g := 44) (args := [(AV.int .u8 c24)]) (p := (rB) y26) rfl rfl rfl (spec_l01Return_ok  h27 hWF) ?_
    intro _ o29 h28
    cases h28
    refine AOps.p rfl (rfl : _ = (AV.bool y26)) ?_
    refine AOps.resR [(0, (AV.str w1)), (4, (AV.sl z5 f6 e7)), (5, (AV.int .i64 returns13)), (6, (AV.int .i64 calls14)), (7, (AV.int .i64 i15)), (26, (AV.bool b23))] [] ?_ ?_ _ ⟨_, _, rfl⟩
    ·exact ⟨rfl, rfl, rfl, rfl, rfl, congrArg AV.bool (Option.some.inj h), trivial⟩
    exact trivial
   ·refine AOps.know (d := 21) rfl hc22 ?_
    refine AOps.skipR rfl rfl ?_
    refine AOps.skipR rfl rfl ?_
    refine AOps.skipR rfl rfl ?_
    refine AOps.skipR rfl rfl ?_
    refine AOps.p rfl (rfl : _ = (AV.bool false)) ?_
    refine AOps.resR [(0, (AV.str w1)), (4, (AV.sl z5 f6 e7)), (5, (AV.int .i64 returns13)), (6, (AV.int .i64 calls14)), (7, (AV.int .i64 i15)), (26, (AV.bool b23))] [] ?_ ?_ _ ⟨_, _, rfl⟩
    ·exact ⟨rfl, rfl, rfl, rfl, rfl, congrArg AV.bool (Option.some.inj hb), trivial⟩
    exact trivial
  rintro _ ⟨tm, os, rfl⟩
  refine AOps.nilR ?_
  refine AW.meet (σ := Int) (fun returns30 tm os => ⟨updL tm [(0, (AV.str w1)), (4, (AV.sl z5 f6 e7)), (5, (AV.int .i64 returns30)), (6, (AV.int .i64 calls14)), (7, (AV.int .i64 i15))], updL os [], { s with lo := s.n }⟩) (fun returns30 => spec_l01Pending_J2 w1 y2 calls14 i15 returns30 = some ee1) ?_ ?_
  ·rintro returns30 tm os h
   unfold spec_l01Pending_J2 at h
   refine AW.sr ?_
   refine AOps.p rfl (rfl : _ = (AV.sl z5 f6 e7)) ?_
   refine AOps.p rfl (rfl : _ = (AV.int .i64 i15)) ?_
   obtain ⟨x32, h33, h⟩ := obind h
   obtain ⟨v36, h34, h35⟩ := idx_sl h8 h33
   cases h34
   refine AOps.pureR rfl rfl rfl h35 rfl (rfl : _ = (AV.eptr [(AV.int .i64 x32)] 0)) ?_
   refine AOps.ldE (v := (AV.int .i64 x32)) rfl rfl rfl rfl rfl rfl ?_
   refine AOps.p rfl (rfl : _ = (AV.bool (x32 == (-2)))) ?_
   refine AOps.p rfl (rfl : _ = (AV.bool (x32 == (-2)))) ?_
   obtain ⟨b38, hb, h⟩ := obind h
   refine AOps.split 5 (fun f' => ∃ tm' os', f' = ⟨updL tm' [(0, (AV.str w1)), (4, (AV.sl z5 f6 e7)), (5, (AV.int .i64 returns30)), (6, (AV.int .i64 calls14)), (7, (AV.int .i64 i15)), (39, (AV.bool b38))], updL os' [], { s with lo := s.n }⟩) ?_ ?_
   ·rcases oite hb with ⟨hc37, hb⟩ | ⟨hc37, hb⟩
    ·have h := hb
     refine AOps.know (d := 34) rfl hc37 ?_
     refine AOps.p rfl (rfl : _ = (AV.str w1)) ?_
     refine AOps.p rfl (rfl : _ = (AV.int .i64 i15)) ?_
     obtain ⟨c39, h40, h⟩ := obind h
     refine AOps.pureR rfl rfl rfl (chr_str h40) rfl (rfl : _ = (AV.int .u8 c39)) ?_
     obtain ⟨y41, h42, h⟩ := obind h
     refine AOps.callP (g := 43) (args := [(AV.int .u8 c39)]) (p := (rB) y41) rfl rfl rfl (spec_l01Call_ok  h42 hWF) ?_
     intro _ o44 h43
     cases h43
     refine AOps.p rfl (rfl : _ = (AV.bool y41)) ?_
     refine AOps.resR [(0, (AV.str w1)), (4, (AV.sl z5 f6 e7)), (5, (AV.int .i64 returns30)), (6, (AV.int .i64 calls14)), (7, (AV.int .i64 i15)), (39, (AV.bool b38))] [] ?_ ?_ _ ⟨_, _, rfl⟩
     ·exact ⟨rfl, rfl, rfl, rfl, rfl, congrArg AV.bool (Option.some.inj h), trivial⟩
     exact trivial
    ·refine AOps.know (d := 34) rfl hc37 ?_
     refine AOps.skipR rfl rfl ?_
     refine AOps.skipR rfl rfl ?_
     refine AOps.skipR rfl rfl ?_
     refine AOps.skipR rfl rfl ?_
     refine AOps.p rfl (rfl : _ = (AV.bool false)) ?_
     refine AOps.resR [(0, (AV.str w1)), (4, (AV.sl z5 f6 e7)), (5, (AV.int .i64 returns30)), (6, (AV.int .i64 calls14)), (7, (AV.int .i64 i15)), (39, (AV.bool b38))] [] ?_ ?_ _ ⟨_, _, rfl⟩
     ·exact ⟨rfl, rfl, rfl, rfl, rfl, congrArg AV.bool (Option.some.inj hb), trivial⟩
     exact trivial
   rintro _ ⟨tm, os, rfl⟩
   refine AOps.nilR ?_
   refine AW.meet (σ := Int) (fun calls45 tm os => ⟨updL tm [(0, (AV.str w1)), (4, (AV.sl z5 f6 e7)), (5, (AV.int .i64 returns30)), (6, (AV.int .i64 calls45)), (7, (AV.int .i64 i15))], updL os [], { s with lo := s.n }⟩) (fun calls45 => spec_l01Pending_J3 i15 returns30 calls45 = some ee1) ?_ ?_
   ·rintro calls45 tm os h
    unfold spec_l01Pending_J3 at h
    refine AW.inBlock ?_
    refine AW.region ?_
    refine AOps.p rfl (rfl : _ = (AV.int .i64 i15)) ?_
    refine AOps.p rfl (rfl : _ = (AV.int .i64 (IntKind.wrap .i64 (i15 + 1)))) ?_
    refine AOps.assignR rfl rfl rfl (rfl : _ = (AV.int .i64 (IntKind.wrap .i64 (i15 + 1)))) rfl ?_
    refine AOps.nilR ?_
    cases h
    exact AW.res [(0, (AV.str w1)), (4, (AV.sl z5 f6 e7)), (5, (AV.int .i64 returns30)), (6, (AV.int .i64 calls45)), (7, (AV.int .i64 (IntKind.wrap .i64 (i15 + 1))))] [] ⟨rfl, rfl, rfl, rfl, rfl, trivial⟩ trivial (hL1 _ rfl () _ _ trivial)
   intro KJ46
   rcases oite h with ⟨hc47, h⟩ | ⟨hc47, h⟩
   ·refine AW.condT (congrArg AV.bool hc47) ?_
    refine AW.region ?_
    refine AOps.p rfl (rfl : _ = (AV.int .i64 calls14)) ?_
    refine AOps.p rfl (rfl : _ = (AV.int .i64 (IntKind.wrap .i64 (calls14 + 1)))) ?_
    refine AOps.assignR rfl rfl rfl (rfl : _ = (AV.int .i64 (IntKind.wrap .i64 (calls14 + 1)))) rfl ?_
    refine AOps.nilR ?_
    exact AW.res [(0, (AV.str w1)), (4, (AV.sl z5 f6 e7)), (5, (AV.int .i64 returns30)), (6, (AV.int .i64 (IntKind.wrap .i64 (calls14 + 1)))), (7, (AV.int .i64 i15))] [] ⟨rfl, rfl, rfl, rfl, rfl, trivial⟩ trivial (KJ46 (IntKind.wrap .i64 (calls14 + 1)) _ _ h)
   refine AW.condF (congrArg AV.bool hc47) ?_
   refine AW.skip ?_
   exact AW.res [(0, (AV.str w1)), (4, (AV.sl z5 f6 e7)), (5, (AV.int .i64 returns30)), (6, (AV.int .i64 calls14)), (7, (AV.int .i64 i15))] [] ⟨rfl, rfl, rfl, rfl, rfl, trivial⟩ trivial (KJ46 (calls14) _ _ h)
  intro KJ31
  rcases oite h with ⟨hc48, h⟩ | ⟨hc48, h⟩
  ·refine AW.condT (congrArg AV.bool hc48) ?_
   refine AW.region ?_
   refine AOps.p rfl (rfl : _ = (AV.int .i64 returns13)) ?_
   refine AOps.p rfl (rfl : _ = (AV.int .i64 (IntKind.wrap .i64 (returns13 + 1)))) ?_
   refine AOps.assignR rfl rfl rfl (rfl : _ = (AV.int .i64 (IntKind.wrap .i64 (returns13 + 1)))) rfl ?_
   refine AOps.nilR ?_
   exact AW.res [(0, (AV.str w1)), (4, (AV.sl z5 f6 e7)), (5, (AV.int .i64 (IntKind.wrap .i64 (returns13 + 1)))), (6, (AV.int .i64 calls14)), (7, (AV.int .i64 i15))] [] ⟨rfl, rfl, rfl, rfl, rfl, trivial⟩ trivial (KJ31 (IntKind.wrap .i64 (returns13 + 1)) _ _ h)
  refine AW.condF (congrArg AV.bool hc48) ?_
  refine AW.skip ?_
  exact AW.res [(0, (AV.str w1)), (4, (AV.sl z5 f6 e7)), (5, (AV.int .i64 returns13)), (6, (AV.int .i64 calls14)), (7, (AV.int .i64 i15))] [] ⟨rfl, rfl, rfl, rfl, rfl, trivial⟩ trivial (KJ31 (returns13) _ _ h)
 refine AW.condF (congrArg AV.bool hc16) ?_
 refine AW.exit rfl ?_
 obtain ⟨r49, hm, hx⟩ := omap h
 clear h
 subst hx
 have hx := hR1 _ rfl
 rw [hx] at hm
 have h := hm
 exact AW.res [(5, (AV.int .i64 returns13)), (6, (AV.int .i64 calls14))] [] ⟨rfl, rfl, trivial⟩ trivial (KJ12 (returns13, calls14) _ _ h)
theorem spec_l01Matched_ok {w1 : List UInt8} {s : St} {r : Bool} (h : spec_l01Matched w1 = some r) (hs : WF s) : ACall Cf 29 [(AV.str w1)] s fun v _ s' => (rB) r v ∧ s' = s := by
 refine ACall.pure rfl rfl rfl .B ?_
 have hWF := hs.lo'
 unfold spec_l01Matched at h
 refine AW.sr ?_
 refine AOps.p rfl (rfl : _ = (AV.bool false)) ?_
 refine AOps.nilR ?_
 refine AW.sr ?_
 refine AOps.p rfl (rfl : _ = (AV.str w1)) ?_
 obtain ⟨y2, h3, h⟩ := obind h
 refine AOps.callP (g := 45) (args := [(AV.str w1)]) (p := (fun x => rT [(rI .i64) x.1, (rI .i64) x.2]) y2) rfl rfl rfl (spec_l01Pending_ok  h3 hWF) ?_
 intro _ o10 h4
 obtain ⟨_, rfl, h5⟩ := h4
 obtain ⟨_, _, rfl, h6, h7⟩ := Cs_cons h5
 cases h6
 obtain ⟨_, _, rfl, h8, h9⟩ := Cs_cons h7
 cases h8
 cases Cs_nil h9
 refine AOps.p rfl (rfl : _ = (AV.tup [(AV.int .i64 y2.1), (AV.int .i64 y2.2)])) ?_
 refine AOps.p rfl (rfl : _ = (AV.int .i64 y2.1)) ?_
 refine AOps.p rfl (rfl : _ = (AV.int .i64 y2.2)) ?_
 refine AOps.assignR rfl rfl rfl (rfl : _ = (AV.int .i64 y2.1)) rfl ?_
 refine AOps.assignR rfl rfl rfl (rfl : _ = (AV.int .i64 y2.2)) rfl ?_
 refine AOps.nilR ?_
 refine AW.sr ?_
 refine AOps.p rfl (rfl : _ = (AV.int .i64 y2.1)) ?_
 refine AOps.p rfl (rfl : _ = (AV.int .i64 y2.2)) ?_
 refine AOps.p rfl (rfl : _ = (AV.int .i64 (IntKind.wrap .i64 (y2.1 + y2.2)))) ?_
 refine AOps.p rfl (rfl : _ = (AV.bool ((IntKind.wrap .i64 (y2.1 + y2.2)) == 0))) ?_
 refine AOps.assignR rfl rfl rfl (rfl : _ = (AV.bool ((IntKind.wrap .i64 (y2.1 + y2.2)) == 0))) rfl ?_
 refine AOps.nilR ?_
 cases h
 exact AW.ret ⟨rfl, _, _, rfl, rfl⟩
theorem spec_l07None_ok {p1 : ProgramT} {z2 : Nat} {f3 : Bool} {e4 : List AV} {s : St} (h5 : LR rModule 2 p1.Modules z2 e4) {r : L07Table} (h : spec_l07None p1 = some r) (hs : WF s) : ACall Cf 67 [(AV.eptr [(AV.sl z2 f3 e4)] 0)] s fun v _ s' => (fun x => rP (csL07Table x)) r v ∧ s' = s := by
 refine ACall.boxes rfl rfl rfl ?_
 have hH0 := HS.init hs
 unfold spec_l07None at h
 refine AW.sr ?_
 refine AOps.p rfl (rfl : _ = AV.nilp) ?_
 refine AOps.nilR ?_
 refine AW.sr ?_
 refine AOps.p rfl (rfl : _ = (AV.agg [(AV.sl 0 true [])])) ?_
 refine AOps.box1 (v := (AV.agg [(AV.sl 0 true [])])) hH0 rfl rfl rfl rfl rfl rfl rfl rfl ?_
 intro b6 s7 hH8
 change HS [] false s s7 [⟨some b6, [(AV.sl 0 true [])], (fun _ => false)⟩] at hH8
 refine AOps.assignR rfl rfl rfl (rfl : _ = (AV.ptr b6 0)) rfl ?_
 refine AOps.nilR ?_
 refine AW.seq ?_
 refine AW.sr ?_
 refine AOps.p rfl (rfl : _ = (AV.int .i64 0)) ?_
 refine AOps.nilR ?_
 refine AW.meet (σ := (List (List Int)) × (Nat → Bool) × Nat × Bool × (List AV) × St) (fun (m10, w9, z11, f12, e13, s16) tm os => ⟨updL tm [(3, (AV.ptr b6 0))], updL os [], s16⟩) (fun (m10, w9, z11, f12, e13, s16) => (LR (rL (rI .i64) 1) 1 m10 z11 e13) ∧ (f12 = true ∨ w9 0 = true) ∧ (HS [] false s s16 [⟨some b6, [(AV.sl z11 f12 e13)], w9⟩]) ∧ spec_l07None_J1 m10 = some r) ?_ ?_
 ·rintro ⟨m10, w9, z11, f12, e13, s16⟩ tm os ⟨h14, h15, hH17, h⟩
  unfold spec_l07None_J1 at h
  refine AW.sr ?_
  refine AOps.p rfl (rfl : _ = (AV.ptr b6 0)) ?_
  refine AOps.assignR rfl rfl rfl (rfl : _ = (AV.ptr b6 0)) rfl ?_
  refine AOps.nilR ?_
  cases h
  exact AW.ret ⟨⟨_, hH17⟩, _, _, rfl, (Fin.ptr (ps := csL07Table (⟨m10⟩ : L07Table)) hH17 (i := 0) rfl rfl (.cons (Fin.of (p := (rL (rL (rI .i64) 1) 1) m10) (.L fun _ => (.L fun _ => .I)) (⟨_, _, _, rfl, h14⟩)) .nil)).2⟩
 intro KJ18
 refine AW.block ?_
 refine AW.res [(0, (AV.eptr [(AV.sl z2 f3 e4)] 0)), (3, (AV.ptr b6 0)), (4, (AV.int .i64 0))] [] ⟨rfl, rfl, rfl, trivial⟩ trivial ?_
 refine AW.loopF (σ := (List (List Int)) × Int) (τ := (Nat → Bool) × Nat × Bool × (List AV) × St) (fun (m20, k26) (w19, z21, f22, e23, s27) => (LR (rL (rI .i64) 1) 1 m20 z21 e23) ∧ (f22 = true ∨ w19 0 = true) ∧ (HS [] false s s27 [⟨some b6, [(AV.sl z21 f22 e23)], w19⟩])) (fun (m20, k26) (w19, z21, f22, e23, s27) tm os => ⟨updL tm [(0, (AV.eptr [(AV.sl z2 f3 e4)] 0)), (3, (AV.ptr b6 0)), (4, (AV.int .i64 k26))], updL os [], s27⟩) ?_ (x := (([] : List (List Int)), 0)) (y := ((fun _ => false), 0, true, [], s7)) h ⟨⟨.inr ⟨rfl, rfl⟩, .nil⟩, (Or.inl rfl), (HS.sel hH8 [some 0] (by decide))⟩
 clear h
 rintro ⟨m20, k26⟩ ⟨w19, z21, f22, e23, s27⟩ tm os ⟨h24, h25, hH28⟩ ee1 h hL1 hR1
 unfold spec_l07None_S1 at h
 dsimp only at h
 refine AW.seq ?_
 refine AW.sr ?_
 refine AOps.p rfl (rfl : _ = (AV.int .i64 k26)) ?_
 refine AOps.p rfl (rfl : _ = (AV.eptr [(AV.sl z2 f3 e4)] 0)) ?_
 refine AOps.p rfl (rfl : _ = (AV.eptr [(AV.sl z2 f3 e4)] 0)) ?_
 refine AOps.p rfl (rfl : _ = (AV.eptr [(AV.sl z2 f3 e4)] 0)) ?_
 refine AOps.ldE (v := (AV.sl z2 f3 e4)) rfl rfl rfl rfl rfl rfl ?_
 refine AOps.p rfl (len_eq h5) ?_
 refine AOps.p rfl (rfl : _ = (AV.bool (decide ((k26 : Int) < (p1.Modules.length : Int))))) ?_
 refine AOps.nilR ?_
 rcases oite h with ⟨hc29, h⟩ | ⟨hc29, h⟩
 ·refine AW.condT (congrArg AV.bool hc29) ?_
  refine AW.skip ?_
  refine AW.seq ?_
  refine AW.block ?_
  refine AW.sr ?_
  refine AOps.makeR rfl rfl rfl rfl rfl rfl (rfl : _ = (AV.sl 1 true [])) ?_
  refine AOps.assignR rfl rfl rfl (rfl : _ = (AV.sl 1 true [])) rfl ?_
  refine AOps.nilR ?_
  refine AW.seq ?_
  refine AW.sr ?_
  refine AOps.p rfl (rfl : _ = (AV.int .i64 0)) ?_
  refine AOps.nilR ?_
  refine AW.meet (σ := (List Int) × Nat × Bool × (List AV) × Bool × St) (fun (row30, z31, f32, e33, o35, s37) tm os => ⟨updL tm [(0, (AV.eptr [(AV.sl z2 f3 e4)] 0)), (3, (AV.ptr b6 0)), (4, (AV.int .i64 k26)), (5, (AV.sl z31 f32 e33))], updL os [(5, o35)], s37⟩) (fun (row30, z31, f32, e33, o35, s37) => (LR (rI .i64) 1 row30 z31 e33) ∧ (f32 = true ∨ o35 = true) ∧ (HS [] false s s37 [⟨some b6, [(AV.sl z21 f22 e23)], w19⟩]) ∧ spec_l07None_J2 m20 k26 row30 = some ee1) ?_ ?_
  ·rintro ⟨row30, z31, f32, e33, o35, s37⟩ tm os ⟨h34, h36, hH38, h⟩
   unfold spec_l07None_J2 at h
   refine AW.region ?_
   refine AOps.p rfl (rfl : _ = (AV.ptr b6 0)) ?_
   refine AOps.p rfl (rfl : _ = (AV.ptr b6 0)) ?_
   refine AOps.p rfl (rfl : _ = (AV.ptr b6 0)) ?_
   refine AOps.p rfl (rfl : _ = (AV.ptr b6 0)) ?_
   refine AOps.ldMv (i := 0) (v := (AV.sl z21 f22 e23)) hH38 rfl rfl rfl rfl rfl rfl rfl rfl rfl rfl h25 ?_
   intro o40 w41 s45 h42 h43 hH44
   change HS [] false s s45 [⟨some b6, [(AV.sl z21 f22 e23)], w41⟩] at hH44
   refine AOps.p rfl (rfl : _ = (AV.sl z31 f32 e33)) ?_
   refine AOps.makeR rfl rfl rfl rfl rfl rfl (rfl : _ = (AV.sl 1 true [(AV.sl z31 f32 e33)])) ?_
   obtain ⟨l46, h47, h⟩ := obind h
   obtain ⟨h48, h49⟩ := app_LR h24 (LR.lit (r := rL (rI .i64) 1) (sz := 1) (.cons ⟨_, _, _, rfl, h34⟩ .nil)) h47
   refine AOps.appL (z := z21) (f := f22) (e := e23) (z' := 1) (f' := true) (e' := [(AV.sl z31 f32 e33)]) rfl rfl rfl rfl rfl rfl rfl (appSrc_sl (LR.z (LR.lit (r := rL (rI .i64) 1) (sz := 1) (.cons ⟨_, _, _, rfl, h34⟩ .nil))) rfl) (LR.z h24) ⟨by decide, by decide, rfl, rfl⟩ rfl rfl h49 (own_tmp h42 rfl rfl) ?_
   refine AOps.p rfl (rfl : _ = (AV.ptr b6 0)) ?_
   refine AOps.p rfl (rfl : _ = (AV.ptr b6 0)) ?_
   refine AOps.stB (i := 0) (v := (AV.sl 1 false (e23 ++ [(AV.sl z31 f32 e33)]))) hH44 rfl rfl rfl rfl rfl rfl rfl rfl rfl (lt_b rfl) (le_b rfl) rfl ?_
   intro w50 s51 h52 h53 hH54
   change HS [] false s s51 [⟨some b6, [(AV.sl 1 false (e23 ++ [(AV.sl z31 f32 e33)]))], w50⟩] at hH54
   refine AOps.nilR ?_
   refine AW.inBlock ?_
   refine AW.region ?_
   refine AOps.p rfl (rfl : _ = (AV.int .i64 k26)) ?_
   refine AOps.p rfl (rfl : _ = (AV.int .i64 (IntKind.wrap .i64 (k26 + 1)))) ?_
   refine AOps.assignR rfl rfl rfl (rfl : _ = (AV.int .i64 (IntKind.wrap .i64 (k26 + 1)))) rfl ?_
   refine AOps.nilR ?_
   cases h
   exact AW.res [(0, (AV.eptr [(AV.sl z2 f3 e4)] 0)), (3, (AV.ptr b6 0)), (4, (AV.int .i64 (IntKind.wrap .i64 (k26 + 1))))] [] ⟨rfl, rfl, rfl, trivial⟩ trivial (hL1 _ rfl (w50, 1, false, (e23 ++ [(AV.sl z31 f32 e33)]), s51) _ _ ⟨h48, (own_st (Or.inr rfl) h53 rfl rfl rfl), (HS.sel hH54 [some 0] (by decide))⟩)
  intro KJ39
  refine AW.block ?_
  refine AW.res [(0, (AV.eptr [(AV.sl z2 f3 e4)] 0)), (3, (AV.ptr b6 0)), (4, (AV.int .i64 k26)), (5, (AV.sl 1 true [])), (6, (AV.int .i64 0))] [(5, false)] ⟨rfl, rfl, rfl, rfl, rfl, trivial⟩ ⟨rfl, trivial⟩ ?_
  refine AW.loopF (σ := (List Int) × Int) (τ := Nat × Bool × (List AV) × Bool × St) (fun (row55, s62) (z56, f57, e58, o60, s63) => (LR (rI .i64) 1 row55 z56 e58) ∧ (f57 = true ∨ o60 = true) ∧ (HS [] false s s63 [⟨some b6, [(AV.sl z21 f22 e23)], w19⟩])) (fun (row55, s62) (z56, f57, e58, o60, s63) tm os => ⟨updL tm [(0, (AV.eptr [(AV.sl z2 f3 e4)] 0)), (3, (AV.ptr b6 0)), (4, (AV.int .i64 k26)), (5, (AV.sl z56 f57 e58)), (6, (AV.int .i64 s62))], updL os [(5, o60)], s63⟩) ?_ (x := (([] : List Int), 0)) (y := (1, true, [], false, s27)) h ⟨⟨.inl rfl, .nil⟩, (Or.inl rfl), (HS.sel hH28 [some 0] (by decide))⟩
  clear h
  rintro ⟨row55, s62⟩ ⟨z56, f57, e58, o60, s63⟩ tm os ⟨h59, h61, hH64⟩ ee2 h hL2 hR2
  unfold spec_l07None_S2 at h
  dsimp only at h
  refine AW.seq ?_
  refine AW.sr ?_
  refine AOps.p rfl (rfl : _ = (AV.int .i64 s62)) ?_
  refine AOps.p rfl (rfl : _ = (AV.eptr [(AV.sl z2 f3 e4)] 0)) ?_
  refine AOps.p rfl (rfl : _ = (AV.eptr [(AV.sl z2 f3 e4)] 0)) ?_
  refine AOps.p rfl (rfl : _ = (AV.eptr [(AV.sl z2 f3 e4)] 0)) ?_
  refine AOps.ldE (v := (AV.sl z2 f3 e4)) rfl rfl rfl rfl rfl rfl ?_
  refine AOps.p rfl (rfl : _ = (AV.int .i64 k26)) ?_
  obtain ⟨x65, h66, h⟩ := obind h
  obtain ⟨v69, h67, h68⟩ := idx_sl h5 h66
  obtain ⟨_, rfl, h70⟩ := h67
  obtain ⟨_, _, rfl, h71, h72⟩ := Cs_cons h70
  cases h71
  obtain ⟨_, _, rfl, h73, h74⟩ := Cs_cons h72
  obtain ⟨z75, f76, e77, rfl, h78⟩ := h73
  cases Cs_nil h74
  refine AOps.pureR rfl rfl rfl h68 rfl (rfl : _ = (AV.eptr [(AV.int .i64 x65.Nodes), (AV.sl z75 f76 e77)] 0)) ?_
  refine AOps.p rfl (rfl : _ = (AV.eptr [(AV.int .i64 x65.Nodes), (AV.sl z75 f76 e77)] 0)) ?_
  refine AOps.ldE (v := (AV.int .i64 x65.Nodes)) rfl rfl rfl rfl rfl rfl ?_
  refine AOps.p rfl (rfl : _ = (AV.bool (decide ((s62 : Int) < x65.Nodes)))) ?_
  refine AOps.nilR ?_
  rcases oite h with ⟨hc79, h⟩ | ⟨hc79, h⟩
  ·refine AW.condT (congrArg AV.bool hc79) ?_
   refine AW.skip ?_
   refine AW.seq ?_
   refine AW.block ?_
   refine AW.region ?_
   refine AOps.moveR rfl rfl rfl rfl (rfl : _ = (AV.sl z56 f57 e58)) rfl ?_
   refine AOps.p rfl (rfl : _ = (AV.int .i64 s62)) ?_
   refine AOps.p rfl (rfl : _ = (AV.int .u64 (IntKind.wrap .u64 s62))) ?_
   obtain ⟨q80, h81, h⟩ := obind h
   refine AOps.pureR rfl rfl rfl (shl_ok h81) rfl (rfl : _ = (AV.int .i64 q80)) ?_
   refine AOps.makeR rfl rfl rfl rfl rfl rfl (rfl : _ = (AV.sl 1 true [(AV.int .i64 q80)])) ?_
   obtain ⟨l82, h83, h⟩ := obind h
   obtain ⟨h84, h85⟩ := app_LR h59 (LR.lit (r := rI .i64) (sz := 1) (.cons rfl .nil)) h83
   refine AOps.appL (z := z56) (f := f57) (e := e58) (z' := 1) (f' := true) (e' := [(AV.int .i64 q80)]) rfl rfl rfl rfl rfl rfl rfl (appSrc_sl (LR.z (LR.lit (r := rI .i64) (sz := 1) (.cons rfl .nil))) rfl) (LR.z h59) ⟨by decide, by decide, rfl, rfl⟩ rfl rfl h85 (own_tmp h61 rfl rfl) ?_
   refine AOps.assignR rfl rfl rfl (rfl : _ = (AV.sl 1 false (e58 ++ [(AV.int .i64 q80)]))) rfl ?_
   refine AOps.nilR ?_
   refine AW.inBlock ?_
   refine AW.region ?_
   refine AOps.p rfl (rfl : _ = (AV.int .i64 s62)) ?_
   refine AOps.p rfl (rfl : _ = (AV.int .i64 (IntKind.wrap .i64 (s62 + 1)))) ?_
   refine AOps.assignR rfl rfl rfl (rfl : _ = (AV.int .i64 (IntKind.wrap .i64 (s62 + 1)))) rfl ?_
   refine AOps.nilR ?_
   cases h
   exact AW.res [(0, (AV.eptr [(AV.sl z2 f3 e4)] 0)), (3, (AV.ptr b6 0)), (4, (AV.int .i64 k26)), (5, (AV.sl 1 false (e58 ++ [(AV.int .i64 q80)]))), (6, (AV.int .i64 (IntKind.wrap .i64 (s62 + 1))))] [(5, true)] ⟨rfl, rfl, rfl, rfl, rfl, trivial⟩ ⟨rfl, trivial⟩ (hL2 _ rfl (1, false, (e58 ++ [(AV.int .i64 q80)]), true, s63) _ _ ⟨h84, (Or.inr rfl), (HS.sel hH64 [some 0] (by decide))⟩)
  refine AW.condF (congrArg AV.bool hc79) ?_
  refine AW.exit rfl ?_
  obtain ⟨r86, hm, hx⟩ := omap h
  clear h
  subst hx
  have hx := hR2 _ rfl
  rw [hx] at hm
  have h := hm
  exact AW.res [(0, (AV.eptr [(AV.sl z2 f3 e4)] 0)), (3, (AV.ptr b6 0)), (4, (AV.int .i64 k26)), (5, (AV.sl z56 f57 e58))] [(5, o60)] ⟨rfl, rfl, rfl, rfl, trivial⟩ ⟨rfl, trivial⟩ (KJ39 (row55, z56, f57, e58, o60, s63) _ _ ⟨h59, h61, (HS.sel hH64 [some 0] (by decide)), h⟩)
 refine AW.condF (congrArg AV.bool hc29) ?_
 refine AW.exit rfl ?_
 obtain ⟨r87, hm, hx⟩ := omap h
 clear h
 subst hx
 have hx := hR1 _ rfl
 rw [hx] at hm
 have h := hm
 exact AW.res [(3, (AV.ptr b6 0))] [] ⟨rfl, trivial⟩ trivial (KJ18 (m20, w19, z21, f22, e23, s27) _ _ ⟨h24, h25, (HS.sel hH28 [some 0] (by decide)), h⟩)
theorem spec_l01Factors_ok {w1 : List UInt8} {s : St} {r : (List (List UInt8))} (h : spec_l01Factors w1 = some r) (hs : WF s) : ACall Cf 31 [(AV.str w1)] s fun v _ s' => (rL rS 1) r v ∧ s' = s := by
 refine ACall.pure rfl rfl rfl (.L fun _ => .S) ?_
 have hWF := hs.lo'
 unfold spec_l01Factors at h
 refine AW.sr ?_
 refine AOps.p rfl (rfl : _ = (AV.sl 0 true [])) ?_
 refine AOps.nilR ?_
 refine AW.sr ?_
 refine AOps.p rfl (rfl : _ = (AV.str w1)) ?_
 obtain ⟨y2, h3, h⟩ := obind h
 refine AOps.callP (g := 48) (args := [(AV.str w1)]) (p := (rL (rI .i64) 1) y2) rfl rfl rfl (spec_l01Partners_ok  h3 hWF) ?_
 intro _ o9 h4
 obtain ⟨z5, f6, e7, rfl, h8⟩ := h4
 refine AOps.assignR rfl rfl rfl (rfl : _ = (AV.sl z5 f6 e7)) rfl ?_
 refine AOps.nilR ?_
 refine AW.sr ?_
 refine AOps.makeR rfl rfl rfl rfl rfl rfl (rfl : _ = (AV.sl 1 true [])) ?_
 refine AOps.assignR rfl rfl rfl (rfl : _ = (AV.sl 1 true [])) rfl ?_
 refine AOps.nilR ?_
 refine AW.seq ?_
 refine AW.sr ?_
 refine AOps.p rfl (rfl : _ = (AV.int .i64 0)) ?_
 refine AOps.nilR ?_
 refine AW.meet (σ := (List (List UInt8)) × Nat × Bool × (List AV) × Bool) (fun (out10, z11, f12, e13, o15) tm os => ⟨updL tm [(4, (AV.sl z11 f12 e13))], updL os [(4, o15)], { s with lo := s.n }⟩) (fun (out10, z11, f12, e13, o15) => (LR rS 1 out10 z11 e13) ∧ (f12 = true ∨ o15 = true) ∧ spec_l01Factors_J1 out10 = some r) ?_ ?_
 ·rintro ⟨out10, z11, f12, e13, o15⟩ tm os ⟨h14, h16, h⟩
  unfold spec_l01Factors_J1 at h
  refine AW.sr ?_
  refine AOps.p rfl (rfl : _ = (AV.sl z11 f12 e13)) ?_
  refine AOps.assignR rfl rfl rfl (rfl : _ = (AV.sl z11 f12 e13)) rfl ?_
  refine AOps.nilR ?_
  cases h
  exact AW.ret ⟨rfl, _, _, rfl, ⟨_, _, _, rfl, h14⟩⟩
 intro KJ17
 refine AW.block ?_
 refine AW.res [(0, (AV.str w1)), (3, (AV.sl z5 f6 e7)), (4, (AV.sl 1 true [])), (5, (AV.int .i64 0))] [(4, false)] ⟨rfl, rfl, rfl, rfl, trivial⟩ ⟨rfl, trivial⟩ ?_
 refine AW.loopF (σ := (List (List UInt8)) × Int) (τ := Nat × Bool × (List AV) × Bool) (fun (out18, i25) (z19, f20, e21, o23) => (LR rS 1 out18 z19 e21) ∧ (f20 = true ∨ o23 = true)) (fun (out18, i25) (z19, f20, e21, o23) tm os => ⟨updL tm [(0, (AV.str w1)), (3, (AV.sl z5 f6 e7)), (4, (AV.sl z19 f20 e21)), (5, (AV.int .i64 i25))], updL os [(4, o23)], { s with lo := s.n }⟩) ?_ (x := (([] : List (List UInt8)), 0)) (y := (1, true, [], false)) h ⟨⟨.inl rfl, .nil⟩, (Or.inl rfl)⟩
 clear h
 rintro ⟨out18, i25⟩ ⟨z19, f20, e21, o23⟩ tm os ⟨h22, h24⟩ ee1 h hL1 hR1
 unfold spec_l01Factors_S1 at h
 dsimp only at h
 refine AW.seq ?_
 refine AW.sr ?_
 refine AOps.p rfl (rfl : _ = (AV.int .i64 i25)) ?_
 refine AOps.p rfl (rfl : _ = (AV.str w1)) ?_
 refine AOps.p rfl (rfl : _ = (AV.int .i64 (w1.length : Int))) ?_
 refine AOps.p rfl (rfl : _ = (AV.bool (decide ((i25 : Int) < (w1.length : Int))))) ?_
 refine AOps.nilR ?_
 rcases oite h with ⟨hc26, h⟩ | ⟨hc26, h⟩
 ·refine AW.condT (congrArg AV.bool hc26) ?_
  refine AW.skip ?_
  refine AW.block ?_
  refine AW.sr ?_
  refine AOps.p rfl (rfl : _ = (AV.int .i64 i25)) ?_
  refine AOps.p rfl (rfl : _ = (AV.int .i64 (IntKind.wrap .i64 (i25 + 1)))) ?_
  refine AOps.assignR rfl rfl rfl (rfl : _ = (AV.int .i64 (IntKind.wrap .i64 (i25 + 1)))) rfl ?_
  refine AOps.nilR ?_
  refine AW.seq ?_
  refine AW.sr ?_
  refine AOps.p rfl (rfl : _ = (AV.str w1)) ?_
  refine AOps.p rfl (rfl : _ = (AV.int .i64 i25)) ?_
  obtain ⟨c27, h28, h⟩ := obind h
  refine AOps.pureR rfl rfl rfl (chr_str h28) rfl (rfl : _ = (AV.int .u8 c27)) ?_
  obtain ⟨y29, h30, h⟩ := obind h
  refine AOps.callP (g := 43) (args := [(AV.int .u8 c27)]) (p := (rB) y29) rfl rfl rfl (spec_l01Call_ok  h30 hWF) ?_
  intro _ o32 h31
  cases h31
  refine AOps.nilR ?_
  refine AW.meet (σ := Int × Bool) (fun (end35, o33) tm os => ⟨updL tm [(0, (AV.str w1)), (3, (AV.sl z5 f6 e7)), (4, (AV.sl z19 f20 e21)), (5, (AV.int .i64 i25)), (6, (AV.int .i64 end35))], updL os [(4, o33)], { s with lo := s.n }⟩) (fun (end35, o33) => (f20 = true ∨ o33 = true) ∧ spec_l01Factors_J2 w1 out18 i25 end35 = some ee1) ?_ ?_
  ·rintro ⟨end35, o33⟩ tm os ⟨h34, h⟩
   unfold spec_l01Factors_J2 at h
   refine AW.sr ?_
   refine AOps.moveR rfl rfl rfl rfl (rfl : _ = (AV.sl z19 f20 e21)) rfl ?_
   refine AOps.p rfl (rfl : _ = (AV.str w1)) ?_
   refine AOps.p rfl (rfl : _ = (AV.int .i64 i25)) ?_
   refine AOps.p rfl (rfl : _ = (AV.int .i64 end35)) ?_
   obtain ⟨w37, h38, h⟩ := obind h
   refine AOps.pureR rfl rfl rfl (cut_strLH h38) rfl (rfl : _ = (AV.str w37)) ?_
   refine AOps.makeR rfl rfl rfl rfl rfl rfl (rfl : _ = (AV.sl 1 true [(AV.str w37)])) ?_
   obtain ⟨l39, h40, h⟩ := obind h
   obtain ⟨h41, h42⟩ := app_LR h22 (LR.lit (r := rS) (sz := 1) (.cons rfl .nil)) h40
   refine AOps.appL (z := z19) (f := f20) (e := e21) (z' := 1) (f' := true) (e' := [(AV.str w37)]) rfl rfl rfl rfl rfl rfl rfl (appSrc_sl (LR.z (LR.lit (r := rS) (sz := 1) (.cons rfl .nil))) rfl) (LR.z h22) ⟨by decide, by decide, rfl, rfl⟩ rfl rfl h42 (own_tmp h34 rfl rfl) ?_
   refine AOps.assignR rfl rfl rfl (rfl : _ = (AV.sl 1 false (e21 ++ [(AV.str w37)]))) rfl ?_
   refine AOps.nilR ?_
   refine AW.region ?_
   refine AOps.p rfl (rfl : _ = (AV.int .i64 end35)) ?_
   refine AOps.assignR rfl rfl rfl (rfl : _ = (AV.int .i64 end35)) rfl ?_
   refine AOps.nilR ?_
   refine AW.inBlock ?_
   cases h
   exact AW.res [(0, (AV.str w1)), (3, (AV.sl z5 f6 e7)), (4, (AV.sl 1 false (e21 ++ [(AV.str w37)]))), (5, (AV.int .i64 end35))] [(4, true)] ⟨rfl, rfl, rfl, rfl, trivial⟩ ⟨rfl, trivial⟩ (hL1 _ rfl (1, false, (e21 ++ [(AV.str w37)]), true) _ _ ⟨h41, (Or.inr rfl)⟩)
  intro KJ36
  rcases oite h with ⟨hc43, h⟩ | ⟨hc43, h⟩
  ·refine AW.condT (congrArg AV.bool hc43) ?_
   refine AW.region ?_
   refine AOps.p rfl (rfl : _ = (AV.sl z5 f6 e7)) ?_
   refine AOps.p rfl (rfl : _ = (AV.int .i64 i25)) ?_
   obtain ⟨x44, h45, h⟩ := obind h
   obtain ⟨v48, h46, h47⟩ := idx_sl h8 h45
   cases h46
   refine AOps.pureR rfl rfl rfl h47 rfl (rfl : _ = (AV.eptr [(AV.int .i64 x44)] 0)) ?_
   refine AOps.ldE (v := (AV.int .i64 x44)) rfl rfl rfl rfl rfl rfl ?_
   refine AOps.p rfl (rfl : _ = (AV.int .i64 (IntKind.wrap .i64 (x44 + 1)))) ?_
   refine AOps.assignR rfl rfl rfl (rfl : _ = (AV.int .i64 (IntKind.wrap .i64 (x44 + 1)))) rfl ?_
   refine AOps.nilR ?_
   exact AW.res [(0, (AV.str w1)), (3, (AV.sl z5 f6 e7)), (4, (AV.sl z19 f20 e21)), (5, (AV.int .i64 i25)), (6, (AV.int .i64 (IntKind.wrap .i64 (x44 + 1))))] [(4, o23)] ⟨rfl, rfl, rfl, rfl, rfl, trivial⟩ ⟨rfl, trivial⟩ (KJ36 (IntKind.wrap .i64 (x44 + 1), o23) _ _ ⟨h24, h⟩)
  refine AW.condF (congrArg AV.bool hc43) ?_
  refine AW.skip ?_
  exact AW.res [(0, (AV.str w1)), (3, (AV.sl z5 f6 e7)), (4, (AV.sl z19 f20 e21)), (5, (AV.int .i64 i25)), (6, (AV.int .i64 (IntKind.wrap .i64 (i25 + 1))))] [(4, o23)] ⟨rfl, rfl, rfl, rfl, rfl, trivial⟩ ⟨rfl, trivial⟩ (KJ36 (IntKind.wrap .i64 (i25 + 1), o23) _ _ ⟨h24, h⟩)
 refine AW.condF (congrArg AV.bool hc26) ?_
 refine AW.exit rfl ?_
 obtain ⟨r49, hm, hx⟩ := omap h
 clear h
 subst hx
 have hx := hR1 _ rfl
 rw [hx] at hm
 have h := hm
 exact AW.res [(4, (AV.sl z19 f20 e21))] [(4, o23)] ⟨rfl, trivial⟩ ⟨rfl, trivial⟩ (KJ17 (out18, z19, f20, e21, o23) _ _ ⟨h22, h24, h⟩)
theorem spec_l07Exit_ok {p1 : ProgramT} {k6 : Int} {z2 : Nat} {f3 : Bool} {e4 : List AV} {s : St} (h5 : LR rModule 2 p1.Modules z2 e4) {r : Int} (h : spec_l07Exit p1 k6 = some r) (hs : WF s) : ACall Cf 47 [(AV.eptr [(AV.sl z2 f3 e4)] 0), (AV.int .i64 k6)] s fun v _ s' => (rI .i64) r v ∧ s' = s := by
 refine ACall.pure rfl rfl rfl .I ?_
 have hWF := hs.lo'
 unfold spec_l07Exit at h
 refine AW.sr ?_
 refine AOps.p rfl (rfl : _ = (AV.int .i64 0)) ?_
 refine AOps.nilR ?_
 refine AW.sr ?_
 refine AOps.p rfl (rfl : _ = (AV.eptr [(AV.sl z2 f3 e4)] 0)) ?_
 refine AOps.p rfl (rfl : _ = (AV.eptr [(AV.sl z2 f3 e4)] 0)) ?_
 refine AOps.p rfl (rfl : _ = (AV.eptr [(AV.sl z2 f3 e4)] 0)) ?_
 refine AOps.ldE (v := (AV.sl z2 f3 e4)) rfl rfl rfl rfl rfl rfl ?_
 refine AOps.p rfl (rfl : _ = (AV.int .i64 k6)) ?_
 obtain ⟨x7, h8, h⟩ := obind h
 obtain ⟨v11, h9, h10⟩ := idx_sl h5 h8
 obtain ⟨_, rfl, h12⟩ := h9
 obtain ⟨_, _, rfl, h13, h14⟩ := Cs_cons h12
 cases h13
 obtain ⟨_, _, rfl, h15, h16⟩ := Cs_cons h14
 obtain ⟨z17, f18, e19, rfl, h20⟩ := h15
 cases Cs_nil h16
 refine AOps.pureR rfl rfl rfl h10 rfl (rfl : _ = (AV.eptr [(AV.int .i64 x7.Nodes), (AV.sl z17 f18 e19)] 0)) ?_
 refine AOps.p rfl (rfl : _ = (AV.eptr [(AV.int .i64 x7.Nodes), (AV.sl z17 f18 e19)] 0)) ?_
 refine AOps.ldE (v := (AV.int .i64 x7.Nodes)) rfl rfl rfl rfl rfl rfl ?_
 refine AOps.p rfl (rfl : _ = (AV.int .i64 (IntKind.wrap .i64 (x7.Nodes - 1)))) ?_
 refine AOps.assignR rfl rfl rfl (rfl : _ = (AV.int .i64 (IntKind.wrap .i64 (x7.Nodes - 1)))) rfl ?_
 refine AOps.nilR ?_
 cases h
 exact AW.ret ⟨rfl, _, _, rfl, rfl⟩
theorem spec_l07Factor_ok {rec46 : ProgramT → (List UInt8) → Option L07Table} {p1 : ProgramT} {p1_6 : List UInt8} {z2 : Nat} {f3 : Bool} {e4 : List AV} {s : St} (rec46_ok : ∀ {a1 : ProgramT} {a6 : List UInt8} {z2 : Nat} {f3 : Bool} {e4 : List AV} {s : St} (h5 : LR rModule 2 a1.Modules z2 e4) {r : L07Table}, rec46 a1 a6 = some r → WF s → ACall Cf 46 [(AV.eptr [(AV.sl z2 f3 e4)] 0), (AV.str a6)] s fun v _ s' => (fun x => rP (csL07Table x)) r v ∧ s' = s) (h5 : LR rModule 2 p1.Modules z2 e4) {r : L07Table} (h : spec_l07Factor rec46 p1 p1_6 = some r) (hs : WF s) : ACall Cf 68 [(AV.eptr [(AV.sl z2 f3 e4)] 0), (AV.str p1_6)] s fun v _ s' => (fun x => rP (csL07Table x)) r v ∧ s' = s := by
 refine ACall.boxes rfl rfl rfl ?_
 have hH0 := HS.g0 (HS.init hs)
 have hG0 := AllG.nil
 have hl : LoOK [] false s := LoOK.nil
 unfold spec_l07Factor at h
 refine AW.sr ?_
 refine AOps.p rfl (rfl : _ = AV.nilp) ?_
 refine AOps.nilR ?_
 refine AW.sr ?_
 refine AOps.p rfl (rfl : _ = (AV.agg [(AV.sl 0 true [])])) ?_
 refine AOps.box1 (v := (AV.agg [(AV.sl 0 true [])])) hH0 rfl rfl rfl rfl rfl rfl rfl rfl ?_
 intro b7 s8 hH9
 change HS [] false s s8 (([⟨some b7, [(AV.sl 0 true [])], (fun _ => false)⟩] : List BX) ++ List.flatten ([] : List (List BX))) at hH9
 refine AOps.assignR rfl rfl rfl (rfl : _ = (AV.ptr b7 0)) rfl ?_
 refine AOps.nilR ?_
 refine AW.sr ?_
 refine AOps.p rfl (rfl : _ = (AV.eptr [(AV.sl z2 f3 e4)] 0)) ?_
 obtain ⟨y10, h11, h⟩ := obind h
 refine AOps.callP (g := 67) (args := [(AV.eptr [(AV.sl z2 f3 e4)] 0)]) (p := (fun x => rP (csL07Table x)) y10) rfl rfl rfl (spec_l07None_ok h5 h11 (HS.wf' hH9)) ?_
 intro _ o20 h12
 obtain ⟨_, rfl, h13⟩ := h12
 obtain ⟨_, _, rfl, h14, h15⟩ := Cs_cons h13
 obtain ⟨z16, f17, e18, rfl, h19⟩ := h14
 cases Cs_nil h15
 refine AOps.assignR rfl rfl rfl (rfl : _ = (AV.eptr [(AV.sl z16 f17 e18)] 0)) rfl ?_
 refine AOps.nilR ?_
 refine AW.seq ?_
 refine AW.sr ?_
 refine AOps.p rfl (rfl : _ = (AV.str p1_6)) ?_
 refine AOps.p rfl (rfl : _ = (AV.int .i64 (p1_6.length : Int))) ?_
 refine AOps.p rfl (rfl : _ = (AV.bool (decide (((p1_6.length : Int) : Int) > 1)))) ?_
 refine AOps.nilR ?_
 refine AW.meet (σ := L07Table × Nat × Bool × (List AV) × St × (List (List BX))) (fun (t21, z22, f23, e24, s26, Ls27) tm os => ⟨updL tm [(0, (AV.eptr [(AV.sl z2 f3 e4)] 0)), (1, (AV.str p1_6)), (5, (AV.ptr b7 0)), (6, (AV.eptr [(AV.sl z22 f23 e24)] 0))], updL os [], s26⟩) (fun (t21, z22, f23, e24, s26, Ls27) => (LR (rL (rI .i64) 1) 1 t21.rows z22 e24) ∧ (HS [] false s s26 (([⟨some b7, [(AV.sl 0 true [])], (fun _ => false)⟩] : List BX) ++ List.flatten Ls27)) ∧ (AllG [] Ls27) ∧ spec_l07Factor_J1 p1 p1_6 t21 = some r) ?_ ?_
 ·rintro ⟨t21, z22, f23, e24, s26, Ls27⟩ tm os ⟨h25, hH28, hG29, h⟩
  unfold spec_l07Factor_J1 at h
  refine AW.seq ?_
  refine AW.sr ?_
  refine AOps.p rfl (rfl : _ = (AV.int .i64 0)) ?_
  refine AOps.nilR ?_
  refine AW.meet (σ := (List (List Int)) × (Nat → Bool) × AV × KT × St × (List (List BX))) (fun (m32, w31, h33, k34, s36, Ls37) tm os => ⟨updL tm [(5, (AV.ptr b7 0))], updL os [], s36⟩) (fun (m32, w31, h33, k34, s36, Ls37) => (h33.one = true) ∧ (HS [] false s s36 (([⟨some b7, [h33], w31⟩] : List BX) ++ List.flatten Ls37)) ∧ (AllG [OS oE26 h33 k34 m32] Ls37) ∧ spec_l07Factor_J2 m32 = some r) ?_ ?_
  ·rintro ⟨m32, w31, h33, k34, s36, Ls37⟩ tm os ⟨ho35, hH38, hG39, h⟩
   unfold spec_l07Factor_J2 at h
   refine AW.sr ?_
   refine AOps.p rfl (rfl : _ = (AV.ptr b7 0)) ?_
   refine AOps.assignR rfl rfl rfl (rfl : _ = (AV.ptr b7 0)) rfl ?_
   refine AOps.nilR ?_
   cases h
   exact AW.ret ⟨⟨_, hH38⟩, _, _, rfl, (Fin.ptr (ps := csL07Table (⟨m32⟩ : L07Table)) hH38 (i := 0) rfl rfl (.cons (Fin.up (by decide) (HS.finO hH38 hG39 (j := 0) rfl (Or.inr ⟨rfl, rfl⟩))) .nil)).2⟩
  intro KJ40
  refine AW.block ?_
  obtain ⟨Ls222, hG223, hH224⟩ := HS.selEG hH28 hG29 [some 0] [none]
  change HS [] false s s26 (([⟨some b7, [(AV.sl 0 true [])], (fun _ => false)⟩] : List BX) ++ List.flatten Ls222) at hH224
  change AllG [Non] Ls222 at hG223
  have hG225 := AllG.imp hG223 0 rfl (P' := OS oE26 (AV.sl 0 true []) (fun _ => AV.undef) []) (fun L hL => by cases hL; exact OS.nil (Or.inr rfl))
  change AllG [OS oE26 (AV.sl 0 true []) (fun _ => AV.undef) ([] : List (List Int))] Ls222 at hG225
  refine AW.res [(0, (AV.eptr [(AV.sl z2 f3 e4)] 0)), (1, (AV.str p1_6)), (5, (AV.ptr b7 0)), (6, (AV.eptr [(AV.sl z22 f23 e24)] 0)), (7, (AV.int .i64 0))] [] ⟨rfl, rfl, rfl, rfl, rfl, trivial⟩ trivial ?_
  refine AW.loopF (σ := (List (List Int)) × Int) (τ := (Nat → Bool) × AV × KT × St × (List (List BX))) (fun (m42, t46) (w41, h43, k44, s47, Ls48) => (h43.one = true) ∧ (HS [] false s s47 (([⟨some b7, [h43], w41⟩] : List BX) ++ List.flatten Ls48)) ∧ (AllG [OS oE26 h43 k44 m42] Ls48)) (fun (m42, t46) (w41, h43, k44, s47, Ls48) tm os => ⟨updL tm [(0, (AV.eptr [(AV.sl z2 f3 e4)] 0)), (1, (AV.str p1_6)), (5, (AV.ptr b7 0)), (6, (AV.eptr [(AV.sl z22 f23 e24)] 0)), (7, (AV.int .i64 t46))], updL os [], s47⟩) ?_ (x := (([] : List (List Int)), 0)) (y := ((fun _ => false), (AV.sl 0 true []), (fun _ => AV.undef), s26, Ls222)) h ⟨rfl, hH224, hG225⟩
  clear h
  rintro ⟨m42, t46⟩ ⟨w41, h43, k44, s47, Ls48⟩ tm os ⟨ho45, hH49, hG50⟩ ee1 h hL1 hR1
  unfold spec_l07Factor_S1 at h
  dsimp only at h
  refine AW.seq ?_
  refine AW.sr ?_
  refine AOps.p rfl (rfl : _ = (AV.int .i64 t46)) ?_
  refine AOps.p rfl (rfl : _ = (AV.eptr [(AV.sl z2 f3 e4)] 0)) ?_
  refine AOps.p rfl (rfl : _ = (AV.eptr [(AV.sl z2 f3 e4)] 0)) ?_
  refine AOps.p rfl (rfl : _ = (AV.eptr [(AV.sl z2 f3 e4)] 0)) ?_
  refine AOps.ldE (v := (AV.sl z2 f3 e4)) rfl rfl rfl rfl rfl rfl ?_
  refine AOps.p rfl (len_eq h5) ?_
  refine AOps.p rfl (rfl : _ = (AV.bool (decide ((t46 : Int) < (p1.Modules.length : Int))))) ?_
  refine AOps.nilR ?_
  rcases oite h with ⟨hc51, h⟩ | ⟨hc51, h⟩
  ·refine AW.condT (congrArg AV.bool hc51) ?_
   refine AW.skip ?_
   refine AW.seq ?_
   refine AW.block ?_
   refine AW.sr ?_
   refine AOps.p rfl (rfl : _ = (AV.eptr [(AV.sl z2 f3 e4)] 0)) ?_
   refine AOps.p rfl (rfl : _ = (AV.eptr [(AV.sl z2 f3 e4)] 0)) ?_
   refine AOps.p rfl (rfl : _ = (AV.eptr [(AV.sl z2 f3 e4)] 0)) ?_
   refine AOps.ldE (v := (AV.sl z2 f3 e4)) rfl rfl rfl rfl rfl rfl ?_
   refine AOps.p rfl (rfl : _ = (AV.int .i64 t46)) ?_
   obtain ⟨x52, h53, h⟩ := obind h
   obtain ⟨v56, h54, h55⟩ := idx_sl h5 h53
   obtain ⟨_, rfl, h57⟩ := h54
   obtain ⟨_, _, rfl, h58, h59⟩ := Cs_cons h57
   cases h58
   obtain ⟨_, _, rfl, h60, h61⟩ := Cs_cons h59
   obtain ⟨z62, f63, e64, rfl, h65⟩ := h60
   cases Cs_nil h61
   refine AOps.pureR rfl rfl rfl h55 rfl (rfl : _ = (AV.eptr [(AV.int .i64 x52.Nodes), (AV.sl z62 f63 e64)] 0)) ?_
   refine AOps.p rfl (rfl : _ = (AV.eptr [(AV.int .i64 x52.Nodes), (AV.sl z62 f63 e64)] 0)) ?_
   refine AOps.ldE (v := (AV.int .i64 x52.Nodes)) rfl rfl rfl rfl rfl rfl ?_
   obtain ⟨l66, h67, h⟩ := obind h
   refine AOps.mkO (e := oE2) (x0 := (0 : Int)) (fun _ => AV.undef) hH49 hG50 rfl rfl rfl rfl rfl rfl rfl ⟨rfl, rfl, by decide⟩ h67 ⟨rfl, rfl⟩ (fun _ => ⟨⟨(AV.int .i64 0), rfl, rfl⟩, rfl⟩) rfl ?_
   intro h68 k70 Ls71 s72 ho69 hG73 hH74
   change HS [] false s s72 (([⟨some b7, [h43], w41⟩] : List BX) ++ List.flatten Ls71) at hH74
   change AllG [OS oE2 h68 k70 l66, OS oE26 h43 k44 m42] Ls71 at hG73
   refine AOps.assignR rfl rfl rfl (rfl : _ = h68) rfl ?_
   refine AOps.nilR ?_
   refine AW.seq ?_
   refine AW.sr ?_
   refine AOps.p rfl (rfl : _ = (AV.int .i64 0)) ?_
   refine AOps.nilR ?_
   refine AW.meet (σ := (List Int) × St × (List (List BX))) (fun (t75, s76, Ls77) tm os => ⟨updL tm [(0, (AV.eptr [(AV.sl z2 f3 e4)] 0)), (1, (AV.str p1_6)), (5, (AV.ptr b7 0)), (6, (AV.eptr [(AV.sl z22 f23 e24)] 0)), (7, (AV.int .i64 t46)), (8, h68)], updL os [], s76⟩) (fun (t75, s76, Ls77) => (HS [] false s s76 (([⟨some b7, [h43], w41⟩] : List BX) ++ List.flatten Ls77)) ∧ (AllG [OS oE26 h43 k44 m42, OS oE2 h68 k70 t75] Ls77) ∧ spec_l07Factor_J3 m42 t46 t75 = some ee1) ?_ ?_
   ·rintro ⟨t75, s76, Ls77⟩ tm os ⟨hH78, hG79, h⟩
    unfold spec_l07Factor_J3 at h
    refine AW.region ?_
    refine AOps.p rfl (rfl : _ = (AV.ptr b7 0)) ?_
    refine AOps.p rfl (rfl : _ = (AV.ptr b7 0)) ?_
    refine AOps.p rfl (rfl : _ = (AV.ptr b7 0)) ?_
    refine AOps.p rfl (rfl : _ = (AV.ptr b7 0)) ?_
    refine AOps.ldB (i := 0) (v := h43) hH78 rfl rfl rfl rfl rfl rfl rfl rfl rfl ?_
    refine AOps.p rfl (rfl : _ = h68) ?_
    refine AOps.lit1 rfl rfl rfl rfl rfl rfl ho69 rfl rfl ?_
    obtain ⟨l81, h82, h⟩ := obind h
    refine AOps.appO (j := 0) (j2 := 1) hH78 hG79 rfl rfl (by decide) rfl rfl rfl rfl rfl rfl rfl rfl ⟨by decide, by decide, rfl, rfl⟩ ⟨rfl, rfl⟩ rfl rfl h82 ?_
    intro h83 k85 Ls86 s87 ho84 hG88 hH89
    change HS [] false s s87 (([⟨some b7, [h43], w41⟩] : List BX) ++ List.flatten Ls86) at hH89
    change AllG [OS oE26 h83 k85 l81, Non] Ls86 at hG88
    refine AOps.p rfl (rfl : _ = (AV.ptr b7 0)) ?_
    refine AOps.p rfl (rfl : _ = (AV.ptr b7 0)) ?_
    refine AOps.stE (i := 0) (v := h83) hH89 hl rfl rfl rfl rfl rfl rfl rfl (one_lay ho84) (one_len ho84) (lt_b rfl) (le_b rfl) rfl ?_
    intro w90 s91 h92 h93 hH94
    rw [AV.cells_one ho84] at hH94
    change HS [] false s s91 (([⟨some b7, [h83], w90⟩] : List BX) ++ List.flatten Ls86) at hH94
    refine AOps.nilR ?_
    refine AW.inBlock ?_
    refine AW.region ?_
    refine AOps.p rfl (rfl : _ = (AV.int .i64 t46)) ?_
    refine AOps.p rfl (rfl : _ = (AV.int .i64 (IntKind.wrap .i64 (t46 + 1)))) ?_
    refine AOps.assignR rfl rfl rfl (rfl : _ = (AV.int .i64 (IntKind.wrap .i64 (t46 + 1)))) rfl ?_
    refine AOps.nilR ?_
    cases h
    obtain ⟨Ls95, hG96, hH97⟩ := HS.selEG hH94 hG88 [some 0] [some 0]
    change HS [] false s s91 (([⟨some b7, [h83], w90⟩] : List BX) ++ List.flatten Ls95) at hH97
    change AllG [OS oE26 h83 k85 l81] Ls95 at hG96
    exact AW.res [(0, (AV.eptr [(AV.sl z2 f3 e4)] 0)), (1, (AV.str p1_6)), (5, (AV.ptr b7 0)), (6, (AV.eptr [(AV.sl z22 f23 e24)] 0)), (7, (AV.int .i64 (IntKind.wrap .i64 (t46 + 1))))] [] ⟨rfl, rfl, rfl, rfl, rfl, trivial⟩ trivial (hL1 _ rfl (w90, h83, k85, s91, Ls95) _ _ ⟨ho84, hH97, hG96⟩)
   intro KJ80
   refine AW.block ?_
   obtain ⟨Ls218, hG219, hH220⟩ := HS.selEG hH74 hG73 [some 0] [some 1, some 0]
   change HS [] false s s72 (([⟨some b7, [h43], w41⟩] : List BX) ++ List.flatten Ls218) at hH220
   change AllG [OS oE26 h43 k44 m42, OS oE2 h68 k70 l66] Ls218 at hG219
   refine AW.res [(0, (AV.eptr [(AV.sl z2 f3 e4)] 0)), (1, (AV.str p1_6)), (5, (AV.ptr b7 0)), (6, (AV.eptr [(AV.sl z22 f23 e24)] 0)), (7, (AV.int .i64 t46)), (8, h68), (9, (AV.int .i64 0))] [] ⟨rfl, rfl, rfl, rfl, rfl, rfl, rfl, trivial⟩ trivial ?_
   refine AW.loopF (σ := (List Int) × Int) (τ := St × (List (List BX))) (fun (t98, t99) (s100, Ls101) => (HS [] false s s100 (([⟨some b7, [h43], w41⟩] : List BX) ++ List.flatten Ls101)) ∧ (AllG [OS oE26 h43 k44 m42, OS oE2 h68 k70 t98] Ls101)) (fun (t98, t99) (s100, Ls101) tm os => ⟨updL tm [(0, (AV.eptr [(AV.sl z2 f3 e4)] 0)), (1, (AV.str p1_6)), (5, (AV.ptr b7 0)), (6, (AV.eptr [(AV.sl z22 f23 e24)] 0)), (7, (AV.int .i64 t46)), (8, h68), (9, (AV.int .i64 t99))], updL os [], s100⟩) ?_ (x := (l66, 0)) (y := (s72, Ls218)) h ⟨hH220, hG219⟩
   clear h
   rintro ⟨t98, t99⟩ ⟨s100, Ls101⟩ tm os ⟨hH102, hG103⟩ ee2 h hL2 hR2
   unfold spec_l07Factor_S2 at h
   dsimp only at h
   refine AW.seq ?_
   refine AW.sr ?_
   refine AOps.p rfl (rfl : _ = (AV.int .i64 t99)) ?_
   refine AOps.p rfl (rfl : _ = (AV.eptr [(AV.sl z2 f3 e4)] 0)) ?_
   refine AOps.p rfl (rfl : _ = (AV.eptr [(AV.sl z2 f3 e4)] 0)) ?_
   refine AOps.p rfl (rfl : _ = (AV.eptr [(AV.sl z2 f3 e4)] 0)) ?_
   refine AOps.ldE (v := (AV.sl z2 f3 e4)) rfl rfl rfl rfl rfl rfl ?_
   refine AOps.p rfl (rfl : _ = (AV.int .i64 t46)) ?_
   obtain ⟨x104, h105, h⟩ := obind h
   obtain ⟨v108, h106, h107⟩ := idx_sl h5 h105
   obtain ⟨_, rfl, h109⟩ := h106
   obtain ⟨_, _, rfl, h110, h111⟩ := Cs_cons h109
   cases h110
   obtain ⟨_, _, rfl, h112, h113⟩ := Cs_cons h111
   obtain ⟨z114, f115, e116, rfl, h117⟩ := h112
   cases Cs_nil h113
   refine AOps.pureR rfl rfl rfl h107 rfl (rfl : _ = (AV.eptr [(AV.int .i64 x104.Nodes), (AV.sl z114 f115 e116)] 0)) ?_
   refine AOps.p rfl (rfl : _ = (AV.eptr [(AV.int .i64 x104.Nodes), (AV.sl z114 f115 e116)] 1)) ?_
   refine AOps.ldE (v := (AV.sl z114 f115 e116)) rfl rfl rfl rfl rfl rfl ?_
   refine AOps.p rfl (len_eq h117) ?_
   refine AOps.p rfl (rfl : _ = (AV.bool (decide ((t99 : Int) < (x104.Links.length : Int))))) ?_
   refine AOps.nilR ?_
   rcases oite h with ⟨hc118, h⟩ | ⟨hc118, h⟩
   ·refine AW.condT (congrArg AV.bool hc118) ?_
    refine AW.skip ?_
    refine AW.seq ?_
    refine AW.block ?_
    refine AW.sr ?_
    refine AOps.p rfl (rfl : _ = (AV.eptr [(AV.sl z2 f3 e4)] 0)) ?_
    refine AOps.p rfl (rfl : _ = (AV.eptr [(AV.sl z2 f3 e4)] 0)) ?_
    refine AOps.p rfl (rfl : _ = (AV.eptr [(AV.sl z2 f3 e4)] 0)) ?_
    refine AOps.ldE (v := (AV.sl z2 f3 e4)) rfl rfl rfl rfl rfl rfl ?_
    refine AOps.p rfl (rfl : _ = (AV.int .i64 t46)) ?_
    obtain ⟨x119, h120, h⟩ := obind h
    obtain ⟨v123, h121, h122⟩ := idx_sl h5 h120
    obtain ⟨_, rfl, h124⟩ := h121
    obtain ⟨_, _, rfl, h125, h126⟩ := Cs_cons h124
    cases h125
    obtain ⟨_, _, rfl, h127, h128⟩ := Cs_cons h126
    obtain ⟨z129, f130, e131, rfl, h132⟩ := h127
    cases Cs_nil h128
    refine AOps.pureR rfl rfl rfl h122 rfl (rfl : _ = (AV.eptr [(AV.int .i64 x119.Nodes), (AV.sl z129 f130 e131)] 0)) ?_
    refine AOps.p rfl (rfl : _ = (AV.eptr [(AV.int .i64 x119.Nodes), (AV.sl z129 f130 e131)] 1)) ?_
    refine AOps.ldE (v := (AV.sl z129 f130 e131)) rfl rfl rfl rfl rfl rfl ?_
    refine AOps.p rfl (rfl : _ = (AV.int .i64 t99)) ?_
    obtain ⟨x133, h134, h⟩ := obind h
    obtain ⟨v137, h135, h136⟩ := idx_sl h132 h134
    obtain ⟨_, rfl, h138⟩ := h135
    obtain ⟨_, _, rfl, h139, h140⟩ := Cs_cons h138
    cases h139
    obtain ⟨_, _, rfl, h141, h142⟩ := Cs_cons h140
    cases h141
    obtain ⟨_, _, rfl, h143, h144⟩ := Cs_cons h142
    cases h143
    obtain ⟨_, _, rfl, h145, h146⟩ := Cs_cons h144
    cases h145
    cases Cs_nil h146
    refine AOps.pureR rfl rfl rfl h136 rfl (rfl : _ = (AV.eptr [(AV.int .i64 x133.From), (AV.int .i64 x133.To), (AV.str x133.Act), (AV.int .i64 x133.Module)] 0)) ?_
    refine AOps.assignR rfl rfl rfl (rfl : _ = (AV.eptr [(AV.int .i64 x133.From), (AV.int .i64 x133.To), (AV.str x133.Act), (AV.int .i64 x133.Module)] 0)) rfl ?_
    refine AOps.nilR ?_
    refine AW.sr ?_
    refine AOps.p rfl (rfl : _ = (AV.eptr [(AV.int .i64 x133.From), (AV.int .i64 x133.To), (AV.str x133.Act), (AV.int .i64 x133.Module)] 0)) ?_
    obtain ⟨y147, h148, h⟩ := obind h
    refine AOps.callP (g := 27) (args := [(AV.eptr [(AV.int .i64 x133.From), (AV.int .i64 x133.To), (AV.str x133.Act), (AV.int .i64 x133.Module)] 0)]) (p := (rB) y147) rfl rfl rfl (spec_l07Inner_ok  h148 (HS.wf' hH102)) ?_
    intro _ o150 h149
    cases h149
    refine AOps.p rfl (rfl : _ = (AV.bool y147)) ?_
    refine AOps.split 7 (fun f' => ∃ tm' os', f' = ⟨updL tm' [(0, (AV.eptr [(AV.sl z2 f3 e4)] 0)), (1, (AV.str p1_6)), (5, (AV.ptr b7 0)), (6, (AV.eptr [(AV.sl z22 f23 e24)] 0)), (7, (AV.int .i64 t46)), (8, h68), (9, (AV.int .i64 t99)), (10, (AV.eptr [(AV.int .i64 x133.From), (AV.int .i64 x133.To), (AV.str x133.Act), (AV.int .i64 x133.Module)] 0)), (76, (AV.bool (y147 && (x133.Act == p1_6))))], updL os' [], s100⟩) ?_ ?_
    ·rcases Bool.eq_false_or_eq_true y147 with hc151 | hc151
     ·refine AOps.know (d := 69) rfl hc151 ?_
      refine AOps.p rfl (rfl : _ = (AV.eptr [(AV.int .i64 x133.From), (AV.int .i64 x133.To), (AV.str x133.Act), (AV.int .i64 x133.Module)] 0)) ?_
      refine AOps.p rfl (rfl : _ = (AV.eptr [(AV.int .i64 x133.From), (AV.int .i64 x133.To), (AV.str x133.Act), (AV.int .i64 x133.Module)] 0)) ?_
      refine AOps.p rfl (rfl : _ = (AV.eptr [(AV.int .i64 x133.From), (AV.int .i64 x133.To), (AV.str x133.Act), (AV.int .i64 x133.Module)] 2)) ?_
      refine AOps.ldE (v := (AV.str x133.Act)) rfl rfl rfl rfl rfl rfl ?_
      refine AOps.p rfl (rfl : _ = (AV.str p1_6)) ?_
      refine AOps.p rfl (rfl : _ = (AV.bool (x133.Act == p1_6))) ?_
      refine AOps.p rfl (rfl : _ = (AV.bool (x133.Act == p1_6))) ?_
      refine AOps.resR [(0, (AV.eptr [(AV.sl z2 f3 e4)] 0)), (1, (AV.str p1_6)), (5, (AV.ptr b7 0)), (6, (AV.eptr [(AV.sl z22 f23 e24)] 0)), (7, (AV.int .i64 t46)), (8, h68), (9, (AV.int .i64 t99)), (10, (AV.eptr [(AV.int .i64 x133.From), (AV.int .i64 x133.To), (AV.str x133.Act), (AV.int .i64 x133.Module)] 0)), (76, (AV.bool (y147 && (x133.Act == p1_6))))] [] ?_ ?_ _ ⟨_, _, rfl⟩
      ·exact ⟨rfl, rfl, rfl, rfl, rfl, rfl, rfl, rfl, congrArg AV.bool (and_t hc151), trivial⟩
      exact trivial
     ·refine AOps.know (d := 69) rfl hc151 ?_
      refine AOps.skipR rfl rfl ?_
      refine AOps.skipR rfl rfl ?_
      refine AOps.skipR rfl rfl ?_
      refine AOps.skipR rfl rfl ?_
      refine AOps.skipR rfl rfl ?_
      refine AOps.skipR rfl rfl ?_
      refine AOps.p rfl (rfl : _ = (AV.bool false)) ?_
      refine AOps.resR [(0, (AV.eptr [(AV.sl z2 f3 e4)] 0)), (1, (AV.str p1_6)), (5, (AV.ptr b7 0)), (6, (AV.eptr [(AV.sl z22 f23 e24)] 0)), (7, (AV.int .i64 t46)), (8, h68), (9, (AV.int .i64 t99)), (10, (AV.eptr [(AV.int .i64 x133.From), (AV.int .i64 x133.To), (AV.str x133.Act), (AV.int .i64 x133.Module)] 0)), (76, (AV.bool (y147 && (x133.Act == p1_6))))] [] ?_ ?_ _ ⟨_, _, rfl⟩
      ·exact ⟨rfl, rfl, rfl, rfl, rfl, rfl, rfl, rfl, congrArg AV.bool (and_f hc151), trivial⟩
      exact trivial
    rintro _ ⟨tm, os, rfl⟩
    refine AOps.assignR rfl rfl rfl (rfl : _ = (AV.bool (y147 && (x133.Act == p1_6)))) rfl ?_
    refine AOps.nilR ?_
    refine AW.seq ?_
    refine AW.sr ?_
    refine AOps.p rfl (rfl : _ = (AV.eptr [(AV.int .i64 x133.From), (AV.int .i64 x133.To), (AV.str x133.Act), (AV.int .i64 x133.Module)] 0)) ?_
    obtain ⟨y152, h153, h⟩ := obind h
    refine AOps.callP (g := 27) (args := [(AV.eptr [(AV.int .i64 x133.From), (AV.int .i64 x133.To), (AV.str x133.Act), (AV.int .i64 x133.Module)] 0)]) (p := (rB) y152) rfl rfl rfl (spec_l07Inner_ok  h153 (HS.wf' hH102)) ?_
    intro _ o155 h154
    cases h154
    refine AOps.p rfl (rfl : _ = (AV.bool (!y152))) ?_
    refine AOps.p rfl (rfl : _ = (AV.bool (!y152))) ?_
    refine AOps.split 4 (fun f' => ∃ tm' os', f' = ⟨updL tm' [(0, (AV.eptr [(AV.sl z2 f3 e4)] 0)), (1, (AV.str p1_6)), (5, (AV.ptr b7 0)), (6, (AV.eptr [(AV.sl z22 f23 e24)] 0)), (7, (AV.int .i64 t46)), (8, h68), (9, (AV.int .i64 t99)), (10, (AV.eptr [(AV.int .i64 x133.From), (AV.int .i64 x133.To), (AV.str x133.Act), (AV.int .i64 x133.Module)] 0)), (11, (AV.bool (y147 && (x133.Act == p1_6)))), (84, (AV.bool ((!y152) && (decide (((p1_6.length : Int) : Int) > 1)))))], updL os' [], s100⟩) ?_ ?_
    ·rcases Bool.eq_false_or_eq_true (!y152) with hc156 | hc156
     ·refine AOps.know (d := 80) rfl hc156 ?_
      refine AOps.p rfl (rfl : _ = (AV.str p1_6)) ?_
      refine AOps.p rfl (rfl : _ = (AV.int .i64 (p1_6.length : Int))) ?_
      refine AOps.p rfl (rfl : _ = (AV.bool (decide (((p1_6.length : Int) : Int) > 1)))) ?_
      refine AOps.p rfl (rfl : _ = (AV.bool (decide (((p1_6.length : Int) : Int) > 1)))) ?_
      refine AOps.resR [(0, (AV.eptr [(AV.sl z2 f3 e4)] 0)), (1, (AV.str p1_6)), (5, (AV.ptr b7 0)), (6, (AV.eptr [(AV.sl z22 f23 e24)] 0)), (7, (AV.int .i64 t46)), (8, h68), (9, (AV.int .i64 t99)), (10, (AV.eptr [(AV.int .i64 x133.From), (AV.int .i64 x133.To), (AV.str x133.Act), (AV.int .i64 x133.Module)] 0)), (11, (AV.bool (y147 && (x133.Act == p1_6)))), (84, (AV.bool ((!y152) && (decide (((p1_6.length : Int) : Int) > 1)))))] [] ?_ ?_ _ ⟨_, _, rfl⟩
      ·exact ⟨rfl, rfl, rfl, rfl, rfl, rfl, rfl, rfl, rfl, congrArg AV.bool (and_t hc156), trivial⟩
      exact trivial
     ·refine AOps.know (d := 80) rfl hc156 ?_
      refine AOps.skipR rfl rfl ?_
      refine AOps.skipR rfl rfl ?_
      refine AOps.skipR rfl rfl ?_
      refine AOps.p rfl (rfl : _ = (AV.bool false)) ?_
      refine AOps.resR [(0, (AV.eptr [(AV.sl z2 f3 e4)] 0)), (1, (AV.str p1_6)), (5, (AV.ptr b7 0)), (6, (AV.eptr [(AV.sl z22 f23 e24)] 0)), (7, (AV.int .i64 t46)), (8, h68), (9, (AV.int .i64 t99)), (10, (AV.eptr [(AV.int .i64 x133.From), (AV.int .i64 x133.To), (AV.str x133.Act), (AV.int .i64 x133.Module)] 0)), (11, (AV.bool (y147 && (x133.Act == p1_6)))), (84, (AV.bool ((!y152) && (decide (((p1_6.length : Int) : Int) > 1)))))] [] ?_ ?_ _ ⟨_, _, rfl⟩
      ·exact ⟨rfl, rfl, rfl, rfl, rfl, rfl, rfl, rfl, rfl, congrArg AV.bool (and_f hc156), trivial⟩
      exact trivial
    rintro _ ⟨tm, os, rfl⟩
    refine AOps.nilR ?_
    refine AW.meet (σ := Bool × St × (List (List BX))) (fun (t157, s158, Ls159) tm os => ⟨updL tm [(0, (AV.eptr [(AV.sl z2 f3 e4)] 0)), (1, (AV.str p1_6)), (5, (AV.ptr b7 0)), (6, (AV.eptr [(AV.sl z22 f23 e24)] 0)), (7, (AV.int .i64 t46)), (8, h68), (9, (AV.int .i64 t99)), (10, (AV.eptr [(AV.int .i64 x133.From), (AV.int .i64 x133.To), (AV.str x133.Act), (AV.int .i64 x133.Module)] 0)), (11, (AV.bool t157))], updL os [], s158⟩) (fun (t157, s158, Ls159) => (HS [] false s s158 (([⟨some b7, [h43], w41⟩] : List BX) ++ List.flatten Ls159)) ∧ (AllG [OS oE26 h43 k44 m42, OS oE2 h68 k70 t98] Ls159) ∧ spec_l07Factor_J4 t98 t99 x133 t157 = some ee2) ?_ ?_
    ·rintro ⟨t157, s158, Ls159⟩ tm os ⟨hH160, hG161, h⟩
     unfold spec_l07Factor_J4 at h
     refine AW.sr ?_
     refine AOps.p rfl (rfl : _ = (AV.bool t157)) ?_
     refine AOps.nilR ?_
     refine AW.meet (σ := (List Int) × St × (List (List BX))) (fun (t163, s164, Ls165) tm os => ⟨updL tm [(0, (AV.eptr [(AV.sl z2 f3 e4)] 0)), (1, (AV.str p1_6)), (5, (AV.ptr b7 0)), (6, (AV.eptr [(AV.sl z22 f23 e24)] 0)), (7, (AV.int .i64 t46)), (8, h68), (9, (AV.int .i64 t99))], updL os [], s164⟩) (fun (t163, s164, Ls165) => (HS [] false s s164 (([⟨some b7, [h43], w41⟩] : List BX) ++ List.flatten Ls165)) ∧ (AllG [OS oE26 h43 k44 m42, OS oE2 h68 k70 t163] Ls165) ∧ spec_l07Factor_J5 t99 t163 = some ee2) ?_ ?_
     ·rintro ⟨t163, s164, Ls165⟩ tm os ⟨hH166, hG167, h⟩
      unfold spec_l07Factor_J5 at h
      refine AW.inBlock ?_
      refine AW.region ?_
      refine AOps.p rfl (rfl : _ = (AV.int .i64 t99)) ?_
      refine AOps.p rfl (rfl : _ = (AV.int .i64 (IntKind.wrap .i64 (t99 + 1)))) ?_
      refine AOps.assignR rfl rfl rfl (rfl : _ = (AV.int .i64 (IntKind.wrap .i64 (t99 + 1)))) rfl ?_
      refine AOps.nilR ?_
      cases h
      exact AW.res [(0, (AV.eptr [(AV.sl z2 f3 e4)] 0)), (1, (AV.str p1_6)), (5, (AV.ptr b7 0)), (6, (AV.eptr [(AV.sl z22 f23 e24)] 0)), (7, (AV.int .i64 t46)), (8, h68), (9, (AV.int .i64 (IntKind.wrap .i64 (t99 + 1))))] [] ⟨rfl, rfl, rfl, rfl, rfl, rfl, rfl, trivial⟩ trivial (hL2 _ rfl (s164, Ls165) _ _ ⟨hH166, hG167⟩)
     intro KJ168
     rcases oite h with ⟨hc169, h⟩ | ⟨hc169, h⟩
     ·refine AW.condT (congrArg AV.bool hc169) ?_
      refine AW.region ?_
      refine AOps.p rfl (rfl : _ = h68) ?_
      refine AOps.p rfl (rfl : _ = (AV.eptr [(AV.int .i64 x133.From), (AV.int .i64 x133.To), (AV.str x133.Act), (AV.int .i64 x133.Module)] 0)) ?_
      refine AOps.p rfl (rfl : _ = (AV.eptr [(AV.int .i64 x133.From), (AV.int .i64 x133.To), (AV.str x133.Act), (AV.int .i64 x133.Module)] 0)) ?_
      refine AOps.p rfl (rfl : _ = (AV.eptr [(AV.int .i64 x133.From), (AV.int .i64 x133.To), (AV.str x133.Act), (AV.int .i64 x133.Module)] 0)) ?_
      refine AOps.ldE (v := (AV.int .i64 x133.From)) rfl rfl rfl rfl rfl rfl ?_
      obtain ⟨x172, h173, h⟩ := obind h
      refine AOps.idxO (j := 1) hG161 rfl Sub.here h173 rfl rfl rfl rfl rfl rfl rfl rfl rfl ?_
      intro b170 hb171
      refine AOps.ldO (j := 1) (q := 0) hH160 hG161 rfl Sub.here h173 hb171 rfl rfl rfl rfl rfl (lt_b rfl) (le_b rfl) rfl rfl ?_ (fun c B hc => by obtain ⟨⟨_, hr, rfl⟩, rfl⟩ := hc; cases hr; exact ⟨_, rfl⟩)
      intro c174 B175 v176 h177 h178
      obtain ⟨⟨_, h179, rfl⟩, rfl⟩ := h177
      cases h179
      cases h178
      refine AOps.p rfl (rfl : _ = (AV.eptr [(AV.int .i64 x133.From), (AV.int .i64 x133.To), (AV.str x133.Act), (AV.int .i64 x133.Module)] 0)) ?_
      refine AOps.p rfl (rfl : _ = (AV.eptr [(AV.int .i64 x133.From), (AV.int .i64 x133.To), (AV.str x133.Act), (AV.int .i64 x133.Module)] 0)) ?_
      refine AOps.p rfl (rfl : _ = (AV.eptr [(AV.int .i64 x133.From), (AV.int .i64 x133.To), (AV.str x133.Act), (AV.int .i64 x133.Module)] 1)) ?_
      refine AOps.ldE (v := (AV.int .i64 x133.To)) rfl rfl rfl rfl rfl rfl ?_
      refine AOps.p rfl (rfl : _ = (AV.int .u64 (IntKind.wrap .u64 x133.To))) ?_
      obtain ⟨q180, h181, h⟩ := obind h
      refine AOps.pureR rfl rfl rfl (shl_ok h181) rfl (rfl : _ = (AV.int .i64 q180)) ?_
      refine AOps.p rfl (rfl : _ = (AV.int .i64 (orI .i64 x172 q180))) ?_
      refine AOps.idxO (j := 1) hG161 rfl Sub.here h173 rfl rfl rfl rfl rfl rfl rfl rfl rfl ?_
      intro b182 hb183
      refine AOps.stO (j := 1) (q := 0) (v := (AV.int .i64 (orI .i64 x172 q180))) (y' := (orI .i64 x172 q180)) hH160 hG161 hl rfl Sub.here h173 hb183 rfl rfl rfl rfl rfl rfl rfl rfl (lt_b rfl) (le_b rfl) rfl (fun c B hc => oLeaf_set hc rfl) ?_
      intro Ls184 s185 hG186 hH187
      change HS [] false s s185 (([⟨some b7, [h43], w41⟩] : List BX) ++ List.flatten Ls184) at hH187
      change AllG [OS oE26 h43 k44 m42, OS oE2 h68 k70 (t98.set (Int.toNat x133.From) (orI .i64 x172 q180))] Ls184 at hG186
      refine AOps.nilR ?_
      exact AW.res [(0, (AV.eptr [(AV.sl z2 f3 e4)] 0)), (1, (AV.str p1_6)), (5, (AV.ptr b7 0)), (6, (AV.eptr [(AV.sl z22 f23 e24)] 0)), (7, (AV.int .i64 t46)), (8, h68), (9, (AV.int .i64 t99))] [] ⟨rfl, rfl, rfl, rfl, rfl, rfl, rfl, trivial⟩ trivial (KJ168 ((t98.set (Int.toNat x133.From) (orI .i64 x172 q180)), s185, Ls184) _ _ ⟨hH187, hG186, h⟩)
     refine AW.condF (congrArg AV.bool hc169) ?_
     refine AW.skip ?_
     exact AW.res [(0, (AV.eptr [(AV.sl z2 f3 e4)] 0)), (1, (AV.str p1_6)), (5, (AV.ptr b7 0)), (6, (AV.eptr [(AV.sl z22 f23 e24)] 0)), (7, (AV.int .i64 t46)), (8, h68), (9, (AV.int .i64 t99))] [] ⟨rfl, rfl, rfl, rfl, rfl, rfl, rfl, trivial⟩ trivial (KJ168 (t98, s158, Ls159) _ _ ⟨hH160, hG161, h⟩)
    intro KJ162
    rcases oite h with ⟨hc188, h⟩ | ⟨hc188, h⟩
    ·refine AW.condT (congrArg AV.bool hc188) ?_
     refine AW.region ?_
     refine AOps.p rfl (rfl : _ = (AV.eptr [(AV.int .i64 x133.From), (AV.int .i64 x133.To), (AV.str x133.Act), (AV.int .i64 x133.Module)] 0)) ?_
     refine AOps.p rfl (rfl : _ = (AV.eptr [(AV.int .i64 x133.From), (AV.int .i64 x133.To), (AV.str x133.Act), (AV.int .i64 x133.Module)] 0)) ?_
     refine AOps.p rfl (rfl : _ = (AV.eptr [(AV.int .i64 x133.From), (AV.int .i64 x133.To), (AV.str x133.Act), (AV.int .i64 x133.Module)] 2)) ?_
     refine AOps.ldE (v := (AV.str x133.Act)) rfl rfl rfl rfl rfl rfl ?_
     refine AOps.p rfl (rfl : _ = (AV.str p1_6)) ?_
     obtain ⟨w189, h190, h⟩ := obind h
     refine AOps.pureR rfl rfl rfl (cut_strH h190) rfl (rfl : _ = (AV.str w189)) ?_
     refine AOps.p rfl (rfl : _ = (AV.str p1_6)) ?_
     refine AOps.p rfl (rfl : _ = (AV.str p1_6)) ?_
     refine AOps.p rfl (rfl : _ = (AV.int .i64 (p1_6.length : Int))) ?_
     refine AOps.p rfl (rfl : _ = (AV.int .i64 (IntKind.wrap .i64 ((p1_6.length : Int) - 1)))) ?_
     obtain ⟨w191, h192, h⟩ := obind h
     refine AOps.pureR rfl rfl rfl (cut_strL h192) rfl (rfl : _ = (AV.str w191)) ?_
     obtain ⟨w193, h194, h⟩ := obind h
     refine AOps.pureR rfl rfl rfl (add_str h194) rfl (rfl : _ = (AV.str w193)) ?_
     refine AOps.p rfl (rfl : _ = (AV.bool (x133.Act == w193))) ?_
     refine AOps.p rfl (rfl : _ = (AV.bool (x133.Act == w193))) ?_
     obtain ⟨b196, hb, h⟩ := obind h
     refine AOps.split 23 (fun f' => ∃ tm' os', f' = ⟨updL tm' [(0, (AV.eptr [(AV.sl z2 f3 e4)] 0)), (1, (AV.str p1_6)), (5, (AV.ptr b7 0)), (6, (AV.eptr [(AV.sl z22 f23 e24)] 0)), (7, (AV.int .i64 t46)), (8, h68), (9, (AV.int .i64 t99)), (10, (AV.eptr [(AV.int .i64 x133.From), (AV.int .i64 x133.To), (AV.str x133.Act), (AV.int .i64 x133.Module)] 0)), (121, (AV.bool b196))], updL os' [], s100⟩) ?_ ?_
     ·rcases oite hb with ⟨hc195, hb⟩ | ⟨hc195, hb⟩
      ·have h := hb
       refine AOps.know (d := 98) rfl hc195 ?_
       refine AOps.p rfl (rfl : _ = (AV.eptr [(AV.sl z22 f23 e24)] 0)) ?_
       refine AOps.p rfl (rfl : _ = (AV.eptr [(AV.sl z22 f23 e24)] 0)) ?_
       refine AOps.p rfl (rfl : _ = (AV.eptr [(AV.sl z22 f23 e24)] 0)) ?_
       refine AOps.ldE (v := (AV.sl z22 f23 e24)) rfl rfl rfl rfl rfl rfl ?_
       refine AOps.p rfl (rfl : _ = (AV.eptr [(AV.int .i64 x133.From), (AV.int .i64 x133.To), (AV.str x133.Act), (AV.int .i64 x133.Module)] 0)) ?_
       refine AOps.p rfl (rfl : _ = (AV.eptr [(AV.int .i64 x133.From), (AV.int .i64 x133.To), (AV.str x133.Act), (AV.int .i64 x133.Module)] 0)) ?_
       refine AOps.p rfl (rfl : _ = (AV.eptr [(AV.int .i64 x133.From), (AV.int .i64 x133.To), (AV.str x133.Act), (AV.int .i64 x133.Module)] 3)) ?_
       refine AOps.ldE (v := (AV.int .i64 x133.Module)) rfl rfl rfl rfl rfl rfl ?_
       obtain ⟨x197, h198, h⟩ := obind h
       obtain ⟨v201, h199, h200⟩ := idx_sl h25 h198
       obtain ⟨z202, f203, e204, rfl, h205⟩ := h199
       refine AOps.pureR rfl rfl rfl h200 rfl (rfl : _ = (AV.eptr [(AV.sl z202 f203 e204)] 0)) ?_
       refine AOps.ldE (v := (AV.sl z202 f203 e204)) rfl rfl rfl rfl rfl rfl ?_
       obtain ⟨x206, h207, h⟩ := obind h
       obtain ⟨v210, h208, h209⟩ := idx_sl h205 h207
       cases h208
       refine AOps.pureR rfl rfl rfl h209 rfl (rfl : _ = (AV.eptr [(AV.int .i64 x206)] 0)) ?_
       refine AOps.ldE (v := (AV.int .i64 x206)) rfl rfl rfl rfl rfl rfl ?_
       refine AOps.p rfl (rfl : _ = (AV.eptr [(AV.sl z2 f3 e4)] 0)) ?_
       refine AOps.p rfl (rfl : _ = (AV.eptr [(AV.int .i64 x133.From), (AV.int .i64 x133.To), (AV.str x133.Act), (AV.int .i64 x133.Module)] 0)) ?_
       refine AOps.p rfl (rfl : _ = (AV.eptr [(AV.int .i64 x133.From), (AV.int .i64 x133.To), (AV.str x133.Act), (AV.int .i64 x133.Module)] 0)) ?_
       refine AOps.p rfl (rfl : _ = (AV.eptr [(AV.int .i64 x133.From), (AV.int .i64 x133.To), (AV.str x133.Act), (AV.int .i64 x133.Module)] 3)) ?_
       refine AOps.ldE (v := (AV.int .i64 x133.Module)) rfl rfl rfl rfl rfl rfl ?_
       obtain ⟨y211, h212, h⟩ := obind h
       refine AOps.callDP (g := 47) (args := [(AV.eptr [(AV.sl z2 f3 e4)] 0), (AV.int .i64 x133.Module)]) (p := (rI .i64) y211) rfl rfl rfl (spec_l07Exit_ok h5 h212 ((HS.wf' hH102).still)) (fun v hv => Nice.pure (k := FINK) (p := (rI .i64) y211) .I _ v hv) ?_
       intro _ o214 h213
       cases h213
       refine AOps.p rfl (rfl : _ = (AV.int .u64 (IntKind.wrap .u64 y211))) ?_
       obtain ⟨q215, h216, h⟩ := obind h
       refine AOps.pureR rfl rfl rfl (shr_ok h216) rfl (rfl : _ = (AV.int .i64 q215)) ?_
       refine AOps.p rfl (rfl : _ = (AV.int .i64 (andI .i64 q215 1))) ?_
       refine AOps.p rfl (rfl : _ = (AV.bool ((andI .i64 q215 1) == 1))) ?_
       refine AOps.p rfl (rfl : _ = (AV.bool ((andI .i64 q215 1) == 1))) ?_
       refine AOps.resR [(0, (AV.eptr [(AV.sl z2 f3 e4)] 0)), (1, (AV.str p1_6)), (5, (AV.ptr b7 0)), (6, (AV.eptr [(AV.sl z22 f23 e24)] 0)), (7, (AV.int .i64 t46)), (8, h68), (9, (AV.int .i64 t99)), (10, (AV.eptr [(AV.int .i64 x133.From), (AV.int .i64 x133.To), (AV.str x133.Act), (AV.int .i64 x133.Module)] 0)), (121, (AV.bool b196))] [] ?_ ?_ _ ⟨_, _, rfl⟩
       ·exact ⟨rfl, rfl, rfl, rfl, rfl, rfl, rfl, rfl, congrArg AV.bool (Option.some.inj h), trivial⟩
       exact trivial
      ·refine AOps.know (d := 98) rfl hc195 ?_
       refine AOps.skipR rfl rfl ?_
       refine AOps.skipR rfl rfl ?_
       refine AOps.skipR rfl rfl ?_
       refine AOps.skipR rfl rfl ?_
       refine AOps.skipR rfl rfl ?_
       refine AOps.skipR rfl rfl ?_
       refine AOps.skipR rfl rfl ?_
       refine AOps.skipR rfl rfl ?_
       refine AOps.skipR rfl rfl ?_
       refine AOps.skipR rfl rfl ?_
       refine AOps.skipR rfl rfl ?_
       refine AOps.skipR rfl rfl ?_
       refine AOps.skipR rfl rfl ?_
       refine AOps.skipR rfl rfl ?_
       refine AOps.skipR rfl rfl ?_
       refine AOps.skipR rfl rfl ?_
       refine AOps.skipR rfl rfl ?_
       refine AOps.skipR rfl rfl ?_
       refine AOps.skipR rfl rfl ?_
       refine AOps.skipR rfl rfl ?_
       refine AOps.skipR rfl rfl ?_
       refine AOps.skipR rfl rfl ?_
       refine AOps.p rfl (rfl : _ = (AV.bool false)) ?_
       refine AOps.resR [(0, (AV.eptr [(AV.sl z2 f3 e4)] 0)), (1, (AV.str p1_6)), (5, (AV.ptr b7 0)), (6, (AV.eptr [(AV.sl z22 f23 e24)] 0)), (7, (AV.int .i64 t46)), (8, h68), (9, (AV.int .i64 t99)), (10, (AV.eptr [(AV.int .i64 x133.From), (AV.int .i64 x133.To), (AV.str x133.Act), (AV.int .i64 x133.Module)] 0)), (121, (AV.bool b196))] [] ?_ ?_ _ ⟨_, _, rfl⟩
       ·exact ⟨rfl, rfl, rfl, rfl, rfl, rfl, rfl, rfl, congrArg AV.bool (Option.some.inj hb), trivial⟩
       exact trivial
     rintro _ ⟨tm, os, rfl⟩
     refine AOps.assignR rfl rfl rfl (rfl : _ = (AV.bool b196)) rfl ?_
     refine AOps.nilR ?_
     exact AW.res [(0, (AV.eptr [(AV.sl z2 f3 e4)] 0)), (1, (AV.str p1_6)), (5, (AV.ptr b7 0)), (6, (AV.eptr [(AV.sl z22 f23 e24)] 0)), (7, (AV.int .i64 t46)), (8, h68), (9, (AV.int .i64 t99)), (10, (AV.eptr [(AV.int .i64 x133.From), (AV.int .i64 x133.To), (AV.str x133.Act), (AV.int .i64 x133.Module)] 0)), (11, (AV.bool b196))] [] ⟨rfl, rfl, rfl, rfl, rfl, rfl, rfl, rfl, rfl, trivial⟩ trivial (KJ162 (b196, s100, Ls101) _ _ ⟨hH102, hG103, h⟩)
    refine AW.condF (congrArg AV.bool hc188) ?_
    refine AW.skip ?_
    exact AW.res [(0, (AV.eptr [(AV.sl z2 f3 e4)] 0)), (1, (AV.str p1_6)), (5, (AV.ptr b7 0)), (6, (AV.eptr [(AV.sl z22 f23 e24)] 0)), (7, (AV.int .i64 t46)), (8, h68), (9, (AV.int .i64 t99)), (10, (AV.eptr [(AV.int .i64 x133.From), (AV.int .i64 x133.To), (AV.str x133.Act), (AV.int .i64 x133.Module)] 0)), (11, (AV.bool (y147 && (x133.Act == p1_6))))] [] ⟨rfl, rfl, rfl, rfl, rfl, rfl, rfl, rfl, rfl, trivial⟩ trivial (KJ162 ((y147 && (x133.Act == p1_6)), s100, Ls101) _ _ ⟨hH102, hG103, h⟩)
   refine AW.condF (congrArg AV.bool hc118) ?_
   refine AW.exit rfl ?_
   obtain ⟨r217, hm, hx⟩ := omap h
   clear h
   subst hx
   have hx := hR2 _ rfl
   rw [hx] at hm
   have h := hm
   exact AW.res [(0, (AV.eptr [(AV.sl z2 f3 e4)] 0)), (1, (AV.str p1_6)), (5, (AV.ptr b7 0)), (6, (AV.eptr [(AV.sl z22 f23 e24)] 0)), (7, (AV.int .i64 t46)), (8, h68)] [] ⟨rfl, rfl, rfl, rfl, rfl, rfl, trivial⟩ trivial (KJ80 (t98, s100, Ls101) _ _ ⟨hH102, hG103, h⟩)
  refine AW.condF (congrArg AV.bool hc51) ?_
  refine AW.exit rfl ?_
  obtain ⟨r221, hm, hx⟩ := omap h
  clear h
  subst hx
  have hx := hR1 _ rfl
  rw [hx] at hm
  have h := hm
  exact AW.res [(5, (AV.ptr b7 0))] [] ⟨rfl, trivial⟩ trivial (KJ40 (m42, w41, h43, k44, s47, Ls48) _ _ ⟨ho45, hH49, hG50, h⟩)
 intro KJ30
 rcases oite h with ⟨hc226, h⟩ | ⟨hc226, h⟩
 ·refine AW.condT (congrArg AV.bool hc226) ?_
  refine AW.region ?_
  refine AOps.p rfl (rfl : _ = (AV.eptr [(AV.sl z2 f3 e4)] 0)) ?_
  refine AOps.p rfl (rfl : _ = (AV.str p1_6)) ?_
  refine AOps.p rfl (rfl : _ = (AV.str p1_6)) ?_
  refine AOps.p rfl (rfl : _ = (AV.int .i64 (p1_6.length : Int))) ?_
  refine AOps.p rfl (rfl : _ = (AV.int .i64 (IntKind.wrap .i64 ((p1_6.length : Int) - 1)))) ?_
  obtain ⟨w227, h228, h⟩ := obind h
  refine AOps.pureR rfl rfl rfl (cut_strLH h228) rfl (rfl : _ = (AV.str w227)) ?_
  obtain ⟨y229, h230, h⟩ := obind h
  refine AOps.callP (g := 46) (args := [(AV.eptr [(AV.sl z2 f3 e4)] 0), (AV.str w227)]) (p := (fun x => rP (csL07Table x)) y229) rfl rfl rfl (rec46_ok h5 h230 (HS.wf' hH9)) ?_
  intro _ o239 h231
  obtain ⟨_, rfl, h232⟩ := h231
  obtain ⟨_, _, rfl, h233, h234⟩ := Cs_cons h232
  obtain ⟨z235, f236, e237, rfl, h238⟩ := h233
  cases Cs_nil h234
  refine AOps.assignR rfl rfl rfl (rfl : _ = (AV.eptr [(AV.sl z235 f236 e237)] 0)) rfl ?_
  refine AOps.nilR ?_
  exact AW.res [(0, (AV.eptr [(AV.sl z2 f3 e4)] 0)), (1, (AV.str p1_6)), (5, (AV.ptr b7 0)), (6, (AV.eptr [(AV.sl z235 f236 e237)] 0))] [] ⟨rfl, rfl, rfl, rfl, trivial⟩ trivial (KJ30 (y229, z235, f236, e237, s8, ([] : List (List BX))) _ _ ⟨h238, hH9, hG0, h⟩)
 refine AW.condF (congrArg AV.bool hc226) ?_
 refine AW.skip ?_
 exact AW.res [(0, (AV.eptr [(AV.sl z2 f3 e4)] 0)), (1, (AV.str p1_6)), (5, (AV.ptr b7 0)), (6, (AV.eptr [(AV.sl z16 f17 e18)] 0))] [] ⟨rfl, rfl, rfl, rfl, trivial⟩ trivial (KJ30 (y10, z16, f17, e18, s8, ([] : List (List BX))) _ _ ⟨h19, hH9, hG0, h⟩)
theorem spec_l07Of_B_ok {rec46 : ProgramT → (List UInt8) → Option L07Table} {p1 : ProgramT} {p1_6 : List UInt8} {z2 : Nat} {f3 : Bool} {e4 : List AV} {s : St} (rec46_ok : ∀ {a1 : ProgramT} {a6 : List UInt8} {z2 : Nat} {f3 : Bool} {e4 : List AV} {s : St} (h5 : LR rModule 2 a1.Modules z2 e4) {r : L07Table}, rec46 a1 a6 = some r → WF s → ACall Cf 46 [(AV.eptr [(AV.sl z2 f3 e4)] 0), (AV.str a6)] s fun v _ s' => (fun x => rP (csL07Table x)) r v ∧ s' = s) (h5 : LR rModule 2 p1.Modules z2 e4) {r : L07Table} (h : spec_l07Of_B rec46 p1 p1_6 = some r) (hs : WF s) : ACall Cf 46 [(AV.eptr [(AV.sl z2 f3 e4)] 0), (AV.str p1_6)] s fun v _ s' => (fun x => rP (csL07Table x)) r v ∧ s' = s := by
 refine ACall.boxes rfl rfl rfl ?_
 have hH0 := HS.init hs
 unfold spec_l07Of_B at h
 refine AW.sr ?_
 refine AOps.p rfl (rfl : _ = AV.nilp) ?_
 refine AOps.nilR ?_
 refine AW.sr ?_
 refine AOps.p rfl (rfl : _ = (AV.eptr [(AV.sl z2 f3 e4)] 0)) ?_
 obtain ⟨y7, h8, h⟩ := obind h
 refine AOps.callP (g := 67) (args := [(AV.eptr [(AV.sl z2 f3 e4)] 0)]) (p := (fun x => rP (csL07Table x)) y7) rfl rfl rfl (spec_l07None_ok h5 h8 (HS.wf' hH0)) ?_
 intro _ o17 h9
 obtain ⟨_, rfl, h10⟩ := h9
 obtain ⟨_, _, rfl, h11, h12⟩ := Cs_cons h10
 obtain ⟨z13, f14, e15, rfl, h16⟩ := h11
 cases Cs_nil h12
 refine AOps.assignR rfl rfl rfl (rfl : _ = (AV.eptr [(AV.sl z13 f14 e15)] 0)) rfl ?_
 refine AOps.nilR ?_
 refine AW.sr ?_
 refine AOps.p rfl (rfl : _ = (AV.str p1_6)) ?_
 obtain ⟨y18, h19, h⟩ := obind h
 refine AOps.callP (g := 31) (args := [(AV.str p1_6)]) (p := (rL rS 1) y18) rfl rfl rfl (spec_l01Factors_ok  h19 (HS.wf' hH0)) ?_
 intro _ o25 h20
 obtain ⟨z21, f22, e23, rfl, h24⟩ := h20
 refine AOps.assignR rfl rfl rfl (rfl : _ = (AV.sl z21 f22 e23)) rfl ?_
 refine AOps.nilR ?_
 refine AW.seq ?_
 refine AW.sr ?_
 refine AOps.p rfl (rfl : _ = (AV.int .i64 0)) ?_
 refine AOps.nilR ?_
 refine AW.meet (σ := L07Table × Nat × Bool × (List AV) × St) (fun (t26, z27, f28, e29, s31) tm os => ⟨updL tm [(5, (AV.eptr [(AV.sl z27 f28 e29)] 0))], updL os [], s31⟩) (fun (t26, z27, f28, e29, s31) => (LR (rL (rI .i64) 1) 1 t26.rows z27 e29) ∧ (HS [] false s s31 []) ∧ spec_l07Of_J1 t26 = some r) ?_ ?_
 ·rintro ⟨t26, z27, f28, e29, s31⟩ tm os ⟨h30, hH32, h⟩
  unfold spec_l07Of_J1 at h
  refine AW.sr ?_
  refine AOps.p rfl (rfl : _ = (AV.eptr [(AV.sl z27 f28 e29)] 0)) ?_
  refine AOps.assignR rfl rfl rfl (rfl : _ = (AV.eptr [(AV.sl z27 f28 e29)] 0)) rfl ?_
  refine AOps.nilR ?_
  cases h
  exact AW.ret ⟨⟨_, hH32⟩, _, _, rfl, (Fin.of (p := (fun x => rP (csL07Table x)) _) (.P (.cons (.L fun _ => (.L fun _ => .I)) .nil)) (⟨_, rfl, (.cons ⟨_, _, _, rfl, h30⟩ .nil)⟩)).2⟩
 intro KJ33
 refine AW.block ?_
 refine AW.res [(0, (AV.eptr [(AV.sl z2 f3 e4)] 0)), (5, (AV.eptr [(AV.sl z13 f14 e15)] 0)), (6, (AV.sl z21 f22 e23)), (7, (AV.int .i64 0))] [] ⟨rfl, rfl, rfl, rfl, trivial⟩ trivial ?_
 refine AW.loopZ (σ := L07Table × Int) (τ := Nat × Bool × (List AV) × St) (fun (t34, t39) (z35, f36, e37, s40) => (LR (rL (rI .i64) 1) 1 t34.rows z35 e37) ∧ (HS [] false s s40 [])) (fun (t34, t39) (z35, f36, e37, s40) tm os => ⟨updL tm [(0, (AV.eptr [(AV.sl z2 f3 e4)] 0)), (5, (AV.eptr [(AV.sl z35 f36 e37)] 0)), (6, (AV.sl z21 f22 e23)), (7, (AV.int .i64 t39))], updL os [], s40⟩) ?_ (x := (y7, 0)) (y := (z13, f14, e15, { s with lo := s.n })) h ⟨h16, (HS.sel hH0 [] (by decide))⟩
 clear h
 rintro ⟨t34, t39⟩ ⟨z35, f36, e37, s40⟩ tm os ⟨h38, hH41⟩ ee1 h hL1 hR1
 unfold spec_l07Of_S1 at h
 dsimp only at h
 refine AW.seq ?_
 refine AW.sr ?_
 refine AOps.p rfl (rfl : _ = (AV.int .i64 t39)) ?_
 refine AOps.p rfl (rfl : _ = (AV.sl z21 f22 e23)) ?_
 refine AOps.p rfl (len_eq h24) ?_
 refine AOps.p rfl (rfl : _ = (AV.bool (decide ((t39 : Int) < (y18.length : Int))))) ?_
 refine AOps.nilR ?_
 rcases oite h with ⟨hc42, h⟩ | ⟨hc42, h⟩
 ·refine AW.condT (congrArg AV.bool hc42) ?_
  refine AW.skip ?_
  refine AW.seq ?_
  refine AW.block ?_
  refine AW.sr ?_
  refine AOps.p rfl (rfl : _ = (AV.eptr [(AV.sl z2 f3 e4)] 0)) ?_
  refine AOps.p rfl (rfl : _ = (AV.sl z21 f22 e23)) ?_
  refine AOps.p rfl (rfl : _ = (AV.int .i64 t39)) ?_
  obtain ⟨x43, h44, h⟩ := obind h
  obtain ⟨v47, h45, h46⟩ := idx_sl h24 h44
  cases h45
  refine AOps.pureR rfl rfl rfl h46 rfl (rfl : _ = (AV.eptr [(AV.str x43)] 0)) ?_
  refine AOps.ldE (v := (AV.str x43)) rfl rfl rfl rfl rfl rfl ?_
  obtain ⟨y48, h49, h⟩ := obind h
  refine AOps.callP (g := 68) (args := [(AV.eptr [(AV.sl z2 f3 e4)] 0), (AV.str x43)]) (p := (fun x => rP (csL07Table x)) y48) rfl rfl rfl (spec_l07Factor_ok rec46_ok h5 h49 (HS.wf' hH41)) ?_
  intro _ o58 h50
  obtain ⟨_, rfl, h51⟩ := h50
  obtain ⟨_, _, rfl, h52, h53⟩ := Cs_cons h51
  obtain ⟨z54, f55, e56, rfl, h57⟩ := h52
  cases Cs_nil h53
  refine AOps.assignR rfl rfl rfl (rfl : _ = (AV.eptr [(AV.sl z54 f55 e56)] 0)) rfl ?_
  refine AOps.nilR ?_
  refine AW.sr ?_
  refine AOps.p rfl (rfl : _ = (AV.agg [(AV.sl 0 true [])])) ?_
  refine AOps.box1 (v := (AV.agg [(AV.sl 0 true [])])) hH41 rfl rfl rfl rfl rfl rfl rfl rfl ?_
  intro b59 s60 hH61
  change HS [] false s s60 [⟨some b59, [(AV.sl 0 true [])], (fun _ => false)⟩] at hH61
  refine AOps.assignR rfl rfl rfl (rfl : _ = (AV.ptr b59 0)) rfl ?_
  refine AOps.nilR ?_
  refine AW.seq ?_
  refine AW.sr ?_
  refine AOps.p rfl (rfl : _ = (AV.int .i64 0)) ?_
  refine AOps.nilR ?_
  refine AW.meet (σ := (List (List Int)) × (Nat → Bool) × Nat × Bool × (List AV) × St) (fun (m63, w62, z64, f65, e66, s69) tm os => ⟨updL tm [(0, (AV.eptr [(AV.sl z2 f3 e4)] 0)), (6, (AV.sl z21 f22 e23)), (7, (AV.int .i64 t39)), (9, (AV.ptr b59 0))], updL os [], s69⟩) (fun (m63, w62, z64, f65, e66, s69) => (LR (rL (rI .i64) 1) 1 m63 z64 e66) ∧ (f65 = true ∨ w62 0 = true) ∧ (HS [] false s s69 [⟨some b59, [(AV.sl z64 f65 e66)], w62⟩]) ∧ spec_l07Of_J2 t39 m63 = some ee1) ?_ ?_
  ·rintro ⟨m63, w62, z64, f65, e66, s69⟩ tm os ⟨h67, h68, hH70, h⟩
   unfold spec_l07Of_J2 at h
   refine AW.region ?_
   refine AOps.p rfl (rfl : _ = (AV.ptr b59 0)) ?_
   refine AOps.assignR rfl rfl rfl (rfl : _ = (AV.ptr b59 0)) rfl ?_
   refine AOps.nilR ?_
   refine AW.inBlock ?_
   refine AW.region ?_
   refine AOps.p rfl (rfl : _ = (AV.int .i64 t39)) ?_
   refine AOps.p rfl (rfl : _ = (AV.int .i64 (IntKind.wrap .i64 (t39 + 1)))) ?_
   refine AOps.assignR rfl rfl rfl (rfl : _ = (AV.int .i64 (IntKind.wrap .i64 (t39 + 1)))) rfl ?_
   refine AOps.nilR ?_
   cases h
   obtain ⟨v72, hv73, hp74⟩ := (show Ae.Fin _ _ FINK ((fun x => rP (csL07Table x)) (⟨m63⟩ : L07Table)) _ from Fin.ptr (ps := csL07Table (⟨m63⟩ : L07Table)) hH70 (i := 0) rfl rfl (.cons (Fin.of (p := (rL (rL (rI .i64) 1) 1) m63) (.L fun _ => (.L fun _ => .I)) (⟨_, _, _, rfl, h67⟩)) .nil)).2
   obtain ⟨_, rfl, h75⟩ := hp74
   obtain ⟨_, _, rfl, h76, h77⟩ := Cs_cons h75
   obtain ⟨z78, f79, e80, rfl, h81⟩ := h76
   cases Cs_nil h77
   exact (hL1 _ rfl (z78, f79, e80, (St.frz s69)) _ _ _ ⟨h81, (HS.sel (HS.frz hH70) [] (by decide))⟩ (thawR rfl (HS.lo0 hH70) (HS.rolo hH70) rfl hv73 ⟨rfl, rfl, rfl, rfl, trivial⟩ trivial))
  intro KJ71
  refine AW.block ?_
  refine AW.res [(0, (AV.eptr [(AV.sl z2 f3 e4)] 0)), (5, (AV.eptr [(AV.sl z35 f36 e37)] 0)), (6, (AV.sl z21 f22 e23)), (7, (AV.int .i64 t39)), (8, (AV.eptr [(AV.sl z54 f55 e56)] 0)), (9, (AV.ptr b59 0)), (10, (AV.int .i64 0))] [] ⟨rfl, rfl, rfl, rfl, rfl, rfl, rfl, trivial⟩ trivial ?_
  refine AW.loopF (σ := (List (List Int)) × Int) (τ := (Nat → Bool) × Nat × Bool × (List AV) × St) (fun (m83, t89) (w82, z84, f85, e86, s90) => (LR (rL (rI .i64) 1) 1 m83 z84 e86) ∧ (f85 = true ∨ w82 0 = true) ∧ (HS [] false s s90 [⟨some b59, [(AV.sl z84 f85 e86)], w82⟩])) (fun (m83, t89) (w82, z84, f85, e86, s90) tm os => ⟨updL tm [(0, (AV.eptr [(AV.sl z2 f3 e4)] 0)), (5, (AV.eptr [(AV.sl z35 f36 e37)] 0)), (6, (AV.sl z21 f22 e23)), (7, (AV.int .i64 t39)), (8, (AV.eptr [(AV.sl z54 f55 e56)] 0)), (9, (AV.ptr b59 0)), (10, (AV.int .i64 t89))], updL os [], s90⟩) ?_ (x := (([] : List (List Int)), 0)) (y := ((fun _ => false), 0, true, [], s60)) h ⟨⟨.inr ⟨rfl, rfl⟩, .nil⟩, (Or.inl rfl), (HS.sel hH61 [some 0] (by decide))⟩
  clear h
  rintro ⟨m83, t89⟩ ⟨w82, z84, f85, e86, s90⟩ tm os ⟨h87, h88, hH91⟩ ee2 h hL2 hR2
  unfold spec_l07Of_S2 at h
  dsimp only at h
  refine AW.seq ?_
  refine AW.sr ?_
  refine AOps.p rfl (rfl : _ = (AV.int .i64 t89)) ?_
  refine AOps.p rfl (rfl : _ = (AV.eptr [(AV.sl z35 f36 e37)] 0)) ?_
  refine AOps.p rfl (rfl : _ = (AV.eptr [(AV.sl z35 f36 e37)] 0)) ?_
  refine AOps.p rfl (rfl : _ = (AV.eptr [(AV.sl z35 f36 e37)] 0)) ?_
  refine AOps.ldE (v := (AV.sl z35 f36 e37)) rfl rfl rfl rfl rfl rfl ?_
  refine AOps.p rfl (len_eq h38) ?_
  refine AOps.p rfl (rfl : _ = (AV.bool (decide ((t89 : Int) < (t34.rows.length : Int))))) ?_
  refine AOps.nilR ?_
  rcases oite h with ⟨hc92, h⟩ | ⟨hc92, h⟩
  ·refine AW.condT (congrArg AV.bool hc92) ?_
   refine AW.skip ?_
   refine AW.seq ?_
   refine AW.block ?_
   refine AW.sr ?_
   refine AOps.makeR rfl rfl rfl rfl rfl rfl (rfl : _ = (AV.sl 1 true [])) ?_
   refine AOps.assignR rfl rfl rfl (rfl : _ = (AV.sl 1 true [])) rfl ?_
   refine AOps.nilR ?_
   refine AW.seq ?_
   refine AW.sr ?_
   refine AOps.p rfl (rfl : _ = (AV.int .i64 0)) ?_
   refine AOps.nilR ?_
   refine AW.meet (σ := (List Int) × Nat × Bool × (List AV) × Bool × St) (fun (t93, z94, f95, e96, o98, s100) tm os => ⟨updL tm [(0, (AV.eptr [(AV.sl z2 f3 e4)] 0)), (5, (AV.eptr [(AV.sl z35 f36 e37)] 0)), (6, (AV.sl z21 f22 e23)), (7, (AV.int .i64 t39)), (8, (AV.eptr [(AV.sl z54 f55 e56)] 0)), (9, (AV.ptr b59 0)), (10, (AV.int .i64 t89)), (11, (AV.sl z94 f95 e96))], updL os [(11, o98)], s100⟩) (fun (t93, z94, f95, e96, o98, s100) => (LR (rI .i64) 1 t93 z94 e96) ∧ (f95 = true ∨ o98 = true) ∧ (HS [] false s s100 [⟨some b59, [(AV.sl z84 f85 e86)], w82⟩]) ∧ spec_l07Of_J3 m83 t89 t93 = some ee2) ?_ ?_
   ·rintro ⟨t93, z94, f95, e96, o98, s100⟩ tm os ⟨h97, h99, hH101, h⟩
    unfold spec_l07Of_J3 at h
    refine AW.region ?_
    refine AOps.p rfl (rfl : _ = (AV.ptr b59 0)) ?_
    refine AOps.p rfl (rfl : _ = (AV.ptr b59 0)) ?_
    refine AOps.p rfl (rfl : _ = (AV.ptr b59 0)) ?_
    refine AOps.p rfl (rfl : _ = (AV.ptr b59 0)) ?_
    refine AOps.ldMv (i := 0) (v := (AV.sl z84 f85 e86)) hH101 rfl rfl rfl rfl rfl rfl rfl rfl rfl rfl h88 ?_
    intro o103 w104 s108 h105 h106 hH107
    change HS [] false s s108 [⟨some b59, [(AV.sl z84 f85 e86)], w104⟩] at hH107
    refine AOps.p rfl (rfl : _ = (AV.sl z94 f95 e96)) ?_
    refine AOps.makeR rfl rfl rfl rfl rfl rfl (rfl : _ = (AV.sl 1 true [(AV.sl z94 f95 e96)])) ?_
    obtain ⟨l109, h110, h⟩ := obind h
    obtain ⟨h111, h112⟩ := app_LR h87 (LR.lit (r := rL (rI .i64) 1) (sz := 1) (.cons ⟨_, _, _, rfl, h97⟩ .nil)) h110
    refine AOps.appL (z := z84) (f := f85) (e := e86) (z' := 1) (f' := true) (e' := [(AV.sl z94 f95 e96)]) rfl rfl rfl rfl rfl rfl rfl (appSrc_sl (LR.z (LR.lit (r := rL (rI .i64) 1) (sz := 1) (.cons ⟨_, _, _, rfl, h97⟩ .nil))) rfl) (LR.z h87) ⟨by decide, by decide, rfl, rfl⟩ rfl rfl h112 (own_tmp h105 rfl rfl) ?_
    refine AOps.p rfl (rfl : _ = (AV.ptr b59 0)) ?_
    refine AOps.p rfl (rfl : _ = (AV.ptr b59 0)) ?_
    refine AOps.stB (i := 0) (v := (AV.sl 1 false (e86 ++ [(AV.sl z94 f95 e96)]))) hH107 rfl rfl rfl rfl rfl rfl rfl rfl rfl (lt_b rfl) (le_b rfl) rfl ?_
    intro w113 s114 h115 h116 hH117
    change HS [] false s s114 [⟨some b59, [(AV.sl 1 false (e86 ++ [(AV.sl z94 f95 e96)]))], w113⟩] at hH117
    refine AOps.nilR ?_
    refine AW.inBlock ?_
    refine AW.region ?_
    refine AOps.p rfl (rfl : _ = (AV.int .i64 t89)) ?_
    refine AOps.p rfl (rfl : _ = (AV.int .i64 (IntKind.wrap .i64 (t89 + 1)))) ?_
    refine AOps.assignR rfl rfl rfl (rfl : _ = (AV.int .i64 (IntKind.wrap .i64 (t89 + 1)))) rfl ?_
    refine AOps.nilR ?_
    cases h
    exact AW.res [(0, (AV.eptr [(AV.sl z2 f3 e4)] 0)), (5, (AV.eptr [(AV.sl z35 f36 e37)] 0)), (6, (AV.sl z21 f22 e23)), (7, (AV.int .i64 t39)), (8, (AV.eptr [(AV.sl z54 f55 e56)] 0)), (9, (AV.ptr b59 0)), (10, (AV.int .i64 (IntKind.wrap .i64 (t89 + 1))))] [] ⟨rfl, rfl, rfl, rfl, rfl, rfl, rfl, trivial⟩ trivial (hL2 _ rfl (w113, 1, false, (e86 ++ [(AV.sl z94 f95 e96)]), s114) _ _ ⟨h111, (own_st (Or.inr rfl) h116 rfl rfl rfl), (HS.sel hH117 [some 0] (by decide))⟩)
   intro KJ102
   refine AW.block ?_
   refine AW.res [(0, (AV.eptr [(AV.sl z2 f3 e4)] 0)), (5, (AV.eptr [(AV.sl z35 f36 e37)] 0)), (6, (AV.sl z21 f22 e23)), (7, (AV.int .i64 t39)), (8, (AV.eptr [(AV.sl z54 f55 e56)] 0)), (9, (AV.ptr b59 0)), (10, (AV.int .i64 t89)), (11, (AV.sl 1 true [])), (12, (AV.int .i64 0))] [(11, false)] ⟨rfl, rfl, rfl, rfl, rfl, rfl, rfl, rfl, rfl, trivial⟩ ⟨rfl, trivial⟩ ?_
   refine AW.loopF (σ := (List Int) × Int) (τ := Nat × Bool × (List AV) × Bool × St) (fun (t118, t125) (z119, f120, e121, o123, s126) => (LR (rI .i64) 1 t118 z119 e121) ∧ (f120 = true ∨ o123 = true) ∧ (HS [] false s s126 [⟨some b59, [(AV.sl z84 f85 e86)], w82⟩])) (fun (t118, t125) (z119, f120, e121, o123, s126) tm os => ⟨updL tm [(0, (AV.eptr [(AV.sl z2 f3 e4)] 0)), (5, (AV.eptr [(AV.sl z35 f36 e37)] 0)), (6, (AV.sl z21 f22 e23)), (7, (AV.int .i64 t39)), (8, (AV.eptr [(AV.sl z54 f55 e56)] 0)), (9, (AV.ptr b59 0)), (10, (AV.int .i64 t89)), (11, (AV.sl z119 f120 e121)), (12, (AV.int .i64 t125))], updL os [(11, o123)], s126⟩) ?_ (x := (([] : List Int), 0)) (y := (1, true, [], false, s90)) h ⟨⟨.inl rfl, .nil⟩, (Or.inl rfl), (HS.sel hH91 [some 0] (by decide))⟩
   clear h
   rintro ⟨t118, t125⟩ ⟨z119, f120, e121, o123, s126⟩ tm os ⟨h122, h124, hH127⟩ ee3 h hL3 hR3
   unfold spec_l07Of_S3 at h
   dsimp only at h
   refine AW.seq ?_
   refine AW.sr ?_
   refine AOps.p rfl (rfl : _ = (AV.int .i64 t125)) ?_
   refine AOps.p rfl (rfl : _ = (AV.eptr [(AV.sl z35 f36 e37)] 0)) ?_
   refine AOps.p rfl (rfl : _ = (AV.eptr [(AV.sl z35 f36 e37)] 0)) ?_
   refine AOps.p rfl (rfl : _ = (AV.eptr [(AV.sl z35 f36 e37)] 0)) ?_
   refine AOps.ldE (v := (AV.sl z35 f36 e37)) rfl rfl rfl rfl rfl rfl ?_
   refine AOps.p rfl (rfl : _ = (AV.int .i64 t89)) ?_
   obtain ⟨x128, h129, h⟩ := obind h
   obtain ⟨v132, h130, h131⟩ := idx_sl h38 h129
   obtain ⟨z133, f134, e135, rfl, h136⟩ := h130
   refine AOps.pureR rfl rfl rfl h131 rfl (rfl : _ = (AV.eptr [(AV.sl z133 f134 e135)] 0)) ?_
   refine AOps.ldE (v := (AV.sl z133 f134 e135)) rfl rfl rfl rfl rfl rfl ?_
   refine AOps.p rfl (len_eq h136) ?_
   refine AOps.p rfl (rfl : _ = (AV.bool (decide ((t125 : Int) < (x128.length : Int))))) ?_
   refine AOps.nilR ?_
   rcases oite h with ⟨hc137, h⟩ | ⟨hc137, h⟩
   ·refine AW.condT (congrArg AV.bool hc137) ?_
    refine AW.skip ?_
    refine AW.seq ?_
    refine AW.block ?_
    refine AW.sr ?_
    refine AOps.p rfl (rfl : _ = (AV.int .i64 0)) ?_
    refine AOps.nilR ?_
    refine AW.seq ?_
    refine AW.sr ?_
    refine AOps.p rfl (rfl : _ = (AV.int .i64 0)) ?_
    refine AOps.nilR ?_
    refine AW.meet (σ := Int × Bool × St) (fun (t140, o138, s141) tm os => ⟨updL tm [(0, (AV.eptr [(AV.sl z2 f3 e4)] 0)), (5, (AV.eptr [(AV.sl z35 f36 e37)] 0)), (6, (AV.sl z21 f22 e23)), (7, (AV.int .i64 t39)), (8, (AV.eptr [(AV.sl z54 f55 e56)] 0)), (9, (AV.ptr b59 0)), (10, (AV.int .i64 t89)), (11, (AV.sl z119 f120 e121)), (12, (AV.int .i64 t125)), (13, (AV.int .i64 t140))], updL os [(11, o138)], s141⟩) (fun (t140, o138, s141) => (f120 = true ∨ o138 = true) ∧ (HS [] false s s141 [⟨some b59, [(AV.sl z84 f85 e86)], w82⟩]) ∧ spec_l07Of_J4 t118 t125 t140 = some ee3) ?_ ?_
    ·rintro ⟨t140, o138, s141⟩ tm os ⟨h139, hH142, h⟩
     unfold spec_l07Of_J4 at h
     refine AW.region ?_
     refine AOps.moveR rfl rfl rfl rfl (rfl : _ = (AV.sl z119 f120 e121)) rfl ?_
     refine AOps.p rfl (rfl : _ = (AV.int .i64 t140)) ?_
     refine AOps.makeR rfl rfl rfl rfl rfl rfl (rfl : _ = (AV.sl 1 true [(AV.int .i64 t140)])) ?_
     obtain ⟨l144, h145, h⟩ := obind h
     obtain ⟨h146, h147⟩ := app_LR h122 (LR.lit (r := rI .i64) (sz := 1) (.cons rfl .nil)) h145
     refine AOps.appL (z := z119) (f := f120) (e := e121) (z' := 1) (f' := true) (e' := [(AV.int .i64 t140)]) rfl rfl rfl rfl rfl rfl rfl (appSrc_sl (LR.z (LR.lit (r := rI .i64) (sz := 1) (.cons rfl .nil))) rfl) (LR.z h122) ⟨by decide, by decide, rfl, rfl⟩ rfl rfl h147 (own_tmp h139 rfl rfl) ?_
     refine AOps.assignR rfl rfl rfl (rfl : _ = (AV.sl 1 false (e121 ++ [(AV.int .i64 t140)]))) rfl ?_
     refine AOps.nilR ?_
     refine AW.inBlock ?_
     refine AW.region ?_
     refine AOps.p rfl (rfl : _ = (AV.int .i64 t125)) ?_
     refine AOps.p rfl (rfl : _ = (AV.int .i64 (IntKind.wrap .i64 (t125 + 1)))) ?_
     refine AOps.assignR rfl rfl rfl (rfl : _ = (AV.int .i64 (IntKind.wrap .i64 (t125 + 1)))) rfl ?_
     refine AOps.nilR ?_
     cases h
     exact AW.res [(0, (AV.eptr [(AV.sl z2 f3 e4)] 0)), (5, (AV.eptr [(AV.sl z35 f36 e37)] 0)), (6, (AV.sl z21 f22 e23)), (7, (AV.int .i64 t39)), (8, (AV.eptr [(AV.sl z54 f55 e56)] 0)), (9, (AV.ptr b59 0)), (10, (AV.int .i64 t89)), (11, (AV.sl 1 false (e121 ++ [(AV.int .i64 t140)]))), (12, (AV.int .i64 (IntKind.wrap .i64 (t125 + 1))))] [(11, true)] ⟨rfl, rfl, rfl, rfl, rfl, rfl, rfl, rfl, rfl, trivial⟩ ⟨rfl, trivial⟩ (hL3 _ rfl (1, false, (e121 ++ [(AV.int .i64 t140)]), true, s141) _ _ ⟨h146, (Or.inr rfl), (HS.sel hH142 [some 0] (by decide))⟩)
    intro KJ143
    refine AW.block ?_
    refine AW.res [(0, (AV.eptr [(AV.sl z2 f3 e4)] 0)), (5, (AV.eptr [(AV.sl z35 f36 e37)] 0)), (6, (AV.sl z21 f22 e23)), (7, (AV.int .i64 t39)), (8, (AV.eptr [(AV.sl z54 f55 e56)] 0)), (9, (AV.ptr b59 0)), (10, (AV.int .i64 t89)), (11, (AV.sl z119 f120 e121)), (12, (AV.int .i64 t125)), (13, (AV.int .i64 0)), (14, (AV.int .i64 0))] [(11, o123)] ⟨rfl, rfl, rfl, rfl, rfl, rfl, rfl, rfl, rfl, rfl, rfl, trivial⟩ ⟨rfl, trivial⟩ ?_
    refine AW.loopF (σ := Int × Int) (τ := Bool × St) (fun (t150, t151) (o148, s152) => (f120 = true ∨ o148 = true) ∧ (HS [] false s s152 [⟨some b59, [(AV.sl z84 f85 e86)], w82⟩])) (fun (t150, t151) (o148, s152) tm os => ⟨updL tm [(0, (AV.eptr [(AV.sl z2 f3 e4)] 0)), (5, (AV.eptr [(AV.sl z35 f36 e37)] 0)), (6, (AV.sl z21 f22 e23)), (7, (AV.int .i64 t39)), (8, (AV.eptr [(AV.sl z54 f55 e56)] 0)), (9, (AV.ptr b59 0)), (10, (AV.int .i64 t89)), (11, (AV.sl z119 f120 e121)), (12, (AV.int .i64 t125)), (13, (AV.int .i64 t150)), (14, (AV.int .i64 t151))], updL os [(11, o148)], s152⟩) ?_ (x := (0, 0)) (y := (o123, s126)) h ⟨h124, (HS.sel hH127 [some 0] (by decide))⟩
    clear h
    rintro ⟨t150, t151⟩ ⟨o148, s152⟩ tm os ⟨h149, hH153⟩ ee4 h hL4 hR4
    unfold spec_l07Of_S4 at h
    dsimp only at h
    refine AW.seq ?_
    refine AW.sr ?_
    refine AOps.p rfl (rfl : _ = (AV.int .i64 t151)) ?_
    refine AOps.p rfl (rfl : _ = (AV.eptr [(AV.sl z54 f55 e56)] 0)) ?_
    refine AOps.p rfl (rfl : _ = (AV.eptr [(AV.sl z54 f55 e56)] 0)) ?_
    refine AOps.p rfl (rfl : _ = (AV.eptr [(AV.sl z54 f55 e56)] 0)) ?_
    refine AOps.ldE (v := (AV.sl z54 f55 e56)) rfl rfl rfl rfl rfl rfl ?_
    refine AOps.p rfl (rfl : _ = (AV.int .i64 t89)) ?_
    obtain ⟨x154, h155, h⟩ := obind h
    obtain ⟨v158, h156, h157⟩ := idx_sl h57 h155
    obtain ⟨z159, f160, e161, rfl, h162⟩ := h156
    refine AOps.pureR rfl rfl rfl h157 rfl (rfl : _ = (AV.eptr [(AV.sl z159 f160 e161)] 0)) ?_
    refine AOps.ldE (v := (AV.sl z159 f160 e161)) rfl rfl rfl rfl rfl rfl ?_
    refine AOps.p rfl (len_eq h162) ?_
    refine AOps.p rfl (rfl : _ = (AV.bool (decide ((t151 : Int) < (x154.length : Int))))) ?_
    refine AOps.nilR ?_
    rcases oite h with ⟨hc163, h⟩ | ⟨hc163, h⟩
    ·refine AW.condT (congrArg AV.bool hc163) ?_
     refine AW.skip ?_
     refine AW.seq ?_
     refine AW.block ?_
     refine AW.sr ?_
     refine AOps.p rfl (rfl : _ = (AV.eptr [(AV.sl z35 f36 e37)] 0)) ?_
     refine AOps.p rfl (rfl : _ = (AV.eptr [(AV.sl z35 f36 e37)] 0)) ?_
     refine AOps.p rfl (rfl : _ = (AV.eptr [(AV.sl z35 f36 e37)] 0)) ?_
     refine AOps.ldE (v := (AV.sl z35 f36 e37)) rfl rfl rfl rfl rfl rfl ?_
     refine AOps.p rfl (rfl : _ = (AV.int .i64 t89)) ?_
     obtain ⟨x164, h165, h⟩ := obind h
     obtain ⟨v168, h166, h167⟩ := idx_sl h38 h165
     obtain ⟨z169, f170, e171, rfl, h172⟩ := h166
     refine AOps.pureR rfl rfl rfl h167 rfl (rfl : _ = (AV.eptr [(AV.sl z169 f170 e171)] 0)) ?_
     refine AOps.ldE (v := (AV.sl z169 f170 e171)) rfl rfl rfl rfl rfl rfl ?_
     refine AOps.p rfl (rfl : _ = (AV.int .i64 t125)) ?_
     obtain ⟨x173, h174, h⟩ := obind h
     obtain ⟨v177, h175, h176⟩ := idx_sl h172 h174
     cases h175
     refine AOps.pureR rfl rfl rfl h176 rfl (rfl : _ = (AV.eptr [(AV.int .i64 x173)] 0)) ?_
     refine AOps.ldE (v := (AV.int .i64 x173)) rfl rfl rfl rfl rfl rfl ?_
     refine AOps.p rfl (rfl : _ = (AV.int .i64 t151)) ?_
     refine AOps.p rfl (rfl : _ = (AV.int .u64 (IntKind.wrap .u64 t151))) ?_
     obtain ⟨q178, h179, h⟩ := obind h
     refine AOps.pureR rfl rfl rfl (shr_ok h179) rfl (rfl : _ = (AV.int .i64 q178)) ?_
     refine AOps.p rfl (rfl : _ = (AV.int .i64 (andI .i64 q178 1))) ?_
     refine AOps.p rfl (rfl : _ = (AV.bool ((andI .i64 q178 1) == 1))) ?_
     refine AOps.nilR ?_
     refine AW.meet (σ := Int × Bool × St) (fun (t182, o180, s183) tm os => ⟨updL tm [(0, (AV.eptr [(AV.sl z2 f3 e4)] 0)), (5, (AV.eptr [(AV.sl z35 f36 e37)] 0)), (6, (AV.sl z21 f22 e23)), (7, (AV.int .i64 t39)), (8, (AV.eptr [(AV.sl z54 f55 e56)] 0)), (9, (AV.ptr b59 0)), (10, (AV.int .i64 t89)), (11, (AV.sl z119 f120 e121)), (12, (AV.int .i64 t125)), (13, (AV.int .i64 t182)), (14, (AV.int .i64 t151))], updL os [(11, o180)], s183⟩) (fun (t182, o180, s183) => (f120 = true ∨ o180 = true) ∧ (HS [] false s s183 [⟨some b59, [(AV.sl z84 f85 e86)], w82⟩]) ∧ spec_l07Of_J5 t151 t182 = some ee4) ?_ ?_
     ·rintro ⟨t182, o180, s183⟩ tm os ⟨h181, hH184, h⟩
      unfold spec_l07Of_J5 at h
      refine AW.inBlock ?_
      refine AW.region ?_
      refine AOps.p rfl (rfl : _ = (AV.int .i64 t151)) ?_
      refine AOps.p rfl (rfl : _ = (AV.int .i64 (IntKind.wrap .i64 (t151 + 1)))) ?_
      refine AOps.assignR rfl rfl rfl (rfl : _ = (AV.int .i64 (IntKind.wrap .i64 (t151 + 1)))) rfl ?_
      refine AOps.nilR ?_
      cases h
      exact AW.res [(0, (AV.eptr [(AV.sl z2 f3 e4)] 0)), (5, (AV.eptr [(AV.sl z35 f36 e37)] 0)), (6, (AV.sl z21 f22 e23)), (7, (AV.int .i64 t39)), (8, (AV.eptr [(AV.sl z54 f55 e56)] 0)), (9, (AV.ptr b59 0)), (10, (AV.int .i64 t89)), (11, (AV.sl z119 f120 e121)), (12, (AV.int .i64 t125)), (13, (AV.int .i64 t182)), (14, (AV.int .i64 (IntKind.wrap .i64 (t151 + 1))))] [(11, o180)] ⟨rfl, rfl, rfl, rfl, rfl, rfl, rfl, rfl, rfl, rfl, rfl, trivial⟩ ⟨rfl, trivial⟩ (hL4 _ rfl (o180, s183) _ _ ⟨h181, (HS.sel hH184 [some 0] (by decide))⟩)
     intro KJ185
     rcases oite h with ⟨hc186, h⟩ | ⟨hc186, h⟩
     ·refine AW.condT (congrArg AV.bool hc186) ?_
      refine AW.region ?_
      refine AOps.p rfl (rfl : _ = (AV.int .i64 t150)) ?_
      refine AOps.p rfl (rfl : _ = (AV.eptr [(AV.sl z54 f55 e56)] 0)) ?_
      refine AOps.p rfl (rfl : _ = (AV.eptr [(AV.sl z54 f55 e56)] 0)) ?_
      refine AOps.p rfl (rfl : _ = (AV.eptr [(AV.sl z54 f55 e56)] 0)) ?_
      refine AOps.ldE (v := (AV.sl z54 f55 e56)) rfl rfl rfl rfl rfl rfl ?_
      refine AOps.p rfl (rfl : _ = (AV.int .i64 t89)) ?_
      obtain ⟨x187, h188, h⟩ := obind h
      obtain ⟨v191, h189, h190⟩ := idx_sl h57 h188
      obtain ⟨z192, f193, e194, rfl, h195⟩ := h189
      refine AOps.pureR rfl rfl rfl h190 rfl (rfl : _ = (AV.eptr [(AV.sl z192 f193 e194)] 0)) ?_
      refine AOps.ldE (v := (AV.sl z192 f193 e194)) rfl rfl rfl rfl rfl rfl ?_
      refine AOps.p rfl (rfl : _ = (AV.int .i64 t151)) ?_
      obtain ⟨x196, h197, h⟩ := obind h
      obtain ⟨v200, h198, h199⟩ := idx_sl h195 h197
      cases h198
      refine AOps.pureR rfl rfl rfl h199 rfl (rfl : _ = (AV.eptr [(AV.int .i64 x196)] 0)) ?_
      refine AOps.ldE (v := (AV.int .i64 x196)) rfl rfl rfl rfl rfl rfl ?_
      refine AOps.p rfl (rfl : _ = (AV.int .i64 (orI .i64 t150 x196))) ?_
      refine AOps.assignR rfl rfl rfl (rfl : _ = (AV.int .i64 (orI .i64 t150 x196))) rfl ?_
      refine AOps.nilR ?_
      exact AW.res [(0, (AV.eptr [(AV.sl z2 f3 e4)] 0)), (5, (AV.eptr [(AV.sl z35 f36 e37)] 0)), (6, (AV.sl z21 f22 e23)), (7, (AV.int .i64 t39)), (8, (AV.eptr [(AV.sl z54 f55 e56)] 0)), (9, (AV.ptr b59 0)), (10, (AV.int .i64 t89)), (11, (AV.sl z119 f120 e121)), (12, (AV.int .i64 t125)), (13, (AV.int .i64 (orI .i64 t150 x196))), (14, (AV.int .i64 t151))] [(11, o148)] ⟨rfl, rfl, rfl, rfl, rfl, rfl, rfl, rfl, rfl, rfl, rfl, trivial⟩ ⟨rfl, trivial⟩ (KJ185 (orI .i64 t150 x196, o148, s152) _ _ ⟨h149, (HS.sel hH153 [some 0] (by decide)), h⟩)
     refine AW.condF (congrArg AV.bool hc186) ?_
     refine AW.skip ?_
     exact AW.res [(0, (AV.eptr [(AV.sl z2 f3 e4)] 0)), (5, (AV.eptr [(AV.sl z35 f36 e37)] 0)), (6, (AV.sl z21 f22 e23)), (7, (AV.int .i64 t39)), (8, (AV.eptr [(AV.sl z54 f55 e56)] 0)), (9, (AV.ptr b59 0)), (10, (AV.int .i64 t89)), (11, (AV.sl z119 f120 e121)), (12, (AV.int .i64 t125)), (13, (AV.int .i64 t150)), (14, (AV.int .i64 t151))] [(11, o148)] ⟨rfl, rfl, rfl, rfl, rfl, rfl, rfl, rfl, rfl, rfl, rfl, trivial⟩ ⟨rfl, trivial⟩ (KJ185 (t150, o148, s152) _ _ ⟨h149, (HS.sel hH153 [some 0] (by decide)), h⟩)
    refine AW.condF (congrArg AV.bool hc163) ?_
    refine AW.exit rfl ?_
    obtain ⟨r201, hm, hx⟩ := omap h
    clear h
    subst hx
    have hx := hR4 _ rfl
    rw [hx] at hm
    have h := hm
    exact AW.res [(0, (AV.eptr [(AV.sl z2 f3 e4)] 0)), (5, (AV.eptr [(AV.sl z35 f36 e37)] 0)), (6, (AV.sl z21 f22 e23)), (7, (AV.int .i64 t39)), (8, (AV.eptr [(AV.sl z54 f55 e56)] 0)), (9, (AV.ptr b59 0)), (10, (AV.int .i64 t89)), (11, (AV.sl z119 f120 e121)), (12, (AV.int .i64 t125)), (13, (AV.int .i64 t150))] [(11, o148)] ⟨rfl, rfl, rfl, rfl, rfl, rfl, rfl, rfl, rfl, rfl, trivial⟩ ⟨rfl, trivial⟩ (KJ143 (t150, o148, s152) _ _ ⟨h149, (HS.sel hH153 [some 0] (by decide)), h⟩)
   refine AW.condF (congrArg AV.bool hc137) ?_
   refine AW.exit rfl ?_
   obtain ⟨r202, hm, hx⟩ := omap h
   clear h
   subst hx
   have hx := hR3 _ rfl
   rw [hx] at hm
   have h := hm
   exact AW.res [(0, (AV.eptr [(AV.sl z2 f3 e4)] 0)), (5, (AV.eptr [(AV.sl z35 f36 e37)] 0)), (6, (AV.sl z21 f22 e23)), (7, (AV.int .i64 t39)), (8, (AV.eptr [(AV.sl z54 f55 e56)] 0)), (9, (AV.ptr b59 0)), (10, (AV.int .i64 t89)), (11, (AV.sl z119 f120 e121))] [(11, o123)] ⟨rfl, rfl, rfl, rfl, rfl, rfl, rfl, rfl, trivial⟩ ⟨rfl, trivial⟩ (KJ102 (t118, z119, f120, e121, o123, s126) _ _ ⟨h122, h124, (HS.sel hH127 [some 0] (by decide)), h⟩)
  refine AW.condF (congrArg AV.bool hc92) ?_
  refine AW.exit rfl ?_
  obtain ⟨r203, hm, hx⟩ := omap h
  clear h
  subst hx
  have hx := hR2 _ rfl
  rw [hx] at hm
  have h := hm
  exact AW.res [(0, (AV.eptr [(AV.sl z2 f3 e4)] 0)), (6, (AV.sl z21 f22 e23)), (7, (AV.int .i64 t39)), (9, (AV.ptr b59 0))] [] ⟨rfl, rfl, rfl, rfl, trivial⟩ trivial (KJ71 (m83, w82, z84, f85, e86, s90) _ _ ⟨h87, h88, (HS.sel hH91 [some 0] (by decide)), h⟩)
 refine AW.condF (congrArg AV.bool hc42) ?_
 refine AW.exit rfl ?_
 obtain ⟨r204, hm, hx⟩ := omap h
 clear h
 subst hx
 have hx := hR1 _ rfl
 rw [hx] at hm
 have h := hm
 exact AW.res [(5, (AV.eptr [(AV.sl z35 f36 e37)] 0))] [] ⟨rfl, trivial⟩ trivial (KJ33 (t34, z35, f36, e37, s40) _ _ ⟨h38, (HS.sel hH41 [] (by decide)), h⟩)
theorem spec_l07Of_N_ok (n : Nat) : ∀ {a1 : ProgramT} {a6 : List UInt8} {z2 : Nat} {f3 : Bool} {e4 : List AV} {s : St} (h5 : LR rModule 2 a1.Modules z2 e4) {r : L07Table}, spec_l07Of_N n a1 a6 = some r → WF s → ACall Cf 46 [(AV.eptr [(AV.sl z2 f3 e4)] 0), (AV.str a6)] s fun v _ s' => (fun x => rP (csL07Table x)) r v ∧ s' = s := by
 induction n with
 | zero => intros; rename_i h _; cases h
 | succ n ih =>
  intros
  rename_i h hs
  exact spec_l07Of_B_ok ih ‹_› h hs
theorem spec_l07Of_ok {a1 : ProgramT} {a6 : List UInt8} {z2 : Nat} {f3 : Bool} {e4 : List AV} {s : St} (h5 : LR rModule 2 a1.Modules z2 e4) {r : L07Table} (h : spec_l07Of a1 a6 = some r) (hs : WF s) : ACall Cf 46 [(AV.eptr [(AV.sl z2 f3 e4)] 0), (AV.str a6)] s fun v _ s' => (fun x => rP (csL07Table x)) r v ∧ s' = s := spec_l07Of_N_ok 1000 h5 h hs
theorem spec_l07Ends_ok {p1 : ProgramT} {k6 : Int} {s7 : Int} {u8 : List UInt8} {z2 : Nat} {f3 : Bool} {e4 : List AV} {s : St} (h5 : LR rModule 2 p1.Modules z2 e4) {r : Bool} (h : spec_l07Ends p1 k6 s7 u8 = some r) (hs : WF s) : ACall Cf 30 [(AV.eptr [(AV.sl z2 f3 e4)] 0), (AV.int .i64 k6), (AV.int .i64 s7), (AV.str u8)] s fun v _ s' => (rB) r v ∧ s' = s := by
 refine ACall.pure rfl rfl rfl .B ?_
 have hWF := hs.lo'
 unfold spec_l07Ends at h
 refine AW.sr ?_
 refine AOps.p rfl (rfl : _ = (AV.bool false)) ?_
 refine AOps.nilR ?_
 refine AW.sr ?_
 refine AOps.p rfl (rfl : _ = (AV.eptr [(AV.sl z2 f3 e4)] 0)) ?_
 refine AOps.p rfl (rfl : _ = (AV.str u8)) ?_
 obtain ⟨y9, h10, h⟩ := obind h
 refine AOps.callDP (g := 46) (args := [(AV.eptr [(AV.sl z2 f3 e4)] 0), (AV.str u8)]) (p := (fun x => rP (csL07Table x)) y9) rfl rfl rfl (spec_l07Of_ok h5 h10 hWF.still) (fun v hv => Nice.pure (k := FINK) (p := (fun x => rP (csL07Table x)) y9) (.P (.cons (.L fun _ => (.L fun _ => .I)) .nil)) _ v hv) ?_
 intro _ o19 h11
 obtain ⟨_, rfl, h12⟩ := h11
 obtain ⟨_, _, rfl, h13, h14⟩ := Cs_cons h12
 obtain ⟨z15, f16, e17, rfl, h18⟩ := h13
 cases Cs_nil h14
 refine AOps.p rfl (rfl : _ = (AV.eptr [(AV.sl z15 f16 e17)] 0)) ?_
 refine AOps.p rfl (rfl : _ = (AV.eptr [(AV.sl z15 f16 e17)] 0)) ?_
 refine AOps.ldE (v := (AV.sl z15 f16 e17)) rfl rfl rfl rfl rfl rfl ?_
 refine AOps.p rfl (rfl : _ = (AV.int .i64 k6)) ?_
 obtain ⟨x20, h21, h⟩ := obind h
 obtain ⟨v24, h22, h23⟩ := idx_sl h18 h21
 obtain ⟨z25, f26, e27, rfl, h28⟩ := h22
 refine AOps.pureR rfl rfl rfl h23 rfl (rfl : _ = (AV.eptr [(AV.sl z25 f26 e27)] 0)) ?_
 refine AOps.ldE (v := (AV.sl z25 f26 e27)) rfl rfl rfl rfl rfl rfl ?_
 refine AOps.p rfl (rfl : _ = (AV.int .i64 s7)) ?_
 obtain ⟨x29, h30, h⟩ := obind h
 obtain ⟨v33, h31, h32⟩ := idx_sl h28 h30
 cases h31
 refine AOps.pureR rfl rfl rfl h32 rfl (rfl : _ = (AV.eptr [(AV.int .i64 x29)] 0)) ?_
 refine AOps.ldE (v := (AV.int .i64 x29)) rfl rfl rfl rfl rfl rfl ?_
 refine AOps.p rfl (rfl : _ = (AV.eptr [(AV.sl z2 f3 e4)] 0)) ?_
 refine AOps.p rfl (rfl : _ = (AV.int .i64 k6)) ?_
 obtain ⟨y34, h35, h⟩ := obind h
 refine AOps.callDP (g := 47) (args := [(AV.eptr [(AV.sl z2 f3 e4)] 0), (AV.int .i64 k6)]) (p := (rI .i64) y34) rfl rfl rfl (spec_l07Exit_ok h5 h35 hWF.still) (fun v hv => Nice.pure (k := FINK) (p := (rI .i64) y34) .I _ v hv) ?_
 intro _ o37 h36
 cases h36
 refine AOps.p rfl (rfl : _ = (AV.int .u64 (IntKind.wrap .u64 y34))) ?_
 obtain ⟨q38, h39, h⟩ := obind h
 refine AOps.pureR rfl rfl rfl (shr_ok h39) rfl (rfl : _ = (AV.int .i64 q38)) ?_
 refine AOps.p rfl (rfl : _ = (AV.int .i64 (andI .i64 q38 1))) ?_
 refine AOps.p rfl (rfl : _ = (AV.bool ((andI .i64 q38 1) == 1))) ?_
 refine AOps.assignR rfl rfl rfl (rfl : _ = (AV.bool ((andI .i64 q38 1) == 1))) rfl ?_
 refine AOps.nilR ?_
 cases h
 exact AW.ret ⟨rfl, _, _, rfl, rfl⟩
theorem spec_l07Takes_ok {p1 : ProgramT} {w6 : List UInt8} {z2 : Nat} {f3 : Bool} {e4 : List AV} {s : St} (h5 : LR rModule 2 p1.Modules z2 e4) {r : Bool} (h : spec_l07Takes p1 w6 = some r) (hs : WF s) : ACall Cf 16 [(AV.eptr [(AV.sl z2 f3 e4)] 0), (AV.str w6)] s fun v _ s' => (rB) r v ∧ s' = s := by
 refine ACall.pure rfl rfl rfl .B ?_
 have hWF := hs.lo'
 unfold spec_l07Takes at h
 refine AW.sr ?_
 refine AOps.p rfl (rfl : _ = (AV.bool false)) ?_
 refine AOps.nilR ?_
 refine AW.sr ?_
 refine AOps.p rfl (rfl : _ = (AV.str w6)) ?_
 obtain ⟨y7, h8, h⟩ := obind h
 refine AOps.callP (g := 29) (args := [(AV.str w6)]) (p := (rB) y7) rfl rfl rfl (spec_l01Matched_ok  h8 hWF) ?_
 intro _ o10 h9
 cases h9
 refine AOps.p rfl (rfl : _ = (AV.bool y7)) ?_
 obtain ⟨b12, hb, h⟩ := obind h
 refine AOps.split 4 (fun f' => ∃ tm' os', f' = ⟨updL tm' [(11, (AV.bool b12))], updL os' [], { s with lo := s.n }⟩) ?_ ?_
 ·rcases oite hb with ⟨hc11, hb⟩ | ⟨hc11, hb⟩
  ·have h := hb
   refine AOps.know (d := 7) rfl hc11 ?_
   refine AOps.p rfl (rfl : _ = (AV.eptr [(AV.sl z2 f3 e4)] 0)) ?_
   refine AOps.p rfl (rfl : _ = (AV.str w6)) ?_
   obtain ⟨y13, h14, h⟩ := obind h
   refine AOps.callP (g := 30) (args := [(AV.eptr [(AV.sl z2 f3 e4)] 0), (AV.int .i64 0), (AV.int .i64 0), (AV.str w6)]) (p := (rB) y13) rfl rfl rfl (spec_l07Ends_ok h5 h14 hWF) ?_
   intro _ o16 h15
   cases h15
   refine AOps.p rfl (rfl : _ = (AV.bool y13)) ?_
   refine AOps.resR [(11, (AV.bool b12))] [] ?_ ?_ _ ⟨_, _, rfl⟩
   ·exact ⟨congrArg AV.bool (Option.some.inj h), trivial⟩
   exact trivial
  ·refine AOps.know (d := 7) rfl hc11 ?_
   refine AOps.skipR rfl rfl ?_
   refine AOps.skipR rfl rfl ?_
   refine AOps.skipR rfl rfl ?_
   refine AOps.p rfl (rfl : _ = (AV.bool false)) ?_
   refine AOps.resR [(11, (AV.bool b12))] [] ?_ ?_ _ ⟨_, _, rfl⟩
   ·exact ⟨congrArg AV.bool (Option.some.inj hb), trivial⟩
   exact trivial
 rintro _ ⟨tm, os, rfl⟩
 refine AOps.assignR rfl rfl rfl (rfl : _ = (AV.bool b12)) rfl ?_
 refine AOps.nilR ?_
 cases h
 exact AW.ret ⟨rfl, _, _, rfl, rfl⟩
theorem spec_l07Trace_B_ok {rec17 : ProgramT → Int → Int → (List UInt8) → Option (List Int)} {p1 : ProgramT} {p1_6 : Int} {p2_7 : Int} {p3_8 : List UInt8} {z2 : Nat} {f3 : Bool} {e4 : List AV} {s : St} (rec17_ok : ∀ {a1 : ProgramT} {a6 : Int} {a7 : Int} {a8 : List UInt8} {z2 : Nat} {f3 : Bool} {e4 : List AV} {s : St} (h5 : LR rModule 2 a1.Modules z2 e4) {r : (List Int)}, rec17 a1 a6 a7 a8 = some r → WF s → ACall Cf 17 [(AV.eptr [(AV.sl z2 f3 e4)] 0), (AV.int .i64 a6), (AV.int .i64 a7), (AV.str a8)] s fun v _ s' => (rL (rI .i64) 1) r v ∧ s' = s) (h5 : LR rModule 2 p1.Modules z2 e4) {r : (List Int)} (h : spec_l07Trace_B rec17 p1 p1_6 p2_7 p3_8 = some r) (hs : WF s) : ACall Cf 17 [(AV.eptr [(AV.sl z2 f3 e4)] 0), (AV.int .i64 p1_6), (AV.int .i64 p2_7), (AV.str p3_8)] s fun v _ s' => (rL (rI .i64) 1) r v ∧ s' = s := by
 refine ACall.pure rfl rfl rfl (.L fun _ => .I) ?_
 have hWF := hs.lo'
 unfold spec_l07Trace_B at h
 refine AW.sr ?_
 refine AOps.p rfl (rfl : _ = (AV.sl 0 true [])) ?_
 refine AOps.nilR ?_
 refine AW.sr ?_
 refine AOps.makeR rfl rfl rfl rfl rfl rfl (rfl : _ = (AV.sl 1 true [])) ?_
 refine AOps.assignR rfl rfl rfl (rfl : _ = (AV.sl 1 true [])) rfl ?_
 refine AOps.nilR ?_
 refine AW.sr ?_
 refine AOps.p rfl (rfl : _ = (AV.str p3_8)) ?_
 obtain ⟨y9, h10, h⟩ := obind h
 refine AOps.callP (g := 31) (args := [(AV.str p3_8)]) (p := (rL rS 1) y9) rfl rfl rfl (spec_l01Factors_ok  h10 hWF) ?_
 intro _ o16 h11
 obtain ⟨z12, f13, e14, rfl, h15⟩ := h11
 refine AOps.assignR rfl rfl rfl (rfl : _ = (AV.sl z12 f13 e14)) rfl ?_
 refine AOps.nilR ?_
 refine AW.sr ?_
 refine AOps.p rfl (rfl : _ = (AV.str p3_8)) ?_
 refine AOps.assignR rfl rfl rfl (rfl : _ = (AV.str p3_8)) rfl ?_
 refine AOps.nilR ?_
 refine AW.seq ?_
 refine AW.sr ?_
 refine AOps.p rfl (rfl : _ = (AV.int .i64 0)) ?_
 refine AOps.nilR ?_
 refine AW.meet (σ := (List Int) × Nat × Bool × (List AV) × Bool) (fun (t17, z18, f19, e20, o22) tm os => ⟨updL tm [(9, (AV.sl z18 f19 e20))], updL os [(9, o22)], { s with lo := s.n }⟩) (fun (t17, z18, f19, e20, o22) => (LR (rI .i64) 1 t17 z18 e20) ∧ (f19 = true ∨ o22 = true) ∧ spec_l07Trace_J1 t17 = some r) ?_ ?_
 ·rintro ⟨t17, z18, f19, e20, o22⟩ tm os ⟨h21, h23, h⟩
  unfold spec_l07Trace_J1 at h
  refine AW.sr ?_
  refine AOps.p rfl (rfl : _ = (AV.sl z18 f19 e20)) ?_
  refine AOps.assignR rfl rfl rfl (rfl : _ = (AV.sl z18 f19 e20)) rfl ?_
  refine AOps.nilR ?_
  cases h
  exact AW.ret ⟨rfl, _, _, rfl, ⟨_, _, _, rfl, h21⟩⟩
 intro KJ24
 refine AW.block ?_
 refine AW.res [(0, (AV.eptr [(AV.sl z2 f3 e4)] 0)), (1, (AV.int .i64 p1_6)), (2, (AV.int .i64 p2_7)), (9, (AV.sl 1 true [])), (10, (AV.sl z12 f13 e14)), (11, (AV.str p3_8)), (12, (AV.int .i64 0))] [(9, false)] ⟨rfl, rfl, rfl, rfl, rfl, rfl, rfl, trivial⟩ ⟨rfl, trivial⟩ ?_
 refine AW.loopF (σ := Int × (List Int) × (List UInt8) × Int) (τ := Nat × Bool × (List AV) × Bool) (fun (t25, t26, t33, t34) (z27, f28, e29, o31) => (LR (rI .i64) 1 t26 z27 e29) ∧ (f28 = true ∨ o31 = true)) (fun (t25, t26, t33, t34) (z27, f28, e29, o31) tm os => ⟨updL tm [(0, (AV.eptr [(AV.sl z2 f3 e4)] 0)), (1, (AV.int .i64 p1_6)), (2, (AV.int .i64 t25)), (9, (AV.sl z27 f28 e29)), (10, (AV.sl z12 f13 e14)), (11, (AV.str t33)), (12, (AV.int .i64 t34))], updL os [(9, o31)], { s with lo := s.n }⟩) ?_ (x := (p2_7, ([] : List Int), p3_8, 0)) (y := (1, true, [], false)) h ⟨⟨.inl rfl, .nil⟩, (Or.inl rfl)⟩
 clear h
 rintro ⟨t25, t26, t33, t34⟩ ⟨z27, f28, e29, o31⟩ tm os ⟨h30, h32⟩ ee1 h hL1 hR1
 unfold spec_l07Trace_S1 at h
 dsimp only at h
 refine AW.seq ?_
 refine AW.sr ?_
 refine AOps.p rfl (rfl : _ = (AV.int .i64 t34)) ?_
 refine AOps.p rfl (rfl : _ = (AV.sl z12 f13 e14)) ?_
 refine AOps.p rfl (len_eq h15) ?_
 refine AOps.p rfl (rfl : _ = (AV.bool (decide ((t34 : Int) < (y9.length : Int))))) ?_
 refine AOps.nilR ?_
 rcases oite h with ⟨hc35, h⟩ | ⟨hc35, h⟩
 ·refine AW.condT (congrArg AV.bool hc35) ?_
  refine AW.skip ?_
  refine AW.seq ?_
  refine AW.block ?_
  refine AW.sr ?_
  refine AOps.p rfl (rfl : _ = (AV.sl z12 f13 e14)) ?_
  refine AOps.p rfl (rfl : _ = (AV.int .i64 t34)) ?_
  obtain ⟨x36, h37, h⟩ := obind h
  obtain ⟨v40, h38, h39⟩ := idx_sl h15 h37
  cases h38
  refine AOps.pureR rfl rfl rfl h39 rfl (rfl : _ = (AV.eptr [(AV.str x36)] 0)) ?_
  refine AOps.ldE (v := (AV.str x36)) rfl rfl rfl rfl rfl rfl ?_
  refine AOps.assignR rfl rfl rfl (rfl : _ = (AV.str x36)) rfl ?_
  refine AOps.nilR ?_
  refine AW.sr ?_
  refine AOps.p rfl (rfl : _ = (AV.str t33)) ?_
  refine AOps.p rfl (rfl : _ = (AV.str x36)) ?_
  refine AOps.p rfl (rfl : _ = (AV.int .i64 (x36.length : Int))) ?_
  obtain ⟨w41, h42, h⟩ := obind h
  refine AOps.pureR rfl rfl rfl (cut_strL h42) rfl (rfl : _ = (AV.str w41)) ?_
  refine AOps.assignR rfl rfl rfl (rfl : _ = (AV.str w41)) rfl ?_
  refine AOps.nilR ?_
  refine AW.sr ?_
  refine AOps.p rfl (rfl : _ = (AV.int .i64 0)) ?_
  refine AOps.nilR ?_
  refine AW.meet (σ := Int × (List Int) × Nat × Bool × (List AV) × Bool) (fun (t43, t44, z45, f46, e47, o49) tm os => ⟨updL tm [(0, (AV.eptr [(AV.sl z2 f3 e4)] 0)), (1, (AV.int .i64 p1_6)), (2, (AV.int .i64 t43)), (9, (AV.sl z45 f46 e47)), (10, (AV.sl z12 f13 e14)), (11, (AV.str w41)), (12, (AV.int .i64 t34))], updL os [(9, o49)], { s with lo := s.n }⟩) (fun (t43, t44, z45, f46, e47, o49) => (LR (rI .i64) 1 t44 z45 e47) ∧ (f46 = true ∨ o49 = true) ∧ spec_l07Trace_J2 t34 w41 t43 t44 = some ee1) ?_ ?_
  ·rintro ⟨t43, t44, z45, f46, e47, o49⟩ tm os ⟨h48, h50, h⟩
   unfold spec_l07Trace_J2 at h
   refine AW.inBlock ?_
   refine AW.region ?_
   refine AOps.p rfl (rfl : _ = (AV.int .i64 t34)) ?_
   refine AOps.p rfl (rfl : _ = (AV.int .i64 (IntKind.wrap .i64 (t34 + 1)))) ?_
   refine AOps.assignR rfl rfl rfl (rfl : _ = (AV.int .i64 (IntKind.wrap .i64 (t34 + 1)))) rfl ?_
   refine AOps.nilR ?_
   cases h
   exact AW.res [(0, (AV.eptr [(AV.sl z2 f3 e4)] 0)), (1, (AV.int .i64 p1_6)), (2, (AV.int .i64 t43)), (9, (AV.sl z45 f46 e47)), (10, (AV.sl z12 f13 e14)), (11, (AV.str w41)), (12, (AV.int .i64 (IntKind.wrap .i64 (t34 + 1))))] [(9, o49)] ⟨rfl, rfl, rfl, rfl, rfl, rfl, rfl, trivial⟩ ⟨rfl, trivial⟩ (hL1 _ rfl (z45, f46, e47, o49) _ _ ⟨h48, h50⟩)
  intro KJ51
  refine AW.block ?_
  refine AW.res [(0, (AV.eptr [(AV.sl z2 f3 e4)] 0)), (1, (AV.int .i64 p1_6)), (2, (AV.int .i64 t25)), (9, (AV.sl z27 f28 e29)), (10, (AV.sl z12 f13 e14)), (11, (AV.str w41)), (12, (AV.int .i64 t34)), (13, (AV.str x36)), (14, (AV.int .i64 0))] [(9, o31)] ⟨rfl, rfl, rfl, rfl, rfl, rfl, rfl, rfl, rfl, trivial⟩ ⟨rfl, trivial⟩ ?_
  refine AW.loopF (σ := Int) (τ := Bool) (fun t54 o52 => (f28 = true ∨ o52 = true)) (fun t54 o52 tm os => ⟨updL tm [(0, (AV.eptr [(AV.sl z2 f3 e4)] 0)), (1, (AV.int .i64 p1_6)), (2, (AV.int .i64 t25)), (9, (AV.sl z27 f28 e29)), (10, (AV.sl z12 f13 e14)), (11, (AV.str w41)), (12, (AV.int .i64 t34)), (13, (AV.str x36)), (14, (AV.int .i64 t54))], updL os [(9, o52)], { s with lo := s.n }⟩) ?_ (x := (0)) (y := (o31)) h h32
  clear h
  rintro t54 o52 tm os h53 ee2 h hL2 hR2
  unfold spec_l07Trace_S2 at h
  refine AW.seq ?_
  refine AW.sr ?_
  refine AOps.p rfl (rfl : _ = (AV.int .i64 t54)) ?_
  refine AOps.p rfl (rfl : _ = (AV.eptr [(AV.sl z2 f3 e4)] 0)) ?_
  refine AOps.p rfl (rfl : _ = (AV.eptr [(AV.sl z2 f3 e4)] 0)) ?_
  refine AOps.p rfl (rfl : _ = (AV.eptr [(AV.sl z2 f3 e4)] 0)) ?_
  refine AOps.ldE (v := (AV.sl z2 f3 e4)) rfl rfl rfl rfl rfl rfl ?_
  refine AOps.p rfl (rfl : _ = (AV.int .i64 p1_6)) ?_
  obtain ⟨x55, h56, h⟩ := obind h
  obtain ⟨v59, h57, h58⟩ := idx_sl h5 h56
  obtain ⟨_, rfl, h60⟩ := h57
  obtain ⟨_, _, rfl, h61, h62⟩ := Cs_cons h60
  cases h61
  obtain ⟨_, _, rfl, h63, h64⟩ := Cs_cons h62
  obtain ⟨z65, f66, e67, rfl, h68⟩ := h63
  cases Cs_nil h64
  refine AOps.pureR rfl rfl rfl h58 rfl (rfl : _ = (AV.eptr [(AV.int .i64 x55.Nodes), (AV.sl z65 f66 e67)] 0)) ?_
  refine AOps.p rfl (rfl : _ = (AV.eptr [(AV.int .i64 x55.Nodes), (AV.sl z65 f66 e67)] 1)) ?_
  refine AOps.ldE (v := (AV.sl z65 f66 e67)) rfl rfl rfl rfl rfl rfl ?_
  refine AOps.p rfl (len_eq h68) ?_
  refine AOps.p rfl (rfl : _ = (AV.bool (decide ((t54 : Int) < (x55.Links.length : Int))))) ?_
  refine AOps.nilR ?_
  rcases oite h with ⟨hc69, h⟩ | ⟨hc69, h⟩
  ·refine AW.condT (congrArg AV.bool hc69) ?_
   refine AW.skip ?_
   refine AW.seq ?_
   refine AW.meet (σ := Bool) (fun o70 tm os => ⟨updL tm [(0, (AV.eptr [(AV.sl z2 f3 e4)] 0)), (1, (AV.int .i64 p1_6)), (2, (AV.int .i64 t25)), (9, (AV.sl z27 f28 e29)), (10, (AV.sl z12 f13 e14)), (11, (AV.str w41)), (12, (AV.int .i64 t34)), (13, (AV.str x36)), (14, (AV.int .i64 t54))], updL os [(9, o70)], { s with lo := s.n }⟩) (fun o70 => (f28 = true ∨ o70 = true) ∧ spec_l07Trace_J3 t54 = some ee2) ?_ ?_
   ·rintro o70 tm os ⟨h71, h⟩
    unfold spec_l07Trace_J3 at h
    refine AW.region ?_
    refine AOps.p rfl (rfl : _ = (AV.int .i64 t54)) ?_
    refine AOps.p rfl (rfl : _ = (AV.int .i64 (IntKind.wrap .i64 (t54 + 1)))) ?_
    refine AOps.assignR rfl rfl rfl (rfl : _ = (AV.int .i64 (IntKind.wrap .i64 (t54 + 1)))) rfl ?_
    refine AOps.nilR ?_
    cases h
    exact AW.res [(0, (AV.eptr [(AV.sl z2 f3 e4)] 0)), (1, (AV.int .i64 p1_6)), (2, (AV.int .i64 t25)), (9, (AV.sl z27 f28 e29)), (10, (AV.sl z12 f13 e14)), (11, (AV.str w41)), (12, (AV.int .i64 t34)), (13, (AV.str x36)), (14, (AV.int .i64 (IntKind.wrap .i64 (t54 + 1))))] [(9, o70)] ⟨rfl, rfl, rfl, rfl, rfl, rfl, rfl, rfl, rfl, trivial⟩ ⟨rfl, trivial⟩ (hL2 _ rfl (o70) _ _ h71)
   intro KJ72
   refine AW.block ?_
   refine AW.sr ?_
   refine AOps.p rfl (rfl : _ = (AV.eptr [(AV.sl z2 f3 e4)] 0)) ?_
   refine AOps.p rfl (rfl : _ = (AV.eptr [(AV.sl z2 f3 e4)] 0)) ?_
   refine AOps.p rfl (rfl : _ = (AV.eptr [(AV.sl z2 f3 e4)] 0)) ?_
   refine AOps.ldE (v := (AV.sl z2 f3 e4)) rfl rfl rfl rfl rfl rfl ?_
   refine AOps.p rfl (rfl : _ = (AV.int .i64 p1_6)) ?_
   obtain ⟨x73, h74, h⟩ := obind h
   obtain ⟨v77, h75, h76⟩ := idx_sl h5 h74
   obtain ⟨_, rfl, h78⟩ := h75
   obtain ⟨_, _, rfl, h79, h80⟩ := Cs_cons h78
   cases h79
   obtain ⟨_, _, rfl, h81, h82⟩ := Cs_cons h80
   obtain ⟨z83, f84, e85, rfl, h86⟩ := h81
   cases Cs_nil h82
   refine AOps.pureR rfl rfl rfl h76 rfl (rfl : _ = (AV.eptr [(AV.int .i64 x73.Nodes), (AV.sl z83 f84 e85)] 0)) ?_
   refine AOps.p rfl (rfl : _ = (AV.eptr [(AV.int .i64 x73.Nodes), (AV.sl z83 f84 e85)] 1)) ?_
   refine AOps.ldE (v := (AV.sl z83 f84 e85)) rfl rfl rfl rfl rfl rfl ?_
   refine AOps.p rfl (rfl : _ = (AV.int .i64 t54)) ?_
   obtain ⟨x87, h88, h⟩ := obind h
   obtain ⟨v91, h89, h90⟩ := idx_sl h86 h88
   obtain ⟨_, rfl, h92⟩ := h89
   obtain ⟨_, _, rfl, h93, h94⟩ := Cs_cons h92
   cases h93
   obtain ⟨_, _, rfl, h95, h96⟩ := Cs_cons h94
   cases h95
   obtain ⟨_, _, rfl, h97, h98⟩ := Cs_cons h96
   cases h97
   obtain ⟨_, _, rfl, h99, h100⟩ := Cs_cons h98
   cases h99
   cases Cs_nil h100
   refine AOps.pureR rfl rfl rfl h90 rfl (rfl : _ = (AV.eptr [(AV.int .i64 x87.From), (AV.int .i64 x87.To), (AV.str x87.Act), (AV.int .i64 x87.Module)] 0)) ?_
   refine AOps.ldE (v := (AV.agg [(AV.int .i64 x87.From), (AV.int .i64 x87.To), (AV.str x87.Act), (AV.int .i64 x87.Module)])) rfl rfl rfl rfl rfl rfl ?_
   refine AOps.allocP rfl rfl rfl rfl ⟨rfl, rfl⟩ rfl ?_
   refine AOps.stP (v := (AV.agg [(AV.int .i64 x87.From), (AV.int .i64 x87.To), (AV.str x87.Act), (AV.int .i64 x87.Module)])) rfl rfl rfl rfl rfl rfl rfl rfl rfl (lt_b rfl) rfl ?_
   refine AOps.nilR ?_
   refine AW.seq ?_
   refine AW.sr ?_
   refine AOps.p rfl (rfl : _ = (AV.eptr [(AV.int .i64 x87.From), (AV.int .i64 x87.To), (AV.str x87.Act), (AV.int .i64 x87.Module)] 0)) ?_
   refine AOps.ldE (v := (AV.int .i64 x87.From)) rfl rfl rfl rfl rfl rfl ?_
   refine AOps.p rfl (rfl : _ = (AV.int .i64 t25)) ?_
   refine AOps.p rfl (rfl : _ = (AV.bool (x87.From != t25))) ?_
   refine AOps.p rfl (rfl : _ = (AV.bool (x87.From != t25))) ?_
   obtain ⟨b102, hb, h⟩ := obind h
   refine AOps.split 8 (fun f' => ∃ tm' os', f' = ⟨updL tm' [(0, (AV.eptr [(AV.sl z2 f3 e4)] 0)), (1, (AV.int .i64 p1_6)), (2, (AV.int .i64 t25)), (9, (AV.sl z27 f28 e29)), (10, (AV.sl z12 f13 e14)), (11, (AV.str w41)), (12, (AV.int .i64 t34)), (13, (AV.str x36)), (14, (AV.int .i64 t54)), (15, (AV.eptr [(AV.int .i64 x87.From), (AV.int .i64 x87.To), (AV.str x87.Act), (AV.int .i64 x87.Module)] 0)), (70, (AV.bool b102))], updL os' [(9, o52)], { s with lo := s.n }⟩) ?_ ?_
   ·rcases oite hb with ⟨hc101, hb⟩ | ⟨hc101, hb⟩
    ·refine AOps.know (d := 62) rfl hc101 ?_
     refine AOps.skipR rfl rfl ?_
     refine AOps.skipR rfl rfl ?_
     refine AOps.skipR rfl rfl ?_
     refine AOps.skipR rfl rfl ?_
     refine AOps.skipR rfl rfl ?_
     refine AOps.skipR rfl rfl ?_
     refine AOps.skipR rfl rfl ?_
     refine AOps.p rfl (rfl : _ = (AV.bool true)) ?_
     refine AOps.resR [(0, (AV.eptr [(AV.sl z2 f3 e4)] 0)), (1, (AV.int .i64 p1_6)), (2, (AV.int .i64 t25)), (9, (AV.sl z27 f28 e29)), (10, (AV.sl z12 f13 e14)), (11, (AV.str w41)), (12, (AV.int .i64 t34)), (13, (AV.str x36)), (14, (AV.int .i64 t54)), (15, (AV.eptr [(AV.int .i64 x87.From), (AV.int .i64 x87.To), (AV.str x87.Act), (AV.int .i64 x87.Module)] 0)), (70, (AV.bool b102))] [(9, o52)] ?_ ?_ _ ⟨_, _, rfl⟩
     ·exact ⟨rfl, rfl, rfl, rfl, rfl, rfl, rfl, rfl, rfl, rfl, congrArg AV.bool (Option.some.inj hb), trivial⟩
     exact ⟨rfl, trivial⟩
    ·have h := hb
     refine AOps.know (d := 62) rfl hc101 ?_
     refine AOps.p rfl (rfl : _ = (AV.eptr [(AV.sl z2 f3 e4)] 0)) ?_
     refine AOps.p rfl (rfl : _ = (AV.int .i64 p1_6)) ?_
     refine AOps.p rfl (rfl : _ = (AV.eptr [(AV.int .i64 x87.From), (AV.int .i64 x87.To), (AV.str x87.Act), (AV.int .i64 x87.Module)] 1)) ?_
     refine AOps.ldE (v := (AV.int .i64 x87.To)) rfl rfl rfl rfl rfl rfl ?_
     refine AOps.p rfl (rfl : _ = (AV.str w41)) ?_
     obtain ⟨y103, h104, h⟩ := obind h
     refine AOps.callP (g := 30) (args := [(AV.eptr [(AV.sl z2 f3 e4)] 0), (AV.int .i64 p1_6), (AV.int .i64 x87.To), (AV.str w41)]) (p := (rB) y103) rfl rfl rfl (spec_l07Ends_ok h5 h104 hWF) ?_
     intro _ o106 h105
     cases h105
     refine AOps.p rfl (rfl : _ = (AV.bool (!y103))) ?_
     refine AOps.p rfl (rfl : _ = (AV.bool (!y103))) ?_
     refine AOps.resR [(0, (AV.eptr [(AV.sl z2 f3 e4)] 0)), (1, (AV.int .i64 p1_6)), (2, (AV.int .i64 t25)), (9, (AV.sl z27 f28 e29)), (10, (AV.sl z12 f13 e14)), (11, (AV.str w41)), (12, (AV.int .i64 t34)), (13, (AV.str x36)), (14, (AV.int .i64 t54)), (15, (AV.eptr [(AV.int .i64 x87.From), (AV.int .i64 x87.To), (AV.str x87.Act), (AV.int .i64 x87.Module)] 0)), (70, (AV.bool b102))] [(9, o52)] ?_ ?_ _ ⟨_, _, rfl⟩
     ·exact ⟨rfl, rfl, rfl, rfl, rfl, rfl, rfl, rfl, rfl, rfl, congrArg AV.bool (Option.some.inj h), trivial⟩
     exact ⟨rfl, trivial⟩
   rintro _ ⟨tm, os, rfl⟩
   refine AOps.nilR ?_
   rcases oite h with ⟨hc107, h⟩ | ⟨hc107, h⟩
   ·refine AW.condT (congrArg AV.bool hc107) ?_
    refine AW.exit rfl ?_
    exact AW.res [(0, (AV.eptr [(AV.sl z2 f3 e4)] 0)), (1, (AV.int .i64 p1_6)), (2, (AV.int .i64 t25)), (9, (AV.sl z27 f28 e29)), (10, (AV.sl z12 f13 e14)), (11, (AV.str w41)), (12, (AV.int .i64 t34)), (13, (AV.str x36)), (14, (AV.int .i64 t54))] [(9, o52)] ⟨rfl, rfl, rfl, rfl, rfl, rfl, rfl, rfl, rfl, trivial⟩ ⟨rfl, trivial⟩ (KJ72 (o52) _ _ ⟨h53, h⟩)
   refine AW.condF (congrArg AV.bool hc107) ?_
   refine AW.skip ?_
   refine AW.seq ?_
   refine AW.sr ?_
   refine AOps.p rfl (rfl : _ = (AV.str x36)) ?_
   refine AOps.p rfl (rfl : _ = (AV.int .i64 (x36.length : Int))) ?_
   refine AOps.p rfl (rfl : _ = (AV.bool ((x36.length : Int) == 1))) ?_
   refine AOps.p rfl (rfl : _ = (AV.bool ((x36.length : Int) == 1))) ?_
   refine AOps.split 5 (fun f' => ∃ tm' os', f' = ⟨updL tm' [(0, (AV.eptr [(AV.sl z2 f3 e4)] 0)), (1, (AV.int .i64 p1_6)), (2, (AV.int .i64 t25)), (9, (AV.sl z27 f28 e29)), (10, (AV.sl z12 f13 e14)), (11, (AV.str w41)), (12, (AV.int .i64 t34)), (13, (AV.str x36)), (14, (AV.int .i64 t54)), (15, (AV.eptr [(AV.int .i64 x87.From), (AV.int .i64 x87.To), (AV.str x87.Act), (AV.int .i64 x87.Module)] 0)), (79, (AV.bool (((x36.length : Int) == 1) && (x87.Act == x36))))], updL os' [(9, o52)], { s with lo := s.n }⟩) ?_ ?_
   ·rcases Bool.eq_false_or_eq_true ((x36.length : Int) == 1) with hc108 | hc108
    ·refine AOps.know (d := 74) rfl hc108 ?_
     refine AOps.p rfl (rfl : _ = (AV.eptr [(AV.int .i64 x87.From), (AV.int .i64 x87.To), (AV.str x87.Act), (AV.int .i64 x87.Module)] 2)) ?_
     refine AOps.ldE (v := (AV.str x87.Act)) rfl rfl rfl rfl rfl rfl ?_
     refine AOps.p rfl (rfl : _ = (AV.str x36)) ?_
     refine AOps.p rfl (rfl : _ = (AV.bool (x87.Act == x36))) ?_
     refine AOps.p rfl (rfl : _ = (AV.bool (x87.Act == x36))) ?_
     refine AOps.resR [(0, (AV.eptr [(AV.sl z2 f3 e4)] 0)), (1, (AV.int .i64 p1_6)), (2, (AV.int .i64 t25)), (9, (AV.sl z27 f28 e29)), (10, (AV.sl z12 f13 e14)), (11, (AV.str w41)), (12, (AV.int .i64 t34)), (13, (AV.str x36)), (14, (AV.int .i64 t54)), (15, (AV.eptr [(AV.int .i64 x87.From), (AV.int .i64 x87.To), (AV.str x87.Act), (AV.int .i64 x87.Module)] 0)), (79, (AV.bool (((x36.length : Int) == 1) && (x87.Act == x36))))] [(9, o52)] ?_ ?_ _ ⟨_, _, rfl⟩
     ·exact ⟨rfl, rfl, rfl, rfl, rfl, rfl, rfl, rfl, rfl, rfl, congrArg AV.bool (and_t hc108), trivial⟩
     exact ⟨rfl, trivial⟩
    ·refine AOps.know (d := 74) rfl hc108 ?_
     refine AOps.skipR rfl rfl ?_
     refine AOps.skipR rfl rfl ?_
     refine AOps.skipR rfl rfl ?_
     refine AOps.skipR rfl rfl ?_
     refine AOps.p rfl (rfl : _ = (AV.bool false)) ?_
     refine AOps.resR [(0, (AV.eptr [(AV.sl z2 f3 e4)] 0)), (1, (AV.int .i64 p1_6)), (2, (AV.int .i64 t25)), (9, (AV.sl z27 f28 e29)), (10, (AV.sl z12 f13 e14)), (11, (AV.str w41)), (12, (AV.int .i64 t34)), (13, (AV.str x36)), (14, (AV.int .i64 t54)), (15, (AV.eptr [(AV.int .i64 x87.From), (AV.int .i64 x87.To), (AV.str x87.Act), (AV.int .i64 x87.Module)] 0)), (79, (AV.bool (((x36.length : Int) == 1) && (x87.Act == x36))))] [(9, o52)] ?_ ?_ _ ⟨_, _, rfl⟩
     ·exact ⟨rfl, rfl, rfl, rfl, rfl, rfl, rfl, rfl, rfl, rfl, congrArg AV.bool (and_f hc108), trivial⟩
     exact ⟨rfl, trivial⟩
   rintro _ ⟨tm, os, rfl⟩
   refine AOps.nilR ?_
   rcases oite h with ⟨hc109, h⟩ | ⟨hc109, h⟩
   ·refine AW.condT (congrArg AV.bool hc109) ?_
    refine AW.sr ?_
    refine AOps.moveR rfl rfl rfl rfl (rfl : _ = (AV.sl z27 f28 e29)) rfl ?_
    refine AOps.p rfl (rfl : _ = (AV.int .i64 t54)) ?_
    refine AOps.makeR rfl rfl rfl rfl rfl rfl (rfl : _ = (AV.sl 1 true [(AV.int .i64 t54)])) ?_
    obtain ⟨l110, h111, h⟩ := obind h
    obtain ⟨h112, h113⟩ := app_LR h30 (LR.lit (r := rI .i64) (sz := 1) (.cons rfl .nil)) h111
    refine AOps.appL (z := z27) (f := f28) (e := e29) (z' := 1) (f' := true) (e' := [(AV.int .i64 t54)]) rfl rfl rfl rfl rfl rfl rfl (appSrc_sl (LR.z (LR.lit (r := rI .i64) (sz := 1) (.cons rfl .nil))) rfl) (LR.z h30) ⟨by decide, by decide, rfl, rfl⟩ rfl rfl h113 (own_tmp h53 rfl rfl) ?_
    refine AOps.assignR rfl rfl rfl (rfl : _ = (AV.sl 1 false (e29 ++ [(AV.int .i64 t54)]))) rfl ?_
    refine AOps.nilR ?_
    refine AW.sr ?_
    refine AOps.p rfl (rfl : _ = (AV.eptr [(AV.int .i64 x87.From), (AV.int .i64 x87.To), (AV.str x87.Act), (AV.int .i64 x87.Module)] 1)) ?_
    refine AOps.ldE (v := (AV.int .i64 x87.To)) rfl rfl rfl rfl rfl rfl ?_
    refine AOps.assignR rfl rfl rfl (rfl : _ = (AV.int .i64 x87.To)) rfl ?_
    refine AOps.nilR ?_
    refine AW.exit rfl ?_
    obtain ⟨r114, hm, hx⟩ := omap h
    clear h
    subst hx
    have hx := hR2 _ rfl
    rw [hx] at hm
    have h := hm
    exact AW.res [(0, (AV.eptr [(AV.sl z2 f3 e4)] 0)), (1, (AV.int .i64 p1_6)), (2, (AV.int .i64 x87.To)), (9, (AV.sl 1 false (e29 ++ [(AV.int .i64 t54)]))), (10, (AV.sl z12 f13 e14)), (11, (AV.str w41)), (12, (AV.int .i64 t34))] [(9, true)] ⟨rfl, rfl, rfl, rfl, rfl, rfl, rfl, trivial⟩ ⟨rfl, trivial⟩ (KJ51 (x87.To, l110, 1, false, (e29 ++ [(AV.int .i64 t54)]), true) _ _ ⟨h112, (Or.inr rfl), h⟩)
   refine AW.condF (congrArg AV.bool hc109) ?_
   refine AW.skip ?_
   refine AW.sr ?_
   refine AOps.p rfl (rfl : _ = (AV.str x36)) ?_
   refine AOps.p rfl (rfl : _ = (AV.int .i64 (x36.length : Int))) ?_
   refine AOps.p rfl (rfl : _ = (AV.bool (decide (((x36.length : Int) : Int) > 1)))) ?_
   refine AOps.p rfl (rfl : _ = (AV.bool (decide (((x36.length : Int) : Int) > 1)))) ?_
   obtain ⟨b116, hb, h⟩ := obind h
   refine AOps.split 12 (fun f' => ∃ tm' os', f' = ⟨updL tm' [(0, (AV.eptr [(AV.sl z2 f3 e4)] 0)), (1, (AV.int .i64 p1_6)), (2, (AV.int .i64 t25)), (9, (AV.sl z27 f28 e29)), (10, (AV.sl z12 f13 e14)), (11, (AV.str w41)), (12, (AV.int .i64 t34)), (13, (AV.str x36)), (14, (AV.int .i64 t54)), (15, (AV.eptr [(AV.int .i64 x87.From), (AV.int .i64 x87.To), (AV.str x87.Act), (AV.int .i64 x87.Module)] 0)), (101, (AV.bool b116))], updL os' [(9, o52)], { s with lo := s.n }⟩) ?_ ?_
   ·rcases oite hb with ⟨hc115, hb⟩ | ⟨hc115, hb⟩
    ·have h := hb
     refine AOps.know (d := 89) rfl hc115 ?_
     refine AOps.p rfl (rfl : _ = (AV.eptr [(AV.int .i64 x87.From), (AV.int .i64 x87.To), (AV.str x87.Act), (AV.int .i64 x87.Module)] 2)) ?_
     refine AOps.ldE (v := (AV.str x87.Act)) rfl rfl rfl rfl rfl rfl ?_
     refine AOps.p rfl (rfl : _ = (AV.str x36)) ?_
     obtain ⟨w117, h118, h⟩ := obind h
     refine AOps.pureR rfl rfl rfl (cut_strH h118) rfl (rfl : _ = (AV.str w117)) ?_
     refine AOps.p rfl (rfl : _ = (AV.str x36)) ?_
     refine AOps.p rfl (rfl : _ = (AV.str x36)) ?_
     refine AOps.p rfl (rfl : _ = (AV.int .i64 (x36.length : Int))) ?_
     refine AOps.p rfl (rfl : _ = (AV.int .i64 (IntKind.wrap .i64 ((x36.length : Int) - 1)))) ?_
     obtain ⟨w119, h120, h⟩ := obind h
     refine AOps.pureR rfl rfl rfl (cut_strL h120) rfl (rfl : _ = (AV.str w119)) ?_
     obtain ⟨w121, h122, h⟩ := obind h
     refine AOps.pureR rfl rfl rfl (add_str h122) rfl (rfl : _ = (AV.str w121)) ?_
     refine AOps.p rfl (rfl : _ = (AV.bool (x87.Act == w121))) ?_
     refine AOps.p rfl (rfl : _ = (AV.bool (x87.Act == w121))) ?_
     refine AOps.resR [(0, (AV.eptr [(AV.sl z2 f3 e4)] 0)), (1, (AV.int .i64 p1_6)), (2, (AV.int .i64 t25)), (9, (AV.sl z27 f28 e29)), (10, (AV.sl z12 f13 e14)), (11, (AV.str w41)), (12, (AV.int .i64 t34)), (13, (AV.str x36)), (14, (AV.int .i64 t54)), (15, (AV.eptr [(AV.int .i64 x87.From), (AV.int .i64 x87.To), (AV.str x87.Act), (AV.int .i64 x87.Module)] 0)), (101, (AV.bool b116))] [(9, o52)] ?_ ?_ _ ⟨_, _, rfl⟩
     ·exact ⟨rfl, rfl, rfl, rfl, rfl, rfl, rfl, rfl, rfl, rfl, congrArg AV.bool (Option.some.inj h), trivial⟩
     exact ⟨rfl, trivial⟩
    ·refine AOps.know (d := 89) rfl hc115 ?_
     refine AOps.skipR rfl rfl ?_
     refine AOps.skipR rfl rfl ?_
     refine AOps.skipR rfl rfl ?_
     refine AOps.skipR rfl rfl ?_
     refine AOps.skipR rfl rfl ?_
     refine AOps.skipR rfl rfl ?_
     refine AOps.skipR rfl rfl ?_
     refine AOps.skipR rfl rfl ?_
     refine AOps.skipR rfl rfl ?_
     refine AOps.skipR rfl rfl ?_
     refine AOps.skipR rfl rfl ?_
     refine AOps.p rfl (rfl : _ = (AV.bool false)) ?_
     refine AOps.resR [(0, (AV.eptr [(AV.sl z2 f3 e4)] 0)), (1, (AV.int .i64 p1_6)), (2, (AV.int .i64 t25)), (9, (AV.sl z27 f28 e29)), (10, (AV.sl z12 f13 e14)), (11, (AV.str w41)), (12, (AV.int .i64 t34)), (13, (AV.str x36)), (14, (AV.int .i64 t54)), (15, (AV.eptr [(AV.int .i64 x87.From), (AV.int .i64 x87.To), (AV.str x87.Act), (AV.int .i64 x87.Module)] 0)), (101, (AV.bool b116))] [(9, o52)] ?_ ?_ _ ⟨_, _, rfl⟩
     ·exact ⟨rfl, rfl, rfl, rfl, rfl, rfl, rfl, rfl, rfl, rfl, congrArg AV.bool (Option.some.inj hb), trivial⟩
     exact ⟨rfl, trivial⟩
   rintro _ ⟨tm, os, rfl⟩
   refine AOps.p rfl (rfl : _ = (AV.bool b116)) ?_
   obtain ⟨b124, hb, h⟩ := obind h
   refine AOps.split 10 (fun f' => ∃ tm' os', f' = ⟨updL tm' [(0, (AV.eptr [(AV.sl z2 f3 e4)] 0)), (1, (AV.int .i64 p1_6)), (2, (AV.int .i64 t25)), (9, (AV.sl z27 f28 e29)), (10, (AV.sl z12 f13 e14)), (11, (AV.str w41)), (12, (AV.int .i64 t34)), (13, (AV.str x36)), (14, (AV.int .i64 t54)), (15, (AV.eptr [(AV.int .i64 x87.From), (AV.int .i64 x87.To), (AV.str x87.Act), (AV.int .i64 x87.Module)] 0)), (112, (AV.bool b124))], updL os' [(9, o52)], { s with lo := s.n }⟩) ?_ ?_
   ·rcases oite hb with ⟨hc123, hb⟩ | ⟨hc123, hb⟩
    ·have h := hb
     refine AOps.know (d := 102) rfl hc123 ?_
     refine AOps.p rfl (rfl : _ = (AV.eptr [(AV.sl z2 f3 e4)] 0)) ?_
     refine AOps.p rfl (rfl : _ = (AV.eptr [(AV.int .i64 x87.From), (AV.int .i64 x87.To), (AV.str x87.Act), (AV.int .i64 x87.Module)] 3)) ?_
     refine AOps.ldE (v := (AV.int .i64 x87.Module)) rfl rfl rfl rfl rfl rfl ?_
     refine AOps.p rfl (rfl : _ = (AV.str x36)) ?_
     refine AOps.p rfl (rfl : _ = (AV.str x36)) ?_
     refine AOps.p rfl (rfl : _ = (AV.int .i64 (x36.length : Int))) ?_
     refine AOps.p rfl (rfl : _ = (AV.int .i64 (IntKind.wrap .i64 ((x36.length : Int) - 1)))) ?_
     obtain ⟨w125, h126, h⟩ := obind h
     refine AOps.pureR rfl rfl rfl (cut_strLH h126) rfl (rfl : _ = (AV.str w125)) ?_
     obtain ⟨y127, h128, h⟩ := obind h
     refine AOps.callDP (g := 30) (args := [(AV.eptr [(AV.sl z2 f3 e4)] 0), (AV.int .i64 x87.Module), (AV.int .i64 0), (AV.str w125)]) (p := (rB) y127) rfl rfl rfl (spec_l07Ends_ok h5 h128 hWF.still) (fun v hv => Nice.pure (k := FINK) (p := (rB) y127) .B _ v hv) ?_
     intro _ o130 h129
     cases h129
     refine AOps.p rfl (rfl : _ = (AV.bool y127)) ?_
     refine AOps.resR [(0, (AV.eptr [(AV.sl z2 f3 e4)] 0)), (1, (AV.int .i64 p1_6)), (2, (AV.int .i64 t25)), (9, (AV.sl z27 f28 e29)), (10, (AV.sl z12 f13 e14)), (11, (AV.str w41)), (12, (AV.int .i64 t34)), (13, (AV.str x36)), (14, (AV.int .i64 t54)), (15, (AV.eptr [(AV.int .i64 x87.From), (AV.int .i64 x87.To), (AV.str x87.Act), (AV.int .i64 x87.Module)] 0)), (112, (AV.bool b124))] [(9, o52)] ?_ ?_ _ ⟨_, _, rfl⟩
     ·exact ⟨rfl, rfl, rfl, rfl, rfl, rfl, rfl, rfl, rfl, rfl, congrArg AV.bool (Option.some.inj h), trivial⟩
     exact ⟨rfl, trivial⟩
    ·refine AOps.know (d := 102) rfl hc123 ?_
     refine AOps.skipR rfl rfl ?_
     refine AOps.skipR rfl rfl ?_
     refine AOps.skipR rfl rfl ?_
     refine AOps.skipR rfl rfl ?_
     refine AOps.skipR rfl rfl ?_
     refine AOps.skipR rfl rfl ?_
     refine AOps.skipR rfl rfl ?_
     refine AOps.skipR rfl rfl ?_
     refine AOps.skipR rfl rfl ?_
     refine AOps.p rfl (rfl : _ = (AV.bool false)) ?_
     refine AOps.resR [(0, (AV.eptr [(AV.sl z2 f3 e4)] 0)), (1, (AV.int .i64 p1_6)), (2, (AV.int .i64 t25)), (9, (AV.sl z27 f28 e29)), (10, (AV.sl z12 f13 e14)), (11, (AV.str w41)), (12, (AV.int .i64 t34)), (13, (AV.str x36)), (14, (AV.int .i64 t54)), (15, (AV.eptr [(AV.int .i64 x87.From), (AV.int .i64 x87.To), (AV.str x87.Act), (AV.int .i64 x87.Module)] 0)), (112, (AV.bool b124))] [(9, o52)] ?_ ?_ _ ⟨_, _, rfl⟩
     ·exact ⟨rfl, rfl, rfl, rfl, rfl, rfl, rfl, rfl, rfl, rfl, congrArg AV.bool (Option.some.inj hb), trivial⟩
     exact ⟨rfl, trivial⟩
   rintro _ ⟨tm, os, rfl⟩
   refine AOps.nilR ?_
   rcases oite h with ⟨hc131, h⟩ | ⟨hc131, h⟩
   ·refine AW.condT (congrArg AV.bool hc131) ?_
    refine AW.sr ?_
    refine AOps.moveR rfl rfl rfl rfl (rfl : _ = (AV.sl z27 f28 e29)) rfl ?_
    refine AOps.p rfl (rfl : _ = (AV.int .i64 t54)) ?_
    refine AOps.makeR rfl rfl rfl rfl rfl rfl (rfl : _ = (AV.sl 1 true [(AV.int .i64 t54)])) ?_
    obtain ⟨l132, h133, h⟩ := obind h
    obtain ⟨h134, h135⟩ := app_LR h30 (LR.lit (r := rI .i64) (sz := 1) (.cons rfl .nil)) h133
    refine AOps.appL (z := z27) (f := f28) (e := e29) (z' := 1) (f' := true) (e' := [(AV.int .i64 t54)]) rfl rfl rfl rfl rfl rfl rfl (appSrc_sl (LR.z (LR.lit (r := rI .i64) (sz := 1) (.cons rfl .nil))) rfl) (LR.z h30) ⟨by decide, by decide, rfl, rfl⟩ rfl rfl h135 (own_tmp h53 rfl rfl) ?_
    refine AOps.assignR rfl rfl rfl (rfl : _ = (AV.sl 1 false (e29 ++ [(AV.int .i64 t54)]))) rfl ?_
    refine AOps.nilR ?_
    refine AW.sr ?_
    refine AOps.moveR rfl rfl rfl rfl (rfl : _ = (AV.sl 1 false (e29 ++ [(AV.int .i64 t54)]))) rfl ?_
    refine AOps.p rfl (rfl : _ = (AV.eptr [(AV.sl z2 f3 e4)] 0)) ?_
    refine AOps.p rfl (rfl : _ = (AV.eptr [(AV.int .i64 x87.From), (AV.int .i64 x87.To), (AV.str x87.Act), (AV.int .i64 x87.Module)] 3)) ?_
    refine AOps.ldE (v := (AV.int .i64 x87.Module)) rfl rfl rfl rfl rfl rfl ?_
    refine AOps.p rfl (rfl : _ = (AV.str x36)) ?_
    refine AOps.p rfl (rfl : _ = (AV.str x36)) ?_
    refine AOps.p rfl (rfl : _ = (AV.int .i64 (x36.length : Int))) ?_
    refine AOps.p rfl (rfl : _ = (AV.int .i64 (IntKind.wrap .i64 ((x36.length : Int) - 1)))) ?_
    obtain ⟨w136, h137, h⟩ := obind h
    refine AOps.pureR rfl rfl rfl (cut_strLH h137) rfl (rfl : _ = (AV.str w136)) ?_
    obtain ⟨y138, h139, h⟩ := obind h
    refine AOps.callDP (g := 17) (args := [(AV.eptr [(AV.sl z2 f3 e4)] 0), (AV.int .i64 x87.Module), (AV.int .i64 0), (AV.str w136)]) (p := (rL (rI .i64) 1) y138) rfl rfl rfl (rec17_ok h5 h139 hWF.still) (fun v hv => Nice.pure (k := FINK) (p := (rL (rI .i64) 1) y138) (.L fun _ => .I) _ v hv) ?_
    intro _ o145 h140
    obtain ⟨z141, f142, e143, rfl, h144⟩ := h140
    obtain ⟨l146, h147, h⟩ := obind h
    obtain ⟨h148, h149⟩ := app_LR h134 h144 h147
    refine AOps.appL (z := 1) (f := false) (e := (e29 ++ [(AV.int .i64 t54)])) (z' := z141) (f' := f142) (e' := e143) rfl rfl rfl rfl rfl rfl rfl (appSrc_sl (LR.z h144) rfl) (LR.z h134) ⟨by decide, by decide, rfl, rfl⟩ rfl rfl h149 (Or.inr ⟨117, rfl, rfl⟩) ?_
    refine AOps.assignR rfl rfl rfl (rfl : _ = (AV.sl 1 false ((e29 ++ [(AV.int .i64 t54)]) ++ e143))) rfl ?_
    refine AOps.nilR ?_
    refine AW.sr ?_
    refine AOps.moveR rfl rfl rfl rfl (rfl : _ = (AV.sl 1 false ((e29 ++ [(AV.int .i64 t54)]) ++ e143))) rfl ?_
    refine AOps.makeR rfl rfl rfl rfl rfl rfl (rfl : _ = (AV.sl 1 true [(AV.int .i64 (-1))])) ?_
    obtain ⟨l150, h151, h⟩ := obind h
    obtain ⟨h152, h153⟩ := app_LR h148 (LR.lit (r := rI .i64) (sz := 1) (.cons rfl .nil)) h151
    refine AOps.appL (z := 1) (f := false) (e := ((e29 ++ [(AV.int .i64 t54)]) ++ e143)) (z' := 1) (f' := true) (e' := [(AV.int .i64 (-1))]) rfl rfl rfl rfl rfl rfl rfl (appSrc_sl (LR.z (LR.lit (r := rI .i64) (sz := 1) (.cons rfl .nil))) rfl) (LR.z h148) ⟨by decide, by decide, rfl, rfl⟩ rfl rfl h153 (Or.inr ⟨128, rfl, rfl⟩) ?_
    refine AOps.assignR rfl rfl rfl (rfl : _ = (AV.sl 1 false (((e29 ++ [(AV.int .i64 t54)]) ++ e143) ++ [(AV.int .i64 (-1))]))) rfl ?_
    refine AOps.nilR ?_
    refine AW.sr ?_
    refine AOps.p rfl (rfl : _ = (AV.eptr [(AV.int .i64 x87.From), (AV.int .i64 x87.To), (AV.str x87.Act), (AV.int .i64 x87.Module)] 1)) ?_
    refine AOps.ldE (v := (AV.int .i64 x87.To)) rfl rfl rfl rfl rfl rfl ?_
    refine AOps.assignR rfl rfl rfl (rfl : _ = (AV.int .i64 x87.To)) rfl ?_
    refine AOps.nilR ?_
    refine AW.exit rfl ?_
    obtain ⟨r154, hm, hx⟩ := omap h
    clear h
    subst hx
    have hx := hR2 _ rfl
    rw [hx] at hm
    have h := hm
    exact AW.res [(0, (AV.eptr [(AV.sl z2 f3 e4)] 0)), (1, (AV.int .i64 p1_6)), (2, (AV.int .i64 x87.To)), (9, (AV.sl 1 false (((e29 ++ [(AV.int .i64 t54)]) ++ e143) ++ [(AV.int .i64 (-1))]))), (10, (AV.sl z12 f13 e14)), (11, (AV.str w41)), (12, (AV.int .i64 t34))] [(9, true)] ⟨rfl, rfl, rfl, rfl, rfl, rfl, rfl, trivial⟩ ⟨rfl, trivial⟩ (KJ51 (x87.To, l150, 1, false, (((e29 ++ [(AV.int .i64 t54)]) ++ e143) ++ [(AV.int .i64 (-1))]), true) _ _ ⟨h152, (Or.inr rfl), h⟩)
   refine AW.condF (congrArg AV.bool hc131) ?_
   refine AW.skip ?_
   refine AW.inBlock ?_
   exact AW.res [(0, (AV.eptr [(AV.sl z2 f3 e4)] 0)), (1, (AV.int .i64 p1_6)), (2, (AV.int .i64 t25)), (9, (AV.sl z27 f28 e29)), (10, (AV.sl z12 f13 e14)), (11, (AV.str w41)), (12, (AV.int .i64 t34)), (13, (AV.str x36)), (14, (AV.int .i64 t54))] [(9, o52)] ⟨rfl, rfl, rfl, rfl, rfl, rfl, rfl, rfl, rfl, trivial⟩ ⟨rfl, trivial⟩ (KJ72 (o52) _ _ ⟨h53, h⟩)
  refine AW.condF (congrArg AV.bool hc69) ?_
  refine AW.exit rfl ?_
  obtain ⟨r155, hm, hx⟩ := omap h
  clear h
  subst hx
  have hx := hR2 _ rfl
  rw [hx] at hm
  have h := hm
  exact AW.res [(0, (AV.eptr [(AV.sl z2 f3 e4)] 0)), (1, (AV.int .i64 p1_6)), (2, (AV.int .i64 t25)), (9, (AV.sl z27 f28 e29)), (10, (AV.sl z12 f13 e14)), (11, (AV.str w41)), (12, (AV.int .i64 t34))] [(9, o52)] ⟨rfl, rfl, rfl, rfl, rfl, rfl, rfl, trivial⟩ ⟨rfl, trivial⟩ (KJ51 (t25, t26, z27, f28, e29, o52) _ _ ⟨h30, h53, h⟩)
 refine AW.condF (congrArg AV.bool hc35) ?_
 refine AW.exit rfl ?_
 obtain ⟨r156, hm, hx⟩ := omap h
 clear h
 subst hx
 have hx := hR1 _ rfl
 rw [hx] at hm
 have h := hm
 exact AW.res [(9, (AV.sl z27 f28 e29))] [(9, o31)] ⟨rfl, trivial⟩ ⟨rfl, trivial⟩ (KJ24 (t26, z27, f28, e29, o31) _ _ ⟨h30, h32, h⟩)
theorem spec_l07Trace_N_ok (n : Nat) : ∀ {a1 : ProgramT} {a6 : Int} {a7 : Int} {a8 : List UInt8} {z2 : Nat} {f3 : Bool} {e4 : List AV} {s : St} (h5 : LR rModule 2 a1.Modules z2 e4) {r : (List Int)}, spec_l07Trace_N n a1 a6 a7 a8 = some r → WF s → ACall Cf 17 [(AV.eptr [(AV.sl z2 f3 e4)] 0), (AV.int .i64 a6), (AV.int .i64 a7), (AV.str a8)] s fun v _ s' => (rL (rI .i64) 1) r v ∧ s' = s := by
 induction n with
 | zero => intros; rename_i h _; cases h
 | succ n ih =>
  intros
  rename_i h hs
  exact spec_l07Trace_B_ok ih ‹_› h hs
theorem spec_l07Trace_ok {a1 : ProgramT} {a6 : Int} {a7 : Int} {a8 : List UInt8} {z2 : Nat} {f3 : Bool} {e4 : List AV} {s : St} (h5 : LR rModule 2 a1.Modules z2 e4) {r : (List Int)} (h : spec_l07Trace a1 a6 a7 a8 = some r) (hs : WF s) : ACall Cf 17 [(AV.eptr [(AV.sl z2 f3 e4)] 0), (AV.int .i64 a6), (AV.int .i64 a7), (AV.str a8)] s fun v _ s' => (rL (rI .i64) 1) r v ∧ s' = s := spec_l07Trace_N_ok 1000 h5 h hs
end Go.Proofs.Ythnilfmdmaebfaa.law
