import Derived.Test.YthnilfmdmaebfaaAeD
import Derived.Test.YthnilfmdmaebfaaAe4
import Derived.Test.YthnilfmdmaebfaaAeK1
set_option linter.unusedVariables false
set_option linter.unusedSimpArgs false
namespace Go.Proofs.Ythnilfmdmaebfaa.law
open Go Go.Proofs Ae
set_option maxRecDepth 100000
set_option linter.unusedVariables false
theorem spec_RunOfWord_ok {p1 : ProgramT} {w6 : List UInt8} {z2 : Nat} {f3 : Bool} {e4 : List AV} {s : St} (h5 : LR rModule 2 p1.Modules z2 e4) {r : (List Int) × Int} (h : spec_RunOfWord p1 w6 = some r) (hs : WF s) : ACall Cf 5 [(AV.agg [(AV.sl z2 f3 e4)]), (AV.str w6)] s fun v _ s' => (fun x => rT [(rL (rI .i64) 1) x.1, (rI .i64) x.2]) r v ∧ s' = s := by
 refine ACall.pure rfl rfl rfl (.T (.cons (.L fun _ => .I) (.cons .I .nil))) ?_
 have hWF := hs.lo'
 unfold spec_RunOfWord at h
 refine AW.sr ?_
 refine AOps.makeR rfl rfl rfl rfl rfl rfl (rfl : _ = (AV.eptr [(AV.sl z2 f3 e4)] 0)) ?_
 refine AOps.p rfl (rfl : _ = (AV.sl 0 true [])) ?_
 refine AOps.p rfl (rfl : _ = (AV.int .i64 0)) ?_
 refine AOps.nilR ?_
 refine AW.seq ?_
 refine AW.sr ?_
 obtain ⟨y7, h8, h⟩ := obind h
 refine AOps.callP (g := 14) (args := [(AV.eptr [(AV.sl z2 f3 e4)] 0)]) (p := (rB) y7) rfl rfl rfl (spec_l07Ok_ok h5 h8 hWF) ?_
 intro _ o10 h9
 cases h9
 refine AOps.p rfl (rfl : _ = (AV.bool (!y7))) ?_
 refine AOps.p rfl (rfl : _ = (AV.bool (!y7))) ?_
 obtain ⟨b12, hb, h⟩ := obind h
 refine AOps.split 4 (fun f' => ∃ tm' os', f' = ⟨updL tm' [(1, (AV.str w6)), (2, (AV.eptr [(AV.sl z2 f3 e4)] 0)), (12, (AV.bool b12))], updL os' [], { s with lo := s.n }⟩) ?_ ?_
 ·rcases oite hb with ⟨hc11, hb⟩ | ⟨hc11, hb⟩
  ·refine AOps.know (d := 8) rfl hc11 ?_
   refine AOps.skipR rfl rfl ?_
   refine AOps.skipR rfl rfl ?_
   refine AOps.skipR rfl rfl ?_
   refine AOps.p rfl (rfl : _ = (AV.bool true)) ?_
   refine AOps.resR [(1, (AV.str w6)), (2, (AV.eptr [(AV.sl z2 f3 e4)] 0)), (12, (AV.bool b12))] [] ?_ ?_ _ ⟨_, _, rfl⟩
   ·exact ⟨rfl, rfl, congrArg AV.bool (Option.some.inj hb), trivial⟩
   exact trivial
  ·have h := hb
   refine AOps.know (d := 8) rfl hc11 ?_
   refine AOps.p rfl (rfl : _ = (AV.str w6)) ?_
   obtain ⟨y13, h14, h⟩ := obind h
   refine AOps.callP (g := 15) (args := [(AV.str w6)]) (p := (rB) y13) rfl rfl rfl (spec_l01Ok_ok  h14 hWF) ?_
   intro _ o16 h15
   cases h15
   refine AOps.p rfl (rfl : _ = (AV.bool (!y13))) ?_
   refine AOps.p rfl (rfl : _ = (AV.bool (!y13))) ?_
   refine AOps.resR [(1, (AV.str w6)), (2, (AV.eptr [(AV.sl z2 f3 e4)] 0)), (12, (AV.bool b12))] [] ?_ ?_ _ ⟨_, _, rfl⟩
   ·exact ⟨rfl, rfl, congrArg AV.bool (Option.some.inj h), trivial⟩
   exact trivial
 rintro _ ⟨tm, os, rfl⟩
 refine AOps.nilR ?_
 rcases oite h with ⟨hc17, h⟩ | ⟨hc17, h⟩
 ·refine AW.condT (congrArg AV.bool hc17) ?_
  refine AW.sr ?_
  refine AOps.makeR rfl rfl rfl rfl rfl rfl (rfl : _ = (AV.sl 1 true [])) ?_
  refine AOps.assignR rfl rfl rfl (rfl : _ = (AV.sl 1 true [])) rfl ?_
  refine AOps.p rfl (rfl : _ = (AV.int .i64 1)) ?_
  refine AOps.nilR ?_
  cases h
  exact AW.ret ⟨rfl, _, _, rfl, ⟨_, rfl, (.cons ⟨_, _, _, rfl, ⟨.inl rfl, .nil⟩⟩ (.cons rfl .nil))⟩⟩
 refine AW.condF (congrArg AV.bool hc17) ?_
 refine AW.skip ?_
 refine AW.seq ?_
 refine AW.sr ?_
 refine AOps.p rfl (rfl : _ = (AV.str w6)) ?_
 obtain ⟨y18, h19, h⟩ := obind h
 refine AOps.callP (g := 16) (args := [(AV.eptr [(AV.sl z2 f3 e4)] 0), (AV.str w6)]) (p := (rB) y18) rfl rfl rfl (spec_l07Takes_ok h5 h19 hWF) ?_
 intro _ o21 h20
 cases h20
 refine AOps.p rfl (rfl : _ = (AV.bool (!y18))) ?_
 refine AOps.nilR ?_
 rcases oite h with ⟨hc22, h⟩ | ⟨hc22, h⟩
 ·refine AW.condT (congrArg AV.bool hc22) ?_
  refine AW.sr ?_
  refine AOps.makeR rfl rfl rfl rfl rfl rfl (rfl : _ = (AV.sl 1 true [])) ?_
  refine AOps.assignR rfl rfl rfl (rfl : _ = (AV.sl 1 true [])) rfl ?_
  refine AOps.p rfl (rfl : _ = (AV.int .i64 6)) ?_
  refine AOps.nilR ?_
  cases h
  exact AW.ret ⟨rfl, _, _, rfl, ⟨_, rfl, (.cons ⟨_, _, _, rfl, ⟨.inl rfl, .nil⟩⟩ (.cons rfl .nil))⟩⟩
 refine AW.condF (congrArg AV.bool hc22) ?_
 refine AW.skip ?_
 refine AW.sr ?_
 refine AOps.p rfl (rfl : _ = (AV.str w6)) ?_
 obtain ⟨y23, h24, h⟩ := obind h
 refine AOps.callP (g := 17) (args := [(AV.eptr [(AV.sl z2 f3 e4)] 0), (AV.int .i64 0), (AV.int .i64 0), (AV.str w6)]) (p := (rL (rI .i64) 1) y23) rfl rfl rfl (spec_l07Trace_ok h5 h24 hWF) ?_
 intro _ o30 h25
 obtain ⟨z26, f27, e28, rfl, h29⟩ := h25
 refine AOps.assignR rfl rfl rfl (rfl : _ = (AV.sl z26 f27 e28)) rfl ?_
 refine AOps.p rfl (rfl : _ = (AV.int .i64 0)) ?_
 refine AOps.nilR ?_
 cases h
 exact AW.ret ⟨rfl, _, _, rfl, ⟨_, rfl, (.cons ⟨_, _, _, rfl, h29⟩ (.cons rfl .nil))⟩⟩
theorem laws_toLink_K0_ok {a1 : Link} {s : St} {r : Link} (h : laws_toLink_K0 a1 = some r) (hs : WF s) : ACall Cf 69 [(AV.agg [(AV.int .i64 a1.From), (AV.int .i64 a1.To), (AV.str a1.Act), (AV.int .i64 a1.Module)])] s (fun v _ s' => ∃ (Ls' : List (List BX)), v = (AV.agg [(AV.int .i64 r.From), (AV.int .i64 r.To), (AV.str r.Act), (AV.int .i64 r.Module)]) ∧ HS [] true s s' (([] : List BX) ++ List.flatten Ls') ∧ AllG [] Ls') true := by
 refine ACall.keepR rfl rfl rfl ?_
 have hH0 := HS.g0 (HS.initK hs)
 have hG0 := AllG.nil
 have hl : LoOK [] true s := LoOK.nil
 unfold laws_toLink_K0 at h
 refine AW.sr ?_
 refine AOps.makeR rfl rfl rfl rfl rfl rfl (rfl : _ = (AV.eptr [(AV.int .i64 a1.From), (AV.int .i64 a1.To), (AV.str a1.Act), (AV.int .i64 a1.Module)] 0)) ?_
 refine AOps.allocP rfl rfl rfl rfl ⟨rfl, rfl⟩ rfl ?_
 refine AOps.nilR ?_
 refine AW.sr ?_
 refine AOps.alloc1 hH0 rfl rfl rfl rfl rfl rfl ?_
 intro b2 s3 hH4
 change HS [] true s s3 (([⟨some b2, [(AV.int .i64 0), (AV.int .i64 0), (AV.str ([] : List UInt8)), (AV.int .i64 0)], (fun _ => false)⟩] : List BX) ++ List.flatten ([] : List (List BX))) at hH4
 refine AOps.nilR ?_
 refine AW.sr ?_
 refine AOps.p rfl (rfl : _ = (AV.eptr [(AV.int .i64 a1.From), (AV.int .i64 a1.To), (AV.str a1.Act), (AV.int .i64 a1.Module)] 0)) ?_
 refine AOps.ldE (v := (AV.int .i64 a1.From)) rfl rfl rfl rfl rfl rfl ?_
 refine AOps.p rfl (rfl : _ = (AV.ptr b2 0)) ?_
 refine AOps.stE (i := 0) (v := (AV.int .i64 a1.From)) hH4 hl rfl rfl rfl rfl rfl rfl rfl rfl rfl (lt_b rfl) (le_b rfl) rfl ?_
 intro w5 s6 h7 h8 hH9
 change HS [] true s s6 (([⟨some b2, [(AV.int .i64 a1.From), (AV.int .i64 0), (AV.str ([] : List UInt8)), (AV.int .i64 0)], w5⟩] : List BX) ++ List.flatten ([] : List (List BX))) at hH9
 refine AOps.nilR ?_
 refine AW.sr ?_
 refine AOps.p rfl (rfl : _ = (AV.eptr [(AV.int .i64 a1.From), (AV.int .i64 a1.To), (AV.str a1.Act), (AV.int .i64 a1.Module)] 1)) ?_
 refine AOps.ldE (v := (AV.int .i64 a1.To)) rfl rfl rfl rfl rfl rfl ?_
 refine AOps.p rfl (rfl : _ = (AV.ptr b2 1)) ?_
 refine AOps.stE (i := 0) (v := (AV.int .i64 a1.To)) hH9 hl rfl rfl rfl rfl rfl rfl rfl rfl rfl (lt_b rfl) (le_b rfl) rfl ?_
 intro w10 s11 h12 h13 hH14
 change HS [] true s s11 (([⟨some b2, [(AV.int .i64 a1.From), (AV.int .i64 a1.To), (AV.str ([] : List UInt8)), (AV.int .i64 0)], w10⟩] : List BX) ++ List.flatten ([] : List (List BX))) at hH14
 refine AOps.nilR ?_
 refine AW.sr ?_
 refine AOps.p rfl (rfl : _ = (AV.eptr [(AV.int .i64 a1.From), (AV.int .i64 a1.To), (AV.str a1.Act), (AV.int .i64 a1.Module)] 2)) ?_
 refine AOps.ldE (v := (AV.str a1.Act)) rfl rfl rfl rfl rfl rfl ?_
 refine AOps.p rfl (rfl : _ = (AV.ptr b2 2)) ?_
 refine AOps.stE (i := 0) (v := (AV.str a1.Act)) hH14 hl rfl rfl rfl rfl rfl rfl rfl rfl rfl (lt_b rfl) (le_b rfl) rfl ?_
 intro w15 s16 h17 h18 hH19
 change HS [] true s s16 (([⟨some b2, [(AV.int .i64 a1.From), (AV.int .i64 a1.To), (AV.str a1.Act), (AV.int .i64 0)], w15⟩] : List BX) ++ List.flatten ([] : List (List BX))) at hH19
 refine AOps.nilR ?_
 refine AW.sr ?_
 refine AOps.p rfl (rfl : _ = (AV.eptr [(AV.int .i64 a1.From), (AV.int .i64 a1.To), (AV.str a1.Act), (AV.int .i64 a1.Module)] 3)) ?_
 refine AOps.ldE (v := (AV.int .i64 a1.Module)) rfl rfl rfl rfl rfl rfl ?_
 refine AOps.p rfl (rfl : _ = (AV.ptr b2 3)) ?_
 refine AOps.stE (i := 0) (v := (AV.int .i64 a1.Module)) hH19 hl rfl rfl rfl rfl rfl rfl rfl rfl rfl (lt_b rfl) (le_b rfl) rfl ?_
 intro w20 s21 h22 h23 hH24
 change HS [] true s s21 (([⟨some b2, [(AV.int .i64 a1.From), (AV.int .i64 a1.To), (AV.str a1.Act), (AV.int .i64 a1.Module)], w20⟩] : List BX) ++ List.flatten ([] : List (List BX))) at hH24
 refine AOps.nilR ?_
 refine AW.sr ?_
 refine AOps.ldB (i := 0) (v := (AV.agg [(AV.int .i64 a1.From), (AV.int .i64 a1.To), (AV.str a1.Act), (AV.int .i64 a1.Module)])) hH24 rfl rfl rfl rfl rfl rfl rfl rfl rfl ?_
 refine AOps.stP (v := (AV.agg [(AV.int .i64 a1.From), (AV.int .i64 a1.To), (AV.str a1.Act), (AV.int .i64 a1.Module)])) rfl rfl rfl rfl rfl rfl rfl rfl rfl (lt_b rfl) rfl ?_
 refine AOps.nilR ?_
 cases h
 obtain ⟨Ls25, hG26, hH27⟩ := HS.selEG hH24 hG0 [] []
 exact AW.ret ⟨_, _, rfl, ⟨Ls25, rfl, hH27, hG26⟩⟩
theorem laws_toLinkS_K0_ok {a1 : List Link} {z2 : Nat} {f3 : Bool} {e4 : List AV} {s : St} (h5 : LR rLink 4 a1 z2 e4) {r : (List Link)} (h : laws_toLinkS_K0 a1 = some r) (hs : WF s) : ACall Cf 49 [(AV.sl z2 f3 e4)] s (fun v _ s' => ∃ (h1' : AV) (k2' : KT) (Ls' : List (List BX)), v = h1' ∧ HS [] true s s' (([] : List BX) ++ List.flatten Ls') ∧ AllG [OS oE63 h1' k2' r] Ls' ∧ h1'.one = true) true := by
 refine ACall.keepR rfl rfl rfl ?_
 have hH0 := HS.g0 (HS.initK hs)
 have hG0 := AllG.nil
 have hl : LoOK [] true s := LoOK.nil
 unfold laws_toLinkS_K0 at h
 refine AW.sr ?_
 refine AOps.p rfl (rfl : _ = (AV.sl 0 true [])) ?_
 refine AOps.nilR ?_
 refine AW.sr ?_
 refine AOps.p rfl (rfl : _ = (AV.sl z2 f3 e4)) ?_
 refine AOps.p rfl (len_eq h5) ?_
 obtain ⟨l6, h7, h⟩ := obind h
 refine AOps.mkO (e := oE63) (x0 := ((⟨0, 0, ([] : List UInt8), 0⟩ : Link) : Link)) (fun _ => AV.undef) hH0 hG0 rfl rfl rfl rfl rfl rfl rfl ⟨rfl, rfl, by decide⟩ h7 ⟨rfl, rfl⟩ (fun _ => ⟨⟨(AV.agg [(AV.int .i64 0), (AV.int .i64 0), (AV.str ([] : List UInt8)), (AV.int .i64 0)]), ⟨_, rfl, (.cons rfl (.cons rfl (.cons rfl (.cons rfl .nil))))⟩, rfl⟩, rfl⟩) rfl ?_
 intro h8 k10 Ls11 s12 ho9 hG13 hH14
 change HS [] true s s12 (([] : List BX) ++ List.flatten Ls11) at hH14
 change AllG [OS oE63 h8 k10 l6] Ls11 at hG13
 refine AOps.assignR rfl rfl rfl (rfl : _ = h8) rfl ?_
 refine AOps.nilR ?_
 refine AW.seq ?_
 refine AW.sr ?_
 refine AOps.p rfl (rfl : _ = (AV.int .i64 0)) ?_
 refine AOps.nilR ?_
 refine AW.meet (σ := (List Link) × St × (List (List BX))) (fun (out15, s16, Ls17) tm os => ⟨updL tm [(3, h8)], updL os [], s16⟩) (fun (out15, s16, Ls17) => (HS [] true s s16 (([] : List BX) ++ List.flatten Ls17)) ∧ (AllG [OS oE63 h8 k10 out15] Ls17) ∧ laws_toLinkS_K0_J1 out15 = some r) ?_ ?_
 ·rintro ⟨out15, s16, Ls17⟩ tm os ⟨hH18, hG19, h⟩
  unfold laws_toLinkS_K0_J1 at h
  refine AW.sr ?_
  refine AOps.p rfl (rfl : _ = h8) ?_
  refine AOps.assignR rfl rfl rfl (rfl : _ = h8) rfl ?_
  refine AOps.nilR ?_
  cases h
  exact AW.ret ⟨_, _, rfl, ⟨h8, k10, Ls17, rfl, hH18, hG19, ho9⟩⟩
 intro KJ20
 refine AW.block ?_
 refine AW.res [(0, (AV.sl z2 f3 e4)), (3, h8), (4, (AV.int .i64 0))] [] ⟨rfl, rfl, rfl, trivial⟩ trivial ?_
 refine AW.loopF (σ := (List Link) × Int) (τ := St × (List (List BX))) (fun (out21, i22) (s23, Ls24) => (HS [] true s s23 (([] : List BX) ++ List.flatten Ls24)) ∧ (AllG [OS oE63 h8 k10 out21] Ls24)) (fun (out21, i22) (s23, Ls24) tm os => ⟨updL tm [(0, (AV.sl z2 f3 e4)), (3, h8), (4, (AV.int .i64 i22))], updL os [], s23⟩) ?_ (x := (l6, 0)) (y := (s12, Ls11)) h ⟨hH14, hG13⟩
 clear h
 rintro ⟨out21, i22⟩ ⟨s23, Ls24⟩ tm os ⟨hH25, hG26⟩ ee1 h hL1 hR1
 unfold laws_toLinkS_K0_S1 at h
 dsimp only at h
 refine AW.seq ?_
 refine AW.sr ?_
 refine AOps.p rfl (rfl : _ = (AV.int .i64 i22)) ?_
 refine AOps.p rfl (rfl : _ = (AV.sl z2 f3 e4)) ?_
 refine AOps.p rfl (len_eq h5) ?_
 refine AOps.p rfl (rfl : _ = (AV.bool (decide ((i22 : Int) < (a1.length : Int))))) ?_
 refine AOps.nilR ?_
 rcases oite h with ⟨hc27, h⟩ | ⟨hc27, h⟩
 ·refine AW.condT (congrArg AV.bool hc27) ?_
  refine AW.skip ?_
  refine AW.seq ?_
  refine AW.block ?_
  refine AW.region ?_
  refine AOps.p rfl (rfl : _ = h8) ?_
  refine AOps.p rfl (rfl : _ = (AV.int .i64 i22)) ?_
  refine AOps.p rfl (rfl : _ = (AV.sl z2 f3 e4)) ?_
  refine AOps.p rfl (rfl : _ = (AV.int .i64 i22)) ?_
  obtain ⟨x28, h29, h⟩ := obind h
  obtain ⟨v32, h30, h31⟩ := idx_sl h5 h29
  obtain ⟨_, rfl, h33⟩ := h30
  obtain ⟨_, _, rfl, h34, h35⟩ := Cs_cons h33
  cases h34
  obtain ⟨_, _, rfl, h36, h37⟩ := Cs_cons h35
  cases h36
  obtain ⟨_, _, rfl, h38, h39⟩ := Cs_cons h37
  cases h38
  obtain ⟨_, _, rfl, h40, h41⟩ := Cs_cons h39
  cases h40
  cases Cs_nil h41
  refine AOps.pureR rfl rfl rfl h31 rfl (rfl : _ = (AV.eptr [(AV.int .i64 x28.From), (AV.int .i64 x28.To), (AV.str x28.Act), (AV.int .i64 x28.Module)] 0)) ?_
  refine AOps.ldE (v := (AV.agg [(AV.int .i64 x28.From), (AV.int .i64 x28.To), (AV.str x28.Act), (AV.int .i64 x28.Module)])) rfl rfl rfl rfl rfl rfl ?_
  obtain ⟨y42, h43, h⟩ := obind h
  have hP44 := HS.pop0 hH25
  refine AOps.callF (al := true) (g := 69) (args := [(AV.agg [(AV.int .i64 x28.From), (AV.int .i64 x28.To), (AV.str x28.Act), (AV.int .i64 x28.Module)])]) rfl rfl rfl (laws_toLink_K0_ok   h43 (HS.wf' hH25)) ?_
  rintro _ _ s45 ⟨Ls47, rfl, hH48, hG49⟩
  have hJ50 := HS.joinK0 hP44 hH48
  cases hG49
  have hH51 := HS.push0 hJ50
  change HS [] true s s45 (([] : List BX) ++ List.flatten Ls24) at hH51
  change AllG [OS oE63 h8 k10 out21] Ls24 at hG26
  obtain ⟨x54, h55, h⟩ := obind h
  refine AOps.idxO (j := 0) hG26 rfl Sub.here h55 rfl rfl rfl rfl rfl rfl rfl rfl rfl ?_
  intro b52 hb53
  refine AOps.stO (j := 0) (q := 0) (v := (AV.agg [(AV.int .i64 y42.From), (AV.int .i64 y42.To), (AV.str y42.Act), (AV.int .i64 y42.Module)])) (y' := y42) hH51 hG26 hl rfl Sub.here h55 hb53 rfl rfl rfl rfl rfl rfl rfl rfl (lt_b rfl) (le_b rfl) rfl (fun c B hc => oLeaf_set hc ⟨_, rfl, (.cons rfl (.cons rfl (.cons rfl (.cons rfl .nil))))⟩) ?_
  intro Ls56 s57 hG58 hH59
  change HS [] true s s57 (([] : List BX) ++ List.flatten Ls56) at hH59
  change AllG [OS oE63 h8 k10 (out21.set (Int.toNat i22) y42)] Ls56 at hG58
  refine AOps.nilR ?_
  refine AW.inBlock ?_
  refine AW.region ?_
  refine AOps.p rfl (rfl : _ = (AV.int .i64 i22)) ?_
  refine AOps.p rfl (rfl : _ = (AV.int .i64 (IntKind.wrap .i64 (i22 + 1)))) ?_
  refine AOps.assignR rfl rfl rfl (rfl : _ = (AV.int .i64 (IntKind.wrap .i64 (i22 + 1)))) rfl ?_
  refine AOps.nilR ?_
  cases h
  exact AW.res [(0, (AV.sl z2 f3 e4)), (3, h8), (4, (AV.int .i64 (IntKind.wrap .i64 (i22 + 1))))] [] ⟨rfl, rfl, rfl, trivial⟩ trivial (hL1 _ rfl (s57, Ls56) _ _ ⟨hH59, hG58⟩)
 refine AW.condF (congrArg AV.bool hc27) ?_
 refine AW.exit rfl ?_
 obtain ⟨r60, hm, hx⟩ := omap h
 clear h
 subst hx
 have hx := hR1 _ rfl
 rw [hx] at hm
 have h := hm
 exact AW.res [(3, h8)] [] ⟨rfl, trivial⟩ trivial (KJ20 (out21, s23, Ls24) _ _ ⟨hH25, hG26, h⟩)
theorem laws_toModule_K0_ok {a1 : Module} {z2 : Nat} {f3 : Bool} {e4 : List AV} {s : St} (h5 : LR rLink 4 a1.Links z2 e4) {r : Module} (h : laws_toModule_K0 a1 = some r) (hs : WF s) : ACall Cf 32 [(AV.agg [(AV.int .i64 a1.Nodes), (AV.sl z2 f3 e4)])] s (fun v _ s' => ∃ (h1' : AV) (k2' : KT) (Ls' : List (List BX)), v = (AV.agg [(AV.int .i64 r.Nodes), h1']) ∧ HS [] true s s' (([] : List BX) ++ List.flatten Ls') ∧ AllG [OS oE63 h1' k2' r.Links] Ls' ∧ h1'.one = true) true := by
 refine ACall.keepR rfl rfl rfl ?_
 have hH0 := HS.g0 (HS.initK hs)
 have hG0 := AllG.nil
 have hl : LoOK [] true s := LoOK.nil
 unfold laws_toModule_K0 at h
 refine AW.sr ?_
 refine AOps.makeR rfl rfl rfl rfl rfl rfl (rfl : _ = (AV.eptr [(AV.int .i64 a1.Nodes), (AV.sl z2 f3 e4)] 0)) ?_
 refine AOps.allocP rfl rfl rfl rfl ⟨rfl, rfl⟩ rfl ?_
 refine AOps.nilR ?_
 refine AW.sr ?_
 refine AOps.alloc1 hH0 rfl rfl rfl rfl rfl rfl ?_
 intro b6 s7 hH8
 change HS [] true s s7 (([⟨some b6, [(AV.int .i64 0), (AV.sl 0 true [])], (fun _ => false)⟩] : List BX) ++ List.flatten ([] : List (List BX))) at hH8
 refine AOps.nilR ?_
 refine AW.sr ?_
 refine AOps.p rfl (rfl : _ = (AV.eptr [(AV.int .i64 a1.Nodes), (AV.sl z2 f3 e4)] 0)) ?_
 refine AOps.ldE (v := (AV.int .i64 a1.Nodes)) rfl rfl rfl rfl rfl rfl ?_
 refine AOps.p rfl (rfl : _ = (AV.ptr b6 0)) ?_
 refine AOps.stE (i := 0) (v := (AV.int .i64 a1.Nodes)) hH8 hl rfl rfl rfl rfl rfl rfl rfl rfl rfl (lt_b rfl) (le_b rfl) rfl ?_
 intro w9 s10 h11 h12 hH13
 change HS [] true s s10 (([⟨some b6, [(AV.int .i64 a1.Nodes), (AV.sl 0 true [])], w9⟩] : List BX) ++ List.flatten ([] : List (List BX))) at hH13
 refine AOps.nilR ?_
 refine AW.sr ?_
 refine AOps.p rfl (rfl : _ = (AV.eptr [(AV.int .i64 a1.Nodes), (AV.sl z2 f3 e4)] 1)) ?_
 refine AOps.ldE (v := (AV.sl z2 f3 e4)) rfl rfl rfl rfl rfl rfl ?_
 obtain ⟨y14, h15, h⟩ := obind h
 have hP19 := HS.pop0 hH13
 refine AOps.callF (al := true) (g := 49) (args := [(AV.sl z2 f3 e4)]) rfl rfl rfl (laws_toLinkS_K0_ok h5  h15 (HS.wf' hH13)) ?_
 rintro h16 _ s20 ⟨_, k17, Ls22, rfl, hH23, hG24, ho18⟩
 have hJ25 := HS.joinK0 hP19 hH23
 obtain ⟨Ls26, Lf27, hG28, hF29, hP30⟩ := HS.pushN hJ25 hG0 hG24
 cases hF29
 have hH31 := HS.push0 hP30
 change HS [] true s s20 (([⟨some b6, [(AV.int .i64 a1.Nodes), (AV.sl 0 true [])], w9⟩] : List BX) ++ List.flatten Ls26) at hH31
 change AllG [OS oE63 h16 k17 y14] Ls26 at hG28
 refine AOps.p rfl (rfl : _ = (AV.ptr b6 1)) ?_
 refine AOps.stE (i := 0) (v := h16) hH31 hl rfl rfl rfl rfl rfl rfl rfl (one_lay ho18) (one_len ho18) (lt_b rfl) (le_b rfl) rfl ?_
 intro w32 s33 h34 h35 hH36
 rw [AV.cells_one ho18] at hH36
 change HS [] true s s33 (([⟨some b6, [(AV.int .i64 a1.Nodes), h16], w32⟩] : List BX) ++ List.flatten Ls26) at hH36
 refine AOps.nilR ?_
 refine AW.sr ?_
 refine AOps.ldB (i := 0) (v := (AV.agg [(AV.int .i64 a1.Nodes), h16])) hH36 rfl rfl rfl rfl rfl rfl rfl rfl rfl ?_
 refine AOps.stP (v := (AV.agg [(AV.int .i64 a1.Nodes), h16])) rfl rfl rfl rfl rfl rfl rfl (lay_cons rfl (lay_cons ho18 lay_nil)) rfl (lt_b rfl) rfl ?_
 refine AOps.nilR ?_
 cases h
 obtain ⟨Ls37, hG38, hH39⟩ := HS.selEG hH36 hG28 [] [some 0]
 exact AW.ret ⟨_, _, rfl, ⟨h16, k17, Ls37, rfl, hH39, hG38, ho18⟩⟩
theorem laws_toModuleS_K0_ok {a1 : List Module} {z2 : Nat} {f3 : Bool} {e4 : List AV} {s : St} (h5 : LR rModule 2 a1 z2 e4) {r : (List Module)} (h : laws_toModuleS_K0 a1 = some r) (hs : WF s) : ACall Cf 18 [(AV.sl z2 f3 e4)] s (fun v _ s' => ∃ (h1' : AV) (k2' : KT) (Ls' : List (List BX)), v = h1' ∧ HS [] true s s' (([] : List BX) ++ List.flatten Ls') ∧ AllG [OS oE60 h1' k2' r] Ls' ∧ h1'.one = true) true := by
 refine ACall.keepR rfl rfl rfl ?_
 have hH0 := HS.g0 (HS.initK hs)
 have hG0 := AllG.nil
 have hl : LoOK [] true s := LoOK.nil
 unfold laws_toModuleS_K0 at h
 refine AW.sr ?_
 refine AOps.p rfl (rfl : _ = (AV.sl 0 true [])) ?_
 refine AOps.nilR ?_
 refine AW.sr ?_
 refine AOps.p rfl (rfl : _ = (AV.sl z2 f3 e4)) ?_
 refine AOps.p rfl (len_eq h5) ?_
 obtain ⟨l6, h7, h⟩ := obind h
 refine AOps.mkO (e := oE60) (x0 := ((⟨0, ([] : List Link)⟩ : Module) : Module)) (fun _ => AV.sl 0 true []) hH0 hG0 rfl rfl rfl rfl rfl rfl rfl ⟨rfl, rfl, by decide⟩ h7 ⟨rfl, rfl⟩ (fun _ => ⟨_, _, [], [], rfl, rfl, ⟨rfl, rfl⟩, _, _, [], [], rfl, rfl, ⟨rfl, OS.nil (Or.inr rfl)⟩, rfl, rfl⟩) rfl ?_
 intro h8 k10 Ls11 s12 ho9 hG13 hH14
 change HS [] true s s12 (([] : List BX) ++ List.flatten Ls11) at hH14
 change AllG [OS oE60 h8 k10 l6] Ls11 at hG13
 refine AOps.assignR rfl rfl rfl (rfl : _ = h8) rfl ?_
 refine AOps.nilR ?_
 refine AW.seq ?_
 refine AW.sr ?_
 refine AOps.p rfl (rfl : _ = (AV.int .i64 0)) ?_
 refine AOps.nilR ?_
 refine AW.meet (σ := (List Module) × KT × St × (List (List BX))) (fun (out15, k16, s17, Ls18) tm os => ⟨updL tm [(3, h8)], updL os [], s17⟩) (fun (out15, k16, s17, Ls18) => (HS [] true s s17 (([] : List BX) ++ List.flatten Ls18)) ∧ (AllG [OS oE60 h8 k16 out15] Ls18) ∧ laws_toModuleS_K0_J1 out15 = some r) ?_ ?_
 ·rintro ⟨out15, k16, s17, Ls18⟩ tm os ⟨hH19, hG20, h⟩
  unfold laws_toModuleS_K0_J1 at h
  refine AW.sr ?_
  refine AOps.p rfl (rfl : _ = h8) ?_
  refine AOps.assignR rfl rfl rfl (rfl : _ = h8) rfl ?_
  refine AOps.nilR ?_
  cases h
  exact AW.ret ⟨_, _, rfl, ⟨h8, k16, Ls18, rfl, hH19, hG20, ho9⟩⟩
 intro KJ21
 refine AW.block ?_
 refine AW.res [(0, (AV.sl z2 f3 e4)), (3, h8), (4, (AV.int .i64 0))] [] ⟨rfl, rfl, rfl, trivial⟩ trivial ?_
 refine AW.loopF (σ := (List Module) × Int) (τ := KT × St × (List (List BX))) (fun (out22, i24) (k23, s25, Ls26) => (HS [] true s s25 (([] : List BX) ++ List.flatten Ls26)) ∧ (AllG [OS oE60 h8 k23 out22] Ls26)) (fun (out22, i24) (k23, s25, Ls26) tm os => ⟨updL tm [(0, (AV.sl z2 f3 e4)), (3, h8), (4, (AV.int .i64 i24))], updL os [], s25⟩) ?_ (x := (l6, 0)) (y := (k10, s12, Ls11)) h ⟨hH14, hG13⟩
 clear h
 rintro ⟨out22, i24⟩ ⟨k23, s25, Ls26⟩ tm os ⟨hH27, hG28⟩ ee1 h hL1 hR1
 unfold laws_toModuleS_K0_S1 at h
 dsimp only at h
 refine AW.seq ?_
 refine AW.sr ?_
 refine AOps.p rfl (rfl : _ = (AV.int .i64 i24)) ?_
 refine AOps.p rfl (rfl : _ = (AV.sl z2 f3 e4)) ?_
 refine AOps.p rfl (len_eq h5) ?_
 refine AOps.p rfl (rfl : _ = (AV.bool (decide ((i24 : Int) < (a1.length : Int))))) ?_
 refine AOps.nilR ?_
 rcases oite h with ⟨hc29, h⟩ | ⟨hc29, h⟩
 ·refine AW.condT (congrArg AV.bool hc29) ?_
  refine AW.skip ?_
  refine AW.seq ?_
  refine AW.block ?_
  refine AW.region ?_
  refine AOps.p rfl (rfl : _ = h8) ?_
  refine AOps.p rfl (rfl : _ = (AV.int .i64 i24)) ?_
  refine AOps.p rfl (rfl : _ = (AV.sl z2 f3 e4)) ?_
  refine AOps.p rfl (rfl : _ = (AV.int .i64 i24)) ?_
  obtain ⟨x30, h31, h⟩ := obind h
  obtain ⟨v34, h32, h33⟩ := idx_sl h5 h31
  obtain ⟨_, rfl, h35⟩ := h32
  obtain ⟨_, _, rfl, h36, h37⟩ := Cs_cons h35
  cases h36
  obtain ⟨_, _, rfl, h38, h39⟩ := Cs_cons h37
  obtain ⟨z40, f41, e42, rfl, h43⟩ := h38
  cases Cs_nil h39
  refine AOps.pureR rfl rfl rfl h33 rfl (rfl : _ = (AV.eptr [(AV.int .i64 x30.Nodes), (AV.sl z40 f41 e42)] 0)) ?_
  refine AOps.ldE (v := (AV.agg [(AV.int .i64 x30.Nodes), (AV.sl z40 f41 e42)])) rfl rfl rfl rfl rfl rfl ?_
  obtain ⟨y44, h45, h⟩ := obind h
  have hP49 := HS.pop0 hH27
  refine AOps.callF (al := true) (g := 32) (args := [(AV.agg [(AV.int .i64 x30.Nodes), (AV.sl z40 f41 e42)])]) rfl rfl rfl (laws_toModule_K0_ok h43  h45 (HS.wf' hH27)) ?_
  rintro _ _ s50 ⟨h46, k47, Ls52, rfl, hH53, hG54, ho48⟩
  have hJ55 := HS.joinK0 hP49 hH53
  obtain ⟨Ls56, Lf57, hG58, hF59, hP60⟩ := HS.pushN hJ55 hG28 hG54
  cases hF59
  have hH61 := HS.push0 hP60
  change HS [] true s s50 (([] : List BX) ++ List.flatten Ls56) at hH61
  change AllG [OS oE63 h46 k47 y44.Links, OS oE60 h8 k23 out22] Ls56 at hG58
  obtain ⟨x64, h65, h⟩ := obind h
  refine AOps.idxO (j := 1) hG58 rfl Sub.here h65 rfl rfl rfl rfl rfl rfl rfl rfl rfl ?_
  intro b62 hb63
  refine AOps.stHg (j := 1) (j2 := 0) (q := 0) (y' := y44) hH61 hG58 hl rfl rfl (by decide) h65 hb63 rfl rfl rfl rfl rfl rfl (lay_cons rfl (lay_cons ho48 lay_nil)) rfl (lt_b rfl) (le_b rfl) rfl (fun ρ => match ρ with | [] => AV.undef | a :: ρ => if a = 1 then (match ρ with | [] => h46 | b :: σ => k47 (b :: σ)) else AV.undef) (fun c B L2 hc hO => by rw [over_all (OT.len _ hc)]; exact ⟨_, _, [], L2, rfl, rfl, ⟨rfl, rfl⟩, _, _, L2, [], rfl, (List.append_nil _).symm, ⟨rfl, OS.own' hO rfl (fun _ _ => rfl)⟩, rfl, rfl⟩) ?_
  intro k66 Ls67 s68 hG69 hH70
  change HS [] true s s68 (([] : List BX) ++ List.flatten Ls67) at hH70
  change AllG [(fun L => L = []), OS oE60 h8 k66 (out22.set (Int.toNat i24) y44)] Ls67 at hG69
  refine AOps.nilR ?_
  refine AW.inBlock ?_
  refine AW.region ?_
  refine AOps.p rfl (rfl : _ = (AV.int .i64 i24)) ?_
  refine AOps.p rfl (rfl : _ = (AV.int .i64 (IntKind.wrap .i64 (i24 + 1)))) ?_
  refine AOps.assignR rfl rfl rfl (rfl : _ = (AV.int .i64 (IntKind.wrap .i64 (i24 + 1)))) rfl ?_
  refine AOps.nilR ?_
  cases h
  obtain ⟨Ls71, hG72, hH73⟩ := HS.selEG hH70 hG69 [] [some 1]
  change HS [] true s s68 (([] : List BX) ++ List.flatten Ls71) at hH73
  change AllG [OS oE60 h8 k66 (out22.set (Int.toNat i24) y44)] Ls71 at hG72
  exact AW.res [(0, (AV.sl z2 f3 e4)), (3, h8), (4, (AV.int .i64 (IntKind.wrap .i64 (i24 + 1))))] [] ⟨rfl, rfl, rfl, trivial⟩ trivial (hL1 _ rfl (k66, s68, Ls71) _ _ ⟨hH73, hG72⟩)
 refine AW.condF (congrArg AV.bool hc29) ?_
 refine AW.exit rfl ?_
 obtain ⟨r74, hm, hx⟩ := omap h
 clear h
 subst hx
 have hx := hR1 _ rfl
 rw [hx] at hm
 have h := hm
 exact AW.res [(3, h8)] [] ⟨rfl, trivial⟩ trivial (KJ21 (out22, k23, s25, Ls26) _ _ ⟨hH27, hG28, h⟩)
theorem laws_toProgram_K0_ok {a1 : ProgramT} {z2 : Nat} {f3 : Bool} {e4 : List AV} {s : St} (h5 : LR rModule 2 a1.Modules z2 e4) {r : ProgramT} (h : laws_toProgram_K0 a1 = some r) (hs : WF s) : ACall Cf 6 [(AV.agg [(AV.sl z2 f3 e4)])] s (fun v _ s' => ∃ (h1' : AV) (k2' : KT) (Ls' : List (List BX)), v = (AV.agg [h1']) ∧ HS [] true s s' (([] : List BX) ++ List.flatten Ls') ∧ AllG [OS oE60 h1' k2' r.Modules] Ls' ∧ h1'.one = true) true := by
 refine ACall.keepR rfl rfl rfl ?_
 have hH0 := HS.g0 (HS.initK hs)
 have hG0 := AllG.nil
 have hl : LoOK [] true s := LoOK.nil
 unfold laws_toProgram_K0 at h
 refine AW.sr ?_
 refine AOps.makeR rfl rfl rfl rfl rfl rfl (rfl : _ = (AV.eptr [(AV.sl z2 f3 e4)] 0)) ?_
 refine AOps.allocP rfl rfl rfl rfl ⟨rfl, rfl⟩ rfl ?_
 refine AOps.nilR ?_
 refine AW.sr ?_
 refine AOps.alloc1 hH0 rfl rfl rfl rfl rfl rfl ?_
 intro b6 s7 hH8
 change HS [] true s s7 (([⟨some b6, [(AV.sl 0 true [])], (fun _ => false)⟩] : List BX) ++ List.flatten ([] : List (List BX))) at hH8
 refine AOps.nilR ?_
 refine AW.sr ?_
 refine AOps.p rfl (rfl : _ = (AV.eptr [(AV.sl z2 f3 e4)] 0)) ?_
 refine AOps.ldE (v := (AV.sl z2 f3 e4)) rfl rfl rfl rfl rfl rfl ?_
 obtain ⟨y9, h10, h⟩ := obind h
 have hP14 := HS.pop0 hH8
 refine AOps.callF (al := true) (g := 18) (args := [(AV.sl z2 f3 e4)]) rfl rfl rfl (laws_toModuleS_K0_ok h5  h10 (HS.wf' hH8)) ?_
 rintro h11 _ s15 ⟨_, k12, Ls17, rfl, hH18, hG19, ho13⟩
 have hJ20 := HS.joinK0 hP14 hH18
 obtain ⟨Ls21, Lf22, hG23, hF24, hP25⟩ := HS.pushN hJ20 hG0 hG19
 cases hF24
 have hH26 := HS.push0 hP25
 change HS [] true s s15 (([⟨some b6, [(AV.sl 0 true [])], (fun _ => false)⟩] : List BX) ++ List.flatten Ls21) at hH26
 change AllG [OS oE60 h11 k12 y9] Ls21 at hG23
 refine AOps.p rfl (rfl : _ = (AV.ptr b6 0)) ?_
 refine AOps.stE (i := 0) (v := h11) hH26 hl rfl rfl rfl rfl rfl rfl rfl (one_lay ho13) (one_len ho13) (lt_b rfl) (le_b rfl) rfl ?_
 intro w27 s28 h29 h30 hH31
 rw [AV.cells_one ho13] at hH31
 change HS [] true s s28 (([⟨some b6, [h11], w27⟩] : List BX) ++ List.flatten Ls21) at hH31
 refine AOps.nilR ?_
 refine AW.sr ?_
 refine AOps.ldB (i := 0) (v := (AV.agg [h11])) hH31 rfl rfl rfl rfl rfl rfl rfl rfl rfl ?_
 refine AOps.stP (v := (AV.agg [h11])) rfl rfl rfl rfl rfl rfl rfl (lay_cons ho13 lay_nil) rfl (lt_b rfl) rfl ?_
 refine AOps.nilR ?_
 cases h
 obtain ⟨Ls32, hG33, hH34⟩ := HS.selEG hH31 hG23 [] [some 0]
 exact AW.ret ⟨_, _, rfl, ⟨h11, k12, Ls32, rfl, hH34, hG33, ho13⟩⟩
theorem impl_size_impl_Module_ok {list1 : List Module} {z2 : Nat} {f3 : Bool} {e4 : List AV} {s : St} (h5 : LR rModule 2 list1 z2 e4) {r : Int} (h : impl_size_impl_Module list1 = some r) (hs : WF s) : ACall Cf 50 [(AV.sl z2 f3 e4)] s fun v _ s' => (rI .i64) r v ∧ s' = s := by
 refine ACall.pure rfl rfl rfl .I ?_
 have hWF := hs.lo'
 unfold impl_size_impl_Module at h
 refine AW.sr ?_
 refine AOps.p rfl (rfl : _ = (AV.int .i64 0)) ?_
 refine AOps.nilR ?_
 refine AW.sr ?_
 refine AOps.p rfl (rfl : _ = (AV.sl z2 f3 e4)) ?_
 refine AOps.p rfl (len_eq h5) ?_
 refine AOps.assignR rfl rfl rfl (rfl : _ = (AV.int .i64 (list1.length : Int))) rfl ?_
 refine AOps.nilR ?_
 cases h
 exact AW.ret ⟨rfl, _, _, rfl, rfl⟩
theorem impl_within_ok {n1 : Int} {low2 : Int} {high3 : Int} {s : St} {r : Bool} (h : impl_within n1 low2 high3 = some r) (hs : WF s) : ACall Cf 51 [(AV.int .i64 n1), (AV.int .i64 low2), (AV.int .i64 high3)] s fun v _ s' => (rB) r v ∧ s' = s := by
 refine ACall.pure rfl rfl rfl .B ?_
 have hWF := hs.lo'
 unfold impl_within at h
 refine AW.sr ?_
 refine AOps.p rfl (rfl : _ = (AV.bool false)) ?_
 refine AOps.nilR ?_
 refine AW.sr ?_
 refine AOps.p rfl (rfl : _ = (AV.int .i64 n1)) ?_
 refine AOps.p rfl (rfl : _ = (AV.int .i64 low2)) ?_
 refine AOps.p rfl (rfl : _ = (AV.bool (decide ((n1 : Int) ≥ low2)))) ?_
 refine AOps.p rfl (rfl : _ = (AV.bool (decide ((n1 : Int) ≥ low2)))) ?_
 refine AOps.split 4 (fun f' => ∃ tm' os', f' = ⟨updL tm' [(14, (AV.bool ((decide ((n1 : Int) ≥ low2)) && (decide ((n1 : Int) ≤ high3)))))], updL os' [], { s with lo := s.n }⟩) ?_ ?_
 ·rcases Bool.eq_false_or_eq_true (decide ((n1 : Int) ≥ low2)) with hc4 | hc4
  ·refine AOps.know (d := 10) rfl hc4 ?_
   refine AOps.p rfl (rfl : _ = (AV.int .i64 n1)) ?_
   refine AOps.p rfl (rfl : _ = (AV.int .i64 high3)) ?_
   refine AOps.p rfl (rfl : _ = (AV.bool (decide ((n1 : Int) ≤ high3)))) ?_
   refine AOps.p rfl (rfl : _ = (AV.bool (decide ((n1 : Int) ≤ high3)))) ?_
   refine AOps.resR [(14, (AV.bool ((decide ((n1 : Int) ≥ low2)) && (decide ((n1 : Int) ≤ high3)))))] [] ?_ ?_ _ ⟨_, _, rfl⟩
   ·exact ⟨congrArg AV.bool (and_t hc4), trivial⟩
   exact trivial
  ·refine AOps.know (d := 10) rfl hc4 ?_
   refine AOps.skipR rfl rfl ?_
   refine AOps.skipR rfl rfl ?_
   refine AOps.skipR rfl rfl ?_
   refine AOps.p rfl (rfl : _ = (AV.bool false)) ?_
   refine AOps.resR [(14, (AV.bool ((decide ((n1 : Int) ≥ low2)) && (decide ((n1 : Int) ≤ high3)))))] [] ?_ ?_ _ ⟨_, _, rfl⟩
   ·exact ⟨congrArg AV.bool (and_f hc4), trivial⟩
   exact trivial
 rintro _ ⟨tm, os, rfl⟩
 refine AOps.assignR rfl rfl rfl (rfl : _ = (AV.bool ((decide ((n1 : Int) ≥ low2)) && (decide ((n1 : Int) ≤ high3))))) rfl ?_
 refine AOps.nilR ?_
 cases h
 exact AW.ret ⟨rfl, _, _, rfl, rfl⟩
theorem slices_IndexFunc_simpl_Module_impl_Module_ok {s1 : List Module} {f6 : Module → Option Bool} {z2 : Nat} {f3 : Bool} {e4 : List AV} {g7 : Nat} {cap8 : List AV} {s : St} (h5 : LR rModule 2 s1 z2 e4) (h9 : ∀ x vs y, Cs [rModule x] vs → f6 x = some y → ∀ s, WF s → ACall Cf g7 (vs ++ cap8) s fun v _ s' => (rB) y v ∧ s' = s) {r : Int} (h : slices_IndexFunc_simpl_Module_impl_Module s1 f6 = some r) (hs : WF s) : ACall Cf 70 [(AV.sl z2 f3 e4), (AV.fn g7 cap8)] s fun v _ s' => (rI .i64) r v ∧ s' = s := by
 refine ACall.pure rfl rfl rfl .I ?_
 have hWF := hs.lo'
 unfold slices_IndexFunc_simpl_Module_impl_Module at h
 refine AW.sr ?_
 refine AOps.p rfl (rfl : _ = (AV.int .i64 0)) ?_
 refine AOps.nilR ?_
 refine AW.seq ?_
 refine AW.sr ?_
 refine AOps.p rfl (rfl : _ = (AV.sl z2 f3 e4)) ?_
 refine AOps.p rfl (len_eq h5) ?_
 refine AOps.p rfl (rfl : _ = (AV.int .i64 0)) ?_
 refine AOps.nilR ?_
 refine AW.meet (σ := Unit) (fun _ tm os => ⟨updL tm [], updL os [], { s with lo := s.n }⟩) (fun _ => slices_IndexFunc_simpl_Module_impl_Module_J1 = some r) ?_ ?_
 ·rintro _ tm os h
  unfold slices_IndexFunc_simpl_Module_impl_Module_J1 at h
  refine AW.sr ?_
  refine AOps.p rfl (rfl : _ = (AV.int .i64 (-1))) ?_
  refine AOps.nilR ?_
  cases h
  exact AW.ret ⟨rfl, _, _, rfl, rfl⟩
 intro KJ10
 refine AW.block ?_
 refine AW.res [(0, (AV.sl z2 f3 e4)), (1, (AV.fn g7 cap8)), (7, (AV.int .i64 (s1.length : Int))), (8, (AV.int .i64 0))] [] ⟨rfl, rfl, rfl, rfl, trivial⟩ trivial ?_
 refine AW.loopF (σ := Int) (τ := Unit) (fun t11 _ => True) (fun t11 _ tm os => ⟨updL tm [(0, (AV.sl z2 f3 e4)), (1, (AV.fn g7 cap8)), (7, (AV.int .i64 (s1.length : Int))), (8, (AV.int .i64 t11))], updL os [], { s with lo := s.n }⟩) ?_ (x := (0)) (y := ()) h trivial
 clear h
 rintro t11 _ tm os - ee1 h hL1 hR1
 unfold slices_IndexFunc_simpl_Module_impl_Module_S1 at h
 refine AW.sr ?_
 refine AOps.p rfl (rfl : _ = (AV.bool (decide ((t11 : Int) < (s1.length : Int))))) ?_
 refine AOps.nilR ?_
 refine AW.seq ?_
 rcases oite h with ⟨hc12, h⟩ | ⟨hc12, h⟩
 ·refine AW.condT (congrArg AV.bool hc12) ?_
  refine AW.skip ?_
  refine AW.seq ?_
  refine AW.block ?_
  refine AW.sr ?_
  refine AOps.p rfl (rfl : _ = (AV.int .i64 t11)) ?_
  refine AOps.assignR rfl rfl rfl (rfl : _ = (AV.int .i64 t11)) rfl ?_
  refine AOps.nilR ?_
  refine AW.sr ?_
  refine AOps.p rfl (rfl : _ = (AV.fn g7 cap8)) ?_
  refine AOps.p rfl (rfl : _ = (AV.sl z2 f3 e4)) ?_
  refine AOps.p rfl (rfl : _ = (AV.int .i64 t11)) ?_
  obtain ⟨x13, h14, h⟩ := obind h
  obtain ⟨v17, h15, h16⟩ := idx_sl h5 h14
  obtain ⟨_, rfl, h18⟩ := h15
  obtain ⟨_, _, rfl, h19, h20⟩ := Cs_cons h18
  cases h19
  obtain ⟨_, _, rfl, h21, h22⟩ := Cs_cons h20
  obtain ⟨z23, f24, e25, rfl, h26⟩ := h21
  cases Cs_nil h22
  refine AOps.pureR rfl rfl rfl h16 rfl (rfl : _ = (AV.eptr [(AV.int .i64 x13.Nodes), (AV.sl z23 f24 e25)] 0)) ?_
  refine AOps.ldE (v := (AV.agg [(AV.int .i64 x13.Nodes), (AV.sl z23 f24 e25)])) rfl rfl rfl rfl rfl rfl ?_
  obtain ⟨y27, h28, h⟩ := obind h
  refine AOps.callP (g := g7) (args := ([(AV.agg [(AV.int .i64 x13.Nodes), (AV.sl z23 f24 e25)])] ++ cap8)) (p := (rB) y27) rfl rfl rfl (h9 x13 _ _ (.cons ⟨_, rfl, (.cons rfl (.cons ⟨_, _, _, rfl, h26⟩ .nil))⟩ .nil) h28 _ hWF) ?_
  intro _ o30 h29
  cases h29
  refine AOps.nilR ?_
  rcases oite h with ⟨hc31, h⟩ | ⟨hc31, h⟩
  ·refine AW.condT (congrArg AV.bool hc31) ?_
   refine AW.sr ?_
   refine AOps.p rfl (rfl : _ = (AV.int .i64 t11)) ?_
   refine AOps.assignR rfl rfl rfl (rfl : _ = (AV.int .i64 t11)) rfl ?_
   refine AOps.nilR ?_
   cases h
   have hr := hR1 _ rfl
   subst hr
   exact AW.ret ⟨rfl, _, _, rfl, rfl⟩
  refine AW.condF (congrArg AV.bool hc31) ?_
  refine AW.skip ?_
  refine AW.inBlock ?_
  refine AW.region ?_
  refine AOps.p rfl (rfl : _ = (AV.int .i64 (IntKind.wrap .i64 (t11 + 1)))) ?_
  refine AOps.p rfl (rfl : _ = (AV.int .i64 (IntKind.wrap .i64 (t11 + 1)))) ?_
  refine AOps.nilR ?_
  cases h
  exact AW.res [(0, (AV.sl z2 f3 e4)), (1, (AV.fn g7 cap8)), (7, (AV.int .i64 (s1.length : Int))), (8, (AV.int .i64 (IntKind.wrap .i64 (t11 + 1))))] [] ⟨rfl, rfl, rfl, rfl, trivial⟩ trivial (hL1 _ rfl () _ _ trivial)
 refine AW.condF (congrArg AV.bool hc12) ?_
 refine AW.exit rfl ?_
 obtain ⟨r32, hm, hx⟩ := omap h
 clear h
 subst hx
 have hx := hR1 _ rfl
 rw [hx] at hm
 have h := hm
 exact AW.res [] [] trivial trivial (KJ10 () _ _ h)
theorem slices_ContainsFunc_simpl_Module_impl_Module_ok {s1 : List Module} {f6 : Module → Option Bool} {z2 : Nat} {f3 : Bool} {e4 : List AV} {g7 : Nat} {cap8 : List AV} {s : St} (h5 : LR rModule 2 s1 z2 e4) (h9 : ∀ x vs y, Cs [rModule x] vs → f6 x = some y → ∀ s, WF s → ACall Cf g7 (vs ++ cap8) s fun v _ s' => (rB) y v ∧ s' = s) {r : Bool} (h : slices_ContainsFunc_simpl_Module_impl_Module s1 f6 = some r) (hs : WF s) : ACall Cf 52 [(AV.sl z2 f3 e4), (AV.fn g7 cap8)] s fun v _ s' => (rB) r v ∧ s' = s := by
 refine ACall.pure rfl rfl rfl .B ?_
 have hWF := hs.lo'
 unfold slices_ContainsFunc_simpl_Module_impl_Module at h
 refine AW.sr ?_
 refine AOps.p rfl (rfl : _ = (AV.bool false)) ?_
 refine AOps.nilR ?_
 refine AW.sr ?_
 refine AOps.p rfl (rfl : _ = (AV.sl z2 f3 e4)) ?_
 refine AOps.p rfl (rfl : _ = (AV.fn g7 cap8)) ?_
 obtain ⟨y10, h11, h⟩ := obind h
 refine AOps.callP (g := 70) (args := [(AV.sl z2 f3 e4), (AV.fn g7 cap8)]) (p := (rI .i64) y10) rfl rfl rfl (slices_IndexFunc_simpl_Module_impl_Module_ok h5 h9 h11 hWF) ?_
 intro _ o13 h12
 cases h12
 refine AOps.p rfl (rfl : _ = (AV.bool (decide ((y10 : Int) ≥ 0)))) ?_
 refine AOps.assignR rfl rfl rfl (rfl : _ = (AV.bool (decide ((y10 : Int) ≥ 0)))) rfl ?_
 refine AOps.nilR ?_
 cases h
 exact AW.ret ⟨rfl, _, _, rfl, rfl⟩
theorem slices_IndexFunc_simpl_Link_impl_Link_ok {s1 : List Link} {f6 : Link → Option Bool} {z2 : Nat} {f3 : Bool} {e4 : List AV} {g7 : Nat} {cap8 : List AV} {s : St} (h5 : LR rLink 4 s1 z2 e4) (h9 : ∀ x vs y, Cs [rLink x] vs → f6 x = some y → ∀ s, WF s → ACall Cf g7 (vs ++ cap8) s fun v _ s' => (rB) y v ∧ s' = s) {r : Int} (h : slices_IndexFunc_simpl_Link_impl_Link s1 f6 = some r) (hs : WF s) : ACall Cf 71 [(AV.sl z2 f3 e4), (AV.fn g7 cap8)] s fun v _ s' => (rI .i64) r v ∧ s' = s := by
 refine ACall.pure rfl rfl rfl .I ?_
 have hWF := hs.lo'
 unfold slices_IndexFunc_simpl_Link_impl_Link at h
 refine AW.sr ?_
 refine AOps.p rfl (rfl : _ = (AV.int .i64 0)) ?_
 refine AOps.nilR ?_
 refine AW.seq ?_
 refine AW.sr ?_
 refine AOps.p rfl (rfl : _ = (AV.sl z2 f3 e4)) ?_
 refine AOps.p rfl (len_eq h5) ?_
 refine AOps.p rfl (rfl : _ = (AV.int .i64 0)) ?_
 refine AOps.nilR ?_
 refine AW.meet (σ := Unit) (fun _ tm os => ⟨updL tm [], updL os [], { s with lo := s.n }⟩) (fun _ => slices_IndexFunc_simpl_Link_impl_Link_J1 = some r) ?_ ?_
 ·rintro _ tm os h
  unfold slices_IndexFunc_simpl_Link_impl_Link_J1 at h
  refine AW.sr ?_
  refine AOps.p rfl (rfl : _ = (AV.int .i64 (-1))) ?_
  refine AOps.nilR ?_
  cases h
  exact AW.ret ⟨rfl, _, _, rfl, rfl⟩
 intro KJ10
 refine AW.block ?_
 refine AW.res [(0, (AV.sl z2 f3 e4)), (1, (AV.fn g7 cap8)), (7, (AV.int .i64 (s1.length : Int))), (8, (AV.int .i64 0))] [] ⟨rfl, rfl, rfl, rfl, trivial⟩ trivial ?_
 refine AW.loopF (σ := Int) (τ := Unit) (fun t11 _ => True) (fun t11 _ tm os => ⟨updL tm [(0, (AV.sl z2 f3 e4)), (1, (AV.fn g7 cap8)), (7, (AV.int .i64 (s1.length : Int))), (8, (AV.int .i64 t11))], updL os [], { s with lo := s.n }⟩) ?_ (x := (0)) (y := ()) h trivial
 clear h
 rintro t11 _ tm os - ee1 h hL1 hR1
 unfold slices_IndexFunc_simpl_Link_impl_Link_S1 at h
 refine AW.sr ?_
 refine AOps.p rfl (rfl : _ = (AV.bool (decide ((t11 : Int) < (s1.length : Int))))) ?_
 refine AOps.nilR ?_
 refine AW.seq ?_
 rcases oite h with ⟨hc12, h⟩ | ⟨hc12, h⟩
 ·refine AW.condT (congrArg AV.bool hc12) ?_
  refine AW.skip ?_
  refine AW.seq ?_
  refine AW.block ?_
  refine AW.sr ?_
  refine AOps.p rfl (rfl : _ = (AV.int .i64 t11)) ?_
  refine AOps.assignR rfl rfl rfl (rfl : _ = (AV.int .i64 t11)) rfl ?_
  refine AOps.nilR ?_
  refine AW.sr ?_
  refine AOps.p rfl (rfl : _ = (AV.fn g7 cap8)) ?_
  refine AOps.p rfl (rfl : _ = (AV.sl z2 f3 e4)) ?_
  refine AOps.p rfl (rfl : _ = (AV.int .i64 t11)) ?_
  obtain ⟨x13, h14, h⟩ := obind h
  obtain ⟨v17, h15, h16⟩ := idx_sl h5 h14
  obtain ⟨_, rfl, h18⟩ := h15
  obtain ⟨_, _, rfl, h19, h20⟩ := Cs_cons h18
  cases h19
  obtain ⟨_, _, rfl, h21, h22⟩ := Cs_cons h20
  cases h21
  obtain ⟨_, _, rfl, h23, h24⟩ := Cs_cons h22
  cases h23
  obtain ⟨_, _, rfl, h25, h26⟩ := Cs_cons h24
  cases h25
  cases Cs_nil h26
  refine AOps.pureR rfl rfl rfl h16 rfl (rfl : _ = (AV.eptr [(AV.int .i64 x13.From), (AV.int .i64 x13.To), (AV.str x13.Act), (AV.int .i64 x13.Module)] 0)) ?_
  refine AOps.ldE (v := (AV.agg [(AV.int .i64 x13.From), (AV.int .i64 x13.To), (AV.str x13.Act), (AV.int .i64 x13.Module)])) rfl rfl rfl rfl rfl rfl ?_
  obtain ⟨y27, h28, h⟩ := obind h
  refine AOps.callP (g := g7) (args := ([(AV.agg [(AV.int .i64 x13.From), (AV.int .i64 x13.To), (AV.str x13.Act), (AV.int .i64 x13.Module)])] ++ cap8)) (p := (rB) y27) rfl rfl rfl (h9 x13 _ _ (.cons ⟨_, rfl, (.cons rfl (.cons rfl (.cons rfl (.cons rfl .nil))))⟩ .nil) h28 _ hWF) ?_
  intro _ o30 h29
  cases h29
  refine AOps.nilR ?_
  rcases oite h with ⟨hc31, h⟩ | ⟨hc31, h⟩
  ·refine AW.condT (congrArg AV.bool hc31) ?_
   refine AW.sr ?_
   refine AOps.p rfl (rfl : _ = (AV.int .i64 t11)) ?_
   refine AOps.assignR rfl rfl rfl (rfl : _ = (AV.int .i64 t11)) rfl ?_
   refine AOps.nilR ?_
   cases h
   have hr := hR1 _ rfl
   subst hr
   exact AW.ret ⟨rfl, _, _, rfl, rfl⟩
  refine AW.condF (congrArg AV.bool hc31) ?_
  refine AW.skip ?_
  refine AW.inBlock ?_
  refine AW.region ?_
  refine AOps.p rfl (rfl : _ = (AV.int .i64 (IntKind.wrap .i64 (t11 + 1)))) ?_
  refine AOps.p rfl (rfl : _ = (AV.int .i64 (IntKind.wrap .i64 (t11 + 1)))) ?_
  refine AOps.nilR ?_
  cases h
  exact AW.res [(0, (AV.sl z2 f3 e4)), (1, (AV.fn g7 cap8)), (7, (AV.int .i64 (s1.length : Int))), (8, (AV.int .i64 (IntKind.wrap .i64 (t11 + 1))))] [] ⟨rfl, rfl, rfl, rfl, trivial⟩ trivial (hL1 _ rfl () _ _ trivial)
 refine AW.condF (congrArg AV.bool hc12) ?_
 refine AW.exit rfl ?_
 obtain ⟨r32, hm, hx⟩ := omap h
 clear h
 subst hx
 have hx := hR1 _ rfl
 rw [hx] at hm
 have h := hm
 exact AW.res [] [] trivial trivial (KJ10 () _ _ h)
theorem slices_ContainsFunc_simpl_Link_impl_Link_ok {s1 : List Link} {f6 : Link → Option Bool} {z2 : Nat} {f3 : Bool} {e4 : List AV} {g7 : Nat} {cap8 : List AV} {s : St} (h5 : LR rLink 4 s1 z2 e4) (h9 : ∀ x vs y, Cs [rLink x] vs → f6 x = some y → ∀ s, WF s → ACall Cf g7 (vs ++ cap8) s fun v _ s' => (rB) y v ∧ s' = s) {r : Bool} (h : slices_ContainsFunc_simpl_Link_impl_Link s1 f6 = some r) (hs : WF s) : ACall Cf 54 [(AV.sl z2 f3 e4), (AV.fn g7 cap8)] s fun v _ s' => (rB) r v ∧ s' = s := by
 refine ACall.pure rfl rfl rfl .B ?_
 have hWF := hs.lo'
 unfold slices_ContainsFunc_simpl_Link_impl_Link at h
 refine AW.sr ?_
 refine AOps.p rfl (rfl : _ = (AV.bool false)) ?_
 refine AOps.nilR ?_
 refine AW.sr ?_
 refine AOps.p rfl (rfl : _ = (AV.sl z2 f3 e4)) ?_
 refine AOps.p rfl (rfl : _ = (AV.fn g7 cap8)) ?_
 obtain ⟨y10, h11, h⟩ := obind h
 refine AOps.callP (g := 71) (args := [(AV.sl z2 f3 e4), (AV.fn g7 cap8)]) (p := (rI .i64) y10) rfl rfl rfl (slices_IndexFunc_simpl_Link_impl_Link_ok h5 h9 h11 hWF) ?_
 intro _ o13 h12
 cases h12
 refine AOps.p rfl (rfl : _ = (AV.bool (decide ((y10 : Int) ≥ 0)))) ?_
 refine AOps.assignR rfl rfl rfl (rfl : _ = (AV.bool (decide ((y10 : Int) ≥ 0)))) rfl ?_
 refine AOps.nilR ?_
 cases h
 exact AW.ret ⟨rfl, _, _, rfl, rfl⟩
theorem impl_isCall_ok {c1 : Int} {s : St} {r : Bool} (h : impl_isCall c1 = some r) (hs : WF s) : ACall Cf 62 [(AV.int .u8 c1)] s fun v _ s' => (rB) r v ∧ s' = s := by
 refine ACall.pure rfl rfl rfl .B ?_
 have hWF := hs.lo'
 unfold impl_isCall at h
 refine AW.sr ?_
 refine AOps.p rfl (rfl : _ = (AV.bool false)) ?_
 refine AOps.nilR ?_
 refine AW.sr ?_
 refine AOps.p rfl (rfl : _ = (AV.int .u8 c1)) ?_
 refine AOps.p rfl (rfl : _ = (AV.bool (c1 == 40))) ?_
 refine AOps.p rfl (rfl : _ = (AV.bool (c1 == 40))) ?_
 refine AOps.split 3 (fun f' => ∃ tm' os', f' = ⟨updL tm' [(8, (AV.bool ((c1 == 40) || (c1 == 91))))], updL os' [], { s with lo := s.n }⟩) ?_ ?_
 ·rcases Bool.eq_false_or_eq_true (c1 == 40) with hc2 | hc2
  ·refine AOps.know (d := 5) rfl hc2 ?_
   refine AOps.skipR rfl rfl ?_
   refine AOps.skipR rfl rfl ?_
   refine AOps.p rfl (rfl : _ = (AV.bool true)) ?_
   refine AOps.resR [(8, (AV.bool ((c1 == 40) || (c1 == 91))))] [] ?_ ?_ _ ⟨_, _, rfl⟩
   ·exact ⟨congrArg AV.bool (or_t hc2), trivial⟩
   exact trivial
  ·refine AOps.know (d := 5) rfl hc2 ?_
   refine AOps.p rfl (rfl : _ = (AV.int .u8 c1)) ?_
   refine AOps.p rfl (rfl : _ = (AV.bool (c1 == 91))) ?_
   refine AOps.p rfl (rfl : _ = (AV.bool (c1 == 91))) ?_
   refine AOps.resR [(8, (AV.bool ((c1 == 40) || (c1 == 91))))] [] ?_ ?_ _ ⟨_, _, rfl⟩
   ·exact ⟨congrArg AV.bool (or_f hc2), trivial⟩
   exact trivial
 rintro _ ⟨tm, os, rfl⟩
 refine AOps.assignR rfl rfl rfl (rfl : _ = (AV.bool ((c1 == 40) || (c1 == 91)))) rfl ?_
 refine AOps.nilR ?_
 cases h
 exact AW.ret ⟨rfl, _, _, rfl, rfl⟩
theorem impl_isReturn_ok {c1 : Int} {s : St} {r : Bool} (h : impl_isReturn c1 = some r) (hs : WF s) : ACall Cf 61 [(AV.int .u8 c1)] s fun v _ s' => (rB) r v ∧ s' = s := by
 refine ACall.pure rfl rfl rfl .B ?_
 have hWF := hs.lo'
 unfold impl_isReturn at h
 refine AW.sr ?_
 refine AOps.p rfl (rfl : _ = (AV.bool false)) ?_
 refine AOps.nilR ?_
 refine AW.sr ?_
 refine AOps.p rfl (rfl : _ = (AV.int .u8 c1)) ?_
 refine AOps.p rfl (rfl : _ = (AV.bool (c1 == 41))) ?_
 refine AOps.p rfl (rfl : _ = (AV.bool (c1 == 41))) ?_
 refine AOps.split 3 (fun f' => ∃ tm' os', f' = ⟨updL tm' [(8, (AV.bool ((c1 == 41) || (c1 == 93))))], updL os' [], { s with lo := s.n }⟩) ?_ ?_
 ·rcases Bool.eq_false_or_eq_true (c1 == 41) with hc2 | hc2
  ·refine AOps.know (d := 5) rfl hc2 ?_
   refine AOps.skipR rfl rfl ?_
   refine AOps.skipR rfl rfl ?_
   refine AOps.p rfl (rfl : _ = (AV.bool true)) ?_
   refine AOps.resR [(8, (AV.bool ((c1 == 41) || (c1 == 93))))] [] ?_ ?_ _ ⟨_, _, rfl⟩
   ·exact ⟨congrArg AV.bool (or_t hc2), trivial⟩
   exact trivial
  ·refine AOps.know (d := 5) rfl hc2 ?_
   refine AOps.p rfl (rfl : _ = (AV.int .u8 c1)) ?_
   refine AOps.p rfl (rfl : _ = (AV.bool (c1 == 93))) ?_
   refine AOps.p rfl (rfl : _ = (AV.bool (c1 == 93))) ?_
   refine AOps.resR [(8, (AV.bool ((c1 == 41) || (c1 == 93))))] [] ?_ ?_ _ ⟨_, _, rfl⟩
   ·exact ⟨congrArg AV.bool (or_f hc2), trivial⟩
   exact trivial
 rintro _ ⟨tm, os, rfl⟩
 refine AOps.assignR rfl rfl rfl (rfl : _ = (AV.bool ((c1 == 41) || (c1 == 93)))) rfl ?_
 refine AOps.nilR ?_
 cases h
 exact AW.ret ⟨rfl, _, _, rfl, rfl⟩
theorem impl_isBrackets_ok {p0_1 : List UInt8} {s : St} {r : Bool} (h : impl_isBrackets p0_1 = some r) (hs : WF s) : ACall Cf 56 [(AV.str p0_1)] s fun v _ s' => (rB) r v ∧ s' = s := by
 refine ACall.pure rfl rfl rfl .B ?_
 have hWF := hs.lo'
 unfold impl_isBrackets at h
 refine AW.sr ?_
 refine AOps.p rfl (rfl : _ = (AV.bool false)) ?_
 refine AOps.nilR ?_
 refine AW.sr ?_
 refine AOps.p rfl (rfl : _ = (AV.str p0_1)) ?_
 refine AOps.p rfl (rfl : _ = (AV.int .i64 (p0_1.length : Int))) ?_
 refine AOps.p rfl (rfl : _ = (AV.bool ((p0_1.length : Int) == 2))) ?_
 refine AOps.p rfl (rfl : _ = (AV.bool ((p0_1.length : Int) == 2))) ?_
 obtain ⟨b3, hb, h⟩ := obind h
 refine AOps.split 4 (fun f' => ∃ tm' os', f' = ⟨updL tm' [(0, (AV.str p0_1)), (10, (AV.bool b3))], updL os' [], { s with lo := s.n }⟩) ?_ ?_
 ·rcases oite hb with ⟨hc2, hb⟩ | ⟨hc2, hb⟩
  ·have h := hb
   refine AOps.know (d := 6) rfl hc2 ?_
   refine AOps.p rfl (rfl : _ = (AV.str p0_1)) ?_
   obtain ⟨c4, h5, h⟩ := obind h
   refine AOps.pureR rfl rfl rfl (chr_str h5) rfl (rfl : _ = (AV.int .u8 c4)) ?_
   obtain ⟨y6, h7, h⟩ := obind h
   refine AOps.callP (g := 62) (args := [(AV.int .u8 c4)]) (p := (rB) y6) rfl rfl rfl (impl_isCall_ok  h7 hWF) ?_
   intro _ o9 h8
   cases h8
   refine AOps.p rfl (rfl : _ = (AV.bool y6)) ?_
   refine AOps.resR [(0, (AV.str p0_1)), (10, (AV.bool b3))] [] ?_ ?_ _ ⟨_, _, rfl⟩
   ·exact ⟨rfl, congrArg AV.bool (Option.some.inj h), trivial⟩
   exact trivial
  ·refine AOps.know (d := 6) rfl hc2 ?_
   refine AOps.skipR rfl rfl ?_
   refine AOps.skipR rfl rfl ?_
   refine AOps.skipR rfl rfl ?_
   refine AOps.p rfl (rfl : _ = (AV.bool false)) ?_
   refine AOps.resR [(0, (AV.str p0_1)), (10, (AV.bool b3))] [] ?_ ?_ _ ⟨_, _, rfl⟩
   ·exact ⟨rfl, congrArg AV.bool (Option.some.inj hb), trivial⟩
   exact trivial
 rintro _ ⟨tm, os, rfl⟩
 refine AOps.p rfl (rfl : _ = (AV.bool b3)) ?_
 obtain ⟨b11, hb, h⟩ := obind h
 refine AOps.split 4 (fun f' => ∃ tm' os', f' = ⟨updL tm' [(15, (AV.bool b11))], updL os' [], { s with lo := s.n }⟩) ?_ ?_
 ·rcases oite hb with ⟨hc10, hb⟩ | ⟨hc10, hb⟩
  ·have h := hb
   refine AOps.know (d := 11) rfl hc10 ?_
   refine AOps.p rfl (rfl : _ = (AV.str p0_1)) ?_
   obtain ⟨c12, h13, h⟩ := obind h
   refine AOps.pureR rfl rfl rfl (chr_str h13) rfl (rfl : _ = (AV.int .u8 c12)) ?_
   obtain ⟨y14, h15, h⟩ := obind h
   refine AOps.callP (g := 61) (args := [(AV.int .u8 c12)]) (p := (rB) y14) rfl rfl rfl (impl_isReturn_ok  h15 hWF) ?_
   intro _ o17 h16
   cases h16
   refine AOps.p rfl (rfl : _ = (AV.bool y14)) ?_
   refine AOps.resR [(15, (AV.bool b11))] [] ?_ ?_ _ ⟨_, _, rfl⟩
   ·exact ⟨congrArg AV.bool (Option.some.inj h), trivial⟩
   exact trivial
  ·refine AOps.know (d := 11) rfl hc10 ?_
   refine AOps.skipR rfl rfl ?_
   refine AOps.skipR rfl rfl ?_
   refine AOps.skipR rfl rfl ?_
   refine AOps.p rfl (rfl : _ = (AV.bool false)) ?_
   refine AOps.resR [(15, (AV.bool b11))] [] ?_ ?_ _ ⟨_, _, rfl⟩
   ·exact ⟨congrArg AV.bool (Option.some.inj hb), trivial⟩
   exact trivial
 rintro _ ⟨tm, os, rfl⟩
 refine AOps.assignR rfl rfl rfl (rfl : _ = (AV.bool b11)) rfl ?_
 refine AOps.nilR ?_
 cases h
 exact AW.ret ⟨rfl, _, _, rfl, rfl⟩
theorem impl_isLetter_ok {p0_1 : List UInt8} {s : St} {r : Bool} (h : impl_isLetter p0_1 = some r) (hs : WF s) : ACall Cf 57 [(AV.str p0_1)] s fun v _ s' => (rB) r v ∧ s' = s := by
 refine ACall.pure rfl rfl rfl .B ?_
 have hWF := hs.lo'
 unfold impl_isLetter at h
 refine AW.sr ?_
 refine AOps.p rfl (rfl : _ = (AV.bool false)) ?_
 refine AOps.nilR ?_
 refine AW.sr ?_
 refine AOps.p rfl (rfl : _ = (AV.str p0_1)) ?_
 refine AOps.p rfl (rfl : _ = (AV.bool (p0_1 == ([97] : List UInt8)))) ?_
 refine AOps.p rfl (rfl : _ = (AV.bool (p0_1 == ([97] : List UInt8)))) ?_
 refine AOps.split 3 (fun f' => ∃ tm' os', f' = ⟨updL tm' [(8, (AV.bool ((p0_1 == ([97] : List UInt8)) || (p0_1 == ([98] : List UInt8)))))], updL os' [], { s with lo := s.n }⟩) ?_ ?_
 ·rcases Bool.eq_false_or_eq_true (p0_1 == ([97] : List UInt8)) with hc2 | hc2
  ·refine AOps.know (d := 5) rfl hc2 ?_
   refine AOps.skipR rfl rfl ?_
   refine AOps.skipR rfl rfl ?_
   refine AOps.p rfl (rfl : _ = (AV.bool true)) ?_
   refine AOps.resR [(8, (AV.bool ((p0_1 == ([97] : List UInt8)) || (p0_1 == ([98] : List UInt8)))))] [] ?_ ?_ _ ⟨_, _, rfl⟩
   ·exact ⟨congrArg AV.bool (or_t hc2), trivial⟩
   exact trivial
  ·refine AOps.know (d := 5) rfl hc2 ?_
   refine AOps.p rfl (rfl : _ = (AV.str p0_1)) ?_
   refine AOps.p rfl (rfl : _ = (AV.bool (p0_1 == ([98] : List UInt8)))) ?_
   refine AOps.p rfl (rfl : _ = (AV.bool (p0_1 == ([98] : List UInt8)))) ?_
   refine AOps.resR [(8, (AV.bool ((p0_1 == ([97] : List UInt8)) || (p0_1 == ([98] : List UInt8)))))] [] ?_ ?_ _ ⟨_, _, rfl⟩
   ·exact ⟨congrArg AV.bool (or_f hc2), trivial⟩
   exact trivial
 rintro _ ⟨tm, os, rfl⟩
 refine AOps.assignR rfl rfl rfl (rfl : _ = (AV.bool ((p0_1 == ([97] : List UInt8)) || (p0_1 == ([98] : List UInt8))))) rfl ?_
 refine AOps.nilR ?_
 cases h
 exact AW.ret ⟨rfl, _, _, rfl, rfl⟩
theorem impl_ValidProgram_1_1_ok {l1 : Link} {c2 : Module} {c7 : Int} {z3 : Nat} {f4 : Bool} {e5 : List AV} {s : St} (h6 : LR rLink 4 c2.Links z3 e5) {r : Bool} (h : impl_ValidProgram_1_1 l1 c2 c7 = some r) (hs : WF s) : ACall Cf 55 [(AV.agg [(AV.int .i64 l1.From), (AV.int .i64 l1.To), (AV.str l1.Act), (AV.int .i64 l1.Module)]), (AV.eptr [(AV.int .i64 c2.Nodes), (AV.sl z3 f4 e5)] 0), (AV.eptr [(AV.int .i64 c7)] 0)] s fun v _ s' => (rB) r v ∧ s' = s := by
 refine ACall.pure rfl rfl rfl .B ?_
 have hWF := hs.lo'
 unfold impl_ValidProgram_1_1 at h
 refine AW.sr ?_
 refine AOps.makeR rfl rfl rfl rfl rfl rfl (rfl : _ = (AV.eptr [(AV.int .i64 l1.From), (AV.int .i64 l1.To), (AV.str l1.Act), (AV.int .i64 l1.Module)] 0)) ?_
 refine AOps.p rfl (rfl : _ = (AV.bool false)) ?_
 refine AOps.nilR ?_
 refine AW.seq ?_
 refine AW.sr ?_
 refine AOps.p rfl (rfl : _ = (AV.eptr [(AV.int .i64 l1.From), (AV.int .i64 l1.To), (AV.str l1.Act), (AV.int .i64 l1.Module)] 0)) ?_
 refine AOps.ldE (v := (AV.int .i64 l1.From)) rfl rfl rfl rfl rfl rfl ?_
 refine AOps.p rfl (rfl : _ = (AV.eptr [(AV.int .i64 c2.Nodes), (AV.sl z3 f4 e5)] 0)) ?_
 refine AOps.ldE (v := (AV.int .i64 c2.Nodes)) rfl rfl rfl rfl rfl rfl ?_
 refine AOps.p rfl (rfl : _ = (AV.int .i64 (IntKind.wrap .i64 (c2.Nodes - 1)))) ?_
 obtain ⟨y8, h9, h⟩ := obind h
 refine AOps.callP (g := 51) (args := [(AV.int .i64 l1.From), (AV.int .i64 0), (AV.int .i64 (IntKind.wrap .i64 (c2.Nodes - 1)))]) (p := (rB) y8) rfl rfl rfl (impl_within_ok  h9 hWF) ?_
 intro _ o11 h10
 cases h10
 refine AOps.p rfl (rfl : _ = (AV.bool (!y8))) ?_
 refine AOps.p rfl (rfl : _ = (AV.bool (!y8))) ?_
 obtain ⟨b13, hb, h⟩ := obind h
 refine AOps.split 8 (fun f' => ∃ tm' os', f' = ⟨updL tm' [(2, (AV.eptr [(AV.int .i64 c7)] 0)), (3, (AV.eptr [(AV.int .i64 l1.From), (AV.int .i64 l1.To), (AV.str l1.Act), (AV.int .i64 l1.Module)] 0)), (20, (AV.bool b13))], updL os' [], { s with lo := s.n }⟩) ?_ ?_
 ·rcases oite hb with ⟨hc12, hb⟩ | ⟨hc12, hb⟩
  ·refine AOps.know (d := 12) rfl hc12 ?_
   refine AOps.skipR rfl rfl ?_
   refine AOps.skipR rfl rfl ?_
   refine AOps.skipR rfl rfl ?_
   refine AOps.skipR rfl rfl ?_
   refine AOps.skipR rfl rfl ?_
   refine AOps.skipR rfl rfl ?_
   refine AOps.skipR rfl rfl ?_
   refine AOps.p rfl (rfl : _ = (AV.bool true)) ?_
   refine AOps.resR [(2, (AV.eptr [(AV.int .i64 c7)] 0)), (3, (AV.eptr [(AV.int .i64 l1.From), (AV.int .i64 l1.To), (AV.str l1.Act), (AV.int .i64 l1.Module)] 0)), (20, (AV.bool b13))] [] ?_ ?_ _ ⟨_, _, rfl⟩
   ·exact ⟨rfl, rfl, congrArg AV.bool (Option.some.inj hb), trivial⟩
   exact trivial
  ·have h := hb
   refine AOps.know (d := 12) rfl hc12 ?_
   refine AOps.p rfl (rfl : _ = (AV.eptr [(AV.int .i64 l1.From), (AV.int .i64 l1.To), (AV.str l1.Act), (AV.int .i64 l1.Module)] 1)) ?_
   refine AOps.ldE (v := (AV.int .i64 l1.To)) rfl rfl rfl rfl rfl rfl ?_
   refine AOps.p rfl (rfl : _ = (AV.eptr [(AV.int .i64 c2.Nodes), (AV.sl z3 f4 e5)] 0)) ?_
   refine AOps.ldE (v := (AV.int .i64 c2.Nodes)) rfl rfl rfl rfl rfl rfl ?_
   refine AOps.p rfl (rfl : _ = (AV.int .i64 (IntKind.wrap .i64 (c2.Nodes - 1)))) ?_
   obtain ⟨y14, h15, h⟩ := obind h
   refine AOps.callP (g := 51) (args := [(AV.int .i64 l1.To), (AV.int .i64 0), (AV.int .i64 (IntKind.wrap .i64 (c2.Nodes - 1)))]) (p := (rB) y14) rfl rfl rfl (impl_within_ok  h15 hWF) ?_
   intro _ o17 h16
   cases h16
   refine AOps.p rfl (rfl : _ = (AV.bool (!y14))) ?_
   refine AOps.p rfl (rfl : _ = (AV.bool (!y14))) ?_
   refine AOps.resR [(2, (AV.eptr [(AV.int .i64 c7)] 0)), (3, (AV.eptr [(AV.int .i64 l1.From), (AV.int .i64 l1.To), (AV.str l1.Act), (AV.int .i64 l1.Module)] 0)), (20, (AV.bool b13))] [] ?_ ?_ _ ⟨_, _, rfl⟩
   ·exact ⟨rfl, rfl, congrArg AV.bool (Option.some.inj h), trivial⟩
   exact trivial
 rintro _ ⟨tm, os, rfl⟩
 refine AOps.p rfl (rfl : _ = (AV.bool b13)) ?_
 obtain ⟨b19, hb, h⟩ := obind h
 refine AOps.split 7 (fun f' => ∃ tm' os', f' = ⟨updL tm' [(3, (AV.eptr [(AV.int .i64 l1.From), (AV.int .i64 l1.To), (AV.str l1.Act), (AV.int .i64 l1.Module)] 0)), (28, (AV.bool b19))], updL os' [], { s with lo := s.n }⟩) ?_ ?_
 ·rcases oite hb with ⟨hc18, hb⟩ | ⟨hc18, hb⟩
  ·refine AOps.know (d := 21) rfl hc18 ?_
   refine AOps.skipR rfl rfl ?_
   refine AOps.skipR rfl rfl ?_
   refine AOps.skipR rfl rfl ?_
   refine AOps.skipR rfl rfl ?_
   refine AOps.skipR rfl rfl ?_
   refine AOps.skipR rfl rfl ?_
   refine AOps.p rfl (rfl : _ = (AV.bool true)) ?_
   refine AOps.resR [(3, (AV.eptr [(AV.int .i64 l1.From), (AV.int .i64 l1.To), (AV.str l1.Act), (AV.int .i64 l1.Module)] 0)), (28, (AV.bool b19))] [] ?_ ?_ _ ⟨_, _, rfl⟩
   ·exact ⟨rfl, congrArg AV.bool (Option.some.inj hb), trivial⟩
   exact trivial
  ·have h := hb
   refine AOps.know (d := 21) rfl hc18 ?_
   refine AOps.p rfl (rfl : _ = (AV.eptr [(AV.int .i64 l1.From), (AV.int .i64 l1.To), (AV.str l1.Act), (AV.int .i64 l1.Module)] 3)) ?_
   refine AOps.ldE (v := (AV.int .i64 l1.Module)) rfl rfl rfl rfl rfl rfl ?_
   refine AOps.ldE (v := (AV.int .i64 c7)) rfl rfl rfl rfl rfl rfl ?_
   refine AOps.p rfl (rfl : _ = (AV.int .i64 (IntKind.wrap .i64 (c7 - 1)))) ?_
   obtain ⟨y20, h21, h⟩ := obind h
   refine AOps.callP (g := 51) (args := [(AV.int .i64 l1.Module), (AV.int .i64 0), (AV.int .i64 (IntKind.wrap .i64 (c7 - 1)))]) (p := (rB) y20) rfl rfl rfl (impl_within_ok  h21 hWF) ?_
   intro _ o23 h22
   cases h22
   refine AOps.p rfl (rfl : _ = (AV.bool (!y20))) ?_
   refine AOps.p rfl (rfl : _ = (AV.bool (!y20))) ?_
   refine AOps.resR [(3, (AV.eptr [(AV.int .i64 l1.From), (AV.int .i64 l1.To), (AV.str l1.Act), (AV.int .i64 l1.Module)] 0)), (28, (AV.bool b19))] [] ?_ ?_ _ ⟨_, _, rfl⟩
   ·exact ⟨rfl, congrArg AV.bool (Option.some.inj h), trivial⟩
   exact trivial
 rintro _ ⟨tm, os, rfl⟩
 refine AOps.nilR ?_
 rcases oite h with ⟨hc24, h⟩ | ⟨hc24, h⟩
 ·refine AW.condT (congrArg AV.bool hc24) ?_
  refine AW.sr ?_
  refine AOps.p rfl (rfl : _ = (AV.bool true)) ?_
  refine AOps.nilR ?_
  cases h
  exact AW.ret ⟨rfl, _, _, rfl, rfl⟩
 refine AW.condF (congrArg AV.bool hc24) ?_
 refine AW.skip ?_
 refine AW.sr ?_
 refine AOps.p rfl (rfl : _ = (AV.eptr [(AV.int .i64 l1.From), (AV.int .i64 l1.To), (AV.str l1.Act), (AV.int .i64 l1.Module)] 2)) ?_
 refine AOps.ldE (v := (AV.str l1.Act)) rfl rfl rfl rfl rfl rfl ?_
 obtain ⟨y25, h26, h⟩ := obind h
 refine AOps.callP (g := 56) (args := [(AV.str l1.Act)]) (p := (rB) y25) rfl rfl rfl (impl_isBrackets_ok  h26 hWF) ?_
 intro _ o28 h27
 cases h27
 refine AOps.p rfl (rfl : _ = (AV.bool (!y25))) ?_
 refine AOps.p rfl (rfl : _ = (AV.bool (!y25))) ?_
 obtain ⟨b30, hb, h⟩ := obind h
 refine AOps.split 10 (fun f' => ∃ tm' os', f' = ⟨updL tm' [(43, (AV.bool b30))], updL os' [], { s with lo := s.n }⟩) ?_ ?_
 ·rcases oite hb with ⟨hc29, hb⟩ | ⟨hc29, hb⟩
  ·have h := hb
   refine AOps.know (d := 33) rfl hc29 ?_
   refine AOps.p rfl (rfl : _ = (AV.eptr [(AV.int .i64 l1.From), (AV.int .i64 l1.To), (AV.str l1.Act), (AV.int .i64 l1.Module)] 2)) ?_
   refine AOps.ldE (v := (AV.str l1.Act)) rfl rfl rfl rfl rfl rfl ?_
   obtain ⟨y31, h32, h⟩ := obind h
   refine AOps.callP (g := 57) (args := [(AV.str l1.Act)]) (p := (rB) y31) rfl rfl rfl (impl_isLetter_ok  h32 hWF) ?_
   intro _ o34 h33
   cases h33
   refine AOps.p rfl (rfl : _ = (AV.bool (!y31))) ?_
   refine AOps.p rfl (rfl : _ = (AV.bool (!y31))) ?_
   refine AOps.split 4 (fun f' => ∃ tm' os', f' = ⟨updL tm' [(33, (AV.bool true)), (42, (AV.bool ((!y31) || (l1.Module != 0))))], updL os' [], { s with lo := s.n }⟩) ?_ ?_
   ·rcases Bool.eq_false_or_eq_true (!y31) with hc35 | hc35
    ·refine AOps.know (d := 38) rfl hc35 ?_
     refine AOps.skipR rfl rfl ?_
     refine AOps.skipR rfl rfl ?_
     refine AOps.skipR rfl rfl ?_
     refine AOps.p rfl (rfl : _ = (AV.bool true)) ?_
     refine AOps.resR [(33, (AV.bool true)), (42, (AV.bool ((!y31) || (l1.Module != 0))))] [] ?_ ?_ _ ⟨_, _, rfl⟩
     ·exact ⟨rfl, congrArg AV.bool (or_t hc35), trivial⟩
     exact trivial
    ·refine AOps.know (d := 38) rfl hc35 ?_
     refine AOps.p rfl (rfl : _ = (AV.eptr [(AV.int .i64 l1.From), (AV.int .i64 l1.To), (AV.str l1.Act), (AV.int .i64 l1.Module)] 3)) ?_
     refine AOps.ldE (v := (AV.int .i64 l1.Module)) rfl rfl rfl rfl rfl rfl ?_
     refine AOps.p rfl (rfl : _ = (AV.bool (l1.Module != 0))) ?_
     refine AOps.p rfl (rfl : _ = (AV.bool (l1.Module != 0))) ?_
     refine AOps.resR [(33, (AV.bool true)), (42, (AV.bool ((!y31) || (l1.Module != 0))))] [] ?_ ?_ _ ⟨_, _, rfl⟩
     ·exact ⟨rfl, congrArg AV.bool (or_f hc35), trivial⟩
     exact trivial
   rintro _ ⟨tm, os, rfl⟩
   refine AOps.p rfl (rfl : _ = (AV.bool ((!y31) || (l1.Module != 0)))) ?_
   refine AOps.resR [(43, (AV.bool b30))] [] ?_ ?_ _ ⟨_, _, rfl⟩
   ·exact ⟨congrArg AV.bool (Option.some.inj h), trivial⟩
   exact trivial
  ·refine AOps.know (d := 33) rfl hc29 ?_
   refine AOps.skipR rfl rfl ?_
   refine AOps.skipR rfl rfl ?_
   refine AOps.skipR rfl rfl ?_
   refine AOps.skipR rfl rfl ?_
   refine AOps.skipR rfl rfl ?_
   refine AOps.skipR rfl rfl ?_
   refine AOps.skipR rfl rfl ?_
   refine AOps.skipR rfl rfl ?_
   refine AOps.skipR rfl rfl ?_
   refine AOps.p rfl (rfl : _ = (AV.bool false)) ?_
   refine AOps.resR [(43, (AV.bool b30))] [] ?_ ?_ _ ⟨_, _, rfl⟩
   ·exact ⟨congrArg AV.bool (Option.some.inj hb), trivial⟩
   exact trivial
 rintro _ ⟨tm, os, rfl⟩
 refine AOps.assignR rfl rfl rfl (rfl : _ = (AV.bool b30)) rfl ?_
 refine AOps.nilR ?_
 cases h
 exact AW.ret ⟨rfl, _, _, rfl, rfl⟩
theorem impl_ValidProgram_1_ok {m1 : Module} {c6 : Int} {z2 : Nat} {f3 : Bool} {e4 : List AV} {s : St} (h5 : LR rLink 4 m1.Links z2 e4) {r : Bool} (h : impl_ValidProgram_1 m1 c6 = some r) (hs : WF s) : ACall Cf 53 [(AV.agg [(AV.int .i64 m1.Nodes), (AV.sl z2 f3 e4)]), (AV.eptr [(AV.int .i64 c6)] 0)] s fun v _ s' => (rB) r v ∧ s' = s := by
 refine ACall.pure rfl rfl rfl .B ?_
 have hWF := hs.lo'
 unfold impl_ValidProgram_1 at h
 refine AW.sr ?_
 refine AOps.makeR rfl rfl rfl rfl rfl rfl (rfl : _ = (AV.eptr [(AV.int .i64 m1.Nodes), (AV.sl z2 f3 e4)] 0)) ?_
 refine AOps.p rfl (rfl : _ = (AV.bool false)) ?_
 refine AOps.nilR ?_
 refine AW.sr ?_
 refine AOps.p rfl (rfl : _ = (AV.eptr [(AV.int .i64 m1.Nodes), (AV.sl z2 f3 e4)] 0)) ?_
 refine AOps.ldE (v := (AV.int .i64 m1.Nodes)) rfl rfl rfl rfl rfl rfl ?_
 obtain ⟨y7, h8, h⟩ := obind h
 refine AOps.callP (g := 51) (args := [(AV.int .i64 m1.Nodes), (AV.int .i64 1), (AV.int .i64 8)]) (p := (rB) y7) rfl rfl rfl (impl_within_ok  h8 hWF) ?_
 intro _ o10 h9
 cases h9
 refine AOps.p rfl (rfl : _ = (AV.bool (!y7))) ?_
 refine AOps.p rfl (rfl : _ = (AV.bool (!y7))) ?_
 refine AOps.split 5 (fun f' => ∃ tm' os', f' = ⟨updL tm' [(1, (AV.eptr [(AV.int .i64 c6)] 0)), (2, (AV.eptr [(AV.int .i64 m1.Nodes), (AV.sl z2 f3 e4)] 0)), (13, (AV.bool ((!y7) || (decide (((m1.Links.length : Int) : Int) > 12)))))], updL os' [], { s with lo := s.n }⟩) ?_ ?_
 ·rcases Bool.eq_false_or_eq_true (!y7) with hc11 | hc11
  ·refine AOps.know (d := 8) rfl hc11 ?_
   refine AOps.skipR rfl rfl ?_
   refine AOps.skipR rfl rfl ?_
   refine AOps.skipR rfl rfl ?_
   refine AOps.skipR rfl rfl ?_
   refine AOps.p rfl (rfl : _ = (AV.bool true)) ?_
   refine AOps.resR [(1, (AV.eptr [(AV.int .i64 c6)] 0)), (2, (AV.eptr [(AV.int .i64 m1.Nodes), (AV.sl z2 f3 e4)] 0)), (13, (AV.bool ((!y7) || (decide (((m1.Links.length : Int) : Int) > 12)))))] [] ?_ ?_ _ ⟨_, _, rfl⟩
   ·exact ⟨rfl, rfl, congrArg AV.bool (or_t hc11), trivial⟩
   exact trivial
  ·refine AOps.know (d := 8) rfl hc11 ?_
   refine AOps.p rfl (rfl : _ = (AV.eptr [(AV.int .i64 m1.Nodes), (AV.sl z2 f3 e4)] 1)) ?_
   refine AOps.ldE (v := (AV.sl z2 f3 e4)) rfl rfl rfl rfl rfl rfl ?_
   refine AOps.p rfl (len_eq h5) ?_
   refine AOps.p rfl (rfl : _ = (AV.bool (decide (((m1.Links.length : Int) : Int) > 12)))) ?_
   refine AOps.p rfl (rfl : _ = (AV.bool (decide (((m1.Links.length : Int) : Int) > 12)))) ?_
   refine AOps.resR [(1, (AV.eptr [(AV.int .i64 c6)] 0)), (2, (AV.eptr [(AV.int .i64 m1.Nodes), (AV.sl z2 f3 e4)] 0)), (13, (AV.bool ((!y7) || (decide (((m1.Links.length : Int) : Int) > 12)))))] [] ?_ ?_ _ ⟨_, _, rfl⟩
   ·exact ⟨rfl, rfl, congrArg AV.bool (or_f hc11), trivial⟩
   exact trivial
 rintro _ ⟨tm, os, rfl⟩
 refine AOps.p rfl (rfl : _ = (AV.bool ((!y7) || (decide (((m1.Links.length : Int) : Int) > 12))))) ?_
 obtain ⟨b13, hb, h⟩ := obind h
 refine AOps.split 5 (fun f' => ∃ tm' os', f' = ⟨updL tm' [(19, (AV.bool b13))], updL os' [], { s with lo := s.n }⟩) ?_ ?_
 ·rcases oite hb with ⟨hc12, hb⟩ | ⟨hc12, hb⟩
  ·refine AOps.know (d := 14) rfl hc12 ?_
   refine AOps.skipR rfl rfl ?_
   refine AOps.skipR rfl rfl ?_
   refine AOps.skipR rfl rfl ?_
   refine AOps.skipR rfl rfl ?_
   refine AOps.p rfl (rfl : _ = (AV.bool true)) ?_
   refine AOps.resR [(19, (AV.bool b13))] [] ?_ ?_ _ ⟨_, _, rfl⟩
   ·exact ⟨congrArg AV.bool (Option.some.inj hb), trivial⟩
   exact trivial
  ·have h := hb
   refine AOps.know (d := 14) rfl hc12 ?_
   refine AOps.p rfl (rfl : _ = (AV.eptr [(AV.int .i64 m1.Nodes), (AV.sl z2 f3 e4)] 1)) ?_
   refine AOps.ldE (v := (AV.sl z2 f3 e4)) rfl rfl rfl rfl rfl rfl ?_
   refine AOps.p rfl (rfl : _ = (AV.fn 55 [(AV.eptr [(AV.int .i64 m1.Nodes), (AV.sl z2 f3 e4)] 0), (AV.eptr [(AV.int .i64 c6)] 0)])) ?_
   obtain ⟨y23, h24, h⟩ := obind h
   refine AOps.callP (g := 54) (args := [(AV.sl z2 f3 e4), (AV.fn 55 [(AV.eptr [(AV.int .i64 m1.Nodes), (AV.sl z2 f3 e4)] 0), (AV.eptr [(AV.int .i64 c6)] 0)])]) (p := (rB) y23) rfl rfl rfl (slices_ContainsFunc_simpl_Link_impl_Link_ok h5 (by intro x vs y hc hx s hs; obtain ⟨_, _, rfl, hv0, hd0⟩ := Cs_cons hc; obtain ⟨_, rfl, h14⟩ := hv0; obtain ⟨_, _, rfl, h15, h16⟩ := Cs_cons h14; cases h15; obtain ⟨_, _, rfl, h17, h18⟩ := Cs_cons h16; cases h17; obtain ⟨_, _, rfl, h19, h20⟩ := Cs_cons h18; cases h19; obtain ⟨_, _, rfl, h21, h22⟩ := Cs_cons h20; cases h21; cases Cs_nil h22; cases Cs_nil hd0; exact impl_ValidProgram_1_1_ok h5 hx hs) h24 hWF) ?_
   intro _ o26 h25
   cases h25
   refine AOps.p rfl (rfl : _ = (AV.bool y23)) ?_
   refine AOps.resR [(19, (AV.bool b13))] [] ?_ ?_ _ ⟨_, _, rfl⟩
   ·exact ⟨congrArg AV.bool (Option.some.inj h), trivial⟩
   exact trivial
 rintro _ ⟨tm, os, rfl⟩
 refine AOps.assignR rfl rfl rfl (rfl : _ = (AV.bool b13)) rfl ?_
 refine AOps.nilR ?_
 cases h
 exact AW.ret ⟨rfl, _, _, rfl, rfl⟩
theorem impl_ValidProgram_ok {p1 : ProgramT} {z2 : Nat} {f3 : Bool} {e4 : List AV} {s : St} (h5 : LR rModule 2 p1.Modules z2 e4) {r : Bool} (h : impl_ValidProgram p1 = some r) (hs : WF s) : ACall Cf 33 [(AV.agg [(AV.sl z2 f3 e4)])] s fun v _ s' => (rB) r v ∧ s' = s := by
 refine ACall.pure rfl rfl rfl .B ?_
 have hWF := hs.lo'
 unfold impl_ValidProgram at h
 refine AW.sr ?_
 refine AOps.makeR rfl rfl rfl rfl rfl rfl (rfl : _ = (AV.eptr [(AV.sl z2 f3 e4)] 0)) ?_
 refine AOps.p rfl (rfl : _ = (AV.bool false)) ?_
 refine AOps.nilR ?_
 refine AW.sr ?_
 refine AOps.p rfl (rfl : _ = (AV.eptr [(AV.sl z2 f3 e4)] 0)) ?_
 refine AOps.ldE (v := (AV.sl z2 f3 e4)) rfl rfl rfl rfl rfl rfl ?_
 obtain ⟨y6, h7, h⟩ := obind h
 refine AOps.callP (g := 50) (args := [(AV.sl z2 f3 e4)]) (p := (rI .i64) y6) rfl rfl rfl (impl_size_impl_Module_ok h5 h7 hWF) ?_
 intro _ o9 h8
 cases h8
 refine AOps.allocP rfl rfl rfl rfl ⟨rfl, rfl⟩ rfl ?_
 refine AOps.stP (v := (AV.int .i64 y6)) rfl rfl rfl rfl rfl rfl rfl rfl rfl (lt_b rfl) rfl ?_
 refine AOps.nilR ?_
 refine AW.sr ?_
 refine AOps.ldE (v := (AV.int .i64 y6)) rfl rfl rfl rfl rfl rfl ?_
 obtain ⟨y10, h11, h⟩ := obind h
 refine AOps.callP (g := 51) (args := [(AV.int .i64 y6), (AV.int .i64 1), (AV.int .i64 4)]) (p := (rB) y10) rfl rfl rfl (impl_within_ok  h11 hWF) ?_
 intro _ o13 h12
 cases h12
 refine AOps.p rfl (rfl : _ = (AV.bool y10)) ?_
 obtain ⟨b15, hb, h⟩ := obind h
 refine AOps.split 6 (fun f' => ∃ tm' os', f' = ⟨updL tm' [(15, (AV.bool b15))], updL os' [], { s with lo := s.n }⟩) ?_ ?_
 ·rcases oite hb with ⟨hc14, hb⟩ | ⟨hc14, hb⟩
  ·have h := hb
   refine AOps.know (d := 9) rfl hc14 ?_
   refine AOps.p rfl (rfl : _ = (AV.eptr [(AV.sl z2 f3 e4)] 0)) ?_
   refine AOps.ldE (v := (AV.sl z2 f3 e4)) rfl rfl rfl rfl rfl rfl ?_
   refine AOps.p rfl (rfl : _ = (AV.fn 53 [(AV.eptr [(AV.int .i64 y6)] 0)])) ?_
   obtain ⟨y25, h26, h⟩ := obind h
   refine AOps.callP (g := 52) (args := [(AV.sl z2 f3 e4), (AV.fn 53 [(AV.eptr [(AV.int .i64 y6)] 0)])]) (p := (rB) y25) rfl rfl rfl (slices_ContainsFunc_simpl_Module_impl_Module_ok h5 (by intro x vs y hc hx s hs; obtain ⟨_, _, rfl, hv0, hd0⟩ := Cs_cons hc; obtain ⟨_, rfl, h16⟩ := hv0; obtain ⟨_, _, rfl, h17, h18⟩ := Cs_cons h16; cases h17; obtain ⟨_, _, rfl, h19, h20⟩ := Cs_cons h18; obtain ⟨z21, f22, e23, rfl, h24⟩ := h19; cases Cs_nil h20; cases Cs_nil hd0; exact impl_ValidProgram_1_ok h24 hx hs) h26 hWF) ?_
   intro _ o28 h27
   cases h27
   refine AOps.p rfl (rfl : _ = (AV.bool (!y25))) ?_
   refine AOps.p rfl (rfl : _ = (AV.bool (!y25))) ?_
   refine AOps.resR [(15, (AV.bool b15))] [] ?_ ?_ _ ⟨_, _, rfl⟩
   ·exact ⟨congrArg AV.bool (Option.some.inj h), trivial⟩
   exact trivial
  ·refine AOps.know (d := 9) rfl hc14 ?_
   refine AOps.skipR rfl rfl ?_
   refine AOps.skipR rfl rfl ?_
   refine AOps.skipR rfl rfl ?_
   refine AOps.skipR rfl rfl ?_
   refine AOps.skipR rfl rfl ?_
   refine AOps.p rfl (rfl : _ = (AV.bool false)) ?_
   refine AOps.resR [(15, (AV.bool b15))] [] ?_ ?_ _ ⟨_, _, rfl⟩
   ·exact ⟨congrArg AV.bool (Option.some.inj hb), trivial⟩
   exact trivial
 rintro _ ⟨tm, os, rfl⟩
 refine AOps.assignR rfl rfl rfl (rfl : _ = (AV.bool b15)) rfl ?_
 refine AOps.nilR ?_
 cases h
 exact AW.ret ⟨rfl, _, _, rfl, rfl⟩
theorem internal_stringslite_IndexByte_ok {s1 : List UInt8} {c2 : Int} {s : St} {r : Int} (h : internal_stringslite_IndexByte s1 c2 = some r) (hs : WF s) : ACall Cf 72 [(AV.str s1), (AV.int .u8 c2)] s fun v _ s' => (rI .i64) r v ∧ s' = s := by
 refine ACall.pure rfl rfl rfl .I ?_
 have hWF := hs.lo'
 unfold internal_stringslite_IndexByte at h
 refine AW.sr ?_
 refine AOps.p rfl (rfl : _ = (AV.int .i64 0)) ?_
 refine AOps.nilR ?_
 refine AW.sr ?_
 refine AOps.p rfl (rfl : _ = (AV.str s1)) ?_
 refine AOps.p rfl (rfl : _ = (AV.int .u8 c2)) ?_
 obtain ⟨y3, h4, h⟩ := obind h
 refine AOps.callP (g := 74) (args := [(AV.str s1), (AV.int .u8 c2)]) (p := (rI .i64) y3) rfl rfl rfl (ext_byte_ok h4 hWF) ?_
 intro _ o6 h5
 cases h5
 refine AOps.assignR rfl rfl rfl (rfl : _ = (AV.int .i64 y3)) rfl ?_
 refine AOps.nilR ?_
 cases h
 exact AW.ret ⟨rfl, _, _, rfl, rfl⟩
theorem strings_IndexByte_ok {s1 : List UInt8} {c2 : Int} {s : St} {r : Int} (h : strings_IndexByte s1 c2 = some r) (hs : WF s) : ACall Cf 58 [(AV.str s1), (AV.int .u8 c2)] s fun v _ s' => (rI .i64) r v ∧ s' = s := by
 refine ACall.pure rfl rfl rfl .I ?_
 have hWF := hs.lo'
 unfold strings_IndexByte at h
 refine AW.sr ?_
 refine AOps.p rfl (rfl : _ = (AV.int .i64 0)) ?_
 refine AOps.nilR ?_
 refine AW.sr ?_
 refine AOps.p rfl (rfl : _ = (AV.str s1)) ?_
 refine AOps.p rfl (rfl : _ = (AV.int .u8 c2)) ?_
 obtain ⟨y3, h4, h⟩ := obind h
 refine AOps.callP (g := 72) (args := [(AV.str s1), (AV.int .u8 c2)]) (p := (rI .i64) y3) rfl rfl rfl (internal_stringslite_IndexByte_ok  h4 hWF) ?_
 intro _ o6 h5
 cases h5
 refine AOps.assignR rfl rfl rfl (rfl : _ = (AV.int .i64 y3)) rfl ?_
 refine AOps.nilR ?_
 cases h
 exact AW.ret ⟨rfl, _, _, rfl, rfl⟩
theorem impl_ValidWord_ok {w1 : List UInt8} {s : St} {r : Bool} (h : impl_ValidWord w1 = some r) (hs : WF s) : ACall Cf 34 [(AV.str w1)] s fun v _ s' => (rB) r v ∧ s' = s := by
 refine ACall.pure rfl rfl rfl .B ?_
 have hWF := hs.lo'
 unfold impl_ValidWord at h
 refine AW.sr ?_
 refine AOps.p rfl (rfl : _ = (AV.bool false)) ?_
 refine AOps.nilR ?_
 refine AW.seq ?_
 refine AW.sr ?_
 refine AOps.p rfl (rfl : _ = (AV.str w1)) ?_
 refine AOps.p rfl (rfl : _ = (AV.int .i64 (w1.length : Int))) ?_
 refine AOps.p rfl (rfl : _ = (AV.int .i64 0)) ?_
 refine AOps.nilR ?_
 refine AW.meet (σ := Unit) (fun _ tm os => ⟨updL tm [(0, (AV.str w1))], updL os [], { s with lo := s.n }⟩) (fun _ => impl_ValidWord_J1 w1 = some r) ?_ ?_
 ·rintro _ tm os h
  unfold impl_ValidWord_J1 at h
  refine AW.sr ?_
  refine AOps.p rfl (rfl : _ = (AV.str w1)) ?_
  refine AOps.p rfl (rfl : _ = (AV.int .i64 (w1.length : Int))) ?_
  refine AOps.p rfl (rfl : _ = (AV.bool (decide (((w1.length : Int) : Int) ≤ 60)))) ?_
  refine AOps.assignR rfl rfl rfl (rfl : _ = (AV.bool (decide (((w1.length : Int) : Int) ≤ 60)))) rfl ?_
  refine AOps.nilR ?_
  cases h
  exact AW.ret ⟨rfl, _, _, rfl, rfl⟩
 intro KJ2
 refine AW.block ?_
 refine AW.res [(0, (AV.str w1)), (5, (AV.int .i64 (w1.length : Int))), (6, (AV.int .i64 0))] [] ⟨rfl, rfl, rfl, trivial⟩ trivial ?_
 refine AW.loopF (σ := Int) (τ := Unit) (fun t3 _ => True) (fun t3 _ tm os => ⟨updL tm [(0, (AV.str w1)), (5, (AV.int .i64 (w1.length : Int))), (6, (AV.int .i64 t3))], updL os [], { s with lo := s.n }⟩) ?_ (x := (0)) (y := ()) h trivial
 clear h
 rintro t3 _ tm os - ee1 h hL1 hR1
 unfold impl_ValidWord_S1 at h
 refine AW.sr ?_
 refine AOps.p rfl (rfl : _ = (AV.bool (decide ((t3 : Int) < (w1.length : Int))))) ?_
 refine AOps.nilR ?_
 refine AW.seq ?_
 rcases oite h with ⟨hc4, h⟩ | ⟨hc4, h⟩
 ·refine AW.condT (congrArg AV.bool hc4) ?_
  refine AW.skip ?_
  refine AW.seq ?_
  refine AW.block ?_
  refine AW.sr ?_
  refine AOps.p rfl (rfl : _ = (AV.int .i64 t3)) ?_
  refine AOps.assignR rfl rfl rfl (rfl : _ = (AV.int .i64 t3)) rfl ?_
  refine AOps.nilR ?_
  refine AW.sr ?_
  refine AOps.p rfl (rfl : _ = (AV.str w1)) ?_
  refine AOps.p rfl (rfl : _ = (AV.int .i64 t3)) ?_
  obtain ⟨c5, h6, h⟩ := obind h
  refine AOps.pureR rfl rfl rfl (chr_str h6) rfl (rfl : _ = (AV.int .u8 c5)) ?_
  obtain ⟨y7, h8, h⟩ := obind h
  refine AOps.callP (g := 58) (args := [(AV.str ([40, 91, 41, 93, 97, 98] : List UInt8)), (AV.int .u8 c5)]) (p := (rI .i64) y7) rfl rfl rfl (strings_IndexByte_ok  h8 hWF) ?_
  intro _ o10 h9
  cases h9
  refine AOps.p rfl (rfl : _ = (AV.bool (decide ((y7 : Int) < 0)))) ?_
  refine AOps.nilR ?_
  rcases oite h with ⟨hc11, h⟩ | ⟨hc11, h⟩
  ·refine AW.condT (congrArg AV.bool hc11) ?_
   refine AW.sr ?_
   refine AOps.p rfl (rfl : _ = (AV.bool false)) ?_
   refine AOps.nilR ?_
   cases h
   have hr := hR1 _ rfl
   subst hr
   exact AW.ret ⟨rfl, _, _, rfl, rfl⟩
  refine AW.condF (congrArg AV.bool hc11) ?_
  refine AW.skip ?_
  refine AW.inBlock ?_
  refine AW.region ?_
  refine AOps.p rfl (rfl : _ = (AV.int .i64 (IntKind.wrap .i64 (t3 + 1)))) ?_
  refine AOps.p rfl (rfl : _ = (AV.int .i64 (IntKind.wrap .i64 (t3 + 1)))) ?_
  refine AOps.nilR ?_
  cases h
  exact AW.res [(0, (AV.str w1)), (5, (AV.int .i64 (w1.length : Int))), (6, (AV.int .i64 (IntKind.wrap .i64 (t3 + 1))))] [] ⟨rfl, rfl, rfl, trivial⟩ trivial (hL1 _ rfl () _ _ trivial)
 refine AW.condF (congrArg AV.bool hc4) ?_
 refine AW.exit rfl ?_
 obtain ⟨r12, hm, hx⟩ := omap h
 clear h
 subst hx
 have hx := hR1 _ rfl
 rw [hx] at hm
 have h := hm
 exact AW.res [(0, (AV.str w1))] [] ⟨rfl, trivial⟩ trivial (KJ2 () _ _ h)
theorem impl_size_int64_d_ok {list1 : List Int} {v2 : AV} {x3 : BX} {s : St} (h4 : DY (rI .i64) false 1 list1 v2 x3) (h5 : ∀ b, x3.b = some b → s.h b = some x3.cs) {r : Int} (h : impl_size_int64_d list1 = some r) (hs : WF s) : ACall Cf 63 [v2] s fun v _ s' => (rI .i64) r v ∧ s' = s := by
 refine ACall.pure rfl rfl rfl .I ?_
 have hWF := hs.lo'
 unfold impl_size_int64_d at h
 refine AW.sr ?_
 refine AOps.p rfl (rfl : _ = (AV.int .i64 0)) ?_
 refine AOps.nilR ?_
 refine AW.sr ?_
 refine AOps.p rfl (rfl : _ = v2) ?_
 refine AOps.pureR rfl rfl rfl (DY.len h4 rfl rfl rfl) rfl (rfl : _ = (AV.int .i64 (list1.length : Int))) ?_
 refine AOps.assignR rfl rfl rfl (rfl : _ = (AV.int .i64 (list1.length : Int))) rfl ?_
 refine AOps.nilR ?_
 cases h
 exact AW.ret ⟨rfl, _, _, rfl, rfl⟩
theorem impl_match_ok {p1 : List UInt8} {s : St} {r : Matching} (h : impl_match p1 = some r) (hs : WF s) : ACall Cf 39 [(AV.str p1)] s fun v _ s' => (rMatching) r v ∧ s' = s := by
 refine ACall.boxes rfl rfl rfl ?_
 have hH0 := HS.init hs
 unfold impl_match at h
 refine AW.sr ?_
 refine AOps.allocP rfl rfl rfl rfl ⟨rfl, rfl⟩ rfl ?_
 refine AOps.nilR ?_
 refine AW.sr ?_
 refine AOps.makeR rfl rfl rfl rfl rfl rfl (rfl : _ = (AV.sl 1 true [(AV.int .i64 0)])) ?_
 refine AOps.p rfl (rfl : _ = (AV.agg [(AV.sl 0 true []), (AV.sl 0 true []), (AV.sl 0 true []), (AV.sl 1 true [(AV.int .i64 0)]), (AV.sl 0 true [])])) ?_
 refine AOps.alloc1 hH0 rfl rfl rfl rfl rfl rfl ?_
 intro b2 s3 hH4
 change HS [] false s s3 [⟨some b2, [(AV.sl 0 true []), (AV.sl 0 true []), (AV.sl 0 true []), (AV.sl 0 true []), (AV.sl 0 true [])], (fun _ => false)⟩] at hH4
 refine AOps.stB (i := 0) (v := (AV.agg [(AV.sl 0 true []), (AV.sl 0 true []), (AV.sl 0 true []), (AV.sl 1 true [(AV.int .i64 0)]), (AV.sl 0 true [])])) hH4 rfl rfl rfl rfl rfl rfl rfl rfl rfl (lt_b rfl) (le_b rfl) rfl ?_
 intro w5 s6 h7 h8 hH9
 change HS [] false s s6 [⟨some b2, [(AV.sl 0 true []), (AV.sl 0 true []), (AV.sl 0 true []), (AV.sl 1 true [(AV.int .i64 0)]), (AV.sl 0 true [])], w5⟩] at hH9
 refine AOps.nilR ?_
 refine AW.seq ?_
 refine AW.sr ?_
 refine AOps.p rfl (rfl : _ = (AV.str p1)) ?_
 refine AOps.p rfl (rfl : _ = (AV.int .i64 (p1.length : Int))) ?_
 refine AOps.p rfl (rfl : _ = (AV.int .i64 0)) ?_
 refine AOps.nilR ?_
 refine AW.meet (σ := (List Int) × (List Int) × (List Int) × (List Int) × (List Int) × (Nat → Bool) × BX × AV × Nat × Bool × (List AV) × BX × AV × Nat × Bool × (List AV) × Nat × Bool × (List AV) × St) (fun (m11, m15, m21, m25, m31, w10, x12, v13, z16, f17, e18, x22, v23, z26, f27, e28, z32, f33, e34, s37) tm os => ⟨updL tm [(2, (AV.pend 5)), (3, (AV.ptr b2 0))], updL os [(2, true)], s37⟩) (fun (m11, m15, m21, m25, m31, w10, x12, v13, z16, f17, e18, x22, v23, z26, f27, e28, z32, f33, e34, s37) => (DY (rI .i64) false 1 m11 v13 x12) ∧ (LR (rI .i64) 1 m15 z16 e18) ∧ (f17 = true ∨ w10 1 = true) ∧ (DY (rI .i64) false 1 m21 v23 x22) ∧ (LR (rI .i64) 1 m25 z26 e28) ∧ (f27 = true ∨ w10 3 = true) ∧ (LR (rI .i64) 1 m31 z32 e34) ∧ (f33 = true ∨ w10 4 = true) ∧ (HS [] false s s37 [⟨some b2, [v13, (AV.sl z16 f17 e18), v23, (AV.sl z26 f27 e28), (AV.sl z32 f33 e34)], w10⟩, x12, x22]) ∧ impl_match_J1 m11 m15 m21 m25 m31 = some r) ?_ ?_
 ·rintro ⟨m11, m15, m21, m25, m31, w10, x12, v13, z16, f17, e18, x22, v23, z26, f27, e28, z32, f33, e34, s37⟩ tm os ⟨h14, h19, h20, h24, h29, h30, h35, h36, hH38, h⟩
  unfold impl_match_J1 at h
  refine AW.sr ?_
  refine AOps.ldB (i := 0) (v := (AV.agg [v13, (AV.sl z16 f17 e18), v23, (AV.sl z26 f27 e28), (AV.sl z32 f33 e34)])) hH38 rfl rfl rfl rfl rfl rfl rfl rfl rfl ?_
  refine AOps.stP (v := (AV.agg [v13, (AV.sl z16 f17 e18), v23, (AV.sl z26 f27 e28), (AV.sl z32 f33 e34)])) rfl rfl rfl rfl rfl rfl rfl (lay_cons (DY.one h14) (lay_cons rfl (lay_cons (DY.one h24) (lay_cons rfl (lay_cons rfl lay_nil))))) rfl (lt_b rfl) rfl ?_
  refine AOps.nilR ?_
  cases h
  exact AW.ret ⟨⟨_, hH38⟩, _, _, rfl, (Fin.A (.cons (Fin.dy (r := rI .i64) hH38 (i := 1) rfl h14 (fun _ => .I) (fun _ => rfl)) (.cons (Fin.of (p := (rL (rI .i64) 1) m15) (.L fun _ => .I) (⟨_, _, _, rfl, h19⟩)) (.cons (Fin.dy (r := rI .i64) hH38 (i := 2) rfl h24 (fun _ => .I) (fun _ => rfl)) (.cons (Fin.of (p := (rL (rI .i64) 1) m25) (.L fun _ => .I) (⟨_, _, _, rfl, h29⟩)) (.cons (Fin.of (p := (rL (rI .i64) 1) m31) (.L fun _ => .I) (⟨_, _, _, rfl, h35⟩)) .nil)))))).2⟩
 intro KJ39
 refine AW.block ?_
 refine AW.res [(0, (AV.str p1)), (2, (AV.pend 5)), (3, (AV.ptr b2 0)), (13, (AV.int .i64 (p1.length : Int))), (14, (AV.int .i64 0))] [(2, true)] ⟨rfl, rfl, rfl, rfl, rfl, trivial⟩ ⟨rfl, trivial⟩ ?_
 refine AW.loopF (σ := (List Int) × (List Int) × (List Int) × (List Int) × (List Int) × Int) (τ := (Nat → Bool) × BX × AV × Nat × Bool × (List AV) × BX × AV × Nat × Bool × (List AV) × Nat × Bool × (List AV) × St) (fun (m41, m45, m51, m55, m61, t67) (w40, x42, v43, z46, f47, e48, x52, v53, z56, f57, e58, z62, f63, e64, s68) => (DY (rI .i64) false 1 m41 v43 x42) ∧ (LR (rI .i64) 1 m45 z46 e48) ∧ (f47 = true ∨ w40 1 = true) ∧ (DY (rI .i64) false 1 m51 v53 x52) ∧ (LR (rI .i64) 1 m55 z56 e58) ∧ (f57 = true ∨ w40 3 = true) ∧ (LR (rI .i64) 1 m61 z62 e64) ∧ (f63 = true ∨ w40 4 = true) ∧ (HS [] false s s68 [⟨some b2, [v43, (AV.sl z46 f47 e48), v53, (AV.sl z56 f57 e58), (AV.sl z62 f63 e64)], w40⟩, x42, x52])) (fun (m41, m45, m51, m55, m61, t67) (w40, x42, v43, z46, f47, e48, x52, v53, z56, f57, e58, z62, f63, e64, s68) tm os => ⟨updL tm [(0, (AV.str p1)), (2, (AV.pend 5)), (3, (AV.ptr b2 0)), (13, (AV.int .i64 (p1.length : Int))), (14, (AV.int .i64 t67))], updL os [(2, true)], s68⟩) ?_ (x := (([] : List Int), ([] : List Int), ([] : List Int), ([0] : List Int), ([] : List Int), 0)) (y := (w5, noBX, (AV.sl 0 true []), 0, true, [], noBX, (AV.sl 0 true []), 1, true, [(AV.int .i64 0)], 0, true, [], s6)) h ⟨DY.nil, ⟨.inr ⟨rfl, rfl⟩, .nil⟩, (Or.inl rfl), DY.nil, LR.lit (r := rI .i64) (sz := 1) (.cons rfl .nil), (Or.inl rfl), ⟨.inr ⟨rfl, rfl⟩, .nil⟩, (Or.inl rfl), (HS.sel hH9 [some 0, none, none] (by decide))⟩
 clear h
 rintro ⟨m41, m45, m51, m55, m61, t67⟩ ⟨w40, x42, v43, z46, f47, e48, x52, v53, z56, f57, e58, z62, f63, e64, s68⟩ tm os ⟨h44, h49, h50, h54, h59, h60, h65, h66, hH69⟩ ee1 h hL1 hR1
 unfold impl_match_S1 at h
 dsimp only at h
 refine AW.sr ?_
 refine AOps.p rfl (rfl : _ = (AV.bool (decide ((t67 : Int) < (p1.length : Int))))) ?_
 refine AOps.nilR ?_
 refine AW.seq ?_
 rcases oite h with ⟨hc70, h⟩ | ⟨hc70, h⟩
 ·refine AW.condT (congrArg AV.bool hc70) ?_
  refine AW.skip ?_
  refine AW.seq ?_
  refine AW.block ?_
  refine AW.sr ?_
  refine AOps.p rfl (rfl : _ = (AV.int .i64 t67)) ?_
  refine AOps.assignR rfl rfl rfl (rfl : _ = (AV.int .i64 t67)) rfl ?_
  refine AOps.nilR ?_
  refine AW.sr ?_
  refine AOps.p rfl (rfl : _ = (AV.int .i64 t67)) ?_
  refine AOps.assignR rfl rfl rfl (rfl : _ = (AV.int .i64 t67)) rfl ?_
  refine AOps.p rfl (rfl : _ = (AV.int .i64 (-1))) ?_
  refine AOps.nilR ?_
  refine AW.sr ?_
  refine AOps.p rfl (rfl : _ = (AV.ptr b2 2)) ?_
  refine AOps.ldB (i := 0) (v := v53) hH69 rfl rfl rfl rfl rfl rfl rfl rfl rfl ?_
  refine AOps.pureR rfl rfl rfl (DY.len h54 rfl rfl rfl) rfl (rfl : _ = (AV.int .i64 (m51.length : Int))) ?_
  refine AOps.assignR rfl rfl rfl (rfl : _ = (AV.int .i64 (m51.length : Int))) rfl ?_
  refine AOps.nilR ?_
  refine AW.seq ?_
  refine AW.block ?_
  refine AW.sr ?_
  refine AOps.p rfl (rfl : _ = (AV.str p1)) ?_
  refine AOps.p rfl (rfl : _ = (AV.int .i64 t67)) ?_
  obtain ⟨c71, h72, h⟩ := obind h
  refine AOps.pureR rfl rfl rfl (chr_str h72) rfl (rfl : _ = (AV.int .u8 c71)) ?_
  obtain ⟨y73, h74, h⟩ := obind h
  refine AOps.callP (g := 61) (args := [(AV.int .u8 c71)]) (p := (rB) y73) rfl rfl rfl (impl_isReturn_ok  h74 (HS.wf' hH69)) ?_
  intro _ o76 h75
  cases h75
  refine AOps.p rfl (rfl : _ = (AV.bool y73)) ?_
  refine AOps.split 3 (fun f' => ∃ tm' os', f' = ⟨updL tm' [(0, (AV.str p1)), (2, (AV.pend 5)), (3, (AV.ptr b2 0)), (4, (AV.int .i64 t67)), (5, (AV.int .i64 t67)), (6, (AV.int .i64 (-1))), (7, (AV.int .i64 (m51.length : Int))), (13, (AV.int .i64 (p1.length : Int))), (14, (AV.int .i64 t67)), (29, (AV.bool (y73 && ((m51.length : Int) == 0))))], updL os' [(2, true)], s68⟩) ?_ ?_
  ·rcases Bool.eq_false_or_eq_true y73 with hc77 | hc77
   ·refine AOps.know (d := 26) rfl hc77 ?_
    refine AOps.p rfl (rfl : _ = (AV.int .i64 (m51.length : Int))) ?_
    refine AOps.p rfl (rfl : _ = (AV.bool ((m51.length : Int) == 0))) ?_
    refine AOps.p rfl (rfl : _ = (AV.bool ((m51.length : Int) == 0))) ?_
    refine AOps.resR [(0, (AV.str p1)), (2, (AV.pend 5)), (3, (AV.ptr b2 0)), (4, (AV.int .i64 t67)), (5, (AV.int .i64 t67)), (6, (AV.int .i64 (-1))), (7, (AV.int .i64 (m51.length : Int))), (13, (AV.int .i64 (p1.length : Int))), (14, (AV.int .i64 t67)), (29, (AV.bool (y73 && ((m51.length : Int) == 0))))] [(2, true)] ?_ ?_ _ ⟨_, _, rfl⟩
    ·exact ⟨rfl, rfl, rfl, rfl, rfl, rfl, rfl, rfl, rfl, congrArg AV.bool (and_t hc77), trivial⟩
    exact ⟨rfl, trivial⟩
   ·refine AOps.know (d := 26) rfl hc77 ?_
    refine AOps.skipR rfl rfl ?_
    refine AOps.skipR rfl rfl ?_
    refine AOps.p rfl (rfl : _ = (AV.bool false)) ?_
    refine AOps.resR [(0, (AV.str p1)), (2, (AV.pend 5)), (3, (AV.ptr b2 0)), (4, (AV.int .i64 t67)), (5, (AV.int .i64 t67)), (6, (AV.int .i64 (-1))), (7, (AV.int .i64 (m51.length : Int))), (13, (AV.int .i64 (p1.length : Int))), (14, (AV.int .i64 t67)), (29, (AV.bool (y73 && ((m51.length : Int) == 0))))] [(2, true)] ?_ ?_ _ ⟨_, _, rfl⟩
    ·exact ⟨rfl, rfl, rfl, rfl, rfl, rfl, rfl, rfl, rfl, congrArg AV.bool (and_f hc77), trivial⟩
    exact ⟨rfl, trivial⟩
  rintro _ ⟨tm, os, rfl⟩
  refine AOps.assignR rfl rfl rfl (rfl : _ = (AV.bool (y73 && ((m51.length : Int) == 0)))) rfl ?_
  refine AOps.nilR ?_
  refine AW.meet (σ := (List Int) × (List Int) × (List Int) × Int × (Nat → Bool) × BX × AV × Nat × Bool × (List AV) × BX × AV × St) (fun (m79, m83, m89, t95, w78, x80, v81, z84, f85, e86, x90, v91, s96) tm os => ⟨updL tm [(0, (AV.str p1)), (2, (AV.pend 5)), (3, (AV.ptr b2 0)), (4, (AV.int .i64 t67)), (5, (AV.int .i64 t67)), (6, (AV.int .i64 t95)), (13, (AV.int .i64 (p1.length : Int))), (14, (AV.int .i64 t67))], updL os [(2, true)], s96⟩) (fun (m79, m83, m89, t95, w78, x80, v81, z84, f85, e86, x90, v91, s96) => (DY (rI .i64) false 1 m79 v81 x80) ∧ (LR (rI .i64) 1 m83 z84 e86) ∧ (f85 = true ∨ w78 1 = true) ∧ (DY (rI .i64) false 1 m89 v91 x90) ∧ (f57 = true ∨ w78 3 = true) ∧ (f63 = true ∨ w78 4 = true) ∧ (HS [] false s s96 [⟨some b2, [v81, (AV.sl z84 f85 e86), v91, (AV.sl z56 f57 e58), (AV.sl z62 f63 e64)], w78⟩, x80, x90]) ∧ impl_match_J2 p1 m55 m61 t67 m79 m83 m89 t95 = some ee1) ?_ ?_
  ·rintro ⟨m79, m83, m89, t95, w78, x80, v81, z84, f85, e86, x90, v91, s96⟩ tm os ⟨h82, h87, h88, h92, h93, h94, hH97, h⟩
   unfold impl_match_J2 at h
   refine AW.inBlock ?_
   refine AW.sr ?_
   refine AOps.p rfl (rfl : _ = (AV.int .i64 (-1))) ?_
   refine AOps.nilR ?_
   refine AW.seq ?_
   refine AW.sr ?_
   refine AOps.p rfl (rfl : _ = (AV.ptr b2 2)) ?_
   refine AOps.ldB (i := 0) (v := v91) hH97 rfl rfl rfl rfl rfl rfl rfl rfl rfl ?_
   refine AOps.pureR rfl rfl rfl (DY.len h92 rfl rfl rfl) rfl (rfl : _ = (AV.int .i64 (m89.length : Int))) ?_
   refine AOps.assignR rfl rfl rfl (rfl : _ = (AV.int .i64 (m89.length : Int))) rfl ?_
   refine AOps.nilR ?_
   refine AW.sr ?_
   refine AOps.p rfl (rfl : _ = (AV.int .i64 (m89.length : Int))) ?_
   refine AOps.p rfl (rfl : _ = (AV.bool (decide (((m89.length : Int) : Int) > 0)))) ?_
   refine AOps.nilR ?_
   refine AW.meet (σ := Int × BX × AV × St) (fun (t102, x99, v100, s103) tm os => ⟨updL tm [(0, (AV.str p1)), (2, (AV.pend 5)), (3, (AV.ptr b2 0)), (4, (AV.int .i64 t67)), (5, (AV.int .i64 t67)), (6, (AV.int .i64 t95)), (8, (AV.int .i64 t102)), (13, (AV.int .i64 (p1.length : Int))), (14, (AV.int .i64 t67))], updL os [(2, true)], s103⟩) (fun (t102, x99, v100, s103) => (DY (rI .i64) false 1 m89 v100 x99) ∧ (HS [] false s s103 [⟨some b2, [v81, (AV.sl z84 f85 e86), v100, (AV.sl z56 f57 e58), (AV.sl z62 f63 e64)], w78⟩, x80, x99]) ∧ impl_match_J3 p1 m55 m61 t67 m79 m83 m89 t95 t102 = some ee1) ?_ ?_
   ·rintro ⟨t102, x99, v100, s103⟩ tm os ⟨h101, hH104, h⟩
    unfold impl_match_J3 at h
    refine AW.seq ?_
    refine AW.sr ?_
    refine AOps.p rfl (rfl : _ = (AV.str p1)) ?_
    refine AOps.p rfl (rfl : _ = (AV.int .i64 t67)) ?_
    obtain ⟨c106, h107, h⟩ := obind h
    refine AOps.pureR rfl rfl rfl (chr_str h107) rfl (rfl : _ = (AV.int .u8 c106)) ?_
    obtain ⟨y108, h109, h⟩ := obind h
    refine AOps.callP (g := 62) (args := [(AV.int .u8 c106)]) (p := (rB) y108) rfl rfl rfl (impl_isCall_ok  h109 (HS.wf' hH104)) ?_
    intro _ o111 h110
    cases h110
    refine AOps.nilR ?_
    refine AW.meet (σ := (List Int) × Int × (Nat → Bool) × BX × AV × St) (fun (m114, t120, w112, x115, v116, s121) tm os => ⟨updL tm [(0, (AV.str p1)), (2, (AV.pend 5)), (3, (AV.ptr b2 0)), (6, (AV.int .i64 t120)), (8, (AV.int .i64 t102)), (13, (AV.int .i64 (p1.length : Int))), (14, (AV.int .i64 t67))], updL os [(2, true)], s121⟩) (fun (m114, t120, w112, x115, v116, s121) => (f85 = true ∨ w112 1 = true) ∧ (DY (rI .i64) false 1 m114 v116 x115) ∧ (f57 = true ∨ w112 3 = true) ∧ (f63 = true ∨ w112 4 = true) ∧ (HS [] false s s121 [⟨some b2, [v81, (AV.sl z84 f85 e86), v116, (AV.sl z56 f57 e58), (AV.sl z62 f63 e64)], w112⟩, x80, x115]) ∧ impl_match_J4 m55 m61 t67 m79 m83 t102 m114 t120 = some ee1) ?_ ?_
    ·rintro ⟨m114, t120, w112, x115, v116, s121⟩ tm os ⟨h113, h117, h118, h119, hH122, h⟩
     unfold impl_match_J4 at h
     refine AW.sr ?_
     refine AOps.p rfl (rfl : _ = (AV.ptr b2 0)) ?_
     refine AOps.ldB (i := 0) (v := v81) hH122 rfl rfl rfl rfl rfl rfl rfl rfl rfl ?_
     refine AOps.p rfl (rfl : _ = (AV.int .i64 t120)) ?_
     refine AOps.makeR rfl rfl rfl rfl rfl rfl (rfl : _ = (AV.sl 1 true [(AV.int .i64 t120)])) ?_
     obtain ⟨l124, h125, h⟩ := obind h
     refine AOps.appD (i := 1) (r := rI .i64) (ei := ty2) (z' := 1) (f' := true) (e' := [(AV.int .i64 t120)]) hH122 rfl h82 Sh.I rfl rfl rfl rfl rfl rfl rfl (appSrc_sl (LR.z (LR.lit (r := rI .i64) (sz := 1) (.cons rfl .nil))) rfl) (LR.el (LR.lit (r := rI .i64) (sz := 1) (.cons rfl .nil))) rfl ⟨by decide, by decide, rfl, rfl⟩ rfl rfl h125 ?_
     intro b126 n127 cs128 s129 h130 hH131
     change HS [] false s s129 [⟨some b2, [v81, (AV.sl z84 f85 e86), v116, (AV.sl z56 f57 e58), (AV.sl z62 f63 e64)], w112⟩, ⟨some b126, cs128, fun _ => false⟩, x115] at hH131
     refine AOps.p rfl (rfl : _ = (AV.ptr b2 4)) ?_
     refine AOps.ldMv (i := 0) (v := (AV.sl z62 f63 e64)) hH131 rfl rfl rfl rfl rfl rfl rfl rfl rfl rfl h119 ?_
     intro o132 w133 s137 h134 h135 hH136
     change HS [] false s s137 [⟨some b2, [v81, (AV.sl z84 f85 e86), v116, (AV.sl z56 f57 e58), (AV.sl z62 f63 e64)], w133⟩, ⟨some b126, cs128, fun _ => false⟩, x115] at hH136
     refine AOps.p rfl (rfl : _ = (AV.int .i64 t102)) ?_
     refine AOps.makeR rfl rfl rfl rfl rfl rfl (rfl : _ = (AV.sl 1 true [(AV.int .i64 t102)])) ?_
     obtain ⟨l138, h139, h⟩ := obind h
     obtain ⟨h140, h141⟩ := app_LR h65 (LR.lit (r := rI .i64) (sz := 1) (.cons rfl .nil)) h139
     refine AOps.appL (z := z62) (f := f63) (e := e64) (z' := 1) (f' := true) (e' := [(AV.int .i64 t102)]) rfl rfl rfl rfl rfl rfl rfl (appSrc_sl (LR.z (LR.lit (r := rI .i64) (sz := 1) (.cons rfl .nil))) rfl) (LR.z h65) ⟨by decide, by decide, rfl, rfl⟩ rfl rfl h141 (own_tmp h134 rfl rfl) ?_
     refine AOps.p rfl (rfl : _ = (AV.ptr b2 0)) ?_
     refine AOps.stB (i := 0) (v := (AV.ms false 1 b126 0 n127)) hH136 rfl rfl rfl rfl rfl rfl rfl rfl rfl (lt_b rfl) (le_b rfl) rfl ?_
     intro w142 s143 h144 h145 hH146
     change HS [] false s s143 [⟨some b2, [(AV.ms false 1 b126 0 n127), (AV.sl z84 f85 e86), v116, (AV.sl z56 f57 e58), (AV.sl z62 f63 e64)], w142⟩, ⟨some b126, cs128, fun _ => false⟩, x115] at hH146
     refine AOps.p rfl (rfl : _ = (AV.ptr b2 4)) ?_
     refine AOps.stB (i := 0) (v := (AV.sl 1 false (e64 ++ [(AV.int .i64 t102)]))) hH146 rfl rfl rfl rfl rfl rfl rfl rfl rfl (lt_b rfl) (le_b rfl) rfl ?_
     intro w147 s148 h149 h150 hH151
     change HS [] false s s148 [⟨some b2, [(AV.ms false 1 b126 0 n127), (AV.sl z84 f85 e86), v116, (AV.sl z56 f57 e58), (AV.sl 1 false (e64 ++ [(AV.int .i64 t102)]))], w147⟩, ⟨some b126, cs128, fun _ => false⟩, x115] at hH151
     refine AOps.nilR ?_
     refine AW.region ?_
     refine AOps.p rfl (rfl : _ = (AV.ptr b2 3)) ?_
     refine AOps.ldMv (i := 0) (v := (AV.sl z56 f57 e58)) hH151 rfl rfl rfl rfl rfl rfl rfl rfl rfl rfl (own_keep (own_keep (own_keep h118 (h135 _ (by decide))) (h144 _ (by decide))) (h149 _ (by decide))) ?_
     intro o152 w153 s157 h154 h155 hH156
     change HS [] false s s157 [⟨some b2, [(AV.ms false 1 b126 0 n127), (AV.sl z84 f85 e86), v116, (AV.sl z56 f57 e58), (AV.sl 1 false (e64 ++ [(AV.int .i64 t102)]))], w153⟩, ⟨some b126, cs128, fun _ => false⟩, x115] at hH156
     refine AOps.p rfl (rfl : _ = (AV.ptr b2 2)) ?_
     refine AOps.ldB (i := 0) (v := v116) hH156 rfl rfl rfl rfl rfl rfl rfl rfl rfl ?_
     obtain ⟨y158, h159, h⟩ := obind h
     refine AOps.callDP (g := 63) (args := [v116]) (p := (rI .i64) y158) rfl rfl rfl (impl_size_int64_d_ok (s := St.still s157) h117 (HS.fr hH156 (i := 2) rfl) h159 ((HS.wf' hH156).still)) (fun v hv => Nice.pure (k := FINK) (p := (rI .i64) y158) .I _ v hv) ?_
     intro _ o161 h160
     cases h160
     refine AOps.makeR rfl rfl rfl rfl rfl rfl (rfl : _ = (AV.sl 1 true [(AV.int .i64 y158)])) ?_
     obtain ⟨l162, h163, h⟩ := obind h
     obtain ⟨h164, h165⟩ := app_LR h59 (LR.lit (r := rI .i64) (sz := 1) (.cons rfl .nil)) h163
     refine AOps.appL (z := z56) (f := f57) (e := e58) (z' := 1) (f' := true) (e' := [(AV.int .i64 y158)]) rfl rfl rfl rfl rfl rfl rfl (appSrc_sl (LR.z (LR.lit (r := rI .i64) (sz := 1) (.cons rfl .nil))) rfl) (LR.z h59) ⟨by decide, by decide, rfl, rfl⟩ rfl rfl h165 (own_tmp h154 rfl rfl) ?_
     refine AOps.p rfl (rfl : _ = (AV.ptr b2 3)) ?_
     refine AOps.stB (i := 0) (v := (AV.sl 1 false (e58 ++ [(AV.int .i64 y158)]))) hH156 rfl rfl rfl rfl rfl rfl rfl rfl rfl (lt_b rfl) (le_b rfl) rfl ?_
     intro w166 s167 h168 h169 hH170
     change HS [] false s s167 [⟨some b2, [(AV.ms false 1 b126 0 n127), (AV.sl z84 f85 e86), v116, (AV.sl 1 false (e58 ++ [(AV.int .i64 y158)])), (AV.sl 1 false (e64 ++ [(AV.int .i64 t102)]))], w166⟩, ⟨some b126, cs128, fun _ => false⟩, x115] at hH170
     refine AOps.nilR ?_
     refine AW.inBlock ?_
     refine AW.region ?_
     refine AOps.p rfl (rfl : _ = (AV.int .i64 (IntKind.wrap .i64 (t67 + 1)))) ?_
     refine AOps.p rfl (rfl : _ = (AV.int .i64 (IntKind.wrap .i64 (t67 + 1)))) ?_
     refine AOps.nilR ?_
     cases h
     exact AW.res [(0, (AV.str p1)), (2, (AV.pend 5)), (3, (AV.ptr b2 0)), (13, (AV.int .i64 (p1.length : Int))), (14, (AV.int .i64 (IntKind.wrap .i64 (t67 + 1))))] [(2, true)] ⟨rfl, rfl, rfl, rfl, rfl, trivial⟩ ⟨rfl, trivial⟩ (hL1 _ rfl (w166, ⟨some b126, cs128, fun _ => false⟩, (AV.ms false 1 b126 0 n127), z84, f85, e86, x115, v116, 1, false, (e58 ++ [(AV.int .i64 y158)]), 1, false, (e64 ++ [(AV.int .i64 t102)]), s167) _ _ ⟨(DY.ms rfl h130), h87, (own_keep (own_keep (own_keep (own_keep (own_keep h113 (h135 _ (by decide))) (h144 _ (by decide))) (h149 _ (by decide))) (h155 _ (by decide))) (h168 _ (by decide))), h117, h164, (own_st (Or.inr rfl) h169 rfl rfl rfl), h140, (own_keep (own_keep (own_st (Or.inr rfl) h150 rfl rfl rfl) (h155 _ (by decide))) (h168 _ (by decide))), (HS.sel hH170 [some 0, some 1, some 2] (by decide))⟩)
    intro KJ123
    rcases oite h with ⟨hc171, h⟩ | ⟨hc171, h⟩
    ·refine AW.condT (congrArg AV.bool hc171) ?_
     refine AW.sr ?_
     refine AOps.p rfl (rfl : _ = (AV.int .i64 (-2))) ?_
     refine AOps.nilR ?_
     refine AW.region ?_
     refine AOps.p rfl (rfl : _ = (AV.ptr b2 2)) ?_
     refine AOps.ldB (i := 0) (v := v100) hH104 rfl rfl rfl rfl rfl rfl rfl rfl rfl ?_
     refine AOps.p rfl (rfl : _ = (AV.int .i64 t67)) ?_
     refine AOps.makeR rfl rfl rfl rfl rfl rfl (rfl : _ = (AV.sl 1 true [(AV.int .i64 t67)])) ?_
     obtain ⟨l172, h173, h⟩ := obind h
     refine AOps.appD (i := 2) (r := rI .i64) (ei := ty2) (z' := 1) (f' := true) (e' := [(AV.int .i64 t67)]) hH104 rfl h101 Sh.I rfl rfl rfl rfl rfl rfl rfl (appSrc_sl (LR.z (LR.lit (r := rI .i64) (sz := 1) (.cons rfl .nil))) rfl) (LR.el (LR.lit (r := rI .i64) (sz := 1) (.cons rfl .nil))) rfl ⟨by decide, by decide, rfl, rfl⟩ rfl rfl h173 ?_
     intro b174 n175 cs176 s177 h178 hH179
     change HS [] false s s177 [⟨some b2, [v81, (AV.sl z84 f85 e86), v100, (AV.sl z56 f57 e58), (AV.sl z62 f63 e64)], w78⟩, x80, ⟨some b174, cs176, fun _ => false⟩] at hH179
     refine AOps.p rfl (rfl : _ = (AV.ptr b2 2)) ?_
     refine AOps.stB (i := 0) (v := (AV.ms false 1 b174 0 n175)) hH179 rfl rfl rfl rfl rfl rfl rfl rfl rfl (lt_b rfl) (le_b rfl) rfl ?_
     intro w180 s181 h182 h183 hH184
     change HS [] false s s181 [⟨some b2, [v81, (AV.sl z84 f85 e86), (AV.ms false 1 b174 0 n175), (AV.sl z56 f57 e58), (AV.sl z62 f63 e64)], w180⟩, x80, ⟨some b174, cs176, fun _ => false⟩] at hH184
     refine AOps.nilR ?_
     exact AW.res [(0, (AV.str p1)), (2, (AV.pend 5)), (3, (AV.ptr b2 0)), (6, (AV.int .i64 (-2))), (8, (AV.int .i64 t102)), (13, (AV.int .i64 (p1.length : Int))), (14, (AV.int .i64 t67))] [(2, true)] ⟨rfl, rfl, rfl, rfl, rfl, rfl, rfl, trivial⟩ ⟨rfl, trivial⟩ (KJ123 (l172, (-2), w180, ⟨some b174, cs176, fun _ => false⟩, (AV.ms false 1 b174 0 n175), s181) _ _ ⟨(own_keep h88 (h182 _ (by decide))), (DY.ms rfl h178), (own_keep h93 (h182 _ (by decide))), (own_keep h94 (h182 _ (by decide))), (HS.sel hH184 [some 0, some 1, some 2] (by decide)), h⟩)
    refine AW.condF (congrArg AV.bool hc171) ?_
    refine AW.skip ?_
    exact AW.res [(0, (AV.str p1)), (2, (AV.pend 5)), (3, (AV.ptr b2 0)), (6, (AV.int .i64 t95)), (8, (AV.int .i64 t102)), (13, (AV.int .i64 (p1.length : Int))), (14, (AV.int .i64 t67))] [(2, true)] ⟨rfl, rfl, rfl, rfl, rfl, rfl, rfl, trivial⟩ ⟨rfl, trivial⟩ (KJ123 (m89, t95, w78, x99, v100, s103) _ _ ⟨h88, h101, h93, h94, (HS.sel hH104 [some 0, some 1, some 2] (by decide)), h⟩)
   intro KJ105
   rcases oite h with ⟨hc185, h⟩ | ⟨hc185, h⟩
   ·refine AW.condT (congrArg AV.bool hc185) ?_
    refine AW.region ?_
    refine AOps.p rfl (rfl : _ = (AV.ptr b2 2)) ?_
    refine AOps.ldB (i := 0) (v := v91) hH97 rfl rfl rfl rfl rfl rfl rfl rfl rfl ?_
    refine AOps.p rfl (rfl : _ = (AV.int .i64 (m89.length : Int))) ?_
    refine AOps.p rfl (rfl : _ = (AV.int .i64 (IntKind.wrap .i64 ((m89.length : Int) - 1)))) ?_
    obtain ⟨x186, h187, h⟩ := obind h
    obtain ⟨b188, n189, h190, h192, h191⟩ := DY.has h92 h187
    subst h192
    refine AOps.pureR rfl rfl rfl (idx_ms h191 h187) rfl (rfl : _ = (AV.ptr b188 (0 + Int.toNat (IntKind.wrap .i64 ((m89.length : Int) - 1)) * 1))) ?_
    refine AOps.ldM (i := 2) (r := rI .i64) (off := 0) hH97 rfl h190 h191 h187 rfl rfl rfl rfl rfl (lt_b rfl) (le_b rfl) rfl rfl ?_ (fun c hr hs => by cases hr; exact ⟨_, rfl⟩)
    intro c193 h194 h195 v196 h197
    cases h194
    cases h197
    refine AOps.assignR rfl rfl rfl (rfl : _ = (AV.int .i64 x186)) rfl ?_
    refine AOps.nilR ?_
    exact AW.res [(0, (AV.str p1)), (2, (AV.pend 5)), (3, (AV.ptr b2 0)), (4, (AV.int .i64 t67)), (5, (AV.int .i64 t67)), (6, (AV.int .i64 t95)), (8, (AV.int .i64 x186)), (13, (AV.int .i64 (p1.length : Int))), (14, (AV.int .i64 t67))] [(2, true)] ⟨rfl, rfl, rfl, rfl, rfl, rfl, rfl, rfl, rfl, trivial⟩ ⟨rfl, trivial⟩ (KJ105 (x186, x90, (AV.ms false 1 b188 0 n189), s96) _ _ ⟨(DY.ms h190 h191), (HS.sel hH97 [some 0, some 1, some 2] (by decide)), h⟩)
   refine AW.condF (congrArg AV.bool hc185) ?_
   refine AW.skip ?_
   exact AW.res [(0, (AV.str p1)), (2, (AV.pend 5)), (3, (AV.ptr b2 0)), (4, (AV.int .i64 t67)), (5, (AV.int .i64 t67)), (6, (AV.int .i64 t95)), (8, (AV.int .i64 (-1))), (13, (AV.int .i64 (p1.length : Int))), (14, (AV.int .i64 t67))] [(2, true)] ⟨rfl, rfl, rfl, rfl, rfl, rfl, rfl, rfl, rfl, trivial⟩ ⟨rfl, trivial⟩ (KJ105 ((-1), x90, v91, s96) _ _ ⟨h92, (HS.sel hH97 [some 0, some 1, some 2] (by decide)), h⟩)
  intro KJ98
  rcases oite h with ⟨hc198, h⟩ | ⟨hc198, h⟩
  ·refine AW.condT (congrArg AV.bool hc198) ?_
   refine AW.sr ?_
   refine AOps.p rfl (rfl : _ = (AV.int .i64 (-2))) ?_
   refine AOps.nilR ?_
   refine AW.region ?_
   refine AOps.p rfl (rfl : _ = (AV.ptr b2 1)) ?_
   refine AOps.ldMv (i := 0) (v := (AV.sl z46 f47 e48)) hH69 rfl rfl rfl rfl rfl rfl rfl rfl rfl rfl h50 ?_
   intro o199 w200 s204 h201 h202 hH203
   change HS [] false s s204 [⟨some b2, [v43, (AV.sl z46 f47 e48), v53, (AV.sl z56 f57 e58), (AV.sl z62 f63 e64)], w200⟩, x42, x52] at hH203
   refine AOps.p rfl (rfl : _ = (AV.int .i64 t67)) ?_
   refine AOps.makeR rfl rfl rfl rfl rfl rfl (rfl : _ = (AV.sl 1 true [(AV.int .i64 t67)])) ?_
   obtain ⟨l205, h206, h⟩ := obind h
   obtain ⟨h207, h208⟩ := app_LR h49 (LR.lit (r := rI .i64) (sz := 1) (.cons rfl .nil)) h206
   refine AOps.appL (z := z46) (f := f47) (e := e48) (z' := 1) (f' := true) (e' := [(AV.int .i64 t67)]) rfl rfl rfl rfl rfl rfl rfl (appSrc_sl (LR.z (LR.lit (r := rI .i64) (sz := 1) (.cons rfl .nil))) rfl) (LR.z h49) ⟨by decide, by decide, rfl, rfl⟩ rfl rfl h208 (own_tmp h201 rfl rfl) ?_
   refine AOps.p rfl (rfl : _ = (AV.ptr b2 1)) ?_
   refine AOps.stB (i := 0) (v := (AV.sl 1 false (e48 ++ [(AV.int .i64 t67)]))) hH203 rfl rfl rfl rfl rfl rfl rfl rfl rfl (lt_b rfl) (le_b rfl) rfl ?_
   intro w209 s210 h211 h212 hH213
   change HS [] false s s210 [⟨some b2, [v43, (AV.sl 1 false (e48 ++ [(AV.int .i64 t67)])), v53, (AV.sl z56 f57 e58), (AV.sl z62 f63 e64)], w209⟩, x42, x52] at hH213
   refine AOps.nilR ?_
   exact AW.res [(0, (AV.str p1)), (2, (AV.pend 5)), (3, (AV.ptr b2 0)), (4, (AV.int .i64 t67)), (5, (AV.int .i64 t67)), (6, (AV.int .i64 (-2))), (13, (AV.int .i64 (p1.length : Int))), (14, (AV.int .i64 t67))] [(2, true)] ⟨rfl, rfl, rfl, rfl, rfl, rfl, rfl, rfl, trivial⟩ ⟨rfl, trivial⟩ (KJ98 (m41, l205, m51, (-2), w209, x42, v43, 1, false, (e48 ++ [(AV.int .i64 t67)]), x52, v53, s210) _ _ ⟨h44, h207, (own_st (Or.inr rfl) h212 rfl rfl rfl), h54, (own_keep (own_keep h60 (h202 _ (by decide))) (h211 _ (by decide))), (own_keep (own_keep h66 (h202 _ (by decide))) (h211 _ (by decide))), (HS.sel hH213 [some 0, some 1, some 2] (by decide)), h⟩)
  refine AW.condF (congrArg AV.bool hc198) ?_
  refine AW.sr ?_
  refine AOps.p rfl (rfl : _ = (AV.str p1)) ?_
  refine AOps.p rfl (rfl : _ = (AV.int .i64 t67)) ?_
  obtain ⟨c214, h215, h⟩ := obind h
  refine AOps.pureR rfl rfl rfl (chr_str h215) rfl (rfl : _ = (AV.int .u8 c214)) ?_
  obtain ⟨y216, h217, h⟩ := obind h
  refine AOps.callP (g := 61) (args := [(AV.int .u8 c214)]) (p := (rB) y216) rfl rfl rfl (impl_isReturn_ok  h217 (HS.wf' hH69)) ?_
  intro _ o219 h218
  cases h218
  refine AOps.assignR rfl rfl rfl (rfl : _ = (AV.bool y216)) rfl ?_
  refine AOps.nilR ?_
  rcases oite h with ⟨hc220, h⟩ | ⟨hc220, h⟩
  ·refine AW.condT (congrArg AV.bool hc220) ?_
   refine AW.sr ?_
   refine AOps.p rfl (rfl : _ = (AV.ptr b2 2)) ?_
   refine AOps.ldB (i := 0) (v := v53) hH69 rfl rfl rfl rfl rfl rfl rfl rfl rfl ?_
   refine AOps.p rfl (rfl : _ = (AV.int .i64 (m51.length : Int))) ?_
   refine AOps.p rfl (rfl : _ = (AV.int .i64 (IntKind.wrap .i64 ((m51.length : Int) - 1)))) ?_
   obtain ⟨x221, h222, h⟩ := obind h
   obtain ⟨b223, n224, h225, h227, h226⟩ := DY.has h54 h222
   subst h227
   refine AOps.pureR rfl rfl rfl (idx_ms h226 h222) rfl (rfl : _ = (AV.ptr b223 (0 + Int.toNat (IntKind.wrap .i64 ((m51.length : Int) - 1)) * 1))) ?_
   refine AOps.ldM (i := 2) (r := rI .i64) (off := 0) hH69 rfl h225 h226 h222 rfl rfl rfl rfl rfl (lt_b rfl) (le_b rfl) rfl rfl ?_ (fun c hr hs => by cases hr; exact ⟨_, rfl⟩)
   intro c228 h229 h230 v231 h232
   cases h229
   cases h232
   refine AOps.assignR rfl rfl rfl (rfl : _ = (AV.int .i64 x221)) rfl ?_
   refine AOps.nilR ?_
   refine AW.sr ?_
   refine AOps.p rfl (rfl : _ = (AV.ptr b2 0)) ?_
   refine AOps.ldB (i := 0) (v := v43) hH69 rfl rfl rfl rfl rfl rfl rfl rfl rfl ?_
   refine AOps.p rfl (rfl : _ = (AV.int .i64 x221)) ?_
   refine AOps.p rfl (rfl : _ = (AV.int .i64 t67)) ?_
   obtain ⟨x233, h234, h⟩ := obind h
   obtain ⟨b235, n236, h237, h239, h238⟩ := DY.has h44 h234
   subst h239
   refine AOps.pureR rfl rfl rfl (idx_ms h238 h234) rfl (rfl : _ = (AV.ptr b235 (0 + Int.toNat x221 * 1))) ?_
   refine AOps.stM (i := 1) (r := rI .i64) (v := (AV.int .i64 t67)) (y := t67) hH69 rfl h237 h238 h234 rfl rfl rfl rfl rfl rfl (Sh.I t67 _ rfl) rfl rfl (lt_b rfl) rfl rfl ?_
   intro cs240 w241 s242 h243 hH244
   change HS [] false s s242 [⟨some b2, [(AV.ms false 1 b235 0 n236), (AV.sl z46 f47 e48), (AV.ms false 1 b223 0 n224), (AV.sl z56 f57 e58), (AV.sl z62 f63 e64)], w40⟩, ⟨some b235, cs240, w241⟩, x52] at hH244
   refine AOps.nilR ?_
   refine AW.region ?_
   refine AOps.p rfl (rfl : _ = (AV.ptr b2 2)) ?_
   refine AOps.ldB (i := 0) (v := (AV.ms false 1 b223 0 n224)) hH244 rfl rfl rfl rfl rfl rfl rfl rfl rfl ?_
   refine AOps.p rfl (rfl : _ = (AV.int .i64 (m51.length : Int))) ?_
   refine AOps.p rfl (rfl : _ = (AV.int .i64 (IntKind.wrap .i64 ((m51.length : Int) - 1)))) ?_
   obtain ⟨l245, h246, h⟩ := obind h
   obtain ⟨h247, h248⟩ := MS.cut (b := b223) (k := .i64) h226 h246
   refine AOps.pureR rfl rfl rfl h248 rfl (rfl : _ = (AV.ms false 1 b223 0 (Int.toNat (IntKind.wrap .i64 ((m51.length : Int) - 1))))) ?_
   refine AOps.p rfl (rfl : _ = (AV.ptr b2 2)) ?_
   refine AOps.stB (i := 0) (v := (AV.ms false 1 b223 0 (Int.toNat (IntKind.wrap .i64 ((m51.length : Int) - 1))))) hH244 rfl rfl rfl rfl rfl rfl rfl rfl rfl (lt_b rfl) (le_b rfl) rfl ?_
   intro w249 s250 h251 h252 hH253
   change HS [] false s s250 [⟨some b2, [(AV.ms false 1 b235 0 n236), (AV.sl z46 f47 e48), (AV.ms false 1 b223 0 (Int.toNat (IntKind.wrap .i64 ((m51.length : Int) - 1)))), (AV.sl z56 f57 e58), (AV.sl z62 f63 e64)], w249⟩, ⟨some b235, cs240, w241⟩, x52] at hH253
   refine AOps.nilR ?_
   exact AW.res [(0, (AV.str p1)), (2, (AV.pend 5)), (3, (AV.ptr b2 0)), (4, (AV.int .i64 t67)), (5, (AV.int .i64 t67)), (6, (AV.int .i64 x221)), (13, (AV.int .i64 (p1.length : Int))), (14, (AV.int .i64 t67))] [(2, true)] ⟨rfl, rfl, rfl, rfl, rfl, rfl, rfl, rfl, trivial⟩ ⟨rfl, trivial⟩ (KJ98 ((m41.set (Int.toNat x221) t67), m45, l245, x221, w249, ⟨some b235, cs240, w241⟩, (AV.ms false 1 b235 0 n236), z46, f47, e48, x52, (AV.ms false 1 b223 0 (Int.toNat (IntKind.wrap .i64 ((m51.length : Int) - 1)))), s250) _ _ ⟨(DY.ms rfl h243), h49, (own_keep h50 (h251 _ (by decide))), (DY.ms h225 h247), (own_keep h60 (h251 _ (by decide))), (own_keep h66 (h251 _ (by decide))), (HS.sel hH253 [some 0, some 1, some 2] (by decide)), h⟩)
  refine AW.condF (congrArg AV.bool hc220) ?_
  refine AW.skip ?_
  exact AW.res [(0, (AV.str p1)), (2, (AV.pend 5)), (3, (AV.ptr b2 0)), (4, (AV.int .i64 t67)), (5, (AV.int .i64 t67)), (6, (AV.int .i64 (-1))), (13, (AV.int .i64 (p1.length : Int))), (14, (AV.int .i64 t67))] [(2, true)] ⟨rfl, rfl, rfl, rfl, rfl, rfl, rfl, rfl, trivial⟩ ⟨rfl, trivial⟩ (KJ98 (m41, m45, m51, (-1), w40, x42, v43, z46, f47, e48, x52, v53, s68) _ _ ⟨h44, h49, h50, h54, h60, h66, (HS.sel hH69 [some 0, some 1, some 2] (by decide)), h⟩)
 refine AW.condF (congrArg AV.bool hc70) ?_
 refine AW.exit rfl ?_
 obtain ⟨r254, hm, hx⟩ := omap h
 clear h
 subst hx
 have hx := hR1 _ rfl
 rw [hx] at hm
 have h := hm
 exact AW.res [(2, (AV.pend 5)), (3, (AV.ptr b2 0))] [(2, true)] ⟨rfl, rfl, trivial⟩ ⟨rfl, trivial⟩ (KJ39 (m41, m45, m51, m55, m61, w40, x42, v43, z46, f47, e48, x52, v53, z56, f57, e58, z62, f63, e64, s68) _ _ ⟨h44, h49, h50, h54, h59, h60, h65, h66, (HS.sel hH69 [some 0, some 1, some 2] (by decide)), h⟩)
theorem impl_isMatched_ok {w1 : List UInt8} {s : St} {r : Bool} (h : impl_isMatched w1 = some r) (hs : WF s) : ACall Cf 35 [(AV.str w1)] s fun v _ s' => (rB) r v ∧ s' = s := by
 refine ACall.pure rfl rfl rfl .B ?_
 have hWF := hs.lo'
 unfold impl_isMatched at h
 refine AW.sr ?_
 refine AOps.p rfl (rfl : _ = (AV.bool false)) ?_
 refine AOps.nilR ?_
 refine AW.sr ?_
 refine AOps.p rfl (rfl : _ = (AV.str w1)) ?_
 obtain ⟨y2, h3, h⟩ := obind h
 refine AOps.callP (g := 39) (args := [(AV.str w1)]) (p := (rMatching) y2) rfl rfl rfl (impl_match_ok  h3 hWF) ?_
 intro _ o36 h4
 obtain ⟨_, rfl, h5⟩ := h4
 obtain ⟨_, _, rfl, h6, h7⟩ := Cs_cons h5
 obtain ⟨z8, f9, e10, rfl, h11⟩ := h6
 obtain ⟨_, _, rfl, h12, h13⟩ := Cs_cons h7
 obtain ⟨z14, f15, e16, rfl, h17⟩ := h12
 obtain ⟨_, _, rfl, h18, h19⟩ := Cs_cons h13
 obtain ⟨z20, f21, e22, rfl, h23⟩ := h18
 obtain ⟨_, _, rfl, h24, h25⟩ := Cs_cons h19
 obtain ⟨z26, f27, e28, rfl, h29⟩ := h24
 obtain ⟨_, _, rfl, h30, h31⟩ := Cs_cons h25
 obtain ⟨z32, f33, e34, rfl, h35⟩ := h30
 cases Cs_nil h31
 refine AOps.allocP rfl rfl rfl rfl ⟨rfl, rfl⟩ rfl ?_
 refine AOps.stP (v := (AV.agg [(AV.sl z8 f9 e10), (AV.sl z14 f15 e16), (AV.sl z20 f21 e22), (AV.sl z26 f27 e28), (AV.sl z32 f33 e34)])) rfl rfl rfl rfl rfl rfl rfl rfl rfl (lt_b rfl) rfl ?_
 refine AOps.nilR ?_
 refine AW.sr ?_
 refine AOps.p rfl (rfl : _ = (AV.eptr [(AV.sl z8 f9 e10), (AV.sl z14 f15 e16), (AV.sl z20 f21 e22), (AV.sl z26 f27 e28), (AV.sl z32 f33 e34)] 1)) ?_
 refine AOps.ldE (v := (AV.sl z14 f15 e16)) rfl rfl rfl rfl rfl rfl ?_
 refine AOps.p rfl (len_eq h17) ?_
 refine AOps.p rfl (rfl : _ = (AV.eptr [(AV.sl z8 f9 e10), (AV.sl z14 f15 e16), (AV.sl z20 f21 e22), (AV.sl z26 f27 e28), (AV.sl z32 f33 e34)] 2)) ?_
 refine AOps.ldE (v := (AV.sl z20 f21 e22)) rfl rfl rfl rfl rfl rfl ?_
 refine AOps.p rfl (len_eq h23) ?_
 refine AOps.p rfl (rfl : _ = (AV.int .i64 (IntKind.wrap .i64 ((y2.returns.length : Int) + (y2.calls.length : Int))))) ?_
 refine AOps.p rfl (rfl : _ = (AV.bool ((IntKind.wrap .i64 ((y2.returns.length : Int) + (y2.calls.length : Int))) == 0))) ?_
 refine AOps.assignR rfl rfl rfl (rfl : _ = (AV.bool ((IntKind.wrap .i64 ((y2.returns.length : Int) + (y2.calls.length : Int))) == 0))) rfl ?_
 refine AOps.nilR ?_
 cases h
 exact AW.ret ⟨rfl, _, _, rfl, rfl⟩
theorem impl_factors_ok {w1 : List UInt8} {s : St} {r : (List (List UInt8))} (h : impl_factors w1 = some r) (hs : WF s) : ACall Cf 21 [(AV.str w1)] s fun v _ s' => (rL rS 1) r v ∧ s' = s := by
 refine ACall.pure rfl rfl rfl (.L fun _ => .S) ?_
 have hWF := hs.lo'
 unfold impl_factors at h
 refine AW.sr ?_
 refine AOps.p rfl (rfl : _ = (AV.sl 0 true [])) ?_
 refine AOps.nilR ?_
 refine AW.sr ?_
 refine AOps.makeR rfl rfl rfl rfl rfl rfl (rfl : _ = (AV.sl 1 true [])) ?_
 refine AOps.p rfl (rfl : _ = (AV.str w1)) ?_
 obtain ⟨y2, h3, h⟩ := obind h
 refine AOps.callP (g := 39) (args := [(AV.str w1)]) (p := (rMatching) y2) rfl rfl rfl (impl_match_ok  h3 hWF) ?_
 intro _ o36 h4
 obtain ⟨_, rfl, h5⟩ := h4
 obtain ⟨_, _, rfl, h6, h7⟩ := Cs_cons h5
 obtain ⟨z8, f9, e10, rfl, h11⟩ := h6
 obtain ⟨_, _, rfl, h12, h13⟩ := Cs_cons h7
 obtain ⟨z14, f15, e16, rfl, h17⟩ := h12
 obtain ⟨_, _, rfl, h18, h19⟩ := Cs_cons h13
 obtain ⟨z20, f21, e22, rfl, h23⟩ := h18
 obtain ⟨_, _, rfl, h24, h25⟩ := Cs_cons h19
 obtain ⟨z26, f27, e28, rfl, h29⟩ := h24
 obtain ⟨_, _, rfl, h30, h31⟩ := Cs_cons h25
 obtain ⟨z32, f33, e34, rfl, h35⟩ := h30
 cases Cs_nil h31
 refine AOps.allocP rfl rfl rfl rfl ⟨rfl, rfl⟩ rfl ?_
 refine AOps.assignR rfl rfl rfl (rfl : _ = (AV.sl 1 true [])) rfl ?_
 refine AOps.stP (v := (AV.agg [(AV.sl z8 f9 e10), (AV.sl z14 f15 e16), (AV.sl z20 f21 e22), (AV.sl z26 f27 e28), (AV.sl z32 f33 e34)])) rfl rfl rfl rfl rfl rfl rfl rfl rfl (lt_b rfl) rfl ?_
 refine AOps.nilR ?_
 refine AW.seq ?_
 refine AW.sr ?_
 refine AOps.p rfl (rfl : _ = (AV.int .i64 0)) ?_
 refine AOps.nilR ?_
 refine AW.meet (σ := (List (List UInt8)) × Nat × Bool × (List AV) × Bool) (fun (out37, z38, f39, e40, o42) tm os => ⟨updL tm [(3, (AV.sl z38 f39 e40))], updL os [(3, o42)], { s with lo := s.n }⟩) (fun (out37, z38, f39, e40, o42) => (LR rS 1 out37 z38 e40) ∧ (f39 = true ∨ o42 = true) ∧ impl_factors_J1 out37 = some r) ?_ ?_
 ·rintro ⟨out37, z38, f39, e40, o42⟩ tm os ⟨h41, h43, h⟩
  unfold impl_factors_J1 at h
  refine AW.sr ?_
  refine AOps.p rfl (rfl : _ = (AV.sl z38 f39 e40)) ?_
  refine AOps.assignR rfl rfl rfl (rfl : _ = (AV.sl z38 f39 e40)) rfl ?_
  refine AOps.nilR ?_
  cases h
  exact AW.ret ⟨rfl, _, _, rfl, ⟨_, _, _, rfl, h41⟩⟩
 intro KJ44
 refine AW.block ?_
 refine AW.res [(0, (AV.str w1)), (3, (AV.sl 1 true [])), (4, (AV.eptr [(AV.sl z8 f9 e10), (AV.sl z14 f15 e16), (AV.sl z20 f21 e22), (AV.sl z26 f27 e28), (AV.sl z32 f33 e34)] 0)), (5, (AV.int .i64 0))] [(3, false)] ⟨rfl, rfl, rfl, rfl, trivial⟩ ⟨rfl, trivial⟩ ?_
 refine AW.loopF (σ := (List (List UInt8)) × Int) (τ := Nat × Bool × (List AV) × Bool) (fun (out45, i52) (z46, f47, e48, o50) => (LR rS 1 out45 z46 e48) ∧ (f47 = true ∨ o50 = true)) (fun (out45, i52) (z46, f47, e48, o50) tm os => ⟨updL tm [(0, (AV.str w1)), (3, (AV.sl z46 f47 e48)), (4, (AV.eptr [(AV.sl z8 f9 e10), (AV.sl z14 f15 e16), (AV.sl z20 f21 e22), (AV.sl z26 f27 e28), (AV.sl z32 f33 e34)] 0)), (5, (AV.int .i64 i52))], updL os [(3, o50)], { s with lo := s.n }⟩) ?_ (x := (([] : List (List UInt8)), 0)) (y := (1, true, [], false)) h ⟨⟨.inl rfl, .nil⟩, (Or.inl rfl)⟩
 clear h
 rintro ⟨out45, i52⟩ ⟨z46, f47, e48, o50⟩ tm os ⟨h49, h51⟩ ee1 h hL1 hR1
 unfold impl_factors_S1 at h
 dsimp only at h
 refine AW.seq ?_
 refine AW.sr ?_
 refine AOps.p rfl (rfl : _ = (AV.int .i64 i52)) ?_
 refine AOps.p rfl (rfl : _ = (AV.str w1)) ?_
 refine AOps.p rfl (rfl : _ = (AV.int .i64 (w1.length : Int))) ?_
 refine AOps.p rfl (rfl : _ = (AV.bool (decide ((i52 : Int) < (w1.length : Int))))) ?_
 refine AOps.nilR ?_
 rcases oite h with ⟨hc53, h⟩ | ⟨hc53, h⟩
 ·refine AW.condT (congrArg AV.bool hc53) ?_
  refine AW.skip ?_
  refine AW.block ?_
  refine AW.sr ?_
  refine AOps.p rfl (rfl : _ = (AV.int .i64 i52)) ?_
  refine AOps.p rfl (rfl : _ = (AV.eptr [(AV.sl z8 f9 e10), (AV.sl z14 f15 e16), (AV.sl z20 f21 e22), (AV.sl z26 f27 e28), (AV.sl z32 f33 e34)] 0)) ?_
  refine AOps.ldE (v := (AV.sl z8 f9 e10)) rfl rfl rfl rfl rfl rfl ?_
  refine AOps.p rfl (rfl : _ = (AV.int .i64 i52)) ?_
  obtain ⟨x54, h55, h⟩ := obind h
  obtain ⟨v58, h56, h57⟩ := idx_sl h11 h55
  cases h56
  refine AOps.pureR rfl rfl rfl h57 rfl (rfl : _ = (AV.eptr [(AV.int .i64 x54)] 0)) ?_
  refine AOps.ldE (v := (AV.int .i64 x54)) rfl rfl rfl rfl rfl rfl ?_
  refine AOps.p rfl (rfl : _ = (AV.int .i64 (if (i52 : Int) < x54 then x54 else i52))) ?_
  refine AOps.assignR rfl rfl rfl (rfl : _ = (AV.int .i64 (if (i52 : Int) < x54 then x54 else i52))) rfl ?_
  refine AOps.nilR ?_
  refine AW.sr ?_
  refine AOps.moveR rfl rfl rfl rfl (rfl : _ = (AV.sl z46 f47 e48)) rfl ?_
  refine AOps.p rfl (rfl : _ = (AV.str w1)) ?_
  refine AOps.p rfl (rfl : _ = (AV.int .i64 i52)) ?_
  refine AOps.p rfl (rfl : _ = (AV.int .i64 (if (i52 : Int) < x54 then x54 else i52))) ?_
  refine AOps.p rfl (rfl : _ = (AV.int .i64 (IntKind.wrap .i64 ((if (i52 : Int) < x54 then x54 else i52) + 1)))) ?_
  obtain ⟨w59, h60, h⟩ := obind h
  refine AOps.pureR rfl rfl rfl (cut_strLH h60) rfl (rfl : _ = (AV.str w59)) ?_
  refine AOps.makeR rfl rfl rfl rfl rfl rfl (rfl : _ = (AV.sl 1 true [(AV.str w59)])) ?_
  obtain ⟨l61, h62, h⟩ := obind h
  obtain ⟨h63, h64⟩ := app_LR h49 (LR.lit (r := rS) (sz := 1) (.cons rfl .nil)) h62
  refine AOps.appL (z := z46) (f := f47) (e := e48) (z' := 1) (f' := true) (e' := [(AV.str w59)]) rfl rfl rfl rfl rfl rfl rfl (appSrc_sl (LR.z (LR.lit (r := rS) (sz := 1) (.cons rfl .nil))) rfl) (LR.z h49) ⟨by decide, by decide, rfl, rfl⟩ rfl rfl h64 (own_tmp h51 rfl rfl) ?_
  refine AOps.assignR rfl rfl rfl (rfl : _ = (AV.sl 1 false (e48 ++ [(AV.str w59)]))) rfl ?_
  refine AOps.nilR ?_
  refine AW.region ?_
  refine AOps.p rfl (rfl : _ = (AV.int .i64 (if (i52 : Int) < x54 then x54 else i52))) ?_
  refine AOps.p rfl (rfl : _ = (AV.int .i64 (IntKind.wrap .i64 ((if (i52 : Int) < x54 then x54 else i52) + 1)))) ?_
  refine AOps.assignR rfl rfl rfl (rfl : _ = (AV.int .i64 (IntKind.wrap .i64 ((if (i52 : Int) < x54 then x54 else i52) + 1)))) rfl ?_
  refine AOps.nilR ?_
  refine AW.inBlock ?_
  cases h
  exact AW.res [(0, (AV.str w1)), (3, (AV.sl 1 false (e48 ++ [(AV.str w59)]))), (4, (AV.eptr [(AV.sl z8 f9 e10), (AV.sl z14 f15 e16), (AV.sl z20 f21 e22), (AV.sl z26 f27 e28), (AV.sl z32 f33 e34)] 0)), (5, (AV.int .i64 (IntKind.wrap .i64 ((if (i52 : Int) < x54 then x54 else i52) + 1))))] [(3, true)] ⟨rfl, rfl, rfl, rfl, trivial⟩ ⟨rfl, trivial⟩ (hL1 _ rfl (1, false, (e48 ++ [(AV.str w59)]), true) _ _ ⟨h63, (Or.inr rfl)⟩)
 refine AW.condF (congrArg AV.bool hc53) ?_
 refine AW.exit rfl ?_
 obtain ⟨r65, hm, hx⟩ := omap h
 clear h
 subst hx
 have hx := hR1 _ rfl
 rw [hx] at hm
 have h := hm
 exact AW.res [(3, (AV.sl z46 f47 e48))] [(3, o50)] ⟨rfl, trivial⟩ ⟨rfl, trivial⟩ (KJ44 (out45, z46, f47, e48, o50) _ _ ⟨h49, h51, h⟩)
theorem impl_Link_isCallLink_ok {l1 : Link} {s : St} {r : Bool} (h : impl_Link_isCallLink l1 = some r) (hs : WF s) : ACall Cf 38 [(AV.agg [(AV.int .i64 l1.From), (AV.int .i64 l1.To), (AV.str l1.Act), (AV.int .i64 l1.Module)])] s fun v _ s' => (rB) r v ∧ s' = s := by
 refine ACall.pure rfl rfl rfl .B ?_
 have hWF := hs.lo'
 unfold impl_Link_isCallLink at h
 refine AW.sr ?_
 refine AOps.makeR rfl rfl rfl rfl rfl rfl (rfl : _ = (AV.eptr [(AV.int .i64 l1.From), (AV.int .i64 l1.To), (AV.str l1.Act), (AV.int .i64 l1.Module)] 0)) ?_
 refine AOps.p rfl (rfl : _ = (AV.bool false)) ?_
 refine AOps.nilR ?_
 refine AW.sr ?_
 refine AOps.p rfl (rfl : _ = (AV.eptr [(AV.int .i64 l1.From), (AV.int .i64 l1.To), (AV.str l1.Act), (AV.int .i64 l1.Module)] 2)) ?_
 refine AOps.ldE (v := (AV.str l1.Act)) rfl rfl rfl rfl rfl rfl ?_
 refine AOps.p rfl (rfl : _ = (AV.int .i64 (l1.Act.length : Int))) ?_
 refine AOps.p rfl (rfl : _ = (AV.bool ((l1.Act.length : Int) == 2))) ?_
 refine AOps.assignR rfl rfl rfl (rfl : _ = (AV.bool ((l1.Act.length : Int) == 2))) rfl ?_
 refine AOps.nilR ?_
 cases h
 exact AW.ret ⟨rfl, _, _, rfl, rfl⟩
theorem impl_Program_matches_ok {rec36 : ProgramT → Int → Int → (List (List UInt8)) → Option Bool} {p1 : ProgramT} {l6 : Link} {f7 : List UInt8} {z2 : Nat} {f3 : Bool} {e4 : List AV} {s : St} (rec36_ok : ∀ {a1 : ProgramT} {a6 : Int} {a7 : Int} {a8 : List (List UInt8)} {z2 : Nat} {f3 : Bool} {e4 : List AV} {z9 : Nat} {f10 : Bool} {e11 : List AV} {s : St} (h5 : LR rModule 2 a1.Modules z2 e4) (h12 : LR rS 1 a8 z9 e11) {r : Bool}, rec36 a1 a6 a7 a8 = some r → WF s → ACall Cf 36 [(AV.agg [(AV.sl z2 f3 e4)]), (AV.int .i64 a6), (AV.int .i64 a7), (AV.sl z9 f10 e11)] s fun v _ s' => (rB) r v ∧ s' = s) (h5 : LR rModule 2 p1.Modules z2 e4) {r : Bool} (h : impl_Program_matches rec36 p1 l6 f7 = some r) (hs : WF s) : ACall Cf 37 [(AV.agg [(AV.sl z2 f3 e4)]), (AV.agg [(AV.int .i64 l6.From), (AV.int .i64 l6.To), (AV.str l6.Act), (AV.int .i64 l6.Module)]), (AV.str f7)] s fun v _ s' => (rB) r v ∧ s' = s := by
 refine ACall.pure rfl rfl rfl .B ?_
 have hWF := hs.lo'
 unfold impl_Program_matches at h
 refine AW.sr ?_
 refine AOps.makeR rfl rfl rfl rfl rfl rfl (rfl : _ = (AV.eptr [(AV.sl z2 f3 e4)] 0)) ?_
 refine AOps.makeR rfl rfl rfl rfl rfl rfl (rfl : _ = (AV.eptr [(AV.int .i64 l6.From), (AV.int .i64 l6.To), (AV.str l6.Act), (AV.int .i64 l6.Module)] 0)) ?_
 refine AOps.p rfl (rfl : _ = (AV.bool false)) ?_
 refine AOps.nilR ?_
 refine AW.sr ?_
 refine AOps.p rfl (rfl : _ = (AV.str f7)) ?_
 refine AOps.p rfl (rfl : _ = (AV.int .i64 (f7.length : Int))) ?_
 refine AOps.p rfl (rfl : _ = (AV.int .i64 (IntKind.wrap .i64 ((f7.length : Int) - 1)))) ?_
 refine AOps.assignR rfl rfl rfl (rfl : _ = (AV.int .i64 (IntKind.wrap .i64 ((f7.length : Int) - 1)))) rfl ?_
 refine AOps.nilR ?_
 refine AW.seq ?_
 refine AW.sr ?_
 refine AOps.p rfl (rfl : _ = (AV.int .i64 (IntKind.wrap .i64 ((f7.length : Int) - 1)))) ?_
 refine AOps.p rfl (rfl : _ = (AV.bool ((IntKind.wrap .i64 ((f7.length : Int) - 1)) == 0))) ?_
 refine AOps.p rfl (rfl : _ = (AV.bool ((IntKind.wrap .i64 ((f7.length : Int) - 1)) == 0))) ?_
 obtain ⟨b9, hb, h⟩ := obind h
 refine AOps.split 4 (fun f' => ∃ tm' os', f' = ⟨updL tm' [(2, (AV.str f7)), (3, (AV.eptr [(AV.sl z2 f3 e4)] 0)), (4, (AV.eptr [(AV.int .i64 l6.From), (AV.int .i64 l6.To), (AV.str l6.Act), (AV.int .i64 l6.Module)] 0)), (7, (AV.int .i64 (IntKind.wrap .i64 ((f7.length : Int) - 1)))), (17, (AV.bool b9))], updL os' [], { s with lo := s.n }⟩) ?_ ?_
 ·rcases oite hb with ⟨hc8, hb⟩ | ⟨hc8, hb⟩
  ·refine AOps.know (d := 13) rfl hc8 ?_
   refine AOps.skipR rfl rfl ?_
   refine AOps.skipR rfl rfl ?_
   refine AOps.skipR rfl rfl ?_
   refine AOps.p rfl (rfl : _ = (AV.bool true)) ?_
   refine AOps.resR [(2, (AV.str f7)), (3, (AV.eptr [(AV.sl z2 f3 e4)] 0)), (4, (AV.eptr [(AV.int .i64 l6.From), (AV.int .i64 l6.To), (AV.str l6.Act), (AV.int .i64 l6.Module)] 0)), (7, (AV.int .i64 (IntKind.wrap .i64 ((f7.length : Int) - 1)))), (17, (AV.bool b9))] [] ?_ ?_ _ ⟨_, _, rfl⟩
   ·exact ⟨rfl, rfl, rfl, rfl, congrArg AV.bool (Option.some.inj hb), trivial⟩
   exact trivial
  ·have h := hb
   refine AOps.know (d := 13) rfl hc8 ?_
   refine AOps.ldE (v := (AV.agg [(AV.int .i64 l6.From), (AV.int .i64 l6.To), (AV.str l6.Act), (AV.int .i64 l6.Module)])) rfl rfl rfl rfl rfl rfl ?_
   obtain ⟨y10, h11, h⟩ := obind h
   refine AOps.callP (g := 38) (args := [(AV.agg [(AV.int .i64 l6.From), (AV.int .i64 l6.To), (AV.str l6.Act), (AV.int .i64 l6.Module)])]) (p := (rB) y10) rfl rfl rfl (impl_Link_isCallLink_ok  h11 hWF) ?_
   intro _ o13 h12
   cases h12
   refine AOps.p rfl (rfl : _ = (AV.bool (!y10))) ?_
   refine AOps.p rfl (rfl : _ = (AV.bool (!y10))) ?_
   refine AOps.resR [(2, (AV.str f7)), (3, (AV.eptr [(AV.sl z2 f3 e4)] 0)), (4, (AV.eptr [(AV.int .i64 l6.From), (AV.int .i64 l6.To), (AV.str l6.Act), (AV.int .i64 l6.Module)] 0)), (7, (AV.int .i64 (IntKind.wrap .i64 ((f7.length : Int) - 1)))), (17, (AV.bool b9))] [] ?_ ?_ _ ⟨_, _, rfl⟩
   ·exact ⟨rfl, rfl, rfl, rfl, congrArg AV.bool (Option.some.inj h), trivial⟩
   exact trivial
 rintro _ ⟨tm, os, rfl⟩
 refine AOps.nilR ?_
 rcases oite h with ⟨hc14, h⟩ | ⟨hc14, h⟩
 ·refine AW.condT (congrArg AV.bool hc14) ?_
  refine AW.sr ?_
  refine AOps.p rfl (rfl : _ = (AV.eptr [(AV.int .i64 l6.From), (AV.int .i64 l6.To), (AV.str l6.Act), (AV.int .i64 l6.Module)] 2)) ?_
  refine AOps.ldE (v := (AV.str l6.Act)) rfl rfl rfl rfl rfl rfl ?_
  refine AOps.p rfl (rfl : _ = (AV.str f7)) ?_
  refine AOps.p rfl (rfl : _ = (AV.bool (l6.Act == f7))) ?_
  refine AOps.assignR rfl rfl rfl (rfl : _ = (AV.bool (l6.Act == f7))) rfl ?_
  refine AOps.nilR ?_
  cases h
  exact AW.ret ⟨rfl, _, _, rfl, rfl⟩
 refine AW.condF (congrArg AV.bool hc14) ?_
 refine AW.skip ?_
 refine AW.sr ?_
 refine AOps.p rfl (rfl : _ = (AV.eptr [(AV.int .i64 l6.From), (AV.int .i64 l6.To), (AV.str l6.Act), (AV.int .i64 l6.Module)] 2)) ?_
 refine AOps.ldE (v := (AV.str l6.Act)) rfl rfl rfl rfl rfl rfl ?_
 refine AOps.p rfl (rfl : _ = (AV.str f7)) ?_
 obtain ⟨w15, h16, h⟩ := obind h
 refine AOps.pureR rfl rfl rfl (cut_strH h16) rfl (rfl : _ = (AV.str w15)) ?_
 refine AOps.p rfl (rfl : _ = (AV.str f7)) ?_
 refine AOps.p rfl (rfl : _ = (AV.int .i64 (IntKind.wrap .i64 ((f7.length : Int) - 1)))) ?_
 obtain ⟨w17, h18, h⟩ := obind h
 refine AOps.pureR rfl rfl rfl (cut_strL h18) rfl (rfl : _ = (AV.str w17)) ?_
 obtain ⟨w19, h20, h⟩ := obind h
 refine AOps.pureR rfl rfl rfl (add_str h20) rfl (rfl : _ = (AV.str w19)) ?_
 refine AOps.p rfl (rfl : _ = (AV.bool (l6.Act == w19))) ?_
 refine AOps.p rfl (rfl : _ = (AV.bool (l6.Act == w19))) ?_
 obtain ⟨b22, hb, h⟩ := obind h
 refine AOps.split 9 (fun f' => ∃ tm' os', f' = ⟨updL tm' [(40, (AV.bool b22))], updL os' [], { s with lo := s.n }⟩) ?_ ?_
 ·rcases oite hb with ⟨hc21, hb⟩ | ⟨hc21, hb⟩
  ·have h := hb
   refine AOps.know (d := 31) rfl hc21 ?_
   refine AOps.ldE (v := (AV.agg [(AV.sl z2 f3 e4)])) rfl rfl rfl rfl rfl rfl ?_
   refine AOps.p rfl (rfl : _ = (AV.eptr [(AV.int .i64 l6.From), (AV.int .i64 l6.To), (AV.str l6.Act), (AV.int .i64 l6.Module)] 3)) ?_
   refine AOps.ldE (v := (AV.int .i64 l6.Module)) rfl rfl rfl rfl rfl rfl ?_
   refine AOps.p rfl (rfl : _ = (AV.str f7)) ?_
   refine AOps.p rfl (rfl : _ = (AV.int .i64 (IntKind.wrap .i64 ((f7.length : Int) - 1)))) ?_
   obtain ⟨w23, h24, h⟩ := obind h
   refine AOps.pureR rfl rfl rfl (cut_strLH h24) rfl (rfl : _ = (AV.str w23)) ?_
   obtain ⟨y25, h26, h⟩ := obind h
   refine AOps.callDP (g := 21) (args := [(AV.str w23)]) (p := (rL rS 1) y25) rfl rfl rfl (impl_factors_ok  h26 hWF.still) (fun v hv => Nice.pure (k := FINK) (p := (rL rS 1) y25) (.L fun _ => .S) _ v hv) ?_
   intro _ o32 h27
   obtain ⟨z28, f29, e30, rfl, h31⟩ := h27
   obtain ⟨y33, h34, h⟩ := obind h
   refine AOps.callDP (g := 36) (args := [(AV.agg [(AV.sl z2 f3 e4)]), (AV.int .i64 l6.Module), (AV.int .i64 0), (AV.sl z28 f29 e30)]) (p := (rB) y33) rfl rfl rfl (rec36_ok h5 h31 h34 hWF.still) (fun v hv => Nice.pure (k := FINK) (p := (rB) y33) .B _ v hv) ?_
   intro _ o36 h35
   cases h35
   refine AOps.p rfl (rfl : _ = (AV.bool y33)) ?_
   refine AOps.resR [(40, (AV.bool b22))] [] ?_ ?_ _ ⟨_, _, rfl⟩
   ·exact ⟨congrArg AV.bool (Option.some.inj h), trivial⟩
   exact trivial
  ·refine AOps.know (d := 31) rfl hc21 ?_
   refine AOps.skipR rfl rfl ?_
   refine AOps.skipR rfl rfl ?_
   refine AOps.skipR rfl rfl ?_
   refine AOps.skipR rfl rfl ?_
   refine AOps.skipR rfl rfl ?_
   refine AOps.skipR rfl rfl ?_
   refine AOps.skipR rfl rfl ?_
   refine AOps.skipR rfl rfl ?_
   refine AOps.p rfl (rfl : _ = (AV.bool false)) ?_
   refine AOps.resR [(40, (AV.bool b22))] [] ?_ ?_ _ ⟨_, _, rfl⟩
   ·exact ⟨congrArg AV.bool (Option.some.inj hb), trivial⟩
   exact trivial
 rintro _ ⟨tm, os, rfl⟩
 refine AOps.assignR rfl rfl rfl (rfl : _ = (AV.bool b22)) rfl ?_
 refine AOps.nilR ?_
 cases h
 exact AW.ret ⟨rfl, _, _, rfl, rfl⟩
theorem impl_Program_after_ok {rec36 : ProgramT → Int → Int → (List (List UInt8)) → Option Bool} {p1 : ProgramT} {module6 : Int} {from7 : Int} {list8 : List (List UInt8)} {z2 : Nat} {f3 : Bool} {e4 : List AV} {z9 : Nat} {f10 : Bool} {e11 : List AV} {s : St} (rec36_ok : ∀ {a1 : ProgramT} {a6 : Int} {a7 : Int} {a8 : List (List UInt8)} {z2 : Nat} {f3 : Bool} {e4 : List AV} {z9 : Nat} {f10 : Bool} {e11 : List AV} {s : St} (h5 : LR rModule 2 a1.Modules z2 e4) (h12 : LR rS 1 a8 z9 e11) {r : Bool}, rec36 a1 a6 a7 a8 = some r → WF s → ACall Cf 36 [(AV.agg [(AV.sl z2 f3 e4)]), (AV.int .i64 a6), (AV.int .i64 a7), (AV.sl z9 f10 e11)] s fun v _ s' => (rB) r v ∧ s' = s) (h5 : LR rModule 2 p1.Modules z2 e4) (h12 : LR rS 1 list8 z9 e11) {r : Int} (h : impl_Program_after rec36 p1 module6 from7 list8 = some r) (hs : WF s) : ACall Cf 59 [(AV.agg [(AV.sl z2 f3 e4)]), (AV.int .i64 module6), (AV.int .u64 from7), (AV.sl z9 f10 e11)] s fun v _ s' => (rI .u64) r v ∧ s' = s := by
 refine ACall.pure rfl rfl rfl .I ?_
 have hWF := hs.lo'
 unfold impl_Program_after at h
 refine AW.sr ?_
 refine AOps.makeR rfl rfl rfl rfl rfl rfl (rfl : _ = (AV.eptr [(AV.sl z2 f3 e4)] 0)) ?_
 refine AOps.p rfl (rfl : _ = (AV.int .u64 0)) ?_
 refine AOps.nilR ?_
 refine AW.seq ?_
 refine AW.sr ?_
 refine AOps.p rfl (rfl : _ = (AV.sl z9 f10 e11)) ?_
 refine AOps.p rfl (len_eq h12) ?_
 refine AOps.p rfl (rfl : _ = (AV.int .i64 0)) ?_
 refine AOps.nilR ?_
 refine AW.meet (σ := Int) (fun from13 tm os => ⟨updL tm [(2, (AV.int .u64 from13))], updL os [], { s with lo := s.n }⟩) (fun from13 => impl_Program_after_J1 from13 = some r) ?_ ?_
 ·rintro from13 tm os h
  unfold impl_Program_after_J1 at h
  refine AW.sr ?_
  refine AOps.p rfl (rfl : _ = (AV.int .u64 from13)) ?_
  refine AOps.assignR rfl rfl rfl (rfl : _ = (AV.int .u64 from13)) rfl ?_
  refine AOps.nilR ?_
  cases h
  exact AW.ret ⟨rfl, _, _, rfl, rfl⟩
 intro KJ14
 refine AW.block ?_
 refine AW.res [(1, (AV.int .i64 module6)), (2, (AV.int .u64 from7)), (4, (AV.eptr [(AV.sl z2 f3 e4)] 0)), (14, (AV.sl z9 f10 e11)), (15, (AV.int .i64 (list8.length : Int))), (16, (AV.int .i64 0))] [] ⟨rfl, rfl, rfl, rfl, rfl, rfl, trivial⟩ trivial ?_
 refine AW.loopF (σ := Int × Int) (τ := Unit) (fun (from15, t16) _ => True) (fun (from15, t16) _ tm os => ⟨updL tm [(1, (AV.int .i64 module6)), (2, (AV.int .u64 from15)), (4, (AV.eptr [(AV.sl z2 f3 e4)] 0)), (14, (AV.sl z9 f10 e11)), (15, (AV.int .i64 (list8.length : Int))), (16, (AV.int .i64 t16))], updL os [], { s with lo := s.n }⟩) ?_ (x := (from7, 0)) (y := ()) h trivial
 clear h
 rintro ⟨from15, t16⟩ _ tm os - ee1 h hL1 hR1
 unfold impl_Program_after_S1 at h
 dsimp only at h
 refine AW.sr ?_
 refine AOps.p rfl (rfl : _ = (AV.bool (decide ((t16 : Int) < (list8.length : Int))))) ?_
 refine AOps.nilR ?_
 refine AW.seq ?_
 rcases oite h with ⟨hc17, h⟩ | ⟨hc17, h⟩
 ·refine AW.condT (congrArg AV.bool hc17) ?_
  refine AW.skip ?_
  refine AW.seq ?_
  refine AW.block ?_
  refine AW.sr ?_
  obtain ⟨x18, h19, h⟩ := obind h
  obtain ⟨v22, h20, h21⟩ := idx_sl h12 h19
  cases h20
  refine AOps.pureR rfl rfl rfl h21 rfl (rfl : _ = (AV.eptr [(AV.str x18)] 0)) ?_
  refine AOps.ldE (v := (AV.str x18)) rfl rfl rfl rfl rfl rfl ?_
  refine AOps.assignR rfl rfl rfl (rfl : _ = (AV.str x18)) rfl ?_
  refine AOps.nilR ?_
  refine AW.sr ?_
  refine AOps.p rfl (rfl : _ = (AV.int .u64 0)) ?_
  refine AOps.nilR ?_
  refine AW.seq ?_
  refine AW.sr ?_
  refine AOps.p rfl (rfl : _ = (AV.eptr [(AV.sl z2 f3 e4)] 0)) ?_
  refine AOps.ldE (v := (AV.sl z2 f3 e4)) rfl rfl rfl rfl rfl rfl ?_
  refine AOps.p rfl (rfl : _ = (AV.int .i64 module6)) ?_
  obtain ⟨x23, h24, h⟩ := obind h
  obtain ⟨v27, h25, h26⟩ := idx_sl h5 h24
  obtain ⟨_, rfl, h28⟩ := h25
  obtain ⟨_, _, rfl, h29, h30⟩ := Cs_cons h28
  cases h29
  obtain ⟨_, _, rfl, h31, h32⟩ := Cs_cons h30
  obtain ⟨z33, f34, e35, rfl, h36⟩ := h31
  cases Cs_nil h32
  refine AOps.pureR rfl rfl rfl h26 rfl (rfl : _ = (AV.eptr [(AV.int .i64 x23.Nodes), (AV.sl z33 f34 e35)] 0)) ?_
  refine AOps.p rfl (rfl : _ = (AV.eptr [(AV.int .i64 x23.Nodes), (AV.sl z33 f34 e35)] 1)) ?_
  refine AOps.ldE (v := (AV.sl z33 f34 e35)) rfl rfl rfl rfl rfl rfl ?_
  refine AOps.p rfl (len_eq h36) ?_
  refine AOps.p rfl (rfl : _ = (AV.int .i64 0)) ?_
  refine AOps.nilR ?_
  refine AW.meet (σ := Int) (fun to37 tm os => ⟨updL tm [(1, (AV.int .i64 module6)), (4, (AV.eptr [(AV.sl z2 f3 e4)] 0)), (11, (AV.int .u64 to37)), (14, (AV.sl z9 f10 e11)), (15, (AV.int .i64 (list8.length : Int))), (16, (AV.int .i64 t16))], updL os [], { s with lo := s.n }⟩) (fun to37 => impl_Program_after_J2 t16 to37 = some ee1) ?_ ?_
  ·rintro to37 tm os h
   unfold impl_Program_after_J2 at h
   refine AW.region ?_
   refine AOps.p rfl (rfl : _ = (AV.int .u64 to37)) ?_
   refine AOps.assignR rfl rfl rfl (rfl : _ = (AV.int .u64 to37)) rfl ?_
   refine AOps.nilR ?_
   refine AW.inBlock ?_
   refine AW.region ?_
   refine AOps.p rfl (rfl : _ = (AV.int .i64 (IntKind.wrap .i64 (t16 + 1)))) ?_
   refine AOps.p rfl (rfl : _ = (AV.int .i64 (IntKind.wrap .i64 (t16 + 1)))) ?_
   refine AOps.nilR ?_
   cases h
   exact AW.res [(1, (AV.int .i64 module6)), (2, (AV.int .u64 to37)), (4, (AV.eptr [(AV.sl z2 f3 e4)] 0)), (14, (AV.sl z9 f10 e11)), (15, (AV.int .i64 (list8.length : Int))), (16, (AV.int .i64 (IntKind.wrap .i64 (t16 + 1))))] [] ⟨rfl, rfl, rfl, rfl, rfl, rfl, trivial⟩ trivial (hL1 _ rfl () _ _ trivial)
  intro KJ38
  refine AW.block ?_
  refine AW.res [(1, (AV.int .i64 module6)), (2, (AV.int .u64 from15)), (4, (AV.eptr [(AV.sl z2 f3 e4)] 0)), (10, (AV.str x18)), (11, (AV.int .u64 0)), (14, (AV.sl z9 f10 e11)), (15, (AV.int .i64 (list8.length : Int))), (16, (AV.int .i64 t16)), (25, (AV.sl z33 f34 e35)), (26, (AV.int .i64 (x23.Links.length : Int))), (27, (AV.int .i64 0))] [] ⟨rfl, rfl, rfl, rfl, rfl, rfl, rfl, rfl, rfl, rfl, rfl, trivial⟩ trivial ?_
  refine AW.loopF (σ := Int × Int) (τ := Unit) (fun (to39, t40) _ => True) (fun (to39, t40) _ tm os => ⟨updL tm [(1, (AV.int .i64 module6)), (2, (AV.int .u64 from15)), (4, (AV.eptr [(AV.sl z2 f3 e4)] 0)), (10, (AV.str x18)), (11, (AV.int .u64 to39)), (14, (AV.sl z9 f10 e11)), (15, (AV.int .i64 (list8.length : Int))), (16, (AV.int .i64 t16)), (25, (AV.sl z33 f34 e35)), (26, (AV.int .i64 (x23.Links.length : Int))), (27, (AV.int .i64 t40))], updL os [], { s with lo := s.n }⟩) ?_ (x := (0, 0)) (y := ()) h trivial
  clear h
  rintro ⟨to39, t40⟩ _ tm os - ee2 h hL2 hR2
  unfold impl_Program_after_S2 at h
  dsimp only at h
  refine AW.sr ?_
  refine AOps.p rfl (rfl : _ = (AV.bool (decide ((t40 : Int) < (x23.Links.length : Int))))) ?_
  refine AOps.nilR ?_
  refine AW.seq ?_
  rcases oite h with ⟨hc41, h⟩ | ⟨hc41, h⟩
  ·refine AW.condT (congrArg AV.bool hc41) ?_
   refine AW.skip ?_
   refine AW.seq ?_
   refine AW.block ?_
   refine AW.sr ?_
   obtain ⟨x42, h43, h⟩ := obind h
   obtain ⟨v46, h44, h45⟩ := idx_sl h36 h43
   obtain ⟨_, rfl, h47⟩ := h44
   obtain ⟨_, _, rfl, h48, h49⟩ := Cs_cons h47
   cases h48
   obtain ⟨_, _, rfl, h50, h51⟩ := Cs_cons h49
   cases h50
   obtain ⟨_, _, rfl, h52, h53⟩ := Cs_cons h51
   cases h52
   obtain ⟨_, _, rfl, h54, h55⟩ := Cs_cons h53
   cases h54
   cases Cs_nil h55
   refine AOps.pureR rfl rfl rfl h45 rfl (rfl : _ = (AV.eptr [(AV.int .i64 x42.From), (AV.int .i64 x42.To), (AV.str x42.Act), (AV.int .i64 x42.Module)] 0)) ?_
   refine AOps.ldE (v := (AV.agg [(AV.int .i64 x42.From), (AV.int .i64 x42.To), (AV.str x42.Act), (AV.int .i64 x42.Module)])) rfl rfl rfl rfl rfl rfl ?_
   refine AOps.allocP rfl rfl rfl rfl ⟨rfl, rfl⟩ rfl ?_
   refine AOps.stP (v := (AV.agg [(AV.int .i64 x42.From), (AV.int .i64 x42.To), (AV.str x42.Act), (AV.int .i64 x42.Module)])) rfl rfl rfl rfl rfl rfl rfl rfl rfl (lt_b rfl) rfl ?_
   refine AOps.nilR ?_
   refine AW.sr ?_
   refine AOps.p rfl (rfl : _ = (AV.int .u64 from15)) ?_
   refine AOps.p rfl (rfl : _ = (AV.eptr [(AV.int .i64 x42.From), (AV.int .i64 x42.To), (AV.str x42.Act), (AV.int .i64 x42.Module)] 0)) ?_
   refine AOps.ldE (v := (AV.int .i64 x42.From)) rfl rfl rfl rfl rfl rfl ?_
   obtain ⟨q56, h57, h⟩ := obind h
   refine AOps.pureR rfl rfl rfl (shr_ok h57) rfl (rfl : _ = (AV.int .u64 q56)) ?_
   refine AOps.p rfl (rfl : _ = (AV.int .u64 (andI .u64 q56 1))) ?_
   refine AOps.p rfl (rfl : _ = (AV.bool ((andI .u64 q56 1) == 1))) ?_
   refine AOps.p rfl (rfl : _ = (AV.bool ((andI .u64 q56 1) == 1))) ?_
   obtain ⟨b59, hb, h⟩ := obind h
   refine AOps.split 5 (fun f' => ∃ tm' os', f' = ⟨updL tm' [(1, (AV.int .i64 module6)), (2, (AV.int .u64 from15)), (4, (AV.eptr [(AV.sl z2 f3 e4)] 0)), (10, (AV.str x18)), (11, (AV.int .u64 to39)), (13, (AV.eptr [(AV.int .i64 x42.From), (AV.int .i64 x42.To), (AV.str x42.Act), (AV.int .i64 x42.Module)] 0)), (14, (AV.sl z9 f10 e11)), (15, (AV.int .i64 (list8.length : Int))), (16, (AV.int .i64 t16)), (25, (AV.sl z33 f34 e35)), (26, (AV.int .i64 (x23.Links.length : Int))), (27, (AV.int .i64 t40)), (42, (AV.bool b59))], updL os' [], { s with lo := s.n }⟩) ?_ ?_
   ·rcases oite hb with ⟨hc58, hb⟩ | ⟨hc58, hb⟩
    ·have h := hb
     refine AOps.know (d := 37) rfl hc58 ?_
     refine AOps.ldE (v := (AV.agg [(AV.sl z2 f3 e4)])) rfl rfl rfl rfl rfl rfl ?_
     refine AOps.ldE (v := (AV.agg [(AV.int .i64 x42.From), (AV.int .i64 x42.To), (AV.str x42.Act), (AV.int .i64 x42.Module)])) rfl rfl rfl rfl rfl rfl ?_
     refine AOps.p rfl (rfl : _ = (AV.str x18)) ?_
     obtain ⟨y60, h61, h⟩ := obind h
     refine AOps.callP (g := 37) (args := [(AV.agg [(AV.sl z2 f3 e4)]), (AV.agg [(AV.int .i64 x42.From), (AV.int .i64 x42.To), (AV.str x42.Act), (AV.int .i64 x42.Module)]), (AV.str x18)]) (p := (rB) y60) rfl rfl rfl (impl_Program_matches_ok rec36_ok h5 h61 hWF) ?_
     intro _ o63 h62
     cases h62
     refine AOps.p rfl (rfl : _ = (AV.bool y60)) ?_
     refine AOps.resR [(1, (AV.int .i64 module6)), (2, (AV.int .u64 from15)), (4, (AV.eptr [(AV.sl z2 f3 e4)] 0)), (10, (AV.str x18)), (11, (AV.int .u64 to39)), (13, (AV.eptr [(AV.int .i64 x42.From), (AV.int .i64 x42.To), (AV.str x42.Act), (AV.int .i64 x42.Module)] 0)), (14, (AV.sl z9 f10 e11)), (15, (AV.int .i64 (list8.length : Int))), (16, (AV.int .i64 t16)), (25, (AV.sl z33 f34 e35)), (26, (AV.int .i64 (x23.Links.length : Int))), (27, (AV.int .i64 t40)), (42, (AV.bool b59))] [] ?_ ?_ _ ⟨_, _, rfl⟩
     ·exact ⟨rfl, rfl, rfl, rfl, rfl, rfl, rfl, rfl, rfl, rfl, rfl, rfl, congrArg AV.bool (Option.some.inj h), trivial⟩
     exact trivial
    ·refine AOps.know (d := 37) rfl hc58 ?_
     refine AOps.skipR rfl rfl ?_
     refine AOps.skipR rfl rfl ?_
     refine AOps.skipR rfl rfl ?_
     refine AOps.skipR rfl rfl ?_
     refine AOps.p rfl (rfl : _ = (AV.bool false)) ?_
     refine AOps.resR [(1, (AV.int .i64 module6)), (2, (AV.int .u64 from15)), (4, (AV.eptr [(AV.sl z2 f3 e4)] 0)), (10, (AV.str x18)), (11, (AV.int .u64 to39)), (13, (AV.eptr [(AV.int .i64 x42.From), (AV.int .i64 x42.To), (AV.str x42.Act), (AV.int .i64 x42.Module)] 0)), (14, (AV.sl z9 f10 e11)), (15, (AV.int .i64 (list8.length : Int))), (16, (AV.int .i64 t16)), (25, (AV.sl z33 f34 e35)), (26, (AV.int .i64 (x23.Links.length : Int))), (27, (AV.int .i64 t40)), (42, (AV.bool b59))] [] ?_ ?_ _ ⟨_, _, rfl⟩
     ·exact ⟨rfl, rfl, rfl, rfl, rfl, rfl, rfl, rfl, rfl, rfl, rfl, rfl, congrArg AV.bool (Option.some.inj hb), trivial⟩
     exact trivial
   rintro _ ⟨tm, os, rfl⟩
   refine AOps.nilR ?_
   refine AW.meet (σ := Int) (fun to64 tm os => ⟨updL tm [(1, (AV.int .i64 module6)), (2, (AV.int .u64 from15)), (4, (AV.eptr [(AV.sl z2 f3 e4)] 0)), (10, (AV.str x18)), (11, (AV.int .u64 to64)), (14, (AV.sl z9 f10 e11)), (15, (AV.int .i64 (list8.length : Int))), (16, (AV.int .i64 t16)), (25, (AV.sl z33 f34 e35)), (26, (AV.int .i64 (x23.Links.length : Int))), (27, (AV.int .i64 t40))], updL os [], { s with lo := s.n }⟩) (fun to64 => impl_Program_after_J3 t40 to64 = some ee2) ?_ ?_
   ·rintro to64 tm os h
    unfold impl_Program_after_J3 at h
    refine AW.inBlock ?_
    refine AW.region ?_
    refine AOps.p rfl (rfl : _ = (AV.int .i64 (IntKind.wrap .i64 (t40 + 1)))) ?_
    refine AOps.p rfl (rfl : _ = (AV.int .i64 (IntKind.wrap .i64 (t40 + 1)))) ?_
    refine AOps.nilR ?_
    cases h
    exact AW.res [(1, (AV.int .i64 module6)), (2, (AV.int .u64 from15)), (4, (AV.eptr [(AV.sl z2 f3 e4)] 0)), (10, (AV.str x18)), (11, (AV.int .u64 to64)), (14, (AV.sl z9 f10 e11)), (15, (AV.int .i64 (list8.length : Int))), (16, (AV.int .i64 t16)), (25, (AV.sl z33 f34 e35)), (26, (AV.int .i64 (x23.Links.length : Int))), (27, (AV.int .i64 (IntKind.wrap .i64 (t40 + 1))))] [] ⟨rfl, rfl, rfl, rfl, rfl, rfl, rfl, rfl, rfl, rfl, rfl, trivial⟩ trivial (hL2 _ rfl () _ _ trivial)
   intro KJ65
   rcases oite h with ⟨hc66, h⟩ | ⟨hc66, h⟩
   ·refine AW.condT (congrArg AV.bool hc66) ?_
    refine AW.region ?_
    refine AOps.p rfl (rfl : _ = (AV.int .u64 to39)) ?_
    refine AOps.p rfl (rfl : _ = (AV.eptr [(AV.int .i64 x42.From), (AV.int .i64 x42.To), (AV.str x42.Act), (AV.int .i64 x42.Module)] 1)) ?_
    refine AOps.ldE (v := (AV.int .i64 x42.To)) rfl rfl rfl rfl rfl rfl ?_
    obtain ⟨q67, h68, h⟩ := obind h
    refine AOps.pureR rfl rfl rfl (shl_ok h68) rfl (rfl : _ = (AV.int .u64 q67)) ?_
    refine AOps.p rfl (rfl : _ = (AV.int .u64 (orI .u64 to39 q67))) ?_
    refine AOps.assignR rfl rfl rfl (rfl : _ = (AV.int .u64 (orI .u64 to39 q67))) rfl ?_
    refine AOps.nilR ?_
    exact AW.res [(1, (AV.int .i64 module6)), (2, (AV.int .u64 from15)), (4, (AV.eptr [(AV.sl z2 f3 e4)] 0)), (10, (AV.str x18)), (11, (AV.int .u64 (orI .u64 to39 q67))), (14, (AV.sl z9 f10 e11)), (15, (AV.int .i64 (list8.length : Int))), (16, (AV.int .i64 t16)), (25, (AV.sl z33 f34 e35)), (26, (AV.int .i64 (x23.Links.length : Int))), (27, (AV.int .i64 t40))] [] ⟨rfl, rfl, rfl, rfl, rfl, rfl, rfl, rfl, rfl, rfl, rfl, trivial⟩ trivial (KJ65 (orI .u64 to39 q67) _ _ h)
   refine AW.condF (congrArg AV.bool hc66) ?_
   refine AW.skip ?_
   exact AW.res [(1, (AV.int .i64 module6)), (2, (AV.int .u64 from15)), (4, (AV.eptr [(AV.sl z2 f3 e4)] 0)), (10, (AV.str x18)), (11, (AV.int .u64 to39)), (14, (AV.sl z9 f10 e11)), (15, (AV.int .i64 (list8.length : Int))), (16, (AV.int .i64 t16)), (25, (AV.sl z33 f34 e35)), (26, (AV.int .i64 (x23.Links.length : Int))), (27, (AV.int .i64 t40))] [] ⟨rfl, rfl, rfl, rfl, rfl, rfl, rfl, rfl, rfl, rfl, rfl, trivial⟩ trivial (KJ65 (to39) _ _ h)
  refine AW.condF (congrArg AV.bool hc41) ?_
  refine AW.exit rfl ?_
  obtain ⟨r69, hm, hx⟩ := omap h
  clear h
  subst hx
  have hx := hR2 _ rfl
  rw [hx] at hm
  have h := hm
  exact AW.res [(1, (AV.int .i64 module6)), (4, (AV.eptr [(AV.sl z2 f3 e4)] 0)), (11, (AV.int .u64 to39)), (14, (AV.sl z9 f10 e11)), (15, (AV.int .i64 (list8.length : Int))), (16, (AV.int .i64 t16))] [] ⟨rfl, rfl, rfl, rfl, rfl, rfl, trivial⟩ trivial (KJ38 (to39) _ _ h)
 refine AW.condF (congrArg AV.bool hc17) ?_
 refine AW.exit rfl ?_
 obtain ⟨r70, hm, hx⟩ := omap h
 clear h
 subst hx
 have hx := hR1 _ rfl
 rw [hx] at hm
 have h := hm
 exact AW.res [(2, (AV.int .u64 from15))] [] ⟨rfl, trivial⟩ trivial (KJ14 (from15) _ _ h)
theorem impl_Program_exit_ok {p1 : ProgramT} {module6 : Int} {z2 : Nat} {f3 : Bool} {e4 : List AV} {s : St} (h5 : LR rModule 2 p1.Modules z2 e4) {r : Int} (h : impl_Program_exit p1 module6 = some r) (hs : WF s) : ACall Cf 60 [(AV.agg [(AV.sl z2 f3 e4)]), (AV.int .i64 module6)] s fun v _ s' => (rI .i64) r v ∧ s' = s := by
 refine ACall.pure rfl rfl rfl .I ?_
 have hWF := hs.lo'
 unfold impl_Program_exit at h
 refine AW.sr ?_
 refine AOps.makeR rfl rfl rfl rfl rfl rfl (rfl : _ = (AV.eptr [(AV.sl z2 f3 e4)] 0)) ?_
 refine AOps.p rfl (rfl : _ = (AV.int .i64 0)) ?_
 refine AOps.nilR ?_
 refine AW.sr ?_
 refine AOps.p rfl (rfl : _ = (AV.eptr [(AV.sl z2 f3 e4)] 0)) ?_
 refine AOps.ldE (v := (AV.sl z2 f3 e4)) rfl rfl rfl rfl rfl rfl ?_
 refine AOps.p rfl (rfl : _ = (AV.int .i64 module6)) ?_
 obtain ⟨x7, h8, h⟩ := obind h
 obtain ⟨v11, h9, h10⟩ := idx_sl h5 h8
 obtain ⟨_, rfl, h12⟩ := h9
 obtain ⟨_, _, rfl, h13, h14⟩ := Cs_cons h12
 cases h13
 obtain ⟨_, _, rfl, h15, h16⟩ := Cs_cons h14
 obtain ⟨z17, f18, e19, rfl, h20⟩ := h15
 cases Cs_nil h16
 refine AOps.pureR rfl rfl rfl h10 rfl (rfl : _ = (AV.eptr [(AV.int .i64 x7.Nodes), (AV.sl z17 f18 e19)] 0)) ?_
 refine AOps.p rfl (rfl : _ = (AV.eptr [(AV.int .i64 x7.Nodes), (AV.sl z17 f18 e19)] 0)) ?_
 refine AOps.ldE (v := (AV.int .i64 x7.Nodes)) rfl rfl rfl rfl rfl rfl ?_
 refine AOps.p rfl (rfl : _ = (AV.int .i64 (IntKind.wrap .i64 (x7.Nodes - 1)))) ?_
 refine AOps.assignR rfl rfl rfl (rfl : _ = (AV.int .i64 (IntKind.wrap .i64 (x7.Nodes - 1)))) rfl ?_
 refine AOps.nilR ?_
 cases h
 exact AW.ret ⟨rfl, _, _, rfl, rfl⟩
theorem impl_Program_can_B_ok {rec36 : ProgramT → Int → Int → (List (List UInt8)) → Option Bool} {p1 : ProgramT} {module6 : Int} {node7 : Int} {list8 : List (List UInt8)} {z2 : Nat} {f3 : Bool} {e4 : List AV} {z9 : Nat} {f10 : Bool} {e11 : List AV} {s : St} (rec36_ok : ∀ {a1 : ProgramT} {a6 : Int} {a7 : Int} {a8 : List (List UInt8)} {z2 : Nat} {f3 : Bool} {e4 : List AV} {z9 : Nat} {f10 : Bool} {e11 : List AV} {s : St} (h5 : LR rModule 2 a1.Modules z2 e4) (h12 : LR rS 1 a8 z9 e11) {r : Bool}, rec36 a1 a6 a7 a8 = some r → WF s → ACall Cf 36 [(AV.agg [(AV.sl z2 f3 e4)]), (AV.int .i64 a6), (AV.int .i64 a7), (AV.sl z9 f10 e11)] s fun v _ s' => (rB) r v ∧ s' = s) (h5 : LR rModule 2 p1.Modules z2 e4) (h12 : LR rS 1 list8 z9 e11) {r : Bool} (h : impl_Program_can_B rec36 p1 module6 node7 list8 = some r) (hs : WF s) : ACall Cf 36 [(AV.agg [(AV.sl z2 f3 e4)]), (AV.int .i64 module6), (AV.int .i64 node7), (AV.sl z9 f10 e11)] s fun v _ s' => (rB) r v ∧ s' = s := by
 refine ACall.pure rfl rfl rfl .B ?_
 have hWF := hs.lo'
 unfold impl_Program_can_B at h
 refine AW.sr ?_
 refine AOps.makeR rfl rfl rfl rfl rfl rfl (rfl : _ = (AV.eptr [(AV.sl z2 f3 e4)] 0)) ?_
 refine AOps.p rfl (rfl : _ = (AV.bool false)) ?_
 refine AOps.nilR ?_
 refine AW.sr ?_
 refine AOps.ldE (v := (AV.agg [(AV.sl z2 f3 e4)])) rfl rfl rfl rfl rfl rfl ?_
 refine AOps.p rfl (rfl : _ = (AV.int .i64 module6)) ?_
 refine AOps.p rfl (rfl : _ = (AV.int .i64 node7)) ?_
 obtain ⟨q13, h14, h⟩ := obind h
 refine AOps.pureR rfl rfl rfl (shl_ok h14) rfl (rfl : _ = (AV.int .u64 q13)) ?_
 refine AOps.p rfl (rfl : _ = (AV.sl z9 f10 e11)) ?_
 obtain ⟨y15, h16, h⟩ := obind h
 refine AOps.callDP (g := 59) (args := [(AV.agg [(AV.sl z2 f3 e4)]), (AV.int .i64 module6), (AV.int .u64 q13), (AV.sl z9 f10 e11)]) (p := (rI .u64) y15) rfl rfl rfl (impl_Program_after_ok rec36_ok h5 h12 h16 hWF.still) (fun v hv => Nice.pure (k := FINK) (p := (rI .u64) y15) .I _ v hv) ?_
 intro _ o18 h17
 cases h17
 refine AOps.ldE (v := (AV.agg [(AV.sl z2 f3 e4)])) rfl rfl rfl rfl rfl rfl ?_
 refine AOps.p rfl (rfl : _ = (AV.int .i64 module6)) ?_
 obtain ⟨y19, h20, h⟩ := obind h
 refine AOps.callDP (g := 60) (args := [(AV.agg [(AV.sl z2 f3 e4)]), (AV.int .i64 module6)]) (p := (rI .i64) y19) rfl rfl rfl (impl_Program_exit_ok h5 h20 hWF.still) (fun v hv => Nice.pure (k := FINK) (p := (rI .i64) y19) .I _ v hv) ?_
 intro _ o22 h21
 cases h21
 obtain ⟨q23, h24, h⟩ := obind h
 refine AOps.pureR rfl rfl rfl (shr_ok h24) rfl (rfl : _ = (AV.int .u64 q23)) ?_
 refine AOps.p rfl (rfl : _ = (AV.int .u64 (andI .u64 q23 1))) ?_
 refine AOps.p rfl (rfl : _ = (AV.bool ((andI .u64 q23 1) == 1))) ?_
 refine AOps.assignR rfl rfl rfl (rfl : _ = (AV.bool ((andI .u64 q23 1) == 1))) rfl ?_
 refine AOps.nilR ?_
 cases h
 exact AW.ret ⟨rfl, _, _, rfl, rfl⟩
theorem impl_Program_can_N_ok (n : Nat) : ∀ {a1 : ProgramT} {a6 : Int} {a7 : Int} {a8 : List (List UInt8)} {z2 : Nat} {f3 : Bool} {e4 : List AV} {z9 : Nat} {f10 : Bool} {e11 : List AV} {s : St} (h5 : LR rModule 2 a1.Modules z2 e4) (h12 : LR rS 1 a8 z9 e11) {r : Bool}, impl_Program_can_N n a1 a6 a7 a8 = some r → WF s → ACall Cf 36 [(AV.agg [(AV.sl z2 f3 e4)]), (AV.int .i64 a6), (AV.int .i64 a7), (AV.sl z9 f10 e11)] s fun v _ s' => (rB) r v ∧ s' = s := by
 induction n with
 | zero => intros; rename_i h _; cases h
 | succ n ih =>
  intros
  rename_i h hs
  exact impl_Program_can_B_ok ih ‹_› ‹_› h hs
theorem impl_Program_can_ok {a1 : ProgramT} {a6 : Int} {a7 : Int} {a8 : List (List UInt8)} {z2 : Nat} {f3 : Bool} {e4 : List AV} {z9 : Nat} {f10 : Bool} {e11 : List AV} {s : St} (h5 : LR rModule 2 a1.Modules z2 e4) (h12 : LR rS 1 a8 z9 e11) {r : Bool} (h : impl_Program_can a1 a6 a7 a8 = some r) (hs : WF s) : ACall Cf 36 [(AV.agg [(AV.sl z2 f3 e4)]), (AV.int .i64 a6), (AV.int .i64 a7), (AV.sl z9 f10 e11)] s fun v _ s' => (rB) r v ∧ s' = s := impl_Program_can_N_ok 1000 h5 h12 h hs
theorem impl_ProgramTakes_ok {p1 : ProgramT} {w6 : List UInt8} {z2 : Nat} {f3 : Bool} {e4 : List AV} {s : St} (h5 : LR rModule 2 p1.Modules z2 e4) {r : Bool × Int} (h : impl_ProgramTakes p1 w6 = some r) (hs : WF s) : ACall Cf 19 [(AV.agg [(AV.sl z2 f3 e4)]), (AV.str w6)] s fun v _ s' => (fun x => rT [rB x.1, (rI .i64) x.2]) r v ∧ s' = s := by
 refine ACall.pure rfl rfl rfl (.T (.cons .B (.cons .I .nil))) ?_
 have hWF := hs.lo'
 unfold impl_ProgramTakes at h
 refine AW.sr ?_
 refine AOps.makeR rfl rfl rfl rfl rfl rfl (rfl : _ = (AV.eptr [(AV.sl z2 f3 e4)] 0)) ?_
 refine AOps.p rfl (rfl : _ = (AV.bool false)) ?_
 refine AOps.p rfl (rfl : _ = (AV.int .i64 0)) ?_
 refine AOps.nilR ?_
 refine AW.seq ?_
 refine AW.sr ?_
 refine AOps.ldE (v := (AV.agg [(AV.sl z2 f3 e4)])) rfl rfl rfl rfl rfl rfl ?_
 obtain ⟨y7, h8, h⟩ := obind h
 refine AOps.callP (g := 33) (args := [(AV.agg [(AV.sl z2 f3 e4)])]) (p := (rB) y7) rfl rfl rfl (impl_ValidProgram_ok h5 h8 hWF) ?_
 intro _ o10 h9
 cases h9
 refine AOps.p rfl (rfl : _ = (AV.bool (!y7))) ?_
 refine AOps.p rfl (rfl : _ = (AV.bool (!y7))) ?_
 obtain ⟨b12, hb, h⟩ := obind h
 refine AOps.split 4 (fun f' => ∃ tm' os', f' = ⟨updL tm' [(1, (AV.str w6)), (2, (AV.eptr [(AV.sl z2 f3 e4)] 0)), (13, (AV.bool b12))], updL os' [], { s with lo := s.n }⟩) ?_ ?_
 ·rcases oite hb with ⟨hc11, hb⟩ | ⟨hc11, hb⟩
  ·refine AOps.know (d := 9) rfl hc11 ?_
   refine AOps.skipR rfl rfl ?_
   refine AOps.skipR rfl rfl ?_
   refine AOps.skipR rfl rfl ?_
   refine AOps.p rfl (rfl : _ = (AV.bool true)) ?_
   refine AOps.resR [(1, (AV.str w6)), (2, (AV.eptr [(AV.sl z2 f3 e4)] 0)), (13, (AV.bool b12))] [] ?_ ?_ _ ⟨_, _, rfl⟩
   ·exact ⟨rfl, rfl, congrArg AV.bool (Option.some.inj hb), trivial⟩
   exact trivial
  ·have h := hb
   refine AOps.know (d := 9) rfl hc11 ?_
   refine AOps.p rfl (rfl : _ = (AV.str w6)) ?_
   obtain ⟨y13, h14, h⟩ := obind h
   refine AOps.callP (g := 34) (args := [(AV.str w6)]) (p := (rB) y13) rfl rfl rfl (impl_ValidWord_ok  h14 hWF) ?_
   intro _ o16 h15
   cases h15
   refine AOps.p rfl (rfl : _ = (AV.bool (!y13))) ?_
   refine AOps.p rfl (rfl : _ = (AV.bool (!y13))) ?_
   refine AOps.resR [(1, (AV.str w6)), (2, (AV.eptr [(AV.sl z2 f3 e4)] 0)), (13, (AV.bool b12))] [] ?_ ?_ _ ⟨_, _, rfl⟩
   ·exact ⟨rfl, rfl, congrArg AV.bool (Option.some.inj h), trivial⟩
   exact trivial
 rintro _ ⟨tm, os, rfl⟩
 refine AOps.nilR ?_
 rcases oite h with ⟨hc17, h⟩ | ⟨hc17, h⟩
 ·refine AW.condT (congrArg AV.bool hc17) ?_
  refine AW.sr ?_
  refine AOps.p rfl (rfl : _ = (AV.bool false)) ?_
  refine AOps.p rfl (rfl : _ = (AV.int .i64 1)) ?_
  refine AOps.nilR ?_
  cases h
  exact AW.ret ⟨rfl, _, _, rfl, ⟨_, rfl, (.cons rfl (.cons rfl .nil))⟩⟩
 refine AW.condF (congrArg AV.bool hc17) ?_
 refine AW.skip ?_
 refine AW.sr ?_
 refine AOps.p rfl (rfl : _ = (AV.str w6)) ?_
 obtain ⟨y18, h19, h⟩ := obind h
 refine AOps.callDP (g := 35) (args := [(AV.str w6)]) (p := (rB) y18) rfl rfl rfl (impl_isMatched_ok  h19 hWF.still) (fun v hv => Nice.pure (k := FINK) (p := (rB) y18) .B _ v hv) ?_
 intro _ o21 h20
 cases h20
 refine AOps.p rfl (rfl : _ = (AV.bool y18)) ?_
 obtain ⟨b23, hb, h⟩ := obind h
 refine AOps.split 5 (fun f' => ∃ tm' os', f' = ⟨updL tm' [(21, (AV.bool b23))], updL os' [], { s with lo := s.n }⟩) ?_ ?_
 ·rcases oite hb with ⟨hc22, hb⟩ | ⟨hc22, hb⟩
  ·have h := hb
   refine AOps.know (d := 16) rfl hc22 ?_
   refine AOps.ldE (v := (AV.agg [(AV.sl z2 f3 e4)])) rfl rfl rfl rfl rfl rfl ?_
   refine AOps.p rfl (rfl : _ = (AV.str w6)) ?_
   obtain ⟨y24, h25, h⟩ := obind h
   refine AOps.callDP (g := 21) (args := [(AV.str w6)]) (p := (rL rS 1) y24) rfl rfl rfl (impl_factors_ok  h25 hWF.still) (fun v hv => Nice.pure (k := FINK) (p := (rL rS 1) y24) (.L fun _ => .S) _ v hv) ?_
   intro _ o31 h26
   obtain ⟨z27, f28, e29, rfl, h30⟩ := h26
   obtain ⟨y32, h33, h⟩ := obind h
   refine AOps.callDP (g := 36) (args := [(AV.agg [(AV.sl z2 f3 e4)]), (AV.int .i64 0), (AV.int .i64 0), (AV.sl z27 f28 e29)]) (p := (rB) y32) rfl rfl rfl (impl_Program_can_ok h5 h30 h33 hWF.still) (fun v hv => Nice.pure (k := FINK) (p := (rB) y32) .B _ v hv) ?_
   intro _ o35 h34
   cases h34
   refine AOps.p rfl (rfl : _ = (AV.bool y32)) ?_
   refine AOps.resR [(21, (AV.bool b23))] [] ?_ ?_ _ ⟨_, _, rfl⟩
   ·exact ⟨congrArg AV.bool (Option.some.inj h), trivial⟩
   exact trivial
  ·refine AOps.know (d := 16) rfl hc22 ?_
   refine AOps.skipR rfl rfl ?_
   refine AOps.skipR rfl rfl ?_
   refine AOps.skipR rfl rfl ?_
   refine AOps.skipR rfl rfl ?_
   refine AOps.p rfl (rfl : _ = (AV.bool false)) ?_
   refine AOps.resR [(21, (AV.bool b23))] [] ?_ ?_ _ ⟨_, _, rfl⟩
   ·exact ⟨congrArg AV.bool (Option.some.inj hb), trivial⟩
   exact trivial
 rintro _ ⟨tm, os, rfl⟩
 refine AOps.assignR rfl rfl rfl (rfl : _ = (AV.bool b23)) rfl ?_
 refine AOps.p rfl (rfl : _ = (AV.int .i64 0)) ?_
 refine AOps.nilR ?_
 cases h
 exact AW.ret ⟨rfl, _, _, rfl, ⟨_, rfl, (.cons rfl (.cons rfl .nil))⟩⟩
theorem impl_Program_trail_B_ok {rec20 : ProgramT → Int → Int → (List (List UInt8)) → Option (List Int)} {p1 : ProgramT} {p1_6 : Int} {p2_7 : Int} {p3_8 : List (List UInt8)} {z2 : Nat} {f3 : Bool} {e4 : List AV} {z9 : Nat} {f10 : Bool} {e11 : List AV} {s : St} (rec20_ok : ∀ {a1 : ProgramT} {a6 : Int} {a7 : Int} {a8 : List (List UInt8)} {z2 : Nat} {f3 : Bool} {e4 : List AV} {z9 : Nat} {f10 : Bool} {e11 : List AV} {s : St} (h5 : LR rModule 2 a1.Modules z2 e4) (h12 : LR rS 1 a8 z9 e11) {r : (List Int)}, rec20 a1 a6 a7 a8 = some r → WF s → ACall Cf 20 [(AV.agg [(AV.sl z2 f3 e4)]), (AV.int .i64 a6), (AV.int .i64 a7), (AV.sl z9 f10 e11)] s fun v _ s' => (rL (rI .i64) 1) r v ∧ s' = s) (h5 : LR rModule 2 p1.Modules z2 e4) (h12 : LR rS 1 p3_8 z9 e11) {r : (List Int)} (h : impl_Program_trail_B rec20 p1 p1_6 p2_7 p3_8 = some r) (hs : WF s) : ACall Cf 20 [(AV.agg [(AV.sl z2 f3 e4)]), (AV.int .i64 p1_6), (AV.int .i64 p2_7), (AV.sl z9 f10 e11)] s fun v _ s' => (rL (rI .i64) 1) r v ∧ s' = s := by
 refine ACall.pure rfl rfl rfl (.L fun _ => .I) ?_
 have hWF := hs.lo'
 unfold impl_Program_trail_B at h
 refine AW.sr ?_
 refine AOps.makeR rfl rfl rfl rfl rfl rfl (rfl : _ = (AV.eptr [(AV.sl z2 f3 e4)] 0)) ?_
 refine AOps.p rfl (rfl : _ = (AV.sl 0 true [])) ?_
 refine AOps.nilR ?_
 refine AW.seq ?_
 refine AW.sr ?_
 refine AOps.p rfl (rfl : _ = (AV.sl z9 f10 e11)) ?_
 refine AOps.p rfl (len_eq h12) ?_
 refine AOps.p rfl (rfl : _ = (AV.bool ((p3_8.length : Int) == 0))) ?_
 refine AOps.nilR ?_
 rcases oite h with ⟨hc13, h⟩ | ⟨hc13, h⟩
 ·refine AW.condT (congrArg AV.bool hc13) ?_
  refine AW.sr ?_
  refine AOps.p rfl (rfl : _ = (AV.sl 0 true [])) ?_
  refine AOps.nilR ?_
  cases h
  exact AW.ret ⟨rfl, _, _, rfl, ⟨_, _, _, rfl, ⟨.inr ⟨rfl, rfl⟩, .nil⟩⟩⟩
 refine AW.condF (congrArg AV.bool hc13) ?_
 refine AW.skip ?_
 refine AW.seq ?_
 refine AW.sr ?_
 refine AOps.p rfl (rfl : _ = (AV.eptr [(AV.sl z2 f3 e4)] 0)) ?_
 refine AOps.ldE (v := (AV.sl z2 f3 e4)) rfl rfl rfl rfl rfl rfl ?_
 refine AOps.p rfl (rfl : _ = (AV.int .i64 p1_6)) ?_
 obtain ⟨x14, h15, h⟩ := obind h
 obtain ⟨v18, h16, h17⟩ := idx_sl h5 h15
 obtain ⟨_, rfl, h19⟩ := h16
 obtain ⟨_, _, rfl, h20, h21⟩ := Cs_cons h19
 cases h20
 obtain ⟨_, _, rfl, h22, h23⟩ := Cs_cons h21
 obtain ⟨z24, f25, e26, rfl, h27⟩ := h22
 cases Cs_nil h23
 refine AOps.pureR rfl rfl rfl h17 rfl (rfl : _ = (AV.eptr [(AV.int .i64 x14.Nodes), (AV.sl z24 f25 e26)] 0)) ?_
 refine AOps.p rfl (rfl : _ = (AV.eptr [(AV.int .i64 x14.Nodes), (AV.sl z24 f25 e26)] 1)) ?_
 refine AOps.ldE (v := (AV.sl z24 f25 e26)) rfl rfl rfl rfl rfl rfl ?_
 refine AOps.p rfl (len_eq h27) ?_
 refine AOps.p rfl (rfl : _ = (AV.int .i64 0)) ?_
 refine AOps.nilR ?_
 refine AW.meet (σ := Unit) (fun _ tm os => ⟨updL tm [], updL os [], { s with lo := s.n }⟩) (fun _ => impl_Program_trail_J1 = some r) ?_ ?_
 ·rintro _ tm os h
  unfold impl_Program_trail_J1 at h
  refine AW.sr ?_
  refine AOps.p rfl (rfl : _ = (AV.sl 0 true [])) ?_
  refine AOps.nilR ?_
  cases h
  exact AW.ret ⟨rfl, _, _, rfl, ⟨_, _, _, rfl, ⟨.inr ⟨rfl, rfl⟩, .nil⟩⟩⟩
 intro KJ28
 refine AW.block ?_
 refine AW.res [(1, (AV.int .i64 p1_6)), (2, (AV.int .i64 p2_7)), (3, (AV.sl z9 f10 e11)), (4, (AV.eptr [(AV.sl z2 f3 e4)] 0)), (21, (AV.sl z24 f25 e26)), (22, (AV.int .i64 (x14.Links.length : Int))), (23, (AV.int .i64 0))] [] ⟨rfl, rfl, rfl, rfl, rfl, rfl, rfl, trivial⟩ trivial ?_
 refine AW.loopF (σ := Int) (τ := Unit) (fun t29 _ => True) (fun t29 _ tm os => ⟨updL tm [(1, (AV.int .i64 p1_6)), (2, (AV.int .i64 p2_7)), (3, (AV.sl z9 f10 e11)), (4, (AV.eptr [(AV.sl z2 f3 e4)] 0)), (21, (AV.sl z24 f25 e26)), (22, (AV.int .i64 (x14.Links.length : Int))), (23, (AV.int .i64 t29))], updL os [], { s with lo := s.n }⟩) ?_ (x := (0)) (y := ()) h trivial
 clear h
 rintro t29 _ tm os - ee1 h hL1 hR1
 unfold impl_Program_trail_S1 at h
 refine AW.sr ?_
 refine AOps.p rfl (rfl : _ = (AV.bool (decide ((t29 : Int) < (x14.Links.length : Int))))) ?_
 refine AOps.nilR ?_
 refine AW.seq ?_
 rcases oite h with ⟨hc30, h⟩ | ⟨hc30, h⟩
 ·refine AW.condT (congrArg AV.bool hc30) ?_
  refine AW.skip ?_
  refine AW.seq ?_
  refine AW.meet (σ := Unit) (fun _ tm os => ⟨updL tm [(1, (AV.int .i64 p1_6)), (2, (AV.int .i64 p2_7)), (3, (AV.sl z9 f10 e11)), (4, (AV.eptr [(AV.sl z2 f3 e4)] 0)), (21, (AV.sl z24 f25 e26)), (22, (AV.int .i64 (x14.Links.length : Int))), (23, (AV.int .i64 t29))], updL os [], { s with lo := s.n }⟩) (fun _ => impl_Program_trail_J2 t29 = some ee1) ?_ ?_
  ·rintro _ tm os h
   unfold impl_Program_trail_J2 at h
   refine AW.region ?_
   refine AOps.p rfl (rfl : _ = (AV.int .i64 (IntKind.wrap .i64 (t29 + 1)))) ?_
   refine AOps.p rfl (rfl : _ = (AV.int .i64 (IntKind.wrap .i64 (t29 + 1)))) ?_
   refine AOps.nilR ?_
   cases h
   exact AW.res [(1, (AV.int .i64 p1_6)), (2, (AV.int .i64 p2_7)), (3, (AV.sl z9 f10 e11)), (4, (AV.eptr [(AV.sl z2 f3 e4)] 0)), (21, (AV.sl z24 f25 e26)), (22, (AV.int .i64 (x14.Links.length : Int))), (23, (AV.int .i64 (IntKind.wrap .i64 (t29 + 1))))] [] ⟨rfl, rfl, rfl, rfl, rfl, rfl, rfl, trivial⟩ trivial (hL1 _ rfl () _ _ trivial)
  intro KJ31
  refine AW.block ?_
  refine AW.sr ?_
  refine AOps.p rfl (rfl : _ = (AV.int .i64 t29)) ?_
  obtain ⟨x32, h33, h⟩ := obind h
  obtain ⟨v36, h34, h35⟩ := idx_sl h27 h33
  obtain ⟨_, rfl, h37⟩ := h34
  obtain ⟨_, _, rfl, h38, h39⟩ := Cs_cons h37
  cases h38
  obtain ⟨_, _, rfl, h40, h41⟩ := Cs_cons h39
  cases h40
  obtain ⟨_, _, rfl, h42, h43⟩ := Cs_cons h41
  cases h42
  obtain ⟨_, _, rfl, h44, h45⟩ := Cs_cons h43
  cases h44
  cases Cs_nil h45
  refine AOps.pureR rfl rfl rfl h35 rfl (rfl : _ = (AV.eptr [(AV.int .i64 x32.From), (AV.int .i64 x32.To), (AV.str x32.Act), (AV.int .i64 x32.Module)] 0)) ?_
  refine AOps.ldE (v := (AV.agg [(AV.int .i64 x32.From), (AV.int .i64 x32.To), (AV.str x32.Act), (AV.int .i64 x32.Module)])) rfl rfl rfl rfl rfl rfl ?_
  refine AOps.allocP rfl rfl rfl rfl ⟨rfl, rfl⟩ rfl ?_
  refine AOps.assignR rfl rfl rfl (rfl : _ = (AV.int .i64 t29)) rfl ?_
  refine AOps.stP (v := (AV.agg [(AV.int .i64 x32.From), (AV.int .i64 x32.To), (AV.str x32.Act), (AV.int .i64 x32.Module)])) rfl rfl rfl rfl rfl rfl rfl rfl rfl (lt_b rfl) rfl ?_
  refine AOps.nilR ?_
  refine AW.seq ?_
  refine AW.sr ?_
  refine AOps.p rfl (rfl : _ = (AV.eptr [(AV.int .i64 x32.From), (AV.int .i64 x32.To), (AV.str x32.Act), (AV.int .i64 x32.Module)] 0)) ?_
  refine AOps.ldE (v := (AV.int .i64 x32.From)) rfl rfl rfl rfl rfl rfl ?_
  refine AOps.p rfl (rfl : _ = (AV.int .i64 p2_7)) ?_
  refine AOps.p rfl (rfl : _ = (AV.bool (x32.From != p2_7))) ?_
  refine AOps.p rfl (rfl : _ = (AV.bool (x32.From != p2_7))) ?_
  obtain ⟨b47, hb, h⟩ := obind h
  refine AOps.split 8 (fun f' => ∃ tm' os', f' = ⟨updL tm' [(1, (AV.int .i64 p1_6)), (2, (AV.int .i64 p2_7)), (3, (AV.sl z9 f10 e11)), (4, (AV.eptr [(AV.sl z2 f3 e4)] 0)), (9, (AV.int .i64 t29)), (10, (AV.eptr [(AV.int .i64 x32.From), (AV.int .i64 x32.To), (AV.str x32.Act), (AV.int .i64 x32.Module)] 0)), (21, (AV.sl z24 f25 e26)), (22, (AV.int .i64 (x14.Links.length : Int))), (23, (AV.int .i64 t29)), (40, (AV.bool b47))], updL os' [], { s with lo := s.n }⟩) ?_ ?_
  ·rcases oite hb with ⟨hc46, hb⟩ | ⟨hc46, hb⟩
   ·refine AOps.know (d := 32) rfl hc46 ?_
    refine AOps.skipR rfl rfl ?_
    refine AOps.skipR rfl rfl ?_
    refine AOps.skipR rfl rfl ?_
    refine AOps.skipR rfl rfl ?_
    refine AOps.skipR rfl rfl ?_
    refine AOps.skipR rfl rfl ?_
    refine AOps.skipR rfl rfl ?_
    refine AOps.p rfl (rfl : _ = (AV.bool true)) ?_
    refine AOps.resR [(1, (AV.int .i64 p1_6)), (2, (AV.int .i64 p2_7)), (3, (AV.sl z9 f10 e11)), (4, (AV.eptr [(AV.sl z2 f3 e4)] 0)), (9, (AV.int .i64 t29)), (10, (AV.eptr [(AV.int .i64 x32.From), (AV.int .i64 x32.To), (AV.str x32.Act), (AV.int .i64 x32.Module)] 0)), (21, (AV.sl z24 f25 e26)), (22, (AV.int .i64 (x14.Links.length : Int))), (23, (AV.int .i64 t29)), (40, (AV.bool b47))] [] ?_ ?_ _ ⟨_, _, rfl⟩
    ·exact ⟨rfl, rfl, rfl, rfl, rfl, rfl, rfl, rfl, rfl, congrArg AV.bool (Option.some.inj hb), trivial⟩
    exact trivial
   ·have h := hb
    refine AOps.know (d := 32) rfl hc46 ?_
    refine AOps.ldE (v := (AV.agg [(AV.sl z2 f3 e4)])) rfl rfl rfl rfl rfl rfl ?_
    refine AOps.ldE (v := (AV.agg [(AV.int .i64 x32.From), (AV.int .i64 x32.To), (AV.str x32.Act), (AV.int .i64 x32.Module)])) rfl rfl rfl rfl rfl rfl ?_
    refine AOps.p rfl (rfl : _ = (AV.sl z9 f10 e11)) ?_
    obtain ⟨x48, h49, h⟩ := obind h
    obtain ⟨v52, h50, h51⟩ := idx_sl h12 h49
    cases h50
    refine AOps.pureR rfl rfl rfl h51 rfl (rfl : _ = (AV.eptr [(AV.str x48)] 0)) ?_
    refine AOps.ldE (v := (AV.str x48)) rfl rfl rfl rfl rfl rfl ?_
    obtain ⟨y53, h54, h⟩ := obind h
    refine AOps.callDP (g := 37) (args := [(AV.agg [(AV.sl z2 f3 e4)]), (AV.agg [(AV.int .i64 x32.From), (AV.int .i64 x32.To), (AV.str x32.Act), (AV.int .i64 x32.Module)]), (AV.str x48)]) (p := (rB) y53) rfl rfl rfl (impl_Program_matches_ok impl_Program_can_ok h5 h54 hWF.still) (fun v hv => Nice.pure (k := FINK) (p := (rB) y53) .B _ v hv) ?_
    intro _ o56 h55
    cases h55
    refine AOps.p rfl (rfl : _ = (AV.bool (!y53))) ?_
    refine AOps.p rfl (rfl : _ = (AV.bool (!y53))) ?_
    refine AOps.resR [(1, (AV.int .i64 p1_6)), (2, (AV.int .i64 p2_7)), (3, (AV.sl z9 f10 e11)), (4, (AV.eptr [(AV.sl z2 f3 e4)] 0)), (9, (AV.int .i64 t29)), (10, (AV.eptr [(AV.int .i64 x32.From), (AV.int .i64 x32.To), (AV.str x32.Act), (AV.int .i64 x32.Module)] 0)), (21, (AV.sl z24 f25 e26)), (22, (AV.int .i64 (x14.Links.length : Int))), (23, (AV.int .i64 t29)), (40, (AV.bool b47))] [] ?_ ?_ _ ⟨_, _, rfl⟩
    ·exact ⟨rfl, rfl, rfl, rfl, rfl, rfl, rfl, rfl, rfl, congrArg AV.bool (Option.some.inj h), trivial⟩
    exact trivial
  rintro _ ⟨tm, os, rfl⟩
  refine AOps.p rfl (rfl : _ = (AV.bool b47)) ?_
  obtain ⟨b58, hb, h⟩ := obind h
  refine AOps.split 9 (fun f' => ∃ tm' os', f' = ⟨updL tm' [(1, (AV.int .i64 p1_6)), (2, (AV.int .i64 p2_7)), (3, (AV.sl z9 f10 e11)), (4, (AV.eptr [(AV.sl z2 f3 e4)] 0)), (9, (AV.int .i64 t29)), (10, (AV.eptr [(AV.int .i64 x32.From), (AV.int .i64 x32.To), (AV.str x32.Act), (AV.int .i64 x32.Module)] 0)), (21, (AV.sl z24 f25 e26)), (22, (AV.int .i64 (x14.Links.length : Int))), (23, (AV.int .i64 t29)), (50, (AV.bool b58))], updL os' [], { s with lo := s.n }⟩) ?_ ?_
  ·rcases oite hb with ⟨hc57, hb⟩ | ⟨hc57, hb⟩
   ·refine AOps.know (d := 41) rfl hc57 ?_
    refine AOps.skipR rfl rfl ?_
    refine AOps.skipR rfl rfl ?_
    refine AOps.skipR rfl rfl ?_
    refine AOps.skipR rfl rfl ?_
    refine AOps.skipR rfl rfl ?_
    refine AOps.skipR rfl rfl ?_
    refine AOps.skipR rfl rfl ?_
    refine AOps.skipR rfl rfl ?_
    refine AOps.p rfl (rfl : _ = (AV.bool true)) ?_
    refine AOps.resR [(1, (AV.int .i64 p1_6)), (2, (AV.int .i64 p2_7)), (3, (AV.sl z9 f10 e11)), (4, (AV.eptr [(AV.sl z2 f3 e4)] 0)), (9, (AV.int .i64 t29)), (10, (AV.eptr [(AV.int .i64 x32.From), (AV.int .i64 x32.To), (AV.str x32.Act), (AV.int .i64 x32.Module)] 0)), (21, (AV.sl z24 f25 e26)), (22, (AV.int .i64 (x14.Links.length : Int))), (23, (AV.int .i64 t29)), (50, (AV.bool b58))] [] ?_ ?_ _ ⟨_, _, rfl⟩
    ·exact ⟨rfl, rfl, rfl, rfl, rfl, rfl, rfl, rfl, rfl, congrArg AV.bool (Option.some.inj hb), trivial⟩
    exact trivial
   ·have h := hb
    refine AOps.know (d := 41) rfl hc57 ?_
    refine AOps.ldE (v := (AV.agg [(AV.sl z2 f3 e4)])) rfl rfl rfl rfl rfl rfl ?_
    refine AOps.p rfl (rfl : _ = (AV.int .i64 p1_6)) ?_
    refine AOps.p rfl (rfl : _ = (AV.eptr [(AV.int .i64 x32.From), (AV.int .i64 x32.To), (AV.str x32.Act), (AV.int .i64 x32.Module)] 1)) ?_
    refine AOps.ldE (v := (AV.int .i64 x32.To)) rfl rfl rfl rfl rfl rfl ?_
    refine AOps.p rfl (rfl : _ = (AV.sl z9 f10 e11)) ?_
    obtain ⟨l59, h60, h⟩ := obind h
    obtain ⟨f61, e62, h63, h64⟩ := cut_slL f10 h12 h60
    refine AOps.pureR rfl rfl rfl h64 rfl (rfl : _ = (AV.sl z9 f61 e62)) ?_
    obtain ⟨y65, h66, h⟩ := obind h
    refine AOps.callDP (g := 36) (args := [(AV.agg [(AV.sl z2 f3 e4)]), (AV.int .i64 p1_6), (AV.int .i64 x32.To), (AV.sl z9 f61 e62)]) (p := (rB) y65) rfl rfl rfl (impl_Program_can_ok h5 h63 h66 hWF.still) (fun v hv => Nice.pure (k := FINK) (p := (rB) y65) .B _ v hv) ?_
    intro _ o68 h67
    cases h67
    refine AOps.p rfl (rfl : _ = (AV.bool (!y65))) ?_
    refine AOps.p rfl (rfl : _ = (AV.bool (!y65))) ?_
    refine AOps.resR [(1, (AV.int .i64 p1_6)), (2, (AV.int .i64 p2_7)), (3, (AV.sl z9 f10 e11)), (4, (AV.eptr [(AV.sl z2 f3 e4)] 0)), (9, (AV.int .i64 t29)), (10, (AV.eptr [(AV.int .i64 x32.From), (AV.int .i64 x32.To), (AV.str x32.Act), (AV.int .i64 x32.Module)] 0)), (21, (AV.sl z24 f25 e26)), (22, (AV.int .i64 (x14.Links.length : Int))), (23, (AV.int .i64 t29)), (50, (AV.bool b58))] [] ?_ ?_ _ ⟨_, _, rfl⟩
    ·exact ⟨rfl, rfl, rfl, rfl, rfl, rfl, rfl, rfl, rfl, congrArg AV.bool (Option.some.inj h), trivial⟩
    exact trivial
  rintro _ ⟨tm, os, rfl⟩
  refine AOps.nilR ?_
  rcases oite h with ⟨hc69, h⟩ | ⟨hc69, h⟩
  ·refine AW.condT (congrArg AV.bool hc69) ?_
   refine AW.exit rfl ?_
   exact AW.res [(1, (AV.int .i64 p1_6)), (2, (AV.int .i64 p2_7)), (3, (AV.sl z9 f10 e11)), (4, (AV.eptr [(AV.sl z2 f3 e4)] 0)), (21, (AV.sl z24 f25 e26)), (22, (AV.int .i64 (x14.Links.length : Int))), (23, (AV.int .i64 t29))] [] ⟨rfl, rfl, rfl, rfl, rfl, rfl, rfl, trivial⟩ trivial (KJ31 () _ _ h)
  refine AW.condF (congrArg AV.bool hc69) ?_
  refine AW.skip ?_
  refine AW.sr ?_
  refine AOps.p rfl (rfl : _ = (AV.int .i64 t29)) ?_
  refine AOps.makeR rfl rfl rfl rfl rfl rfl (rfl : _ = (AV.sl 1 true [(AV.int .i64 t29)])) ?_
  refine AOps.assignR rfl rfl rfl (rfl : _ = (AV.sl 1 true [(AV.int .i64 t29)])) rfl ?_
  refine AOps.nilR ?_
  refine AW.seq ?_
  refine AW.sr ?_
  refine AOps.ldE (v := (AV.agg [(AV.int .i64 x32.From), (AV.int .i64 x32.To), (AV.str x32.Act), (AV.int .i64 x32.Module)])) rfl rfl rfl rfl rfl rfl ?_
  obtain ⟨y70, h71, h⟩ := obind h
  refine AOps.callP (g := 38) (args := [(AV.agg [(AV.int .i64 x32.From), (AV.int .i64 x32.To), (AV.str x32.Act), (AV.int .i64 x32.Module)])]) (p := (rB) y70) rfl rfl rfl (impl_Link_isCallLink_ok  h71 hWF) ?_
  intro _ o73 h72
  cases h72
  refine AOps.nilR ?_
  refine AW.meet (σ := (List Int) × Nat × Bool × (List AV) × Bool) (fun (t74, z75, f76, e77, o79) tm os => ⟨updL tm [(1, (AV.int .i64 p1_6)), (3, (AV.sl z9 f10 e11)), (4, (AV.eptr [(AV.sl z2 f3 e4)] 0)), (10, (AV.eptr [(AV.int .i64 x32.From), (AV.int .i64 x32.To), (AV.str x32.Act), (AV.int .i64 x32.Module)] 0)), (11, (AV.sl z75 f76 e77))], updL os [(11, o79)], { s with lo := s.n }⟩) (fun (t74, z75, f76, e77, o79) => (LR (rI .i64) 1 t74 z75 e77) ∧ (f76 = true ∨ o79 = true) ∧ impl_Program_trail_J3 p1 p1_6 p3_8 rec20 x32 t74 = some ee1) ?_ ?_
  ·rintro ⟨t74, z75, f76, e77, o79⟩ tm os ⟨h78, h80, h⟩
   unfold impl_Program_trail_J3 at h
   refine AW.sr ?_
   refine AOps.moveR rfl rfl rfl rfl (rfl : _ = (AV.sl z75 f76 e77)) rfl ?_
   refine AOps.ldE (v := (AV.agg [(AV.sl z2 f3 e4)])) rfl rfl rfl rfl rfl rfl ?_
   refine AOps.p rfl (rfl : _ = (AV.int .i64 p1_6)) ?_
   refine AOps.p rfl (rfl : _ = (AV.eptr [(AV.int .i64 x32.From), (AV.int .i64 x32.To), (AV.str x32.Act), (AV.int .i64 x32.Module)] 1)) ?_
   refine AOps.ldE (v := (AV.int .i64 x32.To)) rfl rfl rfl rfl rfl rfl ?_
   refine AOps.p rfl (rfl : _ = (AV.sl z9 f10 e11)) ?_
   obtain ⟨l82, h83, h⟩ := obind h
   obtain ⟨f84, e85, h86, h87⟩ := cut_slL f10 h12 h83
   refine AOps.pureR rfl rfl rfl h87 rfl (rfl : _ = (AV.sl z9 f84 e85)) ?_
   obtain ⟨y88, h89, h⟩ := obind h
   refine AOps.callDP (g := 20) (args := [(AV.agg [(AV.sl z2 f3 e4)]), (AV.int .i64 p1_6), (AV.int .i64 x32.To), (AV.sl z9 f84 e85)]) (p := (rL (rI .i64) 1) y88) rfl rfl rfl (rec20_ok h5 h86 h89 hWF.still) (fun v hv => Nice.pure (k := FINK) (p := (rL (rI .i64) 1) y88) (.L fun _ => .I) _ v hv) ?_
   intro _ o95 h90
   obtain ⟨z91, f92, e93, rfl, h94⟩ := h90
   obtain ⟨l96, h97, h⟩ := obind h
   obtain ⟨h98, h99⟩ := app_LR h78 h94 h97
   refine AOps.appL (z := z75) (f := f76) (e := e77) (z' := z91) (f' := f92) (e' := e93) rfl rfl rfl rfl rfl rfl rfl (appSrc_sl (LR.z h94) rfl) (LR.z h78) ⟨by decide, by decide, rfl, rfl⟩ rfl rfl h99 (own_tmp h80 rfl rfl) ?_
   refine AOps.assignR rfl rfl rfl (rfl : _ = (AV.sl 1 false (e77 ++ e93))) rfl ?_
   refine AOps.nilR ?_
   cases h
   have hr := hR1 _ rfl
   subst hr
   exact AW.ret ⟨rfl, _, _, rfl, ⟨_, _, _, rfl, h98⟩⟩
  intro KJ81
  rcases oite h with ⟨hc100, h⟩ | ⟨hc100, h⟩
  ·refine AW.condT (congrArg AV.bool hc100) ?_
   refine AW.sr ?_
   refine AOps.p rfl (rfl : _ = (AV.sl z9 f10 e11)) ?_
   obtain ⟨x101, h102, h⟩ := obind h
   obtain ⟨v105, h103, h104⟩ := idx_sl h12 h102
   cases h103
   refine AOps.pureR rfl rfl rfl h104 rfl (rfl : _ = (AV.eptr [(AV.str x101)] 0)) ?_
   refine AOps.ldE (v := (AV.str x101)) rfl rfl rfl rfl rfl rfl ?_
   refine AOps.p rfl (rfl : _ = (AV.sl z9 f10 e11)) ?_
   obtain ⟨x106, h107, h⟩ := obind h
   obtain ⟨v110, h108, h109⟩ := idx_sl h12 h107
   cases h108
   refine AOps.pureR rfl rfl rfl h109 rfl (rfl : _ = (AV.eptr [(AV.str x106)] 0)) ?_
   refine AOps.ldE (v := (AV.str x106)) rfl rfl rfl rfl rfl rfl ?_
   refine AOps.p rfl (rfl : _ = (AV.int .i64 (x106.length : Int))) ?_
   refine AOps.p rfl (rfl : _ = (AV.int .i64 (IntKind.wrap .i64 ((x106.length : Int) - 1)))) ?_
   obtain ⟨w111, h112, h⟩ := obind h
   refine AOps.pureR rfl rfl rfl (cut_strLH h112) rfl (rfl : _ = (AV.str w111)) ?_
   refine AOps.assignR rfl rfl rfl (rfl : _ = (AV.str w111)) rfl ?_
   refine AOps.nilR ?_
   refine AW.region ?_
   refine AOps.moveR rfl rfl rfl rfl (rfl : _ = (AV.sl 1 true [(AV.int .i64 t29)])) rfl ?_
   refine AOps.ldE (v := (AV.agg [(AV.sl z2 f3 e4)])) rfl rfl rfl rfl rfl rfl ?_
   refine AOps.p rfl (rfl : _ = (AV.eptr [(AV.int .i64 x32.From), (AV.int .i64 x32.To), (AV.str x32.Act), (AV.int .i64 x32.Module)] 3)) ?_
   refine AOps.ldE (v := (AV.int .i64 x32.Module)) rfl rfl rfl rfl rfl rfl ?_
   refine AOps.p rfl (rfl : _ = (AV.str w111)) ?_
   obtain ⟨y113, h114, h⟩ := obind h
   refine AOps.callDP (g := 21) (args := [(AV.str w111)]) (p := (rL rS 1) y113) rfl rfl rfl (impl_factors_ok  h114 hWF.still) (fun v hv => Nice.pure (k := FINK) (p := (rL rS 1) y113) (.L fun _ => .S) _ v hv) ?_
   intro _ o120 h115
   obtain ⟨z116, f117, e118, rfl, h119⟩ := h115
   obtain ⟨y121, h122, h⟩ := obind h
   refine AOps.callDP (g := 20) (args := [(AV.agg [(AV.sl z2 f3 e4)]), (AV.int .i64 x32.Module), (AV.int .i64 0), (AV.sl z116 f117 e118)]) (p := (rL (rI .i64) 1) y121) rfl rfl rfl (rec20_ok h5 h119 h122 hWF.still) (fun v hv => Nice.pure (k := FINK) (p := (rL (rI .i64) 1) y121) (.L fun _ => .I) _ v hv) ?_
   intro _ o128 h123
   obtain ⟨z124, f125, e126, rfl, h127⟩ := h123
   obtain ⟨l129, h130, h⟩ := obind h
   obtain ⟨h131, h132⟩ := app_LR (LR.lit (r := rI .i64) (sz := 1) (.cons rfl .nil)) h127 h130
   refine AOps.appL (z := 1) (f := true) (e := [(AV.int .i64 t29)]) (z' := z124) (f' := f125) (e' := e126) rfl rfl rfl rfl rfl rfl rfl (appSrc_sl (LR.z h127) rfl) (LR.z (LR.lit (r := rI .i64) (sz := 1) (.cons rfl .nil))) ⟨by decide, by decide, rfl, rfl⟩ rfl rfl h132 (Or.inl rfl) ?_
   refine AOps.makeR rfl rfl rfl rfl rfl rfl (rfl : _ = (AV.sl 1 true [(AV.int .i64 (-1))])) ?_
   obtain ⟨l133, h134, h⟩ := obind h
   obtain ⟨h135, h136⟩ := app_LR h131 (LR.lit (r := rI .i64) (sz := 1) (.cons rfl .nil)) h134
   refine AOps.appL (z := 1) (f := false) (e := ([(AV.int .i64 t29)] ++ e126)) (z' := 1) (f' := true) (e' := [(AV.int .i64 (-1))]) rfl rfl rfl rfl rfl rfl rfl (appSrc_sl (LR.z (LR.lit (r := rI .i64) (sz := 1) (.cons rfl .nil))) rfl) (LR.z h131) ⟨by decide, by decide, rfl, rfl⟩ rfl rfl h136 (Or.inr ⟨71, rfl, rfl⟩) ?_
   refine AOps.assignR rfl rfl rfl (rfl : _ = (AV.sl 1 false (([(AV.int .i64 t29)] ++ e126) ++ [(AV.int .i64 (-1))]))) rfl ?_
   refine AOps.nilR ?_
   exact AW.res [(1, (AV.int .i64 p1_6)), (3, (AV.sl z9 f10 e11)), (4, (AV.eptr [(AV.sl z2 f3 e4)] 0)), (10, (AV.eptr [(AV.int .i64 x32.From), (AV.int .i64 x32.To), (AV.str x32.Act), (AV.int .i64 x32.Module)] 0)), (11, (AV.sl 1 false (([(AV.int .i64 t29)] ++ e126) ++ [(AV.int .i64 (-1))])))] [(11, true)] ⟨rfl, rfl, rfl, rfl, rfl, trivial⟩ ⟨rfl, trivial⟩ (KJ81 (l133, 1, false, (([(AV.int .i64 t29)] ++ e126) ++ [(AV.int .i64 (-1))]), true) _ _ ⟨h135, (Or.inr rfl), h⟩)
  refine AW.condF (congrArg AV.bool hc100) ?_
  refine AW.skip ?_
  exact AW.res [(1, (AV.int .i64 p1_6)), (3, (AV.sl z9 f10 e11)), (4, (AV.eptr [(AV.sl z2 f3 e4)] 0)), (10, (AV.eptr [(AV.int .i64 x32.From), (AV.int .i64 x32.To), (AV.str x32.Act), (AV.int .i64 x32.Module)] 0)), (11, (AV.sl 1 true [(AV.int .i64 t29)]))] [(11, false)] ⟨rfl, rfl, rfl, rfl, rfl, trivial⟩ ⟨rfl, trivial⟩ (KJ81 (([t29] : List Int), 1, true, [(AV.int .i64 t29)], false) _ _ ⟨LR.lit (r := rI .i64) (sz := 1) (.cons rfl .nil), (Or.inl rfl), h⟩)
 refine AW.condF (congrArg AV.bool hc30) ?_
 refine AW.exit rfl ?_
 obtain ⟨r137, hm, hx⟩ := omap h
 clear h
 subst hx
 have hx := hR1 _ rfl
 rw [hx] at hm
 have h := hm
 exact AW.res [] [] trivial trivial (KJ28 () _ _ h)
theorem impl_Program_trail_N_ok (n : Nat) : ∀ {a1 : ProgramT} {a6 : Int} {a7 : Int} {a8 : List (List UInt8)} {z2 : Nat} {f3 : Bool} {e4 : List AV} {z9 : Nat} {f10 : Bool} {e11 : List AV} {s : St} (h5 : LR rModule 2 a1.Modules z2 e4) (h12 : LR rS 1 a8 z9 e11) {r : (List Int)}, impl_Program_trail_N n a1 a6 a7 a8 = some r → WF s → ACall Cf 20 [(AV.agg [(AV.sl z2 f3 e4)]), (AV.int .i64 a6), (AV.int .i64 a7), (AV.sl z9 f10 e11)] s fun v _ s' => (rL (rI .i64) 1) r v ∧ s' = s := by
 induction n with
 | zero => intros; rename_i h _; cases h
 | succ n ih =>
  intros
  rename_i h hs
  exact impl_Program_trail_B_ok ih ‹_› ‹_› h hs
theorem impl_Program_trail_ok {a1 : ProgramT} {a6 : Int} {a7 : Int} {a8 : List (List UInt8)} {z2 : Nat} {f3 : Bool} {e4 : List AV} {z9 : Nat} {f10 : Bool} {e11 : List AV} {s : St} (h5 : LR rModule 2 a1.Modules z2 e4) (h12 : LR rS 1 a8 z9 e11) {r : (List Int)} (h : impl_Program_trail a1 a6 a7 a8 = some r) (hs : WF s) : ACall Cf 20 [(AV.agg [(AV.sl z2 f3 e4)]), (AV.int .i64 a6), (AV.int .i64 a7), (AV.sl z9 f10 e11)] s fun v _ s' => (rL (rI .i64) 1) r v ∧ s' = s := impl_Program_trail_N_ok 1000 h5 h12 h hs
theorem impl_Program_trail_K0000_ok {p1 : ProgramT} {p1_6 : Int} {p2_7 : Int} {p3_8 : List (List UInt8)} {z2 : Nat} {f3 : Bool} {e4 : List AV} {z9 : Nat} {f10 : Bool} {e11 : List AV} {s : St} (h5 : LR rModule 2 p1.Modules z2 e4) (h12 : LR rS 1 p3_8 z9 e11) {r : (List Int)} (h : impl_Program_trail_K0000 p1 p1_6 p2_7 p3_8 = some r) (hs : WF s) : ACall Cf 20 [(AV.agg [(AV.sl z2 f3 e4)]), (AV.int .i64 p1_6), (AV.int .i64 p2_7), (AV.sl z9 f10 e11)] s (fun v _ s' => ∃ (h1' : AV) (k2' : KT) (Ls' : List (List BX)), v = h1' ∧ HS [] true s s' (([] : List BX) ++ List.flatten Ls') ∧ AllG [OS oE2 h1' k2' r] Ls' ∧ h1'.one = true) true := by
 refine ACall.keepR rfl rfl rfl ?_
 have hH0 := HS.g0 (HS.initK hs)
 have hG0 := AllG.nil
 have hl : LoOK [] true s := LoOK.nil
 unfold impl_Program_trail_K0000 at h
 refine AW.sr ?_
 refine AOps.makeR rfl rfl rfl rfl rfl rfl (rfl : _ = (AV.eptr [(AV.sl z2 f3 e4)] 0)) ?_
 refine AOps.p rfl (rfl : _ = (AV.sl 0 true [])) ?_
 refine AOps.nilR ?_
 refine AW.seq ?_
 refine AW.sr ?_
 refine AOps.p rfl (rfl : _ = (AV.sl z9 f10 e11)) ?_
 refine AOps.p rfl (len_eq h12) ?_
 refine AOps.p rfl (rfl : _ = (AV.bool ((p3_8.length : Int) == 0))) ?_
 refine AOps.nilR ?_
 rcases oite h with ⟨hc13, h⟩ | ⟨hc13, h⟩
 ·refine AW.condT (congrArg AV.bool hc13) ?_
  refine AW.sr ?_
  refine AOps.p rfl (rfl : _ = (AV.sl 0 true [])) ?_
  refine AOps.nilR ?_
  cases h
  have hG14 := AllG.cons (OS.nil (e := oE2) (k := fun _ => AV.undef) (z := 0) (Or.inr rfl)) hG0
  have hH15 := HS.addNil hH0
  change HS [] true s s (([] : List BX) ++ List.flatten ([] :: ([] : List (List BX)))) at hH15
  change AllG [OS oE2 (AV.sl 0 true []) (fun _ => AV.undef) ([] : List Int)] ([] :: ([] : List (List BX))) at hG14
  exact AW.ret ⟨_, _, rfl, ⟨(AV.sl 0 true []), (fun _ => AV.undef), ([] :: ([] : List (List BX))), rfl, hH15, hG14, rfl⟩⟩
 refine AW.condF (congrArg AV.bool hc13) ?_
 refine AW.skip ?_
 refine AW.seq ?_
 refine AW.sr ?_
 refine AOps.p rfl (rfl : _ = (AV.eptr [(AV.sl z2 f3 e4)] 0)) ?_
 refine AOps.ldE (v := (AV.sl z2 f3 e4)) rfl rfl rfl rfl rfl rfl ?_
 refine AOps.p rfl (rfl : _ = (AV.int .i64 p1_6)) ?_
 obtain ⟨x16, h17, h⟩ := obind h
 obtain ⟨v20, h18, h19⟩ := idx_sl h5 h17
 obtain ⟨_, rfl, h21⟩ := h18
 obtain ⟨_, _, rfl, h22, h23⟩ := Cs_cons h21
 cases h22
 obtain ⟨_, _, rfl, h24, h25⟩ := Cs_cons h23
 obtain ⟨z26, f27, e28, rfl, h29⟩ := h24
 cases Cs_nil h25
 refine AOps.pureR rfl rfl rfl h19 rfl (rfl : _ = (AV.eptr [(AV.int .i64 x16.Nodes), (AV.sl z26 f27 e28)] 0)) ?_
 refine AOps.p rfl (rfl : _ = (AV.eptr [(AV.int .i64 x16.Nodes), (AV.sl z26 f27 e28)] 1)) ?_
 refine AOps.ldE (v := (AV.sl z26 f27 e28)) rfl rfl rfl rfl rfl rfl ?_
 refine AOps.p rfl (len_eq h29) ?_
 refine AOps.p rfl (rfl : _ = (AV.int .i64 0)) ?_
 refine AOps.nilR ?_
 refine AW.meet (σ := St × (List (List BX))) (fun (s30, Ls31) tm os => ⟨updL tm [], updL os [], s30⟩) (fun (s30, Ls31) => (HS [] true s s30 (([] : List BX) ++ List.flatten Ls31)) ∧ (AllG [] Ls31) ∧ impl_Program_trail_K0000_J1 = some r) ?_ ?_
 ·rintro ⟨s30, Ls31⟩ tm os ⟨hH32, hG33, h⟩
  unfold impl_Program_trail_K0000_J1 at h
  refine AW.sr ?_
  refine AOps.p rfl (rfl : _ = (AV.sl 0 true [])) ?_
  refine AOps.nilR ?_
  cases h
  have hG35 := AllG.cons (OS.nil (e := oE2) (k := fun _ => AV.undef) (z := 0) (Or.inr rfl)) hG33
  have hH36 := HS.addNil hH32
  change HS [] true s s30 (([] : List BX) ++ List.flatten ([] :: Ls31)) at hH36
  change AllG [OS oE2 (AV.sl 0 true []) (fun _ => AV.undef) ([] : List Int)] ([] :: Ls31) at hG35
  exact AW.ret ⟨_, _, rfl, ⟨(AV.sl 0 true []), (fun _ => AV.undef), ([] :: Ls31), rfl, hH36, hG35, rfl⟩⟩
 intro KJ34
 refine AW.block ?_
 refine AW.res [(1, (AV.int .i64 p1_6)), (2, (AV.int .i64 p2_7)), (3, (AV.sl z9 f10 e11)), (4, (AV.eptr [(AV.sl z2 f3 e4)] 0)), (21, (AV.sl z26 f27 e28)), (22, (AV.int .i64 (x16.Links.length : Int))), (23, (AV.int .i64 0))] [] ⟨rfl, rfl, rfl, rfl, rfl, rfl, rfl, trivial⟩ trivial ?_
 refine AW.loopF (σ := Int) (τ := St × (List (List BX))) (fun t37 (s38, Ls39) => (HS [] true s s38 (([] : List BX) ++ List.flatten Ls39)) ∧ (AllG [] Ls39)) (fun t37 (s38, Ls39) tm os => ⟨updL tm [(1, (AV.int .i64 p1_6)), (2, (AV.int .i64 p2_7)), (3, (AV.sl z9 f10 e11)), (4, (AV.eptr [(AV.sl z2 f3 e4)] 0)), (21, (AV.sl z26 f27 e28)), (22, (AV.int .i64 (x16.Links.length : Int))), (23, (AV.int .i64 t37))], updL os [], s38⟩) ?_ (x := (0)) (y := (s, ([] : List (List BX)))) h ⟨hH0, hG0⟩
 clear h
 rintro t37 ⟨s38, Ls39⟩ tm os ⟨hH40, hG41⟩ ee1 h hL1 hR1
 unfold impl_Program_trail_K0000_S1 at h
 refine AW.sr ?_
 refine AOps.p rfl (rfl : _ = (AV.bool (decide ((t37 : Int) < (x16.Links.length : Int))))) ?_
 refine AOps.nilR ?_
 refine AW.seq ?_
 rcases oite h with ⟨hc42, h⟩ | ⟨hc42, h⟩
 ·refine AW.condT (congrArg AV.bool hc42) ?_
  refine AW.skip ?_
  refine AW.seq ?_
  refine AW.meet (σ := St × (List (List BX))) (fun (s43, Ls44) tm os => ⟨updL tm [(1, (AV.int .i64 p1_6)), (2, (AV.int .i64 p2_7)), (3, (AV.sl z9 f10 e11)), (4, (AV.eptr [(AV.sl z2 f3 e4)] 0)), (21, (AV.sl z26 f27 e28)), (22, (AV.int .i64 (x16.Links.length : Int))), (23, (AV.int .i64 t37))], updL os [], s43⟩) (fun (s43, Ls44) => (HS [] true s s43 (([] : List BX) ++ List.flatten Ls44)) ∧ (AllG [] Ls44) ∧ impl_Program_trail_K0000_J2 t37 = some ee1) ?_ ?_
  ·rintro ⟨s43, Ls44⟩ tm os ⟨hH45, hG46, h⟩
   unfold impl_Program_trail_K0000_J2 at h
   refine AW.region ?_
   refine AOps.p rfl (rfl : _ = (AV.int .i64 (IntKind.wrap .i64 (t37 + 1)))) ?_
   refine AOps.p rfl (rfl : _ = (AV.int .i64 (IntKind.wrap .i64 (t37 + 1)))) ?_
   refine AOps.nilR ?_
   cases h
   exact AW.res [(1, (AV.int .i64 p1_6)), (2, (AV.int .i64 p2_7)), (3, (AV.sl z9 f10 e11)), (4, (AV.eptr [(AV.sl z2 f3 e4)] 0)), (21, (AV.sl z26 f27 e28)), (22, (AV.int .i64 (x16.Links.length : Int))), (23, (AV.int .i64 (IntKind.wrap .i64 (t37 + 1))))] [] ⟨rfl, rfl, rfl, rfl, rfl, rfl, rfl, trivial⟩ trivial (hL1 _ rfl (s43, Ls44) _ _ ⟨hH45, hG46⟩)
  intro KJ47
  refine AW.block ?_
  refine AW.sr ?_
  refine AOps.p rfl (rfl : _ = (AV.int .i64 t37)) ?_
  obtain ⟨x48, h49, h⟩ := obind h
  obtain ⟨v52, h50, h51⟩ := idx_sl h29 h49
  obtain ⟨_, rfl, h53⟩ := h50
  obtain ⟨_, _, rfl, h54, h55⟩ := Cs_cons h53
  cases h54
  obtain ⟨_, _, rfl, h56, h57⟩ := Cs_cons h55
  cases h56
  obtain ⟨_, _, rfl, h58, h59⟩ := Cs_cons h57
  cases h58
  obtain ⟨_, _, rfl, h60, h61⟩ := Cs_cons h59
  cases h60
  cases Cs_nil h61
  refine AOps.pureR rfl rfl rfl h51 rfl (rfl : _ = (AV.eptr [(AV.int .i64 x48.From), (AV.int .i64 x48.To), (AV.str x48.Act), (AV.int .i64 x48.Module)] 0)) ?_
  refine AOps.ldE (v := (AV.agg [(AV.int .i64 x48.From), (AV.int .i64 x48.To), (AV.str x48.Act), (AV.int .i64 x48.Module)])) rfl rfl rfl rfl rfl rfl ?_
  refine AOps.allocP rfl rfl rfl rfl ⟨rfl, rfl⟩ rfl ?_
  refine AOps.assignR rfl rfl rfl (rfl : _ = (AV.int .i64 t37)) rfl ?_
  refine AOps.stP (v := (AV.agg [(AV.int .i64 x48.From), (AV.int .i64 x48.To), (AV.str x48.Act), (AV.int .i64 x48.Module)])) rfl rfl rfl rfl rfl rfl rfl rfl rfl (lt_b rfl) rfl ?_
  refine AOps.nilR ?_
  refine AW.seq ?_
  refine AW.sr ?_
  refine AOps.p rfl (rfl : _ = (AV.eptr [(AV.int .i64 x48.From), (AV.int .i64 x48.To), (AV.str x48.Act), (AV.int .i64 x48.Module)] 0)) ?_
  refine AOps.ldE (v := (AV.int .i64 x48.From)) rfl rfl rfl rfl rfl rfl ?_
  refine AOps.p rfl (rfl : _ = (AV.int .i64 p2_7)) ?_
  refine AOps.p rfl (rfl : _ = (AV.bool (x48.From != p2_7))) ?_
  refine AOps.p rfl (rfl : _ = (AV.bool (x48.From != p2_7))) ?_
  obtain ⟨b63, hb, h⟩ := obind h
  refine AOps.split 8 (fun f' => ∃ tm' os', f' = ⟨updL tm' [(1, (AV.int .i64 p1_6)), (2, (AV.int .i64 p2_7)), (3, (AV.sl z9 f10 e11)), (4, (AV.eptr [(AV.sl z2 f3 e4)] 0)), (9, (AV.int .i64 t37)), (10, (AV.eptr [(AV.int .i64 x48.From), (AV.int .i64 x48.To), (AV.str x48.Act), (AV.int .i64 x48.Module)] 0)), (21, (AV.sl z26 f27 e28)), (22, (AV.int .i64 (x16.Links.length : Int))), (23, (AV.int .i64 t37)), (40, (AV.bool b63))], updL os' [], s38⟩) ?_ ?_
  ·rcases oite hb with ⟨hc62, hb⟩ | ⟨hc62, hb⟩
   ·refine AOps.know (d := 32) rfl hc62 ?_
    refine AOps.skipR rfl rfl ?_
    refine AOps.skipR rfl rfl ?_
    refine AOps.skipR rfl rfl ?_
    refine AOps.skipR rfl rfl ?_
    refine AOps.skipR rfl rfl ?_
    refine AOps.skipR rfl rfl ?_
    refine AOps.skipR rfl rfl ?_
    refine AOps.p rfl (rfl : _ = (AV.bool true)) ?_
    refine AOps.resR [(1, (AV.int .i64 p1_6)), (2, (AV.int .i64 p2_7)), (3, (AV.sl z9 f10 e11)), (4, (AV.eptr [(AV.sl z2 f3 e4)] 0)), (9, (AV.int .i64 t37)), (10, (AV.eptr [(AV.int .i64 x48.From), (AV.int .i64 x48.To), (AV.str x48.Act), (AV.int .i64 x48.Module)] 0)), (21, (AV.sl z26 f27 e28)), (22, (AV.int .i64 (x16.Links.length : Int))), (23, (AV.int .i64 t37)), (40, (AV.bool b63))] [] ?_ ?_ _ ⟨_, _, rfl⟩
    ·exact ⟨rfl, rfl, rfl, rfl, rfl, rfl, rfl, rfl, rfl, congrArg AV.bool (Option.some.inj hb), trivial⟩
    exact trivial
   ·have h := hb
    refine AOps.know (d := 32) rfl hc62 ?_
    refine AOps.ldE (v := (AV.agg [(AV.sl z2 f3 e4)])) rfl rfl rfl rfl rfl rfl ?_
    refine AOps.ldE (v := (AV.agg [(AV.int .i64 x48.From), (AV.int .i64 x48.To), (AV.str x48.Act), (AV.int .i64 x48.Module)])) rfl rfl rfl rfl rfl rfl ?_
    refine AOps.p rfl (rfl : _ = (AV.sl z9 f10 e11)) ?_
    obtain ⟨x64, h65, h⟩ := obind h
    obtain ⟨v68, h66, h67⟩ := idx_sl h12 h65
    cases h66
    refine AOps.pureR rfl rfl rfl h67 rfl (rfl : _ = (AV.eptr [(AV.str x64)] 0)) ?_
    refine AOps.ldE (v := (AV.str x64)) rfl rfl rfl rfl rfl rfl ?_
    obtain ⟨y69, h70, h⟩ := obind h
    refine AOps.callDP (g := 37) (args := [(AV.agg [(AV.sl z2 f3 e4)]), (AV.agg [(AV.int .i64 x48.From), (AV.int .i64 x48.To), (AV.str x48.Act), (AV.int .i64 x48.Module)]), (AV.str x64)]) (p := (rB) y69) rfl rfl rfl (impl_Program_matches_ok impl_Program_can_ok h5 h70 ((HS.wf' hH40).still)) (fun v hv => Nice.pure (k := FINK) (p := (rB) y69) .B _ v hv) ?_
    intro _ o72 h71
    cases h71
    refine AOps.p rfl (rfl : _ = (AV.bool (!y69))) ?_
    refine AOps.p rfl (rfl : _ = (AV.bool (!y69))) ?_
    refine AOps.resR [(1, (AV.int .i64 p1_6)), (2, (AV.int .i64 p2_7)), (3, (AV.sl z9 f10 e11)), (4, (AV.eptr [(AV.sl z2 f3 e4)] 0)), (9, (AV.int .i64 t37)), (10, (AV.eptr [(AV.int .i64 x48.From), (AV.int .i64 x48.To), (AV.str x48.Act), (AV.int .i64 x48.Module)] 0)), (21, (AV.sl z26 f27 e28)), (22, (AV.int .i64 (x16.Links.length : Int))), (23, (AV.int .i64 t37)), (40, (AV.bool b63))] [] ?_ ?_ _ ⟨_, _, rfl⟩
    ·exact ⟨rfl, rfl, rfl, rfl, rfl, rfl, rfl, rfl, rfl, congrArg AV.bool (Option.some.inj h), trivial⟩
    exact trivial
  rintro _ ⟨tm, os, rfl⟩
  refine AOps.p rfl (rfl : _ = (AV.bool b63)) ?_
  obtain ⟨b74, hb, h⟩ := obind h
  refine AOps.split 9 (fun f' => ∃ tm' os', f' = ⟨updL tm' [(1, (AV.int .i64 p1_6)), (2, (AV.int .i64 p2_7)), (3, (AV.sl z9 f10 e11)), (4, (AV.eptr [(AV.sl z2 f3 e4)] 0)), (9, (AV.int .i64 t37)), (10, (AV.eptr [(AV.int .i64 x48.From), (AV.int .i64 x48.To), (AV.str x48.Act), (AV.int .i64 x48.Module)] 0)), (21, (AV.sl z26 f27 e28)), (22, (AV.int .i64 (x16.Links.length : Int))), (23, (AV.int .i64 t37)), (50, (AV.bool b74))], updL os' [], s38⟩) ?_ ?_
  ·rcases oite hb with ⟨hc73, hb⟩ | ⟨hc73, hb⟩
   ·refine AOps.know (d := 41) rfl hc73 ?_
    refine AOps.skipR rfl rfl ?_
    refine AOps.skipR rfl rfl ?_
    refine AOps.skipR rfl rfl ?_
    refine AOps.skipR rfl rfl ?_
    refine AOps.skipR rfl rfl ?_
    refine AOps.skipR rfl rfl ?_
    refine AOps.skipR rfl rfl ?_
    refine AOps.skipR rfl rfl ?_
    refine AOps.p rfl (rfl : _ = (AV.bool true)) ?_
    refine AOps.resR [(1, (AV.int .i64 p1_6)), (2, (AV.int .i64 p2_7)), (3, (AV.sl z9 f10 e11)), (4, (AV.eptr [(AV.sl z2 f3 e4)] 0)), (9, (AV.int .i64 t37)), (10, (AV.eptr [(AV.int .i64 x48.From), (AV.int .i64 x48.To), (AV.str x48.Act), (AV.int .i64 x48.Module)] 0)), (21, (AV.sl z26 f27 e28)), (22, (AV.int .i64 (x16.Links.length : Int))), (23, (AV.int .i64 t37)), (50, (AV.bool b74))] [] ?_ ?_ _ ⟨_, _, rfl⟩
    ·exact ⟨rfl, rfl, rfl, rfl, rfl, rfl, rfl, rfl, rfl, congrArg AV.bool (Option.some.inj hb), trivial⟩
    exact trivial
   ·have h := hb
    refine AOps.know (d := 41) rfl hc73 ?_
    refine AOps.ldE (v := (AV.agg [(AV.sl z2 f3 e4)])) rfl rfl rfl rfl rfl rfl ?_
    refine AOps.p rfl (rfl : _ = (AV.int .i64 p1_6)) ?_
    refine AOps.p rfl (rfl : _ = (AV.eptr [(AV.int .i64 x48.From), (AV.int .i64 x48.To), (AV.str x48.Act), (AV.int .i64 x48.Module)] 1)) ?_
    refine AOps.ldE (v := (AV.int .i64 x48.To)) rfl rfl rfl rfl rfl rfl ?_
    refine AOps.p rfl (rfl : _ = (AV.sl z9 f10 e11)) ?_
    obtain ⟨l75, h76, h⟩ := obind h
    obtain ⟨f77, e78, h79, h80⟩ := cut_slL f10 h12 h76
    refine AOps.pureR rfl rfl rfl h80 rfl (rfl : _ = (AV.sl z9 f77 e78)) ?_
    obtain ⟨y81, h82, h⟩ := obind h
    refine AOps.callDP (g := 36) (args := [(AV.agg [(AV.sl z2 f3 e4)]), (AV.int .i64 p1_6), (AV.int .i64 x48.To), (AV.sl z9 f77 e78)]) (p := (rB) y81) rfl rfl rfl (impl_Program_can_ok h5 h79 h82 ((HS.wf' hH40).still)) (fun v hv => Nice.pure (k := FINK) (p := (rB) y81) .B _ v hv) ?_
    intro _ o84 h83
    cases h83
    refine AOps.p rfl (rfl : _ = (AV.bool (!y81))) ?_
    refine AOps.p rfl (rfl : _ = (AV.bool (!y81))) ?_
    refine AOps.resR [(1, (AV.int .i64 p1_6)), (2, (AV.int .i64 p2_7)), (3, (AV.sl z9 f10 e11)), (4, (AV.eptr [(AV.sl z2 f3 e4)] 0)), (9, (AV.int .i64 t37)), (10, (AV.eptr [(AV.int .i64 x48.From), (AV.int .i64 x48.To), (AV.str x48.Act), (AV.int .i64 x48.Module)] 0)), (21, (AV.sl z26 f27 e28)), (22, (AV.int .i64 (x16.Links.length : Int))), (23, (AV.int .i64 t37)), (50, (AV.bool b74))] [] ?_ ?_ _ ⟨_, _, rfl⟩
    ·exact ⟨rfl, rfl, rfl, rfl, rfl, rfl, rfl, rfl, rfl, congrArg AV.bool (Option.some.inj h), trivial⟩
    exact trivial
  rintro _ ⟨tm, os, rfl⟩
  refine AOps.nilR ?_
  rcases oite h with ⟨hc85, h⟩ | ⟨hc85, h⟩
  ·refine AW.condT (congrArg AV.bool hc85) ?_
   refine AW.exit rfl ?_
   exact AW.res [(1, (AV.int .i64 p1_6)), (2, (AV.int .i64 p2_7)), (3, (AV.sl z9 f10 e11)), (4, (AV.eptr [(AV.sl z2 f3 e4)] 0)), (21, (AV.sl z26 f27 e28)), (22, (AV.int .i64 (x16.Links.length : Int))), (23, (AV.int .i64 t37))] [] ⟨rfl, rfl, rfl, rfl, rfl, rfl, rfl, trivial⟩ trivial (KJ47 (s38, Ls39) _ _ ⟨hH40, hG41, h⟩)
  refine AW.condF (congrArg AV.bool hc85) ?_
  refine AW.skip ?_
  refine AW.sr ?_
  refine AOps.p rfl (rfl : _ = (AV.int .i64 t37)) ?_
  refine AOps.litO (e := oE2) (xs := ([t37] : List Int)) (els := [(AV.int .i64 t37)]) hH40 hG41 rfl rfl rfl rfl rfl rfl (le_b rfl) rfl ⟨rfl, rfl⟩ rfl (fun _ => AV.undef) (OL.leaf (LR.el (LR.lit (r := rI .i64) (sz := 1) (.cons rfl .nil))) 0) rfl ?_
  intro h86 k88 Ls89 s90 ho87 hG91 hH92
  change HS [] true s s90 (([] : List BX) ++ List.flatten Ls89) at hH92
  change AllG [OS oE2 h86 k88 ([t37] : List Int)] Ls89 at hG91
  refine AOps.assignR rfl rfl rfl (rfl : _ = h86) rfl ?_
  refine AOps.nilR ?_
  refine AW.seq ?_
  refine AW.sr ?_
  refine AOps.ldE (v := (AV.agg [(AV.int .i64 x48.From), (AV.int .i64 x48.To), (AV.str x48.Act), (AV.int .i64 x48.Module)])) rfl rfl rfl rfl rfl rfl ?_
  obtain ⟨y93, h94, h⟩ := obind h
  refine AOps.callP (g := 38) (args := [(AV.agg [(AV.int .i64 x48.From), (AV.int .i64 x48.To), (AV.str x48.Act), (AV.int .i64 x48.Module)])]) (p := (rB) y93) rfl rfl rfl (impl_Link_isCallLink_ok  h94 (HS.wf' hH92)) ?_
  intro _ o96 h95
  cases h95
  refine AOps.nilR ?_
  refine AW.meet (σ := (List Int) × AV × KT × St × (List (List BX))) (fun (t97, h98, k99, s102, Ls103) tm os => ⟨updL tm [(1, (AV.int .i64 p1_6)), (3, (AV.sl z9 f10 e11)), (4, (AV.eptr [(AV.sl z2 f3 e4)] 0)), (10, (AV.eptr [(AV.int .i64 x48.From), (AV.int .i64 x48.To), (AV.str x48.Act), (AV.int .i64 x48.Module)] 0)), (11, h98)], updL os [], s102⟩) (fun (t97, h98, k99, s102, Ls103) => (h98.one = true) ∧ (t97 ≠ []) ∧ (HS [] true s s102 (([] : List BX) ++ List.flatten Ls103)) ∧ (AllG [OS oE2 h98 k99 t97] Ls103) ∧ impl_Program_trail_K0000_J3 p1 p1_6 p3_8 x48 t97 = some ee1) ?_ ?_
  ·rintro ⟨t97, h98, k99, s102, Ls103⟩ tm os ⟨ho100, hne101, hH104, hG105, h⟩
   unfold impl_Program_trail_K0000_J3 at h
   refine AW.sr ?_
   refine AOps.p rfl (rfl : _ = h98) ?_
   refine AOps.ldE (v := (AV.agg [(AV.sl z2 f3 e4)])) rfl rfl rfl rfl rfl rfl ?_
   refine AOps.p rfl (rfl : _ = (AV.int .i64 p1_6)) ?_
   refine AOps.p rfl (rfl : _ = (AV.eptr [(AV.int .i64 x48.From), (AV.int .i64 x48.To), (AV.str x48.Act), (AV.int .i64 x48.Module)] 1)) ?_
   refine AOps.ldE (v := (AV.int .i64 x48.To)) rfl rfl rfl rfl rfl rfl ?_
   refine AOps.p rfl (rfl : _ = (AV.sl z9 f10 e11)) ?_
   obtain ⟨l107, h108, h⟩ := obind h
   obtain ⟨f109, e110, h111, h112⟩ := cut_slL f10 h12 h108
   refine AOps.pureR rfl rfl rfl h112 rfl (rfl : _ = (AV.sl z9 f109 e110)) ?_
   obtain ⟨y113, h114, h⟩ := obind h
   refine AOps.callDP (g := 20) (args := [(AV.agg [(AV.sl z2 f3 e4)]), (AV.int .i64 p1_6), (AV.int .i64 x48.To), (AV.sl z9 f109 e110)]) (p := (rL (rI .i64) 1) y113) rfl rfl rfl (impl_Program_trail_ok h5 h111 h114 ((HS.wf' hH104).still)) (fun v hv => Nice.pure (k := FINK) (p := (rL (rI .i64) 1) y113) (.L fun _ => .I) _ v hv) ?_
   intro _ o120 h115
   obtain ⟨z116, f117, e118, rfl, h119⟩ := h115
   obtain ⟨l121, h122, h⟩ := obind h
   refine AOps.appLf (j := 0) (z' := z116) (f' := f117) (e' := e118) hH104 hG105 rfl rfl rfl rfl rfl rfl rfl rfl (appSrc_sl (LR.z h119) rfl) ⟨by decide, by decide, rfl, rfl⟩ ⟨rfl, rfl⟩ rfl rfl h122 (Or.inr hne101) (LR.el h119).len (fun i => OL.leaf (LR.el h119) i) ?_
   intro h123 k125 Ls126 s127 ho124 hG128 hH129
   change HS [] true s s127 (([] : List BX) ++ List.flatten Ls126) at hH129
   change AllG [OS oE2 h123 k125 l121] Ls126 at hG128
   refine AOps.assignR rfl rfl rfl (rfl : _ = h123) rfl ?_
   refine AOps.nilR ?_
   cases h
   have hr := hR1 _ rfl
   subst hr
   exact AW.ret ⟨_, _, rfl, ⟨h123, k125, Ls126, rfl, hH129, hG128, ho124⟩⟩
  intro KJ106
  rcases oite h with ⟨hc130, h⟩ | ⟨hc130, h⟩
  ·refine AW.condT (congrArg AV.bool hc130) ?_
   refine AW.sr ?_
   refine AOps.p rfl (rfl : _ = (AV.sl z9 f10 e11)) ?_
   obtain ⟨x131, h132, h⟩ := obind h
   obtain ⟨v135, h133, h134⟩ := idx_sl h12 h132
   cases h133
   refine AOps.pureR rfl rfl rfl h134 rfl (rfl : _ = (AV.eptr [(AV.str x131)] 0)) ?_
   refine AOps.ldE (v := (AV.str x131)) rfl rfl rfl rfl rfl rfl ?_
   refine AOps.p rfl (rfl : _ = (AV.sl z9 f10 e11)) ?_
   obtain ⟨x136, h137, h⟩ := obind h
   obtain ⟨v140, h138, h139⟩ := idx_sl h12 h137
   cases h138
   refine AOps.pureR rfl rfl rfl h139 rfl (rfl : _ = (AV.eptr [(AV.str x136)] 0)) ?_
   refine AOps.ldE (v := (AV.str x136)) rfl rfl rfl rfl rfl rfl ?_
   refine AOps.p rfl (rfl : _ = (AV.int .i64 (x136.length : Int))) ?_
   refine AOps.p rfl (rfl : _ = (AV.int .i64 (IntKind.wrap .i64 ((x136.length : Int) - 1)))) ?_
   obtain ⟨w141, h142, h⟩ := obind h
   refine AOps.pureR rfl rfl rfl (cut_strLH h142) rfl (rfl : _ = (AV.str w141)) ?_
   refine AOps.assignR rfl rfl rfl (rfl : _ = (AV.str w141)) rfl ?_
   refine AOps.nilR ?_
   refine AW.region ?_
   refine AOps.p rfl (rfl : _ = h86) ?_
   refine AOps.ldE (v := (AV.agg [(AV.sl z2 f3 e4)])) rfl rfl rfl rfl rfl rfl ?_
   refine AOps.p rfl (rfl : _ = (AV.eptr [(AV.int .i64 x48.From), (AV.int .i64 x48.To), (AV.str x48.Act), (AV.int .i64 x48.Module)] 3)) ?_
   refine AOps.ldE (v := (AV.int .i64 x48.Module)) rfl rfl rfl rfl rfl rfl ?_
   refine AOps.p rfl (rfl : _ = (AV.str w141)) ?_
   obtain ⟨y143, h144, h⟩ := obind h
   refine AOps.callDP (g := 21) (args := [(AV.str w141)]) (p := (rL rS 1) y143) rfl rfl rfl (impl_factors_ok  h144 ((HS.wf' hH92).still)) (fun v hv => Nice.pure (k := FINK) (p := (rL rS 1) y143) (.L fun _ => .S) _ v hv) ?_
   intro _ o150 h145
   obtain ⟨z146, f147, e148, rfl, h149⟩ := h145
   obtain ⟨y151, h152, h⟩ := obind h
   refine AOps.callDP (g := 20) (args := [(AV.agg [(AV.sl z2 f3 e4)]), (AV.int .i64 x48.Module), (AV.int .i64 0), (AV.sl z146 f147 e148)]) (p := (rL (rI .i64) 1) y151) rfl rfl rfl (impl_Program_trail_ok h5 h149 h152 ((HS.wf' hH92).still)) (fun v hv => Nice.pure (k := FINK) (p := (rL (rI .i64) 1) y151) (.L fun _ => .I) _ v hv) ?_
   intro _ o158 h153
   obtain ⟨z154, f155, e156, rfl, h157⟩ := h153
   obtain ⟨l159, h160, h⟩ := obind h
   refine AOps.appLf (j := 0) (z' := z154) (f' := f155) (e' := e156) hH92 hG91 rfl rfl rfl rfl rfl rfl rfl rfl (appSrc_sl (LR.z h157) rfl) ⟨by decide, by decide, rfl, rfl⟩ ⟨rfl, rfl⟩ rfl rfl h160 (Or.inr (List.cons_ne_nil _ _)) (LR.el h157).len (fun i => OL.leaf (LR.el h157) i) ?_
   intro h161 k163 Ls164 s165 ho162 hG166 hH167
   change HS [] true s s165 (([] : List BX) ++ List.flatten Ls164) at hH167
   change AllG [OS oE2 h161 k163 l159] Ls164 at hG166
   refine AOps.makeR rfl rfl rfl rfl rfl rfl (rfl : _ = (AV.sl 1 true [(AV.int .i64 (-1))])) ?_
   obtain ⟨l168, h169, h⟩ := obind h
   refine AOps.appLf (j := 0) (z' := 1) (f' := true) (e' := [(AV.int .i64 (-1))]) hH167 hG166 rfl rfl rfl rfl rfl rfl rfl rfl (appSrc_sl (LR.z (LR.lit (r := rI .i64) (sz := 1) (.cons rfl .nil))) rfl) ⟨by decide, by decide, rfl, rfl⟩ ⟨rfl, rfl⟩ rfl rfl h169 (Or.inl rfl) (LR.el (LR.lit (r := rI .i64) (sz := 1) (.cons rfl .nil))).len (fun i => OL.leaf (LR.el (LR.lit (r := rI .i64) (sz := 1) (.cons rfl .nil))) i) ?_
   intro h170 k172 Ls173 s174 ho171 hG175 hH176
   change HS [] true s s174 (([] : List BX) ++ List.flatten Ls173) at hH176
   change AllG [OS oE2 h170 k172 l168] Ls173 at hG175
   refine AOps.assignR rfl rfl rfl (rfl : _ = h170) rfl ?_
   refine AOps.nilR ?_
   exact AW.res [(1, (AV.int .i64 p1_6)), (3, (AV.sl z9 f10 e11)), (4, (AV.eptr [(AV.sl z2 f3 e4)] 0)), (10, (AV.eptr [(AV.int .i64 x48.From), (AV.int .i64 x48.To), (AV.str x48.Act), (AV.int .i64 x48.Module)] 0)), (11, h170)] [] ⟨rfl, rfl, rfl, rfl, rfl, trivial⟩ trivial (KJ106 (l168, h170, k172, s174, Ls173) _ _ ⟨ho171, (app_ne h169 (app_ne h160 (List.cons_ne_nil _ _))), hH176, hG175, h⟩)
  refine AW.condF (congrArg AV.bool hc130) ?_
  refine AW.skip ?_
  exact AW.res [(1, (AV.int .i64 p1_6)), (3, (AV.sl z9 f10 e11)), (4, (AV.eptr [(AV.sl z2 f3 e4)] 0)), (10, (AV.eptr [(AV.int .i64 x48.From), (AV.int .i64 x48.To), (AV.str x48.Act), (AV.int .i64 x48.Module)] 0)), (11, h86)] [] ⟨rfl, rfl, rfl, rfl, rfl, trivial⟩ trivial (KJ106 (([t37] : List Int), h86, k88, s90, Ls89) _ _ ⟨ho87, (List.cons_ne_nil _ _), hH92, hG91, h⟩)
 refine AW.condF (congrArg AV.bool hc42) ?_
 refine AW.exit rfl ?_
 obtain ⟨r177, hm, hx⟩ := omap h
 clear h
 subst hx
 have hx := hR1 _ rfl
 rw [hx] at hm
 have h := hm
 exact AW.res [] [] trivial trivial (KJ34 (s38, Ls39) _ _ ⟨hH40, hG41, h⟩)
theorem impl_RunOfWord_K00_okN {p1 : ProgramT} {w6 : List UInt8} {z2 : Nat} {f3 : Bool} {e4 : List AV} {s : St} (h5 : LR rModule 2 p1.Modules z2 e4) {r : (List Int) × Int} (h : impl_RunOfWord_K00 p1 w6 = some r) (hs : WF s) : ACallN Cf 7 [(AV.agg [(AV.sl z2 f3 e4)]), (AV.str w6)] s (fun v _ s' => ∃ (h1' : AV) (k2' : KT) (Ls' : List (List BX)), v = (AV.tup [h1', (AV.int .i64 r.2)]) ∧ HS [] true s s' (([] : List BX) ++ List.flatten Ls') ∧ AllG [OS oE2 h1' k2' r.1] Ls' ∧ h1'.one = true) true := by
 refine ACallN.keepR rfl rfl rfl ?_
 have hH0 := HS.g0 (HS.initK hs)
 have hG0 := AllG.nil
 have hl : LoOK [] true s := LoOK.nil
 unfold impl_RunOfWord_K00 at h
 refine AW.sr ?_
 refine AOps.makeR rfl rfl rfl rfl rfl rfl (rfl : _ = (AV.eptr [(AV.sl z2 f3 e4)] 0)) ?_
 refine AOps.p rfl (rfl : _ = (AV.sl 0 true [])) ?_
 refine AOps.p rfl (rfl : _ = (AV.int .i64 0)) ?_
 refine AOps.nilR ?_
 refine AW.sr ?_
 refine AOps.ldE (v := (AV.agg [(AV.sl z2 f3 e4)])) rfl rfl rfl rfl rfl rfl ?_
 refine AOps.p rfl (rfl : _ = (AV.str w6)) ?_
 obtain ⟨y7, h8, h⟩ := obind h
 refine AOps.callP (g := 19) (args := [(AV.agg [(AV.sl z2 f3 e4)]), (AV.str w6)]) (p := (fun x => rT [rB x.1, (rI .i64) x.2]) y7) rfl rfl rfl (impl_ProgramTakes_ok h5 h8 (HS.wf' hH0)) ?_
 intro _ o15 h9
 obtain ⟨_, rfl, h10⟩ := h9
 obtain ⟨_, _, rfl, h11, h12⟩ := Cs_cons h10
 cases h11
 obtain ⟨_, _, rfl, h13, h14⟩ := Cs_cons h12
 cases h13
 cases Cs_nil h14
 refine AOps.p rfl (rfl : _ = (AV.tup [(AV.bool y7.1), (AV.int .i64 y7.2)])) ?_
 refine AOps.p rfl (rfl : _ = (AV.bool y7.1)) ?_
 refine AOps.p rfl (rfl : _ = (AV.int .i64 y7.2)) ?_
 refine AOps.assignR rfl rfl rfl (rfl : _ = (AV.bool y7.1)) rfl ?_
 refine AOps.assignR rfl rfl rfl (rfl : _ = (AV.int .i64 y7.2)) rfl ?_
 refine AOps.nilR ?_
 refine AW.seq ?_
 refine AW.sr ?_
 refine AOps.p rfl (rfl : _ = (AV.int .i64 y7.2)) ?_
 refine AOps.p rfl (rfl : _ = (AV.bool (y7.2 == 0))) ?_
 refine AOps.p rfl (rfl : _ = (AV.bool (y7.2 == 0))) ?_
 refine AOps.split 3 (fun f' => ∃ tm' os', f' = ⟨updL tm' [(1, (AV.str w6)), (2, (AV.eptr [(AV.sl z2 f3 e4)] 0)), (7, (AV.int .i64 y7.2)), (19, (AV.bool ((y7.2 == 0) && (!y7.1))))], updL os' [], s⟩) ?_ ?_
 ·rcases Bool.eq_false_or_eq_true (y7.2 == 0) with hc16 | hc16
  ·refine AOps.know (d := 16) rfl hc16 ?_
   refine AOps.p rfl (rfl : _ = (AV.bool y7.1)) ?_
   refine AOps.p rfl (rfl : _ = (AV.bool (!y7.1))) ?_
   refine AOps.p rfl (rfl : _ = (AV.bool (!y7.1))) ?_
   refine AOps.resR [(1, (AV.str w6)), (2, (AV.eptr [(AV.sl z2 f3 e4)] 0)), (7, (AV.int .i64 y7.2)), (19, (AV.bool ((y7.2 == 0) && (!y7.1))))] [] ?_ ?_ _ ⟨_, _, rfl⟩
   ·exact ⟨rfl, rfl, rfl, congrArg AV.bool (and_t hc16), trivial⟩
   exact trivial
  ·refine AOps.know (d := 16) rfl hc16 ?_
   refine AOps.skipR rfl rfl ?_
   refine AOps.skipR rfl rfl ?_
   refine AOps.p rfl (rfl : _ = (AV.bool false)) ?_
   refine AOps.resR [(1, (AV.str w6)), (2, (AV.eptr [(AV.sl z2 f3 e4)] 0)), (7, (AV.int .i64 y7.2)), (19, (AV.bool ((y7.2 == 0) && (!y7.1))))] [] ?_ ?_ _ ⟨_, _, rfl⟩
   ·exact ⟨rfl, rfl, rfl, congrArg AV.bool (and_f hc16), trivial⟩
   exact trivial
 rintro _ ⟨tm, os, rfl⟩
 refine AOps.nilR ?_
 refine AW.meet (σ := Int × St × (List (List BX))) (fun (code17, s18, Ls19) tm os => ⟨updL tm [(1, (AV.str w6)), (2, (AV.eptr [(AV.sl z2 f3 e4)] 0)), (7, (AV.int .i64 code17))], updL os [], s18⟩) (fun (code17, s18, Ls19) => (HS [] true s s18 (([] : List BX) ++ List.flatten Ls19)) ∧ (AllG [] Ls19) ∧ impl_RunOfWord_K00_J1 p1 w6 code17 = some r) ?_ ?_
 ·rintro ⟨code17, s18, Ls19⟩ tm os ⟨hH20, hG21, h⟩
  unfold impl_RunOfWord_K00_J1 at h
  refine AW.seq ?_
  refine AW.sr ?_
  refine AOps.p rfl (rfl : _ = (AV.int .i64 code17)) ?_
  refine AOps.p rfl (rfl : _ = (AV.bool (code17 != 0))) ?_
  refine AOps.nilR ?_
  rcases oite h with ⟨hc23, h⟩ | ⟨hc23, h⟩
  ·refine AW.condT (congrArg AV.bool hc23) ?_
   refine AW.sr ?_
   refine AOps.p rfl (rfl : _ = (AV.int .i64 code17)) ?_
   refine AOps.p rfl (rfl : _ = (AV.sl 0 true [])) ?_
   refine AOps.assignR rfl rfl rfl (rfl : _ = (AV.int .i64 code17)) rfl ?_
   refine AOps.nilR ?_
   cases h
   have hG24 := AllG.cons (OS.nil (e := oE2) (k := fun _ => AV.undef) (z := 0) (Or.inr rfl)) hG21
   have hH25 := HS.addNil hH20
   change HS [] true s s18 (([] : List BX) ++ List.flatten ([] :: Ls19)) at hH25
   change AllG [OS oE2 (AV.sl 0 true []) (fun _ => AV.undef) ([] : List Int)] ([] :: Ls19) at hG24
   exact AW.ret ⟨_, _, rfl, ⟨(AV.sl 0 true []), (fun _ => AV.undef), ([] :: Ls19), rfl, hH25, hG24, rfl⟩⟩
  refine AW.condF (congrArg AV.bool hc23) ?_
  refine AW.skip ?_
  refine AW.sr ?_
  refine AOps.ldE (v := (AV.agg [(AV.sl z2 f3 e4)])) rfl rfl rfl rfl rfl rfl ?_
  refine AOps.p rfl (rfl : _ = (AV.str w6)) ?_
  obtain ⟨y26, h27, h⟩ := obind h
  refine AOps.callDP (g := 21) (args := [(AV.str w6)]) (p := (rL rS 1) y26) rfl rfl rfl (impl_factors_ok  h27 ((HS.wf' hH20).still)) (fun v hv => Nice.pure (k := FINK) (p := (rL rS 1) y26) (.L fun _ => .S) _ v hv) ?_
  intro _ o33 h28
  obtain ⟨z29, f30, e31, rfl, h32⟩ := h28
  obtain ⟨y34, h35, h⟩ := obind h
  have hP39 := HS.pop0 hH20
  refine AOps.callFE (al := true) (g := 20) (args := [(AV.agg [(AV.sl z2 f3 e4)]), (AV.int .i64 0), (AV.int .i64 0), (AV.sl z29 f30 e31)]) rfl rfl rfl (impl_Program_trail_K0000_ok h5 h32  h35 (HS.wf' hH20)) (by rintro _ _ ⟨_, _, _, _, hHq, _, _⟩; exact hHq.n) ?_
  rintro h36 _ s40 ⟨_, k37, Ls42, rfl, hH43, hG44, ho38⟩
  have hJ45 := HS.joinK0 hP39 hH43
  obtain ⟨Ls46, Lf47, hG48, hF49, hP50⟩ := HS.pushN hJ45 hG21 hG44
  cases hF49
  have hH51 := HS.push0 hP50
  change HS [] true s s40 (([] : List BX) ++ List.flatten Ls46) at hH51
  change AllG [OS oE2 h36 k37 y34] Ls46 at hG48
  refine AOps.assignR rfl rfl rfl (rfl : _ = h36) rfl ?_
  refine AOps.p rfl (rfl : _ = (AV.int .i64 0)) ?_
  refine AOps.nilR ?_
  cases h
  exact AW.ret ⟨_, _, rfl, ⟨h36, k37, Ls46, rfl, hH51, hG48, ho38⟩⟩
 intro KJ22
 rcases oite h with ⟨hc52, h⟩ | ⟨hc52, h⟩
 ·refine AW.condT (congrArg AV.bool hc52) ?_
  refine AW.region ?_
  refine AOps.p rfl (rfl : _ = (AV.int .i64 6)) ?_
  refine AOps.nilR ?_
  exact AW.res [(1, (AV.str w6)), (2, (AV.eptr [(AV.sl z2 f3 e4)] 0)), (7, (AV.int .i64 6))] [] ⟨rfl, rfl, rfl, trivial⟩ trivial (KJ22 (6, s, ([] : List (List BX))) _ _ ⟨hH0, hG0, h⟩)
 refine AW.condF (congrArg AV.bool hc52) ?_
 refine AW.skip ?_
 exact AW.res [(1, (AV.str w6)), (2, (AV.eptr [(AV.sl z2 f3 e4)] 0)), (7, (AV.int .i64 y7.2))] [] ⟨rfl, rfl, rfl, trivial⟩ trivial (KJ22 (y7.2, s, ([] : List (List BX))) _ _ ⟨hH0, hG0, h⟩)
theorem laws_eqInt64S_okN {a1 : List Int} {b6 : List Int} {z2 : Nat} {f3 : Bool} {e4 : List AV} {z7 : Nat} {f8 : Bool} {e9 : List AV} {s : St} (h5 : LR (rI .i64) 1 a1 z2 e4) (h10 : LR (rI .i64) 1 b6 z7 e9) {r : Bool} (h : laws_eqInt64S a1 b6 = some r) (hs : WF s) : ACallN Cf 8 [(AV.sl z2 f3 e4), (AV.sl z7 f8 e9)] s fun v _ s' => (rB) r v ∧ s' = s := by
 refine ACallN.pure rfl rfl rfl .B ?_
 have hWF := hs.lo'
 unfold laws_eqInt64S at h
 refine AW.sr ?_
 refine AOps.p rfl (rfl : _ = (AV.bool false)) ?_
 refine AOps.nilR ?_
 refine AW.seq ?_
 refine AW.sr ?_
 refine AOps.p rfl (rfl : _ = (AV.sl z2 f3 e4)) ?_
 refine AOps.p rfl (len_eq h5) ?_
 refine AOps.p rfl (rfl : _ = (AV.sl z7 f8 e9)) ?_
 refine AOps.p rfl (len_eq h10) ?_
 refine AOps.p rfl (rfl : _ = (AV.bool ((a1.length : Int) != (b6.length : Int)))) ?_
 refine AOps.nilR ?_
 rcases oite h with ⟨hc11, h⟩ | ⟨hc11, h⟩
 ·refine AW.condT (congrArg AV.bool hc11) ?_
  refine AW.sr ?_
  refine AOps.p rfl (rfl : _ = (AV.bool false)) ?_
  refine AOps.nilR ?_
  cases h
  exact AW.ret ⟨rfl, _, _, rfl, rfl⟩
 refine AW.condF (congrArg AV.bool hc11) ?_
 refine AW.skip ?_
 refine AW.seq ?_
 refine AW.sr ?_
 refine AOps.p rfl (rfl : _ = (AV.int .i64 0)) ?_
 refine AOps.nilR ?_
 refine AW.meet (σ := Unit) (fun _ tm os => ⟨updL tm [], updL os [], { s with lo := s.n }⟩) (fun _ => laws_eqInt64S_J1 = some r) ?_ ?_
 ·rintro _ tm os h
  unfold laws_eqInt64S_J1 at h
  refine AW.sr ?_
  refine AOps.p rfl (rfl : _ = (AV.bool true)) ?_
  refine AOps.nilR ?_
  cases h
  exact AW.ret ⟨rfl, _, _, rfl, rfl⟩
 intro KJ12
 refine AW.block ?_
 refine AW.res [(0, (AV.sl z2 f3 e4)), (1, (AV.sl z7 f8 e9)), (5, (AV.int .i64 0))] [] ⟨rfl, rfl, rfl, trivial⟩ trivial ?_
 refine AW.loopF (σ := Int) (τ := Unit) (fun i13 _ => True) (fun i13 _ tm os => ⟨updL tm [(0, (AV.sl z2 f3 e4)), (1, (AV.sl z7 f8 e9)), (5, (AV.int .i64 i13))], updL os [], { s with lo := s.n }⟩) ?_ (x := (0)) (y := ()) h trivial
 clear h
 rintro i13 _ tm os - ee1 h hL1 hR1
 unfold laws_eqInt64S_S1 at h
 refine AW.seq ?_
 refine AW.sr ?_
 refine AOps.p rfl (rfl : _ = (AV.int .i64 i13)) ?_
 refine AOps.p rfl (rfl : _ = (AV.sl z2 f3 e4)) ?_
 refine AOps.p rfl (len_eq h5) ?_
 refine AOps.p rfl (rfl : _ = (AV.bool (decide ((i13 : Int) < (a1.length : Int))))) ?_
 refine AOps.nilR ?_
 rcases oite h with ⟨hc14, h⟩ | ⟨hc14, h⟩
 ·refine AW.condT (congrArg AV.bool hc14) ?_
  refine AW.skip ?_
  refine AW.seq ?_
  refine AW.block ?_
  refine AW.sr ?_
  refine AOps.p rfl (rfl : _ = (AV.sl z2 f3 e4)) ?_
  refine AOps.p rfl (rfl : _ = (AV.int .i64 i13)) ?_
  obtain ⟨x15, h16, h⟩ := obind h
  obtain ⟨v19, h17, h18⟩ := idx_sl h5 h16
  cases h17
  refine AOps.pureR rfl rfl rfl h18 rfl (rfl : _ = (AV.eptr [(AV.int .i64 x15)] 0)) ?_
  refine AOps.ldE (v := (AV.int .i64 x15)) rfl rfl rfl rfl rfl rfl ?_
  refine AOps.p rfl (rfl : _ = (AV.sl z7 f8 e9)) ?_
  refine AOps.p rfl (rfl : _ = (AV.int .i64 i13)) ?_
  obtain ⟨x20, h21, h⟩ := obind h
  obtain ⟨v24, h22, h23⟩ := idx_sl h10 h21
  cases h22
  refine AOps.pureR rfl rfl rfl h23 rfl (rfl : _ = (AV.eptr [(AV.int .i64 x20)] 0)) ?_
  refine AOps.ldE (v := (AV.int .i64 x20)) rfl rfl rfl rfl rfl rfl ?_
  refine AOps.p rfl (rfl : _ = (AV.bool (x15 != x20))) ?_
  refine AOps.nilR ?_
  rcases oite h with ⟨hc25, h⟩ | ⟨hc25, h⟩
  ·refine AW.condT (congrArg AV.bool hc25) ?_
   refine AW.sr ?_
   refine AOps.p rfl (rfl : _ = (AV.bool false)) ?_
   refine AOps.nilR ?_
   cases h
   have hr := hR1 _ rfl
   subst hr
   exact AW.ret ⟨rfl, _, _, rfl, rfl⟩
  refine AW.condF (congrArg AV.bool hc25) ?_
  refine AW.skip ?_
  refine AW.inBlock ?_
  refine AW.region ?_
  refine AOps.p rfl (rfl : _ = (AV.int .i64 i13)) ?_
  refine AOps.p rfl (rfl : _ = (AV.int .i64 (IntKind.wrap .i64 (i13 + 1)))) ?_
  refine AOps.assignR rfl rfl rfl (rfl : _ = (AV.int .i64 (IntKind.wrap .i64 (i13 + 1)))) rfl ?_
  refine AOps.nilR ?_
  cases h
  exact AW.res [(0, (AV.sl z2 f3 e4)), (1, (AV.sl z7 f8 e9)), (5, (AV.int .i64 (IntKind.wrap .i64 (i13 + 1))))] [] ⟨rfl, rfl, rfl, trivial⟩ trivial (hL1 _ rfl () _ _ trivial)
 refine AW.condF (congrArg AV.bool hc14) ?_
 refine AW.exit rfl ?_
 obtain ⟨r26, hm, hx⟩ := omap h
 clear h
 subst hx
 have hx := hR1 _ rfl
 rw [hx] at hm
 have h := hm
 exact AW.res [] [] trivial trivial (KJ12 () _ _ h)
theorem laws_eqLink_okN {a1 : Link} {b2 : Link} {s : St} {r : Bool} (h : laws_eqLink a1 b2 = some r) (hs : WF s) : ACallN Cf 73 [(AV.agg [(AV.int .i64 a1.From), (AV.int .i64 a1.To), (AV.str a1.Act), (AV.int .i64 a1.Module)]), (AV.agg [(AV.int .i64 b2.From), (AV.int .i64 b2.To), (AV.str b2.Act), (AV.int .i64 b2.Module)])] s fun v _ s' => (rB) r v ∧ s' = s := by
 refine ACallN.pure rfl rfl rfl .B ?_
 have hWF := hs.lo'
 unfold laws_eqLink at h
 refine AW.sr ?_
 refine AOps.makeR rfl rfl rfl rfl rfl rfl (rfl : _ = (AV.eptr [(AV.int .i64 a1.From), (AV.int .i64 a1.To), (AV.str a1.Act), (AV.int .i64 a1.Module)] 0)) ?_
 refine AOps.makeR rfl rfl rfl rfl rfl rfl (rfl : _ = (AV.eptr [(AV.int .i64 b2.From), (AV.int .i64 b2.To), (AV.str b2.Act), (AV.int .i64 b2.Module)] 0)) ?_
 refine AOps.p rfl (rfl : _ = (AV.bool false)) ?_
 refine AOps.nilR ?_
 refine AW.seq ?_
 refine AW.sr ?_
 refine AOps.p rfl (rfl : _ = (AV.eptr [(AV.int .i64 a1.From), (AV.int .i64 a1.To), (AV.str a1.Act), (AV.int .i64 a1.Module)] 0)) ?_
 refine AOps.ldE (v := (AV.int .i64 a1.From)) rfl rfl rfl rfl rfl rfl ?_
 refine AOps.p rfl (rfl : _ = (AV.eptr [(AV.int .i64 b2.From), (AV.int .i64 b2.To), (AV.str b2.Act), (AV.int .i64 b2.Module)] 0)) ?_
 refine AOps.ldE (v := (AV.int .i64 b2.From)) rfl rfl rfl rfl rfl rfl ?_
 refine AOps.p rfl (rfl : _ = (AV.bool (a1.From != b2.From))) ?_
 refine AOps.nilR ?_
 rcases oite h with ⟨hc3, h⟩ | ⟨hc3, h⟩
 ·refine AW.condT (congrArg AV.bool hc3) ?_
  refine AW.sr ?_
  refine AOps.p rfl (rfl : _ = (AV.bool false)) ?_
  refine AOps.nilR ?_
  cases h
  exact AW.ret ⟨rfl, _, _, rfl, rfl⟩
 refine AW.condF (congrArg AV.bool hc3) ?_
 refine AW.skip ?_
 refine AW.seq ?_
 refine AW.sr ?_
 refine AOps.p rfl (rfl : _ = (AV.eptr [(AV.int .i64 a1.From), (AV.int .i64 a1.To), (AV.str a1.Act), (AV.int .i64 a1.Module)] 1)) ?_
 refine AOps.ldE (v := (AV.int .i64 a1.To)) rfl rfl rfl rfl rfl rfl ?_
 refine AOps.p rfl (rfl : _ = (AV.eptr [(AV.int .i64 b2.From), (AV.int .i64 b2.To), (AV.str b2.Act), (AV.int .i64 b2.Module)] 1)) ?_
 refine AOps.ldE (v := (AV.int .i64 b2.To)) rfl rfl rfl rfl rfl rfl ?_
 refine AOps.p rfl (rfl : _ = (AV.bool (a1.To != b2.To))) ?_
 refine AOps.nilR ?_
 rcases oite h with ⟨hc4, h⟩ | ⟨hc4, h⟩
 ·refine AW.condT (congrArg AV.bool hc4) ?_
  refine AW.sr ?_
  refine AOps.p rfl (rfl : _ = (AV.bool false)) ?_
  refine AOps.nilR ?_
  cases h
  exact AW.ret ⟨rfl, _, _, rfl, rfl⟩
 refine AW.condF (congrArg AV.bool hc4) ?_
 refine AW.skip ?_
 refine AW.seq ?_
 refine AW.sr ?_
 refine AOps.p rfl (rfl : _ = (AV.eptr [(AV.int .i64 a1.From), (AV.int .i64 a1.To), (AV.str a1.Act), (AV.int .i64 a1.Module)] 2)) ?_
 refine AOps.ldE (v := (AV.str a1.Act)) rfl rfl rfl rfl rfl rfl ?_
 refine AOps.p rfl (rfl : _ = (AV.eptr [(AV.int .i64 b2.From), (AV.int .i64 b2.To), (AV.str b2.Act), (AV.int .i64 b2.Module)] 2)) ?_
 refine AOps.ldE (v := (AV.str b2.Act)) rfl rfl rfl rfl rfl rfl ?_
 refine AOps.p rfl (rfl : _ = (AV.bool (!(a1.Act == b2.Act)))) ?_
 refine AOps.nilR ?_
 rcases oite h with ⟨hc5, h⟩ | ⟨hc5, h⟩
 ·refine AW.condT (congrArg AV.bool hc5) ?_
  refine AW.sr ?_
  refine AOps.p rfl (rfl : _ = (AV.bool false)) ?_
  refine AOps.nilR ?_
  cases h
  exact AW.ret ⟨rfl, _, _, rfl, rfl⟩
 refine AW.condF (congrArg AV.bool hc5) ?_
 refine AW.skip ?_
 refine AW.seq ?_
 refine AW.sr ?_
 refine AOps.p rfl (rfl : _ = (AV.eptr [(AV.int .i64 a1.From), (AV.int .i64 a1.To), (AV.str a1.Act), (AV.int .i64 a1.Module)] 3)) ?_
 refine AOps.ldE (v := (AV.int .i64 a1.Module)) rfl rfl rfl rfl rfl rfl ?_
 refine AOps.p rfl (rfl : _ = (AV.eptr [(AV.int .i64 b2.From), (AV.int .i64 b2.To), (AV.str b2.Act), (AV.int .i64 b2.Module)] 3)) ?_
 refine AOps.ldE (v := (AV.int .i64 b2.Module)) rfl rfl rfl rfl rfl rfl ?_
 refine AOps.p rfl (rfl : _ = (AV.bool (a1.Module != b2.Module))) ?_
 refine AOps.nilR ?_
 rcases oite h with ⟨hc6, h⟩ | ⟨hc6, h⟩
 ·refine AW.condT (congrArg AV.bool hc6) ?_
  refine AW.sr ?_
  refine AOps.p rfl (rfl : _ = (AV.bool false)) ?_
  refine AOps.nilR ?_
  cases h
  exact AW.ret ⟨rfl, _, _, rfl, rfl⟩
 refine AW.condF (congrArg AV.bool hc6) ?_
 refine AW.skip ?_
 refine AW.sr ?_
 refine AOps.p rfl (rfl : _ = (AV.bool true)) ?_
 refine AOps.nilR ?_
 cases h
 exact AW.ret ⟨rfl, _, _, rfl, rfl⟩
theorem laws_eqLinkS_okN {a1 : List Link} {b6 : List Link} {z2 : Nat} {f3 : Bool} {e4 : List AV} {z7 : Nat} {f8 : Bool} {e9 : List AV} {s : St} (h5 : LR rLink 4 a1 z2 e4) (h10 : LR rLink 4 b6 z7 e9) {r : Bool} (h : laws_eqLinkS a1 b6 = some r) (hs : WF s) : ACallN Cf 64 [(AV.sl z2 f3 e4), (AV.sl z7 f8 e9)] s fun v _ s' => (rB) r v ∧ s' = s := by
 refine ACallN.pure rfl rfl rfl .B ?_
 have hWF := hs.lo'
 unfold laws_eqLinkS at h
 refine AW.sr ?_
 refine AOps.p rfl (rfl : _ = (AV.bool false)) ?_
 refine AOps.nilR ?_
 refine AW.seq ?_
 refine AW.sr ?_
 refine AOps.p rfl (rfl : _ = (AV.sl z2 f3 e4)) ?_
 refine AOps.p rfl (len_eq h5) ?_
 refine AOps.p rfl (rfl : _ = (AV.sl z7 f8 e9)) ?_
 refine AOps.p rfl (len_eq h10) ?_
 refine AOps.p rfl (rfl : _ = (AV.bool ((a1.length : Int) != (b6.length : Int)))) ?_
 refine AOps.nilR ?_
 rcases oite h with ⟨hc11, h⟩ | ⟨hc11, h⟩
 ·refine AW.condT (congrArg AV.bool hc11) ?_
  refine AW.sr ?_
  refine AOps.p rfl (rfl : _ = (AV.bool false)) ?_
  refine AOps.nilR ?_
  cases h
  exact AW.ret ⟨rfl, _, _, rfl, rfl⟩
 refine AW.condF (congrArg AV.bool hc11) ?_
 refine AW.skip ?_
 refine AW.seq ?_
 refine AW.sr ?_
 refine AOps.p rfl (rfl : _ = (AV.int .i64 0)) ?_
 refine AOps.nilR ?_
 refine AW.meet (σ := Unit) (fun _ tm os => ⟨updL tm [], updL os [], { s with lo := s.n }⟩) (fun _ => laws_eqLinkS_J1 = some r) ?_ ?_
 ·rintro _ tm os h
  unfold laws_eqLinkS_J1 at h
  refine AW.sr ?_
  refine AOps.p rfl (rfl : _ = (AV.bool true)) ?_
  refine AOps.nilR ?_
  cases h
  exact AW.ret ⟨rfl, _, _, rfl, rfl⟩
 intro KJ12
 refine AW.block ?_
 refine AW.res [(0, (AV.sl z2 f3 e4)), (1, (AV.sl z7 f8 e9)), (5, (AV.int .i64 0))] [] ⟨rfl, rfl, rfl, trivial⟩ trivial ?_
 refine AW.loopF (σ := Int) (τ := Unit) (fun i13 _ => True) (fun i13 _ tm os => ⟨updL tm [(0, (AV.sl z2 f3 e4)), (1, (AV.sl z7 f8 e9)), (5, (AV.int .i64 i13))], updL os [], { s with lo := s.n }⟩) ?_ (x := (0)) (y := ()) h trivial
 clear h
 rintro i13 _ tm os - ee1 h hL1 hR1
 unfold laws_eqLinkS_S1 at h
 refine AW.seq ?_
 refine AW.sr ?_
 refine AOps.p rfl (rfl : _ = (AV.int .i64 i13)) ?_
 refine AOps.p rfl (rfl : _ = (AV.sl z2 f3 e4)) ?_
 refine AOps.p rfl (len_eq h5) ?_
 refine AOps.p rfl (rfl : _ = (AV.bool (decide ((i13 : Int) < (a1.length : Int))))) ?_
 refine AOps.nilR ?_
 rcases oite h with ⟨hc14, h⟩ | ⟨hc14, h⟩
 ·refine AW.condT (congrArg AV.bool hc14) ?_
  refine AW.skip ?_
  refine AW.seq ?_
  refine AW.block ?_
  refine AW.sr ?_
  refine AOps.p rfl (rfl : _ = (AV.sl z2 f3 e4)) ?_
  refine AOps.p rfl (rfl : _ = (AV.int .i64 i13)) ?_
  obtain ⟨x15, h16, h⟩ := obind h
  obtain ⟨v19, h17, h18⟩ := idx_sl h5 h16
  obtain ⟨_, rfl, h20⟩ := h17
  obtain ⟨_, _, rfl, h21, h22⟩ := Cs_cons h20
  cases h21
  obtain ⟨_, _, rfl, h23, h24⟩ := Cs_cons h22
  cases h23
  obtain ⟨_, _, rfl, h25, h26⟩ := Cs_cons h24
  cases h25
  obtain ⟨_, _, rfl, h27, h28⟩ := Cs_cons h26
  cases h27
  cases Cs_nil h28
  refine AOps.pureR rfl rfl rfl h18 rfl (rfl : _ = (AV.eptr [(AV.int .i64 x15.From), (AV.int .i64 x15.To), (AV.str x15.Act), (AV.int .i64 x15.Module)] 0)) ?_
  refine AOps.ldE (v := (AV.agg [(AV.int .i64 x15.From), (AV.int .i64 x15.To), (AV.str x15.Act), (AV.int .i64 x15.Module)])) rfl rfl rfl rfl rfl rfl ?_
  refine AOps.p rfl (rfl : _ = (AV.sl z7 f8 e9)) ?_
  refine AOps.p rfl (rfl : _ = (AV.int .i64 i13)) ?_
  obtain ⟨x29, h30, h⟩ := obind h
  obtain ⟨v33, h31, h32⟩ := idx_sl h10 h30
  obtain ⟨_, rfl, h34⟩ := h31
  obtain ⟨_, _, rfl, h35, h36⟩ := Cs_cons h34
  cases h35
  obtain ⟨_, _, rfl, h37, h38⟩ := Cs_cons h36
  cases h37
  obtain ⟨_, _, rfl, h39, h40⟩ := Cs_cons h38
  cases h39
  obtain ⟨_, _, rfl, h41, h42⟩ := Cs_cons h40
  cases h41
  cases Cs_nil h42
  refine AOps.pureR rfl rfl rfl h32 rfl (rfl : _ = (AV.eptr [(AV.int .i64 x29.From), (AV.int .i64 x29.To), (AV.str x29.Act), (AV.int .i64 x29.Module)] 0)) ?_
  refine AOps.ldE (v := (AV.agg [(AV.int .i64 x29.From), (AV.int .i64 x29.To), (AV.str x29.Act), (AV.int .i64 x29.Module)])) rfl rfl rfl rfl rfl rfl ?_
  obtain ⟨y43, h44, h⟩ := obind h
  refine AOps.lendD (g := 73) (args := [(AV.agg [(AV.int .i64 x15.From), (AV.int .i64 x15.To), (AV.str x15.Act), (AV.int .i64 x15.Module)]), (AV.agg [(AV.int .i64 x29.From), (AV.int .i64 x29.To), (AV.str x29.Act), (AV.int .i64 x29.Module)])]) (ps := [(rLink) x15, (rLink) x29]) (p := (rB) y43) rfl rfl rfl rfl rfl rfl rfl (.cons (Fin.of (p := (rLink) x15) (.A (.cons .I (.cons .I (.cons .S (.cons .I .nil))))) (⟨_, rfl, (.cons rfl (.cons rfl (.cons rfl (.cons rfl .nil))))⟩)) (.cons (Fin.of (p := (rLink) x29) (.A (.cons .I (.cons .I (.cons .S (.cons .I .nil))))) (⟨_, rfl, (.cons rfl (.cons rfl (.cons rfl (.cons rfl .nil))))⟩)) .nil)) (fun args' hc => by obtain ⟨_, _, rfl, hv0, hd0⟩ := Cs_cons hc; obtain ⟨_, rfl, h45⟩ := hv0; obtain ⟨_, _, rfl, h46, h47⟩ := Cs_cons h45; cases h46; obtain ⟨_, _, rfl, h48, h49⟩ := Cs_cons h47; cases h48; obtain ⟨_, _, rfl, h50, h51⟩ := Cs_cons h49; cases h50; obtain ⟨_, _, rfl, h52, h53⟩ := Cs_cons h51; cases h52; cases Cs_nil h53; obtain ⟨_, _, rfl, hv1, hd1⟩ := Cs_cons hd0; obtain ⟨_, rfl, h54⟩ := hv1; obtain ⟨_, _, rfl, h55, h56⟩ := Cs_cons h54; cases h55; obtain ⟨_, _, rfl, h57, h58⟩ := Cs_cons h56; cases h57; obtain ⟨_, _, rfl, h59, h60⟩ := Cs_cons h58; cases h59; obtain ⟨_, _, rfl, h61, h62⟩ := Cs_cons h60; cases h61; cases Cs_nil h62; cases Cs_nil hd1; exact laws_eqLink_okN  h44 WF.blind) (fun v n hv => by cases hv; rfl) (fun v hv => Nice.pure (k := FINK) (p := (rB) y43) .B _ v hv) ?_
  intro _ h63
  cases h63
  refine AOps.p rfl (rfl : _ = (AV.bool (!y43))) ?_
  refine AOps.nilR ?_
  rcases oite h with ⟨hc64, h⟩ | ⟨hc64, h⟩
  ·refine AW.condT (congrArg AV.bool hc64) ?_
   refine AW.sr ?_
   refine AOps.p rfl (rfl : _ = (AV.bool false)) ?_
   refine AOps.nilR ?_
   cases h
   have hr := hR1 _ rfl
   subst hr
   exact AW.ret ⟨rfl, _, _, rfl, rfl⟩
  refine AW.condF (congrArg AV.bool hc64) ?_
  refine AW.skip ?_
  refine AW.inBlock ?_
  refine AW.region ?_
  refine AOps.p rfl (rfl : _ = (AV.int .i64 i13)) ?_
  refine AOps.p rfl (rfl : _ = (AV.int .i64 (IntKind.wrap .i64 (i13 + 1)))) ?_
  refine AOps.assignR rfl rfl rfl (rfl : _ = (AV.int .i64 (IntKind.wrap .i64 (i13 + 1)))) rfl ?_
  refine AOps.nilR ?_
  cases h
  exact AW.res [(0, (AV.sl z2 f3 e4)), (1, (AV.sl z7 f8 e9)), (5, (AV.int .i64 (IntKind.wrap .i64 (i13 + 1))))] [] ⟨rfl, rfl, rfl, trivial⟩ trivial (hL1 _ rfl () _ _ trivial)
 refine AW.condF (congrArg AV.bool hc14) ?_
 refine AW.exit rfl ?_
 obtain ⟨r65, hm, hx⟩ := omap h
 clear h
 subst hx
 have hx := hR1 _ rfl
 rw [hx] at hm
 have h := hm
 exact AW.res [] [] trivial trivial (KJ12 () _ _ h)
theorem laws_eqModule_okN {a1 : Module} {b6 : Module} {z2 : Nat} {f3 : Bool} {e4 : List AV} {z7 : Nat} {f8 : Bool} {e9 : List AV} {s : St} (h5 : LR rLink 4 a1.Links z2 e4) (h10 : LR rLink 4 b6.Links z7 e9) {r : Bool} (h : laws_eqModule a1 b6 = some r) (hs : WF s) : ACallN Cf 40 [(AV.agg [(AV.int .i64 a1.Nodes), (AV.sl z2 f3 e4)]), (AV.agg [(AV.int .i64 b6.Nodes), (AV.sl z7 f8 e9)])] s fun v _ s' => (rB) r v ∧ s' = s := by
 refine ACallN.pure rfl rfl rfl .B ?_
 have hWF := hs.lo'
 unfold laws_eqModule at h
 refine AW.sr ?_
 refine AOps.makeR rfl rfl rfl rfl rfl rfl (rfl : _ = (AV.eptr [(AV.int .i64 a1.Nodes), (AV.sl z2 f3 e4)] 0)) ?_
 refine AOps.makeR rfl rfl rfl rfl rfl rfl (rfl : _ = (AV.eptr [(AV.int .i64 b6.Nodes), (AV.sl z7 f8 e9)] 0)) ?_
 refine AOps.p rfl (rfl : _ = (AV.bool false)) ?_
 refine AOps.nilR ?_
 refine AW.seq ?_
 refine AW.sr ?_
 refine AOps.p rfl (rfl : _ = (AV.eptr [(AV.int .i64 a1.Nodes), (AV.sl z2 f3 e4)] 0)) ?_
 refine AOps.ldE (v := (AV.int .i64 a1.Nodes)) rfl rfl rfl rfl rfl rfl ?_
 refine AOps.p rfl (rfl : _ = (AV.eptr [(AV.int .i64 b6.Nodes), (AV.sl z7 f8 e9)] 0)) ?_
 refine AOps.ldE (v := (AV.int .i64 b6.Nodes)) rfl rfl rfl rfl rfl rfl ?_
 refine AOps.p rfl (rfl : _ = (AV.bool (a1.Nodes != b6.Nodes))) ?_
 refine AOps.nilR ?_
 rcases oite h with ⟨hc11, h⟩ | ⟨hc11, h⟩
 ·refine AW.condT (congrArg AV.bool hc11) ?_
  refine AW.sr ?_
  refine AOps.p rfl (rfl : _ = (AV.bool false)) ?_
  refine AOps.nilR ?_
  cases h
  exact AW.ret ⟨rfl, _, _, rfl, rfl⟩
 refine AW.condF (congrArg AV.bool hc11) ?_
 refine AW.skip ?_
 refine AW.seq ?_
 refine AW.sr ?_
 refine AOps.p rfl (rfl : _ = (AV.eptr [(AV.int .i64 a1.Nodes), (AV.sl z2 f3 e4)] 1)) ?_
 refine AOps.ldE (v := (AV.sl z2 f3 e4)) rfl rfl rfl rfl rfl rfl ?_
 refine AOps.p rfl (rfl : _ = (AV.eptr [(AV.int .i64 b6.Nodes), (AV.sl z7 f8 e9)] 1)) ?_
 refine AOps.ldE (v := (AV.sl z7 f8 e9)) rfl rfl rfl rfl rfl rfl ?_
 obtain ⟨y12, h13, h⟩ := obind h
 refine AOps.lendP (g := 64) (args := [(AV.sl z2 f3 e4), (AV.sl z7 f8 e9)]) (ps := [(rL rLink 4) a1.Links, (rL rLink 4) b6.Links]) (p := (rB) y12) rfl rfl rfl rfl rfl rfl rfl (.cons (Fin.of (p := (rL rLink 4) a1.Links) (.L fun _ => (.A (.cons .I (.cons .I (.cons .S (.cons .I .nil)))))) (⟨_, _, _, rfl, h5⟩)) (.cons (Fin.of (p := (rL rLink 4) b6.Links) (.L fun _ => (.A (.cons .I (.cons .I (.cons .S (.cons .I .nil)))))) (⟨_, _, _, rfl, h10⟩)) .nil)) (fun args' hc => by obtain ⟨_, _, rfl, hv0, hd0⟩ := Cs_cons hc; obtain ⟨z14, f15, e16, rfl, h17⟩ := hv0; obtain ⟨_, _, rfl, hv1, hd1⟩ := Cs_cons hd0; obtain ⟨z18, f19, e20, rfl, h21⟩ := hv1; cases Cs_nil hd1; exact laws_eqLinkS_okN h17 h21 h13 WF.blind) (fun v n hv => by cases hv; rfl) ?_
 intro _ h22
 cases h22
 refine AOps.p rfl (rfl : _ = (AV.bool (!y12))) ?_
 refine AOps.nilR ?_
 rcases oite h with ⟨hc23, h⟩ | ⟨hc23, h⟩
 ·refine AW.condT (congrArg AV.bool hc23) ?_
  refine AW.sr ?_
  refine AOps.p rfl (rfl : _ = (AV.bool false)) ?_
  refine AOps.nilR ?_
  cases h
  exact AW.ret ⟨rfl, _, _, rfl, rfl⟩
 refine AW.condF (congrArg AV.bool hc23) ?_
 refine AW.skip ?_
 refine AW.sr ?_
 refine AOps.p rfl (rfl : _ = (AV.bool true)) ?_
 refine AOps.nilR ?_
 cases h
 exact AW.ret ⟨rfl, _, _, rfl, rfl⟩
theorem laws_eqModuleS_okN {a1 : List Module} {b6 : List Module} {z2 : Nat} {f3 : Bool} {e4 : List AV} {z7 : Nat} {f8 : Bool} {e9 : List AV} {s : St} (h5 : LR rModule 2 a1 z2 e4) (h10 : LR rModule 2 b6 z7 e9) {r : Bool} (h : laws_eqModuleS a1 b6 = some r) (hs : WF s) : ACallN Cf 22 [(AV.sl z2 f3 e4), (AV.sl z7 f8 e9)] s fun v _ s' => (rB) r v ∧ s' = s := by
 refine ACallN.pure rfl rfl rfl .B ?_
 have hWF := hs.lo'
 unfold laws_eqModuleS at h
 refine AW.sr ?_
 refine AOps.p rfl (rfl : _ = (AV.bool false)) ?_
 refine AOps.nilR ?_
 refine AW.seq ?_
 refine AW.sr ?_
 refine AOps.p rfl (rfl : _ = (AV.sl z2 f3 e4)) ?_
 refine AOps.p rfl (len_eq h5) ?_
 refine AOps.p rfl (rfl : _ = (AV.sl z7 f8 e9)) ?_
 refine AOps.p rfl (len_eq h10) ?_
 refine AOps.p rfl (rfl : _ = (AV.bool ((a1.length : Int) != (b6.length : Int)))) ?_
 refine AOps.nilR ?_
 rcases oite h with ⟨hc11, h⟩ | ⟨hc11, h⟩
 ·refine AW.condT (congrArg AV.bool hc11) ?_
  refine AW.sr ?_
  refine AOps.p rfl (rfl : _ = (AV.bool false)) ?_
  refine AOps.nilR ?_
  cases h
  exact AW.ret ⟨rfl, _, _, rfl, rfl⟩
 refine AW.condF (congrArg AV.bool hc11) ?_
 refine AW.skip ?_
 refine AW.seq ?_
 refine AW.sr ?_
 refine AOps.p rfl (rfl : _ = (AV.int .i64 0)) ?_
 refine AOps.nilR ?_
 refine AW.meet (σ := Unit) (fun _ tm os => ⟨updL tm [], updL os [], { s with lo := s.n }⟩) (fun _ => laws_eqModuleS_J1 = some r) ?_ ?_
 ·rintro _ tm os h
  unfold laws_eqModuleS_J1 at h
  refine AW.sr ?_
  refine AOps.p rfl (rfl : _ = (AV.bool true)) ?_
  refine AOps.nilR ?_
  cases h
  exact AW.ret ⟨rfl, _, _, rfl, rfl⟩
 intro KJ12
 refine AW.block ?_
 refine AW.res [(0, (AV.sl z2 f3 e4)), (1, (AV.sl z7 f8 e9)), (5, (AV.int .i64 0))] [] ⟨rfl, rfl, rfl, trivial⟩ trivial ?_
 refine AW.loopF (σ := Int) (τ := Unit) (fun i13 _ => True) (fun i13 _ tm os => ⟨updL tm [(0, (AV.sl z2 f3 e4)), (1, (AV.sl z7 f8 e9)), (5, (AV.int .i64 i13))], updL os [], { s with lo := s.n }⟩) ?_ (x := (0)) (y := ()) h trivial
 clear h
 rintro i13 _ tm os - ee1 h hL1 hR1
 unfold laws_eqModuleS_S1 at h
 refine AW.seq ?_
 refine AW.sr ?_
 refine AOps.p rfl (rfl : _ = (AV.int .i64 i13)) ?_
 refine AOps.p rfl (rfl : _ = (AV.sl z2 f3 e4)) ?_
 refine AOps.p rfl (len_eq h5) ?_
 refine AOps.p rfl (rfl : _ = (AV.bool (decide ((i13 : Int) < (a1.length : Int))))) ?_
 refine AOps.nilR ?_
 rcases oite h with ⟨hc14, h⟩ | ⟨hc14, h⟩
 ·refine AW.condT (congrArg AV.bool hc14) ?_
  refine AW.skip ?_
  refine AW.seq ?_
  refine AW.block ?_
  refine AW.sr ?_
  refine AOps.p rfl (rfl : _ = (AV.sl z2 f3 e4)) ?_
  refine AOps.p rfl (rfl : _ = (AV.int .i64 i13)) ?_
  obtain ⟨x15, h16, h⟩ := obind h
  obtain ⟨v19, h17, h18⟩ := idx_sl h5 h16
  obtain ⟨_, rfl, h20⟩ := h17
  obtain ⟨_, _, rfl, h21, h22⟩ := Cs_cons h20
  cases h21
  obtain ⟨_, _, rfl, h23, h24⟩ := Cs_cons h22
  obtain ⟨z25, f26, e27, rfl, h28⟩ := h23
  cases Cs_nil h24
  refine AOps.pureR rfl rfl rfl h18 rfl (rfl : _ = (AV.eptr [(AV.int .i64 x15.Nodes), (AV.sl z25 f26 e27)] 0)) ?_
  refine AOps.ldE (v := (AV.agg [(AV.int .i64 x15.Nodes), (AV.sl z25 f26 e27)])) rfl rfl rfl rfl rfl rfl ?_
  refine AOps.p rfl (rfl : _ = (AV.sl z7 f8 e9)) ?_
  refine AOps.p rfl (rfl : _ = (AV.int .i64 i13)) ?_
  obtain ⟨x29, h30, h⟩ := obind h
  obtain ⟨v33, h31, h32⟩ := idx_sl h10 h30
  obtain ⟨_, rfl, h34⟩ := h31
  obtain ⟨_, _, rfl, h35, h36⟩ := Cs_cons h34
  cases h35
  obtain ⟨_, _, rfl, h37, h38⟩ := Cs_cons h36
  obtain ⟨z39, f40, e41, rfl, h42⟩ := h37
  cases Cs_nil h38
  refine AOps.pureR rfl rfl rfl h32 rfl (rfl : _ = (AV.eptr [(AV.int .i64 x29.Nodes), (AV.sl z39 f40 e41)] 0)) ?_
  refine AOps.ldE (v := (AV.agg [(AV.int .i64 x29.Nodes), (AV.sl z39 f40 e41)])) rfl rfl rfl rfl rfl rfl ?_
  obtain ⟨y43, h44, h⟩ := obind h
  refine AOps.lendD (g := 40) (args := [(AV.agg [(AV.int .i64 x15.Nodes), (AV.sl z25 f26 e27)]), (AV.agg [(AV.int .i64 x29.Nodes), (AV.sl z39 f40 e41)])]) (ps := [(rModule) x15, (rModule) x29]) (p := (rB) y43) rfl rfl rfl rfl rfl rfl rfl (.cons (Fin.of (p := (rModule) x15) (.A (.cons .I (.cons (.L fun _ => (.A (.cons .I (.cons .I (.cons .S (.cons .I .nil)))))) .nil))) (⟨_, rfl, (.cons rfl (.cons ⟨_, _, _, rfl, h28⟩ .nil))⟩)) (.cons (Fin.of (p := (rModule) x29) (.A (.cons .I (.cons (.L fun _ => (.A (.cons .I (.cons .I (.cons .S (.cons .I .nil)))))) .nil))) (⟨_, rfl, (.cons rfl (.cons ⟨_, _, _, rfl, h42⟩ .nil))⟩)) .nil)) (fun args' hc => by obtain ⟨_, _, rfl, hv0, hd0⟩ := Cs_cons hc; obtain ⟨_, rfl, h45⟩ := hv0; obtain ⟨_, _, rfl, h46, h47⟩ := Cs_cons h45; cases h46; obtain ⟨_, _, rfl, h48, h49⟩ := Cs_cons h47; obtain ⟨z50, f51, e52, rfl, h53⟩ := h48; cases Cs_nil h49; obtain ⟨_, _, rfl, hv1, hd1⟩ := Cs_cons hd0; obtain ⟨_, rfl, h54⟩ := hv1; obtain ⟨_, _, rfl, h55, h56⟩ := Cs_cons h54; cases h55; obtain ⟨_, _, rfl, h57, h58⟩ := Cs_cons h56; obtain ⟨z59, f60, e61, rfl, h62⟩ := h57; cases Cs_nil h58; cases Cs_nil hd1; exact laws_eqModule_okN h53 h62 h44 WF.blind) (fun v n hv => by cases hv; rfl) (fun v hv => Nice.pure (k := FINK) (p := (rB) y43) .B _ v hv) ?_
  intro _ h63
  cases h63
  refine AOps.p rfl (rfl : _ = (AV.bool (!y43))) ?_
  refine AOps.nilR ?_
  rcases oite h with ⟨hc64, h⟩ | ⟨hc64, h⟩
  ·refine AW.condT (congrArg AV.bool hc64) ?_
   refine AW.sr ?_
   refine AOps.p rfl (rfl : _ = (AV.bool false)) ?_
   refine AOps.nilR ?_
   cases h
   have hr := hR1 _ rfl
   subst hr
   exact AW.ret ⟨rfl, _, _, rfl, rfl⟩
  refine AW.condF (congrArg AV.bool hc64) ?_
  refine AW.skip ?_
  refine AW.inBlock ?_
  refine AW.region ?_
  refine AOps.p rfl (rfl : _ = (AV.int .i64 i13)) ?_
  refine AOps.p rfl (rfl : _ = (AV.int .i64 (IntKind.wrap .i64 (i13 + 1)))) ?_
  refine AOps.assignR rfl rfl rfl (rfl : _ = (AV.int .i64 (IntKind.wrap .i64 (i13 + 1)))) rfl ?_
  refine AOps.nilR ?_
  cases h
  exact AW.res [(0, (AV.sl z2 f3 e4)), (1, (AV.sl z7 f8 e9)), (5, (AV.int .i64 (IntKind.wrap .i64 (i13 + 1))))] [] ⟨rfl, rfl, rfl, trivial⟩ trivial (hL1 _ rfl () _ _ trivial)
 refine AW.condF (congrArg AV.bool hc14) ?_
 refine AW.exit rfl ?_
 obtain ⟨r65, hm, hx⟩ := omap h
 clear h
 subst hx
 have hx := hR1 _ rfl
 rw [hx] at hm
 have h := hm
 exact AW.res [] [] trivial trivial (KJ12 () _ _ h)
theorem laws_eqProgram_okN {a1 : ProgramT} {b6 : ProgramT} {z2 : Nat} {f3 : Bool} {e4 : List AV} {z7 : Nat} {f8 : Bool} {e9 : List AV} {s : St} (h5 : LR rModule 2 a1.Modules z2 e4) (h10 : LR rModule 2 b6.Modules z7 e9) {r : Bool} (h : laws_eqProgram a1 b6 = some r) (hs : WF s) : ACallN Cf 9 [(AV.agg [(AV.sl z2 f3 e4)]), (AV.agg [(AV.sl z7 f8 e9)])] s fun v _ s' => (rB) r v ∧ s' = s := by
 refine ACallN.pure rfl rfl rfl .B ?_
 have hWF := hs.lo'
 unfold laws_eqProgram at h
 refine AW.sr ?_
 refine AOps.makeR rfl rfl rfl rfl rfl rfl (rfl : _ = (AV.eptr [(AV.sl z2 f3 e4)] 0)) ?_
 refine AOps.makeR rfl rfl rfl rfl rfl rfl (rfl : _ = (AV.eptr [(AV.sl z7 f8 e9)] 0)) ?_
 refine AOps.p rfl (rfl : _ = (AV.bool false)) ?_
 refine AOps.nilR ?_
 refine AW.seq ?_
 refine AW.sr ?_
 refine AOps.p rfl (rfl : _ = (AV.eptr [(AV.sl z2 f3 e4)] 0)) ?_
 refine AOps.ldE (v := (AV.sl z2 f3 e4)) rfl rfl rfl rfl rfl rfl ?_
 refine AOps.p rfl (rfl : _ = (AV.eptr [(AV.sl z7 f8 e9)] 0)) ?_
 refine AOps.ldE (v := (AV.sl z7 f8 e9)) rfl rfl rfl rfl rfl rfl ?_
 obtain ⟨y11, h12, h⟩ := obind h
 refine AOps.lendP (g := 22) (args := [(AV.sl z2 f3 e4), (AV.sl z7 f8 e9)]) (ps := [(rL rModule 2) a1.Modules, (rL rModule 2) b6.Modules]) (p := (rB) y11) rfl rfl rfl rfl rfl rfl rfl (.cons (Fin.of (p := (rL rModule 2) a1.Modules) (.L fun _ => (.A (.cons .I (.cons (.L fun _ => (.A (.cons .I (.cons .I (.cons .S (.cons .I .nil)))))) .nil)))) (⟨_, _, _, rfl, h5⟩)) (.cons (Fin.of (p := (rL rModule 2) b6.Modules) (.L fun _ => (.A (.cons .I (.cons (.L fun _ => (.A (.cons .I (.cons .I (.cons .S (.cons .I .nil)))))) .nil)))) (⟨_, _, _, rfl, h10⟩)) .nil)) (fun args' hc => by obtain ⟨_, _, rfl, hv0, hd0⟩ := Cs_cons hc; obtain ⟨z13, f14, e15, rfl, h16⟩ := hv0; obtain ⟨_, _, rfl, hv1, hd1⟩ := Cs_cons hd0; obtain ⟨z17, f18, e19, rfl, h20⟩ := hv1; cases Cs_nil hd1; exact laws_eqModuleS_okN h16 h20 h12 WF.blind) (fun v n hv => by cases hv; rfl) ?_
 intro _ h21
 cases h21
 refine AOps.p rfl (rfl : _ = (AV.bool (!y11))) ?_
 refine AOps.nilR ?_
 rcases oite h with ⟨hc22, h⟩ | ⟨hc22, h⟩
 ·refine AW.condT (congrArg AV.bool hc22) ?_
  refine AW.sr ?_
  refine AOps.p rfl (rfl : _ = (AV.bool false)) ?_
  refine AOps.nilR ?_
  cases h
  exact AW.ret ⟨rfl, _, _, rfl, rfl⟩
 refine AW.condF (congrArg AV.bool hc22) ?_
 refine AW.skip ?_
 refine AW.sr ?_
 refine AOps.p rfl (rfl : _ = (AV.bool true)) ?_
 refine AOps.nilR ?_
 cases h
 exact AW.ret ⟨rfl, _, _, rfl, rfl⟩
theorem laws_markText_ok {k1 : Int} {s : St} {r : (List UInt8)} (h : laws_markText k1 = some r) (hs : WF s) : ACall Cf 65 [(AV.int .i64 k1)] s fun v _ s' => (rS) r v ∧ s' = s := by
 refine ACall.pure rfl rfl rfl .S ?_
 have hWF := hs.lo'
 unfold laws_markText at h
 refine AW.sr ?_
 refine AOps.p rfl (rfl : _ = (AV.str ([] : List UInt8))) ?_
 refine AOps.nilR ?_
 refine AW.seq ?_
 refine AW.sr ?_
 refine AOps.p rfl (rfl : _ = (AV.int .i64 k1)) ?_
 refine AOps.p rfl (rfl : _ = (AV.bool (decide ((k1 : Int) ≤ 0)))) ?_
 refine AOps.nilR ?_
 rcases oite h with ⟨hc2, h⟩ | ⟨hc2, h⟩
 ·refine AW.condT (congrArg AV.bool hc2) ?_
  refine AW.sr ?_
  refine AOps.p rfl (rfl : _ = (AV.str ([109, 48] : List UInt8))) ?_
  refine AOps.nilR ?_
  cases h
  exact AW.ret ⟨rfl, _, _, rfl, rfl⟩
 refine AW.condF (congrArg AV.bool hc2) ?_
 refine AW.skip ?_
 refine AW.sr ?_
 refine AOps.p rfl (rfl : _ = (AV.str ([] : List UInt8))) ?_
 refine AOps.nilR ?_
 refine AW.seq ?_
 refine AW.meet (σ := (List UInt8)) (fun out3 tm os => ⟨updL tm [(3, (AV.str out3))], updL os [], { s with lo := s.n }⟩) (fun out3 => laws_markText_J1 out3 = some r) ?_ ?_
 ·rintro out3 tm os h
  unfold laws_markText_J1 at h
  refine AW.sr ?_
  refine AOps.p rfl (rfl : _ = (AV.str out3)) ?_
  obtain ⟨w5, h6, h⟩ := obind h
  refine AOps.pureR rfl rfl rfl (add_str h6) rfl (rfl : _ = (AV.str w5)) ?_
  refine AOps.assignR rfl rfl rfl (rfl : _ = (AV.str w5)) rfl ?_
  refine AOps.nilR ?_
  cases h
  exact AW.ret ⟨rfl, _, _, rfl, rfl⟩
 intro KJ4
 refine AW.block ?_
 refine AW.res [(0, (AV.int .i64 k1)), (3, (AV.str ([] : List UInt8)))] [] ⟨rfl, rfl, trivial⟩ trivial ?_
 refine AW.loopF (σ := Int × (List UInt8)) (τ := Unit) (fun (k7, out8) _ => True) (fun (k7, out8) _ tm os => ⟨updL tm [(0, (AV.int .i64 k7)), (3, (AV.str out8))], updL os [], { s with lo := s.n }⟩) ?_ (x := (k1, ([] : List UInt8))) (y := ()) h trivial
 clear h
 rintro ⟨k7, out8⟩ _ tm os - ee1 h hL1 hR1
 unfold laws_markText_S1 at h
 dsimp only at h
 refine AW.seq ?_
 refine AW.sr ?_
 refine AOps.p rfl (rfl : _ = (AV.int .i64 k7)) ?_
 refine AOps.p rfl (rfl : _ = (AV.bool (decide ((k7 : Int) > 0)))) ?_
 refine AOps.nilR ?_
 rcases oite h with ⟨hc9, h⟩ | ⟨hc9, h⟩
 ·refine AW.condT (congrArg AV.bool hc9) ?_
  refine AW.skip ?_
  refine AW.block ?_
  refine AW.sr ?_
  refine AOps.p rfl (rfl : _ = (AV.int .i64 k7)) ?_
  obtain ⟨q10, h11, h⟩ := obind h
  refine AOps.pureR rfl rfl rfl (rem_ok h11) rfl (rfl : _ = (AV.int .i64 q10)) ?_
  refine AOps.p rfl (rfl : _ = (AV.int .i64 (IntKind.wrap .i64 (48 + q10)))) ?_
  refine AOps.p rfl (rfl : _ = (AV.int .u8 (IntKind.wrap .u8 (IntKind.wrap .i64 (48 + q10))))) ?_
  refine AOps.makeR rfl rfl rfl rfl rfl rfl (rfl : _ = (AV.sl 1 true [(AV.int .u8 (IntKind.wrap .u8 (IntKind.wrap .i64 (48 + q10))))])) ?_
  refine AOps.pureR rfl rfl rfl (bytes_str (l := ([IntKind.wrap .u8 (IntKind.wrap .i64 (48 + q10))] : List Int)) (z := 1) (e := [(AV.int .u8 (IntKind.wrap .u8 (IntKind.wrap .i64 (48 + q10))))]) (LR.lit (r := rI .u8) (sz := 1) (.cons rfl .nil))) rfl (rfl : _ = (AV.str (bytesOf ([IntKind.wrap .u8 (IntKind.wrap .i64 (48 + q10))] : List Int)))) ?_
  refine AOps.p rfl (rfl : _ = (AV.str out8)) ?_
  obtain ⟨w12, h13, h⟩ := obind h
  refine AOps.pureR rfl rfl rfl (add_str h13) rfl (rfl : _ = (AV.str w12)) ?_
  refine AOps.assignR rfl rfl rfl (rfl : _ = (AV.str w12)) rfl ?_
  refine AOps.nilR ?_
  refine AW.region ?_
  refine AOps.p rfl (rfl : _ = (AV.int .i64 k7)) ?_
  obtain ⟨q14, h15, h⟩ := obind h
  refine AOps.pureR rfl rfl rfl (quo_ok h15) rfl (rfl : _ = (AV.int .i64 q14)) ?_
  refine AOps.assignR rfl rfl rfl (rfl : _ = (AV.int .i64 q14)) rfl ?_
  refine AOps.nilR ?_
  refine AW.inBlock ?_
  cases h
  exact AW.res [(0, (AV.int .i64 q14)), (3, (AV.str w12))] [] ⟨rfl, rfl, trivial⟩ trivial (hL1 _ rfl () _ _ trivial)
 refine AW.condF (congrArg AV.bool hc9) ?_
 refine AW.exit rfl ?_
 obtain ⟨r16, hm, hx⟩ := omap h
 clear h
 subst hx
 have hx := hR1 _ rfl
 rw [hx] at hm
 have h := hm
 exact AW.res [(3, (AV.str out8))] [] ⟨rfl, trivial⟩ trivial (KJ4 (out8) _ _ h)
end Go.Proofs.Ythnilfmdmaebfaa.law
