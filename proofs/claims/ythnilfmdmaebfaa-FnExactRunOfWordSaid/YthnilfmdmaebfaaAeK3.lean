import Derived.Test.YthnilfmdmaebfaaAeD
import Derived.Test.YthnilfmdmaebfaaAe4
import Derived.Test.YthnilfmdmaebfaaAeK2
set_option linter.unusedVariables false
set_option linter.unusedSimpArgs false
namespace Go.Proofs.Ythnilfmdmaebfaa.law
open Go Go.Proofs Ae
set_option maxRecDepth 100000
set_option linter.unusedVariables false
theorem laws_markLinkS_K10_ok {a4 : List Link} {k5 : Int} {h1 : AV} {k2 : KT} {s : St} (ho3 : h1.one = true) {ex : List Nat} {Ls0 : List (List BX)} (hH0 : HS ex true s s (([] : List BX) ++ List.flatten Ls0)) (hG0 : AllG [OS oE63 h1 k2 a4] Ls0) (hl : LoOK ex true s) {r : Int × (List Link)} (h : laws_markLinkS_K10 a4 k5 = some r) (hs : WF s) : ACall Cf 41 [h1, (AV.int .i64 k5)] s (fun v _ s' => ∃ (Ls' : List (List BX)), v = (AV.int .i64 r.1) ∧ HS ex true s s' (([] : List BX) ++ List.flatten Ls') ∧ AllG [OS oE63 h1 k2 r.2] Ls') true := by
 refine ACall.keepR rfl rfl rfl ?_
 unfold laws_markLinkS_K10 at h
 refine AW.sr ?_
 refine AOps.p rfl (rfl : _ = (AV.int .i64 0)) ?_
 refine AOps.nilR ?_
 refine AW.seq ?_
 refine AW.sr ?_
 refine AOps.p rfl (rfl : _ = (AV.int .i64 0)) ?_
 refine AOps.nilR ?_
 refine AW.meet (σ := (List Link) × Int × St × (List (List BX))) (fun (m6, k7, s8, Ls9) tm os => ⟨updL tm [(1, (AV.int .i64 k7))], updL os [], s8⟩) (fun (m6, k7, s8, Ls9) => (HS ex true s s8 (([] : List BX) ++ List.flatten Ls9)) ∧ (AllG [OS oE63 h1 k2 m6] Ls9) ∧ laws_markLinkS_K10_J1 m6 k7 = some r) ?_ ?_
 ·rintro ⟨m6, k7, s8, Ls9⟩ tm os ⟨hH10, hG11, h⟩
  unfold laws_markLinkS_K10_J1 at h
  refine AW.sr ?_
  refine AOps.p rfl (rfl : _ = (AV.int .i64 k7)) ?_
  refine AOps.assignR rfl rfl rfl (rfl : _ = (AV.int .i64 k7)) rfl ?_
  refine AOps.nilR ?_
  cases h
  exact AW.ret ⟨_, _, rfl, ⟨Ls9, rfl, hH10, hG11⟩⟩
 intro KJ12
 refine AW.block ?_
 refine AW.res [(0, h1), (1, (AV.int .i64 k5)), (5, (AV.int .i64 0))] [] ⟨rfl, rfl, rfl, trivial⟩ trivial ?_
 refine AW.loopF (σ := (List Link) × Int × Int) (τ := St × (List (List BX))) (fun (m13, k14, i15) (s16, Ls17) => (HS ex true s s16 (([] : List BX) ++ List.flatten Ls17)) ∧ (AllG [OS oE63 h1 k2 m13] Ls17)) (fun (m13, k14, i15) (s16, Ls17) tm os => ⟨updL tm [(0, h1), (1, (AV.int .i64 k14)), (5, (AV.int .i64 i15))], updL os [], s16⟩) ?_ (x := (a4, k5, 0)) (y := (s, Ls0)) h ⟨hH0, hG0⟩
 clear h
 rintro ⟨m13, k14, i15⟩ ⟨s16, Ls17⟩ tm os ⟨hH18, hG19⟩ ee1 h hL1 hR1
 unfold laws_markLinkS_K10_S1 at h
 dsimp only at h
 refine AW.seq ?_
 refine AW.sr ?_
 refine AOps.p rfl (rfl : _ = (AV.int .i64 i15)) ?_
 refine AOps.p rfl (rfl : _ = h1) ?_
 refine AOps.lenO (j := 0) hG19 rfl Sub.here rfl rfl rfl rfl rfl ?_
 refine AOps.p rfl (rfl : _ = (AV.bool (decide ((i15 : Int) < (m13.length : Int))))) ?_
 refine AOps.nilR ?_
 rcases oite h with ⟨hc20, h⟩ | ⟨hc20, h⟩
 ·refine AW.condT (congrArg AV.bool hc20) ?_
  refine AW.skip ?_
  refine AW.seq ?_
  refine AW.block ?_
  refine AW.sr ?_
  refine AOps.p rfl (rfl : _ = h1) ?_
  refine AOps.p rfl (rfl : _ = (AV.int .i64 i15)) ?_
  refine AOps.p rfl (rfl : _ = (AV.int .i64 k14)) ?_
  obtain ⟨x23, h24, h⟩ := obind h
  refine AOps.idxO (j := 0) hG19 rfl Sub.here h24 rfl rfl rfl rfl rfl rfl rfl rfl rfl ?_
  intro b21 hb22
  refine AOps.p rfl (rfl : _ = (AV.ptr b21 (0 + Int.toNat i15 * 4))) ?_
  refine AOps.stO (j := 0) (q := 0) (v := (AV.int .i64 k14)) (y' := ({ x23 with From := k14 } : Link)) hH18 hG19 hl rfl Sub.here h24 hb22 rfl rfl rfl rfl rfl rfl rfl rfl (lt_b rfl) (le_b rfl) rfl (fun c B hc => by obtain ⟨⟨_, hr, rfl⟩, rfl⟩ := hc; obtain ⟨_, rfl, h29⟩ := hr; obtain ⟨_, _, rfl, h30, h31⟩ := Cs_cons h29; cases h30; obtain ⟨_, _, rfl, h32, h33⟩ := Cs_cons h31; cases h32; obtain ⟨_, _, rfl, h34, h35⟩ := Cs_cons h33; cases h34; obtain ⟨_, _, rfl, h36, h37⟩ := Cs_cons h35; cases h36; cases Cs_nil h37; exact ⟨⟨(AV.agg [(AV.int .i64 k14), (AV.int .i64 x23.To), (AV.str x23.Act), (AV.int .i64 x23.Module)]), ⟨_, rfl, (.cons rfl (.cons rfl (.cons rfl (.cons rfl .nil))))⟩, rfl⟩, rfl⟩) ?_
  intro Ls25 s26 hG27 hH28
  change HS ex true s s26 (([] : List BX) ++ List.flatten Ls25) at hH28
  change AllG [OS oE63 h1 k2 (m13.set (Int.toNat i15) ({ x23 with From := k14 } : Link))] Ls25 at hG27
  refine AOps.nilR ?_
  refine AW.sr ?_
  refine AOps.p rfl (rfl : _ = (AV.int .i64 k14)) ?_
  refine AOps.p rfl (rfl : _ = (AV.int .i64 (IntKind.wrap .i64 (k14 + 1)))) ?_
  refine AOps.assignR rfl rfl rfl (rfl : _ = (AV.int .i64 (IntKind.wrap .i64 (k14 + 1)))) rfl ?_
  refine AOps.nilR ?_
  refine AW.sr ?_
  refine AOps.p rfl (rfl : _ = h1) ?_
  refine AOps.p rfl (rfl : _ = (AV.int .i64 i15)) ?_
  refine AOps.p rfl (rfl : _ = (AV.int .i64 (IntKind.wrap .i64 (k14 + 1)))) ?_
  refine AOps.idxO (j := 0) hG27 rfl Sub.here (ix_set h24) rfl rfl rfl rfl rfl rfl rfl rfl rfl ?_
  intro b38 hb39
  refine AOps.p rfl (rfl : _ = (AV.ptr b38 (0 + Int.toNat i15 * 4 + 1))) ?_
  refine AOps.stO (j := 0) (q := 1) (v := (AV.int .i64 (IntKind.wrap .i64 (k14 + 1)))) (y' := ({ ({ x23 with From := k14 } : Link) with To := IntKind.wrap .i64 (k14 + 1) } : Link)) hH28 hG27 hl rfl Sub.here (ix_set h24) hb39 rfl rfl rfl rfl rfl rfl rfl rfl (lt_b rfl) (le_b rfl) rfl (fun c B hc => by obtain ⟨⟨_, hr, rfl⟩, rfl⟩ := hc; obtain ⟨_, rfl, h44⟩ := hr; obtain ⟨_, _, rfl, h45, h46⟩ := Cs_cons h44; cases h45; obtain ⟨_, _, rfl, h47, h48⟩ := Cs_cons h46; cases h47; obtain ⟨_, _, rfl, h49, h50⟩ := Cs_cons h48; cases h49; obtain ⟨_, _, rfl, h51, h52⟩ := Cs_cons h50; cases h51; cases Cs_nil h52; exact ⟨⟨(AV.agg [(AV.int .i64 (({ x23 with From := k14 } : Link).From)), (AV.int .i64 (IntKind.wrap .i64 (k14 + 1))), (AV.str (({ x23 with From := k14 } : Link).Act)), (AV.int .i64 (({ x23 with From := k14 } : Link).Module))]), ⟨_, rfl, (.cons rfl (.cons rfl (.cons rfl (.cons rfl .nil))))⟩, rfl⟩, rfl⟩) ?_
  intro Ls40 s41 hG42 hH43
  change HS ex true s s41 (([] : List BX) ++ List.flatten Ls40) at hH43
  change AllG [OS oE63 h1 k2 ((m13.set (Int.toNat i15) ({ x23 with From := k14 } : Link)).set (Int.toNat i15) ({ ({ x23 with From := k14 } : Link) with To := IntKind.wrap .i64 (k14 + 1) } : Link))] Ls40 at hG42
  refine AOps.nilR ?_
  refine AW.sr ?_
  refine AOps.p rfl (rfl : _ = (AV.int .i64 (IntKind.wrap .i64 (k14 + 1)))) ?_
  refine AOps.p rfl (rfl : _ = (AV.int .i64 (IntKind.wrap .i64 ((IntKind.wrap .i64 (k14 + 1)) + 1)))) ?_
  refine AOps.assignR rfl rfl rfl (rfl : _ = (AV.int .i64 (IntKind.wrap .i64 ((IntKind.wrap .i64 (k14 + 1)) + 1)))) rfl ?_
  refine AOps.nilR ?_
  refine AW.sr ?_
  refine AOps.p rfl (rfl : _ = h1) ?_
  refine AOps.p rfl (rfl : _ = (AV.int .i64 i15)) ?_
  refine AOps.p rfl (rfl : _ = (AV.int .i64 (IntKind.wrap .i64 ((IntKind.wrap .i64 (k14 + 1)) + 1)))) ?_
  obtain ⟨y53, h54, h⟩ := obind h
  refine AOps.callP (g := 65) (args := [(AV.int .i64 (IntKind.wrap .i64 ((IntKind.wrap .i64 (k14 + 1)) + 1)))]) (p := (rS) y53) rfl rfl rfl (laws_markText_ok  h54 (HS.wf' hH43)) ?_
  intro _ o56 h55
  cases h55
  refine AOps.idxO (j := 0) hG42 rfl Sub.here (ix_set (ix_set h24)) rfl rfl rfl rfl rfl rfl rfl rfl rfl ?_
  intro b57 hb58
  refine AOps.p rfl (rfl : _ = (AV.ptr b57 (0 + Int.toNat i15 * 4 + 2))) ?_
  refine AOps.stO (j := 0) (q := 2) (v := (AV.str y53)) (y' := ({ ({ ({ x23 with From := k14 } : Link) with To := IntKind.wrap .i64 (k14 + 1) } : Link) with Act := y53 } : Link)) hH43 hG42 hl rfl Sub.here (ix_set (ix_set h24)) hb58 rfl rfl rfl rfl rfl rfl rfl rfl (lt_b rfl) (le_b rfl) rfl (fun c B hc => by obtain ⟨⟨_, hr, rfl⟩, rfl⟩ := hc; obtain ⟨_, rfl, h63⟩ := hr; obtain ⟨_, _, rfl, h64, h65⟩ := Cs_cons h63; cases h64; obtain ⟨_, _, rfl, h66, h67⟩ := Cs_cons h65; cases h66; obtain ⟨_, _, rfl, h68, h69⟩ := Cs_cons h67; cases h68; obtain ⟨_, _, rfl, h70, h71⟩ := Cs_cons h69; cases h70; cases Cs_nil h71; exact ⟨⟨(AV.agg [(AV.int .i64 (({ ({ x23 with From := k14 } : Link) with To := IntKind.wrap .i64 (k14 + 1) } : Link).From)), (AV.int .i64 (({ ({ x23 with From := k14 } : Link) with To := IntKind.wrap .i64 (k14 + 1) } : Link).To)), (AV.str y53), (AV.int .i64 (({ ({ x23 with From := k14 } : Link) with To := IntKind.wrap .i64 (k14 + 1) } : Link).Module))]), ⟨_, rfl, (.cons rfl (.cons rfl (.cons rfl (.cons rfl .nil))))⟩, rfl⟩, rfl⟩) ?_
  intro Ls59 s60 hG61 hH62
  change HS ex true s s60 (([] : List BX) ++ List.flatten Ls59) at hH62
  change AllG [OS oE63 h1 k2 (((m13.set (Int.toNat i15) ({ x23 with From := k14 } : Link)).set (Int.toNat i15) ({ ({ x23 with From := k14 } : Link) with To := IntKind.wrap .i64 (k14 + 1) } : Link)).set (Int.toNat i15) ({ ({ ({ x23 with From := k14 } : Link) with To := IntKind.wrap .i64 (k14 + 1) } : Link) with Act := y53 } : Link))] Ls59 at hG61
  refine AOps.nilR ?_
  refine AW.sr ?_
  refine AOps.p rfl (rfl : _ = (AV.int .i64 (IntKind.wrap .i64 ((IntKind.wrap .i64 (k14 + 1)) + 1)))) ?_
  refine AOps.p rfl (rfl : _ = (AV.int .i64 (IntKind.wrap .i64 ((IntKind.wrap .i64 ((IntKind.wrap .i64 (k14 + 1)) + 1)) + 1)))) ?_
  refine AOps.assignR rfl rfl rfl (rfl : _ = (AV.int .i64 (IntKind.wrap .i64 ((IntKind.wrap .i64 ((IntKind.wrap .i64 (k14 + 1)) + 1)) + 1)))) rfl ?_
  refine AOps.nilR ?_
  refine AW.sr ?_
  refine AOps.p rfl (rfl : _ = h1) ?_
  refine AOps.p rfl (rfl : _ = (AV.int .i64 i15)) ?_
  refine AOps.p rfl (rfl : _ = (AV.int .i64 (IntKind.wrap .i64 ((IntKind.wrap .i64 ((IntKind.wrap .i64 (k14 + 1)) + 1)) + 1)))) ?_
  refine AOps.idxO (j := 0) hG61 rfl Sub.here (ix_set (ix_set (ix_set h24))) rfl rfl rfl rfl rfl rfl rfl rfl rfl ?_
  intro b72 hb73
  refine AOps.p rfl (rfl : _ = (AV.ptr b72 (0 + Int.toNat i15 * 4 + 3))) ?_
  refine AOps.stO (j := 0) (q := 3) (v := (AV.int .i64 (IntKind.wrap .i64 ((IntKind.wrap .i64 ((IntKind.wrap .i64 (k14 + 1)) + 1)) + 1)))) (y' := ({ ({ ({ ({ x23 with From := k14 } : Link) with To := IntKind.wrap .i64 (k14 + 1) } : Link) with Act := y53 } : Link) with Module := IntKind.wrap .i64 ((IntKind.wrap .i64 ((IntKind.wrap .i64 (k14 + 1)) + 1)) + 1) } : Link)) hH62 hG61 hl rfl Sub.here (ix_set (ix_set (ix_set h24))) hb73 rfl rfl rfl rfl rfl rfl rfl rfl (lt_b rfl) (le_b rfl) rfl (fun c B hc => by obtain ⟨⟨_, hr, rfl⟩, rfl⟩ := hc; obtain ⟨_, rfl, h78⟩ := hr; obtain ⟨_, _, rfl, h79, h80⟩ := Cs_cons h78; cases h79; obtain ⟨_, _, rfl, h81, h82⟩ := Cs_cons h80; cases h81; obtain ⟨_, _, rfl, h83, h84⟩ := Cs_cons h82; cases h83; obtain ⟨_, _, rfl, h85, h86⟩ := Cs_cons h84; cases h85; cases Cs_nil h86; exact ⟨⟨(AV.agg [(AV.int .i64 (({ ({ ({ x23 with From := k14 } : Link) with To := IntKind.wrap .i64 (k14 + 1) } : Link) with Act := y53 } : Link).From)), (AV.int .i64 (({ ({ ({ x23 with From := k14 } : Link) with To := IntKind.wrap .i64 (k14 + 1) } : Link) with Act := y53 } : Link).To)), (AV.str (({ ({ ({ x23 with From := k14 } : Link) with To := IntKind.wrap .i64 (k14 + 1) } : Link) with Act := y53 } : Link).Act)), (AV.int .i64 (IntKind.wrap .i64 ((IntKind.wrap .i64 ((IntKind.wrap .i64 (k14 + 1)) + 1)) + 1)))]), ⟨_, rfl, (.cons rfl (.cons rfl (.cons rfl (.cons rfl .nil))))⟩, rfl⟩, rfl⟩) ?_
  intro Ls74 s75 hG76 hH77
  change HS ex true s s75 (([] : List BX) ++ List.flatten Ls74) at hH77
  change AllG [OS oE63 h1 k2 ((((m13.set (Int.toNat i15) ({ x23 with From := k14 } : Link)).set (Int.toNat i15) ({ ({ x23 with From := k14 } : Link) with To := IntKind.wrap .i64 (k14 + 1) } : Link)).set (Int.toNat i15) ({ ({ ({ x23 with From := k14 } : Link) with To := IntKind.wrap .i64 (k14 + 1) } : Link) with Act := y53 } : Link)).set (Int.toNat i15) ({ ({ ({ ({ x23 with From := k14 } : Link) with To := IntKind.wrap .i64 (k14 + 1) } : Link) with Act := y53 } : Link) with Module := IntKind.wrap .i64 ((IntKind.wrap .i64 ((IntKind.wrap .i64 (k14 + 1)) + 1)) + 1) } : Link))] Ls74 at hG76
  refine AOps.nilR ?_
  refine AW.region ?_
  refine AOps.p rfl (rfl : _ = (AV.int .i64 (IntKind.wrap .i64 ((IntKind.wrap .i64 ((IntKind.wrap .i64 (k14 + 1)) + 1)) + 1)))) ?_
  refine AOps.p rfl (rfl : _ = (AV.int .i64 (IntKind.wrap .i64 ((IntKind.wrap .i64 ((IntKind.wrap .i64 ((IntKind.wrap .i64 (k14 + 1)) + 1)) + 1)) + 1)))) ?_
  refine AOps.assignR rfl rfl rfl (rfl : _ = (AV.int .i64 (IntKind.wrap .i64 ((IntKind.wrap .i64 ((IntKind.wrap .i64 ((IntKind.wrap .i64 (k14 + 1)) + 1)) + 1)) + 1)))) rfl ?_
  refine AOps.nilR ?_
  refine AW.inBlock ?_
  refine AW.region ?_
  refine AOps.p rfl (rfl : _ = (AV.int .i64 i15)) ?_
  refine AOps.p rfl (rfl : _ = (AV.int .i64 (IntKind.wrap .i64 (i15 + 1)))) ?_
  refine AOps.assignR rfl rfl rfl (rfl : _ = (AV.int .i64 (IntKind.wrap .i64 (i15 + 1)))) rfl ?_
  refine AOps.nilR ?_
  cases h
  exact AW.res [(0, h1), (1, (AV.int .i64 (IntKind.wrap .i64 ((IntKind.wrap .i64 ((IntKind.wrap .i64 ((IntKind.wrap .i64 (k14 + 1)) + 1)) + 1)) + 1)))), (5, (AV.int .i64 (IntKind.wrap .i64 (i15 + 1))))] [] ⟨rfl, rfl, rfl, trivial⟩ trivial (hL1 _ rfl (s75, Ls74) _ _ ⟨hH77, hG76⟩)
 refine AW.condF (congrArg AV.bool hc20) ?_
 refine AW.exit rfl ?_
 obtain ⟨r87, hm, hx⟩ := omap h
 clear h
 subst hx
 have hx := hR1 _ rfl
 rw [hx] at hm
 have h := hm
 exact AW.res [(1, (AV.int .i64 k14))] [] ⟨rfl, trivial⟩ trivial (KJ12 (m13, k14, s16, Ls17) _ _ ⟨hH18, hG19, h⟩)
theorem laws_markModuleS_K10_ok {a4 : List Module} {k5 : Int} {h1 : AV} {k2 : KT} {s : St} (ho3 : h1.one = true) {ex : List Nat} {Ls0 : List (List BX)} (hH0 : HS ex true s s (([] : List BX) ++ List.flatten Ls0)) (hG0 : AllG [OS oE60 h1 k2 a4] Ls0) (hl : LoOK ex true s) {r : Int × (List Module)} (h : laws_markModuleS_K10 a4 k5 = some r) (hs : WF s) : ACall Cf 23 [h1, (AV.int .i64 k5)] s (fun v _ s' => ∃ (Ls' : List (List BX)), v = (AV.int .i64 r.1) ∧ HS ex true s s' (([] : List BX) ++ List.flatten Ls') ∧ AllG [OS oE60 h1 k2 r.2] Ls') true := by
 refine ACall.keepR rfl rfl rfl ?_
 unfold laws_markModuleS_K10 at h
 refine AW.sr ?_
 refine AOps.p rfl (rfl : _ = (AV.int .i64 0)) ?_
 refine AOps.nilR ?_
 refine AW.seq ?_
 refine AW.sr ?_
 refine AOps.p rfl (rfl : _ = (AV.int .i64 0)) ?_
 refine AOps.nilR ?_
 refine AW.meet (σ := (List Module) × Int × St × (List (List BX))) (fun (m6, k7, s8, Ls9) tm os => ⟨updL tm [(1, (AV.int .i64 k7))], updL os [], s8⟩) (fun (m6, k7, s8, Ls9) => (HS ex true s s8 (([] : List BX) ++ List.flatten Ls9)) ∧ (AllG [OS oE60 h1 k2 m6] Ls9) ∧ laws_markModuleS_K10_J1 m6 k7 = some r) ?_ ?_
 ·rintro ⟨m6, k7, s8, Ls9⟩ tm os ⟨hH10, hG11, h⟩
  unfold laws_markModuleS_K10_J1 at h
  refine AW.sr ?_
  refine AOps.p rfl (rfl : _ = (AV.int .i64 k7)) ?_
  refine AOps.assignR rfl rfl rfl (rfl : _ = (AV.int .i64 k7)) rfl ?_
  refine AOps.nilR ?_
  cases h
  exact AW.ret ⟨_, _, rfl, ⟨Ls9, rfl, hH10, hG11⟩⟩
 intro KJ12
 refine AW.block ?_
 refine AW.res [(0, h1), (1, (AV.int .i64 k5)), (5, (AV.int .i64 0))] [] ⟨rfl, rfl, rfl, trivial⟩ trivial ?_
 refine AW.loopF (σ := (List Module) × Int × Int) (τ := St × (List (List BX))) (fun (m13, k14, i15) (s16, Ls17) => (HS ex true s s16 (([] : List BX) ++ List.flatten Ls17)) ∧ (AllG [OS oE60 h1 k2 m13] Ls17)) (fun (m13, k14, i15) (s16, Ls17) tm os => ⟨updL tm [(0, h1), (1, (AV.int .i64 k14)), (5, (AV.int .i64 i15))], updL os [], s16⟩) ?_ (x := (a4, k5, 0)) (y := (s, Ls0)) h ⟨hH0, hG0⟩
 clear h
 rintro ⟨m13, k14, i15⟩ ⟨s16, Ls17⟩ tm os ⟨hH18, hG19⟩ ee1 h hL1 hR1
 unfold laws_markModuleS_K10_S1 at h
 dsimp only at h
 refine AW.seq ?_
 refine AW.sr ?_
 refine AOps.p rfl (rfl : _ = (AV.int .i64 i15)) ?_
 refine AOps.p rfl (rfl : _ = h1) ?_
 refine AOps.lenO (j := 0) hG19 rfl Sub.here rfl rfl rfl rfl rfl ?_
 refine AOps.p rfl (rfl : _ = (AV.bool (decide ((i15 : Int) < (m13.length : Int))))) ?_
 refine AOps.nilR ?_
 rcases oite h with ⟨hc20, h⟩ | ⟨hc20, h⟩
 ·refine AW.condT (congrArg AV.bool hc20) ?_
  refine AW.skip ?_
  refine AW.seq ?_
  refine AW.block ?_
  refine AW.sr ?_
  refine AOps.p rfl (rfl : _ = h1) ?_
  refine AOps.p rfl (rfl : _ = (AV.int .i64 i15)) ?_
  refine AOps.p rfl (rfl : _ = (AV.int .i64 k14)) ?_
  obtain ⟨x23, h24, h⟩ := obind h
  refine AOps.idxO (j := 0) hG19 rfl Sub.here h24 rfl rfl rfl rfl rfl rfl rfl rfl rfl ?_
  intro b21 hb22
  refine AOps.p rfl (rfl : _ = (AV.ptr b21 (0 + Int.toNat i15 * 2))) ?_
  refine AOps.stO (j := 0) (q := 0) (v := (AV.int .i64 k14)) (y' := ({ x23 with Nodes := k14 } : Module)) hH18 hG19 hl rfl Sub.here h24 hb22 rfl rfl rfl rfl rfl rfl rfl rfl (lt_b rfl) (le_b rfl) rfl (fun c B hc => by obtain ⟨_, _, _, _, rfl, rfl, hs29, _, _, _, _, rfl, rfl, hs30, rfl, rfl⟩ := hc; obtain ⟨_, rfl⟩ := hs29; exact ⟨_, _, _, _, rfl, rfl, ⟨rfl, rfl⟩, _, _, _, _, rfl, rfl, hs30, rfl, rfl⟩) ?_
  intro Ls25 s26 hG27 hH28
  change HS ex true s s26 (([] : List BX) ++ List.flatten Ls25) at hH28
  change AllG [OS oE60 h1 k2 (m13.set (Int.toNat i15) ({ x23 with Nodes := k14 } : Module))] Ls25 at hG27
  refine AOps.nilR ?_
  refine AW.sr ?_
  refine AOps.p rfl (rfl : _ = (AV.int .i64 k14)) ?_
  refine AOps.p rfl (rfl : _ = (AV.int .i64 (IntKind.wrap .i64 (k14 + 1)))) ?_
  refine AOps.assignR rfl rfl rfl (rfl : _ = (AV.int .i64 (IntKind.wrap .i64 (k14 + 1)))) rfl ?_
  refine AOps.nilR ?_
  refine AW.region ?_
  refine AOps.p rfl (rfl : _ = h1) ?_
  refine AOps.p rfl (rfl : _ = (AV.int .i64 i15)) ?_
  refine AOps.idxO (j := 0) hG27 rfl Sub.here (ix_set h24) rfl rfl rfl rfl rfl rfl rfl rfl rfl ?_
  intro b31 hb32
  refine AOps.p rfl (rfl : _ = (AV.ptr b31 (0 + Int.toNat i15 * 2 + 1))) ?_
  refine AOps.ldO (j := 0) (q := 1) hH28 hG27 rfl Sub.here (ix_set h24) hb32 rfl rfl rfl rfl rfl (lt_b rfl) (le_b rfl) rfl rfl ?_ (fun c B hc => by obtain ⟨_, _, _, _, rfl, rfl, hs38, _, _, _, _, rfl, rfl, hs39, rfl, rfl⟩ := hc; obtain ⟨rfl, _⟩ := hs39; exact ⟨_, rfl⟩)
  intro c33 B34 v35 h36 h37
  obtain ⟨_, _, _, _, rfl, rfl, hs38, _, _, _, _, rfl, rfl, hs39, rfl, rfl⟩ := h36
  obtain ⟨rfl, _⟩ := hs39
  cases h37
  refine AOps.p rfl (rfl : _ = (AV.int .i64 (IntKind.wrap .i64 (k14 + 1)))) ?_
  obtain ⟨y40, h41, h⟩ := obind h
  have hP42 := HS.pop0 hH28
  have hF0 : AllG ([] : List (List BX → Prop)) [] := AllG.nil
  obtain ⟨Ls43, Lf44, hG45, hF46, hP47⟩ := HS.popS hP42 hG27 hF0 (j := 0) rfl (Sub.fld Sub.here (ix_set h24) fld60_1)
  refine AOps.callF (al := true) (g := 41) (args := [((KT.at (KT.at k2 (Int.toNat i15)) 1) []), (AV.int .i64 (IntKind.wrap .i64 (k14 + 1)))]) rfl rfl rfl (laws_markLinkS_K10_ok (Sub.one hG27 (j := 0) rfl (Sub.fld Sub.here (ix_set h24) fld60_1)) (HS.enterK hP47) hF46 (HS.enterLo hP47 hl) h41 (HS.wf' hH28)) ?_
  rintro _ _ s48 ⟨Ls50, rfl, hH51, hG52⟩
  have hJ53 := HS.joinK hP47 hH51
  obtain ⟨Ls54, Lf55, hG56, hF57, hP58⟩ := HS.pushS hJ53 hG45 hG52 (j := 0) rfl
  cases hF57
  have hH59 := HS.push0 hP58
  change HS ex true s s48 (([] : List BX) ++ List.flatten Ls54) at hH59
  change AllG [OS oE60 h1 k2 ((m13.set (Int.toNat i15) ({ x23 with Nodes := k14 } : Module)).set (Int.toNat i15) ({ ({ x23 with Nodes := k14 } : Module) with Links := y40.2 } : Module))] Ls54 at hG56
  refine AOps.assignR rfl rfl rfl (rfl : _ = (AV.int .i64 y40.1)) rfl ?_
  refine AOps.nilR ?_
  refine AW.inBlock ?_
  refine AW.region ?_
  refine AOps.p rfl (rfl : _ = (AV.int .i64 i15)) ?_
  refine AOps.p rfl (rfl : _ = (AV.int .i64 (IntKind.wrap .i64 (i15 + 1)))) ?_
  refine AOps.assignR rfl rfl rfl (rfl : _ = (AV.int .i64 (IntKind.wrap .i64 (i15 + 1)))) rfl ?_
  refine AOps.nilR ?_
  cases h
  exact AW.res [(0, h1), (1, (AV.int .i64 y40.1)), (5, (AV.int .i64 (IntKind.wrap .i64 (i15 + 1))))] [] ⟨rfl, rfl, rfl, trivial⟩ trivial (hL1 _ rfl (s48, Ls54) _ _ ⟨hH59, hG56⟩)
 refine AW.condF (congrArg AV.bool hc20) ?_
 refine AW.exit rfl ?_
 obtain ⟨r60, hm, hx⟩ := omap h
 clear h
 subst hx
 have hx := hR1 _ rfl
 rw [hx] at hm
 have h := hm
 exact AW.res [(1, (AV.int .i64 k14))] [] ⟨rfl, trivial⟩ trivial (KJ12 (m13, k14, s16, Ls17) _ _ ⟨hH18, hG19, h⟩)
theorem laws_markProgram_K10_ok {a1 : ProgramT} {k5 : Int} {h2 : AV} {k3 : KT} {s : St} (ho4 : h2.one = true) {ex : List Nat} {Ls0 : List (List BX)} (hH0 : HS ex true s s (([] : List BX) ++ List.flatten Ls0)) (hG0 : AllG [OS oE60 h2 k3 a1.Modules] Ls0) (hl : LoOK ex true s) {r : Int × (List Module)} (h : laws_markProgram_K10 a1 k5 = some r) (hs : WF s) : ACall Cf 10 [(AV.agg [h2]), (AV.int .i64 k5)] s (fun v _ s' => ∃ (Ls' : List (List BX)), v = (AV.int .i64 r.1) ∧ HS ex true s s' (([] : List BX) ++ List.flatten Ls') ∧ AllG [OS oE60 h2 k3 r.2] Ls') true := by
 refine ACall.keepR rfl rfl rfl ?_
 unfold laws_markProgram_K10 at h
 refine AW.sr ?_
 refine AOps.boxR (v := (AV.agg [h2])) rfl rfl rfl rfl rfl (lay_cons ho4 lay_nil) rfl rfl ?_
 refine AOps.p rfl (rfl : _ = (AV.int .i64 0)) ?_
 refine AOps.nilR ?_
 refine AW.sr ?_
 refine AOps.p rfl (rfl : _ = (AV.eptr [h2] 0)) ?_
 refine AOps.ldE (v := h2) rfl rfl rfl rfl rfl rfl ?_
 refine AOps.p rfl (rfl : _ = (AV.int .i64 k5)) ?_
 obtain ⟨y6, h7, h⟩ := obind h
 have hP8 := HS.pop0 hH0
 have hF0 : AllG ([] : List (List BX → Prop)) [] := AllG.nil
 obtain ⟨Ls9, Lf10, hG11, hF12, hP13⟩ := HS.popG hP8 hG0 hF0 (j := 0) rfl
 refine AOps.callF (al := true) (g := 23) (args := [h2, (AV.int .i64 k5)]) rfl rfl rfl (laws_markModuleS_K10_ok ho4 (HS.enterK hP13) hF12 (HS.enterLo hP13 hl) h7 (HS.wf' hH0)) ?_
 rintro _ _ s14 ⟨Ls16, rfl, hH17, hG18⟩
 have hJ19 := HS.joinK hP13 hH17
 obtain ⟨Ls20, Lf21, hG22, hF23, hP24⟩ := HS.putG hJ19 hG11 hG18 (j := 0) rfl
 cases hF23
 have hH25 := HS.push0 hP24
 change HS ex true s s14 (([] : List BX) ++ List.flatten Ls20) at hH25
 change AllG [OS oE60 h2 k3 y6.2] Ls20 at hG22
 refine AOps.assignR rfl rfl rfl (rfl : _ = (AV.int .i64 y6.1)) rfl ?_
 refine AOps.nilR ?_
 refine AW.sr ?_
 refine AOps.p rfl (rfl : _ = (AV.int .i64 y6.1)) ?_
 refine AOps.assignR rfl rfl rfl (rfl : _ = (AV.int .i64 y6.1)) rfl ?_
 refine AOps.nilR ?_
 cases h
 exact AW.ret ⟨_, _, rfl, ⟨Ls20, rfl, hH25, hG22⟩⟩
theorem laws_markInt64S_K10_ok {a4 : List Int} {k5 : Int} {h1 : AV} {k2 : KT} {s : St} (ho3 : h1.one = true) {ex : List Nat} {Ls0 : List (List BX)} (hH0 : HS ex true s s (([] : List BX) ++ List.flatten Ls0)) (hG0 : AllG [OS oE2 h1 k2 a4] Ls0) (hl : LoOK ex true s) {r : Int × (List Int)} (h : laws_markInt64S_K10 a4 k5 = some r) (hs : WF s) : ACall Cf 11 [h1, (AV.int .i64 k5)] s (fun v _ s' => ∃ (Ls' : List (List BX)), v = (AV.int .i64 r.1) ∧ HS ex true s s' (([] : List BX) ++ List.flatten Ls') ∧ AllG [OS oE2 h1 k2 r.2] Ls') true := by
 refine ACall.keepR rfl rfl rfl ?_
 unfold laws_markInt64S_K10 at h
 refine AW.sr ?_
 refine AOps.p rfl (rfl : _ = (AV.int .i64 0)) ?_
 refine AOps.nilR ?_
 refine AW.seq ?_
 refine AW.sr ?_
 refine AOps.p rfl (rfl : _ = (AV.int .i64 0)) ?_
 refine AOps.nilR ?_
 refine AW.meet (σ := (List Int) × Int × St × (List (List BX))) (fun (m6, k7, s8, Ls9) tm os => ⟨updL tm [(1, (AV.int .i64 k7))], updL os [], s8⟩) (fun (m6, k7, s8, Ls9) => (HS ex true s s8 (([] : List BX) ++ List.flatten Ls9)) ∧ (AllG [OS oE2 h1 k2 m6] Ls9) ∧ laws_markInt64S_K10_J1 m6 k7 = some r) ?_ ?_
 ·rintro ⟨m6, k7, s8, Ls9⟩ tm os ⟨hH10, hG11, h⟩
  unfold laws_markInt64S_K10_J1 at h
  refine AW.sr ?_
  refine AOps.p rfl (rfl : _ = (AV.int .i64 k7)) ?_
  refine AOps.assignR rfl rfl rfl (rfl : _ = (AV.int .i64 k7)) rfl ?_
  refine AOps.nilR ?_
  cases h
  exact AW.ret ⟨_, _, rfl, ⟨Ls9, rfl, hH10, hG11⟩⟩
 intro KJ12
 refine AW.block ?_
 refine AW.res [(0, h1), (1, (AV.int .i64 k5)), (5, (AV.int .i64 0))] [] ⟨rfl, rfl, rfl, trivial⟩ trivial ?_
 refine AW.loopF (σ := (List Int) × Int × Int) (τ := St × (List (List BX))) (fun (m13, k14, i15) (s16, Ls17) => (HS ex true s s16 (([] : List BX) ++ List.flatten Ls17)) ∧ (AllG [OS oE2 h1 k2 m13] Ls17)) (fun (m13, k14, i15) (s16, Ls17) tm os => ⟨updL tm [(0, h1), (1, (AV.int .i64 k14)), (5, (AV.int .i64 i15))], updL os [], s16⟩) ?_ (x := (a4, k5, 0)) (y := (s, Ls0)) h ⟨hH0, hG0⟩
 clear h
 rintro ⟨m13, k14, i15⟩ ⟨s16, Ls17⟩ tm os ⟨hH18, hG19⟩ ee1 h hL1 hR1
 unfold laws_markInt64S_K10_S1 at h
 dsimp only at h
 refine AW.seq ?_
 refine AW.sr ?_
 refine AOps.p rfl (rfl : _ = (AV.int .i64 i15)) ?_
 refine AOps.p rfl (rfl : _ = h1) ?_
 refine AOps.lenO (j := 0) hG19 rfl Sub.here rfl rfl rfl rfl rfl ?_
 refine AOps.p rfl (rfl : _ = (AV.bool (decide ((i15 : Int) < (m13.length : Int))))) ?_
 refine AOps.nilR ?_
 rcases oite h with ⟨hc20, h⟩ | ⟨hc20, h⟩
 ·refine AW.condT (congrArg AV.bool hc20) ?_
  refine AW.skip ?_
  refine AW.seq ?_
  refine AW.block ?_
  refine AW.sr ?_
  refine AOps.p rfl (rfl : _ = h1) ?_
  refine AOps.p rfl (rfl : _ = (AV.int .i64 i15)) ?_
  refine AOps.p rfl (rfl : _ = (AV.int .i64 k14)) ?_
  obtain ⟨x23, h24, h⟩ := obind h
  refine AOps.idxO (j := 0) hG19 rfl Sub.here h24 rfl rfl rfl rfl rfl rfl rfl rfl rfl ?_
  intro b21 hb22
  refine AOps.stO (j := 0) (q := 0) (v := (AV.int .i64 k14)) (y' := k14) hH18 hG19 hl rfl Sub.here h24 hb22 rfl rfl rfl rfl rfl rfl rfl rfl (lt_b rfl) (le_b rfl) rfl (fun c B hc => oLeaf_set hc rfl) ?_
  intro Ls25 s26 hG27 hH28
  change HS ex true s s26 (([] : List BX) ++ List.flatten Ls25) at hH28
  change AllG [OS oE2 h1 k2 (m13.set (Int.toNat i15) k14)] Ls25 at hG27
  refine AOps.nilR ?_
  refine AW.region ?_
  refine AOps.p rfl (rfl : _ = (AV.int .i64 k14)) ?_
  refine AOps.p rfl (rfl : _ = (AV.int .i64 (IntKind.wrap .i64 (k14 + 1)))) ?_
  refine AOps.assignR rfl rfl rfl (rfl : _ = (AV.int .i64 (IntKind.wrap .i64 (k14 + 1)))) rfl ?_
  refine AOps.nilR ?_
  refine AW.inBlock ?_
  refine AW.region ?_
  refine AOps.p rfl (rfl : _ = (AV.int .i64 i15)) ?_
  refine AOps.p rfl (rfl : _ = (AV.int .i64 (IntKind.wrap .i64 (i15 + 1)))) ?_
  refine AOps.assignR rfl rfl rfl (rfl : _ = (AV.int .i64 (IntKind.wrap .i64 (i15 + 1)))) rfl ?_
  refine AOps.nilR ?_
  cases h
  exact AW.res [(0, h1), (1, (AV.int .i64 (IntKind.wrap .i64 (k14 + 1)))), (5, (AV.int .i64 (IntKind.wrap .i64 (i15 + 1))))] [] ⟨rfl, rfl, rfl, trivial⟩ trivial (hL1 _ rfl (s26, Ls25) _ _ ⟨hH28, hG27⟩)
 refine AW.condF (congrArg AV.bool hc20) ?_
 refine AW.exit rfl ?_
 obtain ⟨r29, hm, hx⟩ := omap h
 clear h
 subst hx
 have hx := hR1 _ rfl
 rw [hx] at hm
 have h := hm
 exact AW.res [(1, (AV.int .i64 k14))] [] ⟨rfl, trivial⟩ trivial (KJ12 (m13, k14, s16, Ls17) _ _ ⟨hH18, hG19, h⟩)
theorem laws_heldInt64S_okN {a1 : List Int} {k6 : Int} {z2 : Nat} {f3 : Bool} {e4 : List AV} {s : St} (h5 : LR (rI .i64) 1 a1 z2 e4) {r : Int} (h : laws_heldInt64S a1 k6 = some r) (hs : WF s) : ACallN Cf 12 [(AV.sl z2 f3 e4), (AV.int .i64 k6)] s fun v _ s' => (rI .i64) r v ∧ s' = s := by
 refine ACallN.pure rfl rfl rfl .I ?_
 have hWF := hs.lo'
 unfold laws_heldInt64S at h
 refine AW.sr ?_
 refine AOps.p rfl (rfl : _ = (AV.int .i64 0)) ?_
 refine AOps.nilR ?_
 refine AW.seq ?_
 refine AW.sr ?_
 refine AOps.p rfl (rfl : _ = (AV.int .i64 0)) ?_
 refine AOps.nilR ?_
 refine AW.meet (σ := Int) (fun k7 tm os => ⟨updL tm [(1, (AV.int .i64 k7))], updL os [], { s with lo := s.n }⟩) (fun k7 => laws_heldInt64S_J1 k7 = some r) ?_ ?_
 ·rintro k7 tm os h
  unfold laws_heldInt64S_J1 at h
  refine AW.sr ?_
  refine AOps.p rfl (rfl : _ = (AV.int .i64 k7)) ?_
  refine AOps.assignR rfl rfl rfl (rfl : _ = (AV.int .i64 k7)) rfl ?_
  refine AOps.nilR ?_
  cases h
  exact AW.ret ⟨rfl, _, _, rfl, rfl⟩
 intro KJ8
 refine AW.block ?_
 refine AW.res [(0, (AV.sl z2 f3 e4)), (1, (AV.int .i64 k6)), (5, (AV.int .i64 0))] [] ⟨rfl, rfl, rfl, trivial⟩ trivial ?_
 refine AW.loopF (σ := Int × Int) (τ := Unit) (fun (k9, i10) _ => True) (fun (k9, i10) _ tm os => ⟨updL tm [(0, (AV.sl z2 f3 e4)), (1, (AV.int .i64 k9)), (5, (AV.int .i64 i10))], updL os [], { s with lo := s.n }⟩) ?_ (x := (k6, 0)) (y := ()) h trivial
 clear h
 rintro ⟨k9, i10⟩ _ tm os - ee1 h hL1 hR1
 unfold laws_heldInt64S_S1 at h
 dsimp only at h
 refine AW.seq ?_
 refine AW.sr ?_
 refine AOps.p rfl (rfl : _ = (AV.int .i64 i10)) ?_
 refine AOps.p rfl (rfl : _ = (AV.sl z2 f3 e4)) ?_
 refine AOps.p rfl (len_eq h5) ?_
 refine AOps.p rfl (rfl : _ = (AV.bool (decide ((i10 : Int) < (a1.length : Int))))) ?_
 refine AOps.nilR ?_
 rcases oite h with ⟨hc11, h⟩ | ⟨hc11, h⟩
 ·refine AW.condT (congrArg AV.bool hc11) ?_
  refine AW.skip ?_
  refine AW.seq ?_
  refine AW.block ?_
  refine AW.seq ?_
  refine AW.sr ?_
  refine AOps.p rfl (rfl : _ = (AV.sl z2 f3 e4)) ?_
  refine AOps.p rfl (rfl : _ = (AV.int .i64 i10)) ?_
  obtain ⟨x12, h13, h⟩ := obind h
  obtain ⟨v16, h14, h15⟩ := idx_sl h5 h13
  cases h14
  refine AOps.pureR rfl rfl rfl h15 rfl (rfl : _ = (AV.eptr [(AV.int .i64 x12)] 0)) ?_
  refine AOps.ldE (v := (AV.int .i64 x12)) rfl rfl rfl rfl rfl rfl ?_
  refine AOps.p rfl (rfl : _ = (AV.int .i64 k9)) ?_
  refine AOps.p rfl (rfl : _ = (AV.bool (x12 != k9))) ?_
  refine AOps.nilR ?_
  rcases oite h with ⟨hc17, h⟩ | ⟨hc17, h⟩
  ·refine AW.condT (congrArg AV.bool hc17) ?_
   refine AW.sr ?_
   refine AOps.p rfl (rfl : _ = (AV.int .i64 (-1))) ?_
   refine AOps.nilR ?_
   cases h
   have hr := hR1 _ rfl
   subst hr
   exact AW.ret ⟨rfl, _, _, rfl, rfl⟩
  refine AW.condF (congrArg AV.bool hc17) ?_
  refine AW.skip ?_
  refine AW.region ?_
  refine AOps.p rfl (rfl : _ = (AV.int .i64 k9)) ?_
  refine AOps.p rfl (rfl : _ = (AV.int .i64 (IntKind.wrap .i64 (k9 + 1)))) ?_
  refine AOps.assignR rfl rfl rfl (rfl : _ = (AV.int .i64 (IntKind.wrap .i64 (k9 + 1)))) rfl ?_
  refine AOps.nilR ?_
  refine AW.inBlock ?_
  refine AW.region ?_
  refine AOps.p rfl (rfl : _ = (AV.int .i64 i10)) ?_
  refine AOps.p rfl (rfl : _ = (AV.int .i64 (IntKind.wrap .i64 (i10 + 1)))) ?_
  refine AOps.assignR rfl rfl rfl (rfl : _ = (AV.int .i64 (IntKind.wrap .i64 (i10 + 1)))) rfl ?_
  refine AOps.nilR ?_
  cases h
  exact AW.res [(0, (AV.sl z2 f3 e4)), (1, (AV.int .i64 (IntKind.wrap .i64 (k9 + 1)))), (5, (AV.int .i64 (IntKind.wrap .i64 (i10 + 1))))] [] ⟨rfl, rfl, rfl, trivial⟩ trivial (hL1 _ rfl () _ _ trivial)
 refine AW.condF (congrArg AV.bool hc11) ?_
 refine AW.exit rfl ?_
 obtain ⟨r18, hm, hx⟩ := omap h
 clear h
 subst hx
 have hx := hR1 _ rfl
 rw [hx] at hm
 have h := hm
 exact AW.res [(1, (AV.int .i64 k9))] [] ⟨rfl, trivial⟩ trivial (KJ8 (k9) _ _ h)
theorem impl_RunOfWord_ok {p1 : ProgramT} {w6 : List UInt8} {z2 : Nat} {f3 : Bool} {e4 : List AV} {s : St} (h5 : LR rModule 2 p1.Modules z2 e4) {r : (List Int) × Int} (h : impl_RunOfWord p1 w6 = some r) (hs : WF s) : ACall Cf 7 [(AV.agg [(AV.sl z2 f3 e4)]), (AV.str w6)] s fun v _ s' => (fun x => rT [(rL (rI .i64) 1) x.1, (rI .i64) x.2]) r v ∧ s' = s := by
 refine ACall.pure rfl rfl rfl (.T (.cons (.L fun _ => .I) (.cons .I .nil))) ?_
 have hWF := hs.lo'
 unfold impl_RunOfWord at h
 refine AW.sr ?_
 refine AOps.makeR rfl rfl rfl rfl rfl rfl (rfl : _ = (AV.eptr [(AV.sl z2 f3 e4)] 0)) ?_
 refine AOps.p rfl (rfl : _ = (AV.sl 0 true [])) ?_
 refine AOps.p rfl (rfl : _ = (AV.int .i64 0)) ?_
 refine AOps.nilR ?_
 refine AW.sr ?_
 refine AOps.ldE (v := (AV.agg [(AV.sl z2 f3 e4)])) rfl rfl rfl rfl rfl rfl ?_
 refine AOps.p rfl (rfl : _ = (AV.str w6)) ?_
 obtain ⟨y7, h8, h⟩ := obind h
 refine AOps.callP (g := 19) (args := [(AV.agg [(AV.sl z2 f3 e4)]), (AV.str w6)]) (p := (fun x => rT [rB x.1, (rI .i64) x.2]) y7) rfl rfl rfl (impl_ProgramTakes_ok h5 h8 hWF) ?_
 intro _ o15 h9
 obtain ⟨_, rfl, h10⟩ := h9
 obtain ⟨_, _, rfl, h11, h12⟩ := Cs_cons h10
 cases h11
 obtain ⟨_, _, rfl, h13, h14⟩ := Cs_cons h12
 cases h13
 cases Cs_nil h14
 refine AOps.p rfl (rfl : _ = (AV.tup [(AV.bool y7.1), (AV.int .i64 y7.2)])) ?_
 refine AOps.p rfl (rfl : _ = (AV.bool y7.1)) ?_
 refine AOps.p rfl (rfl : _ = (AV.int .i64 y7.2)) ?_
 refine AOps.assignR rfl rfl rfl (rfl : _ = (AV.bool y7.1)) rfl ?_
 refine AOps.assignR rfl rfl rfl (rfl : _ = (AV.int .i64 y7.2)) rfl ?_
 refine AOps.nilR ?_
 refine AW.seq ?_
 refine AW.sr ?_
 refine AOps.p rfl (rfl : _ = (AV.int .i64 y7.2)) ?_
 refine AOps.p rfl (rfl : _ = (AV.bool (y7.2 == 0))) ?_
 refine AOps.p rfl (rfl : _ = (AV.bool (y7.2 == 0))) ?_
 refine AOps.split 3 (fun f' => ∃ tm' os', f' = ⟨updL tm' [(1, (AV.str w6)), (2, (AV.eptr [(AV.sl z2 f3 e4)] 0)), (7, (AV.int .i64 y7.2)), (19, (AV.bool ((y7.2 == 0) && (!y7.1))))], updL os' [], { s with lo := s.n }⟩) ?_ ?_
 ·rcases Bool.eq_false_or_eq_true (y7.2 == 0) with hc16 | hc16
  ·refine AOps.know (d := 16) rfl hc16 ?_
   refine AOps.p rfl (rfl : _ = (AV.bool y7.1)) ?_
   refine AOps.p rfl (rfl : _ = (AV.bool (!y7.1))) ?_
   refine AOps.p rfl (rfl : _ = (AV.bool (!y7.1))) ?_
   refine AOps.resR [(1, (AV.str w6)), (2, (AV.eptr [(AV.sl z2 f3 e4)] 0)), (7, (AV.int .i64 y7.2)), (19, (AV.bool ((y7.2 == 0) && (!y7.1))))] [] ?_ ?_ _ ⟨_, _, rfl⟩
   ·exact ⟨rfl, rfl, rfl, congrArg AV.bool (and_t hc16), trivial⟩
   exact trivial
  ·refine AOps.know (d := 16) rfl hc16 ?_
   refine AOps.skipR rfl rfl ?_
   refine AOps.skipR rfl rfl ?_
   refine AOps.p rfl (rfl : _ = (AV.bool false)) ?_
   refine AOps.resR [(1, (AV.str w6)), (2, (AV.eptr [(AV.sl z2 f3 e4)] 0)), (7, (AV.int .i64 y7.2)), (19, (AV.bool ((y7.2 == 0) && (!y7.1))))] [] ?_ ?_ _ ⟨_, _, rfl⟩
   ·exact ⟨rfl, rfl, rfl, congrArg AV.bool (and_f hc16), trivial⟩
   exact trivial
 rintro _ ⟨tm, os, rfl⟩
 refine AOps.nilR ?_
 refine AW.meet (σ := Int) (fun code17 tm os => ⟨updL tm [(1, (AV.str w6)), (2, (AV.eptr [(AV.sl z2 f3 e4)] 0)), (7, (AV.int .i64 code17))], updL os [], { s with lo := s.n }⟩) (fun code17 => impl_RunOfWord_J1 p1 w6 code17 = some r) ?_ ?_
 ·rintro code17 tm os h
  unfold impl_RunOfWord_J1 at h
  refine AW.seq ?_
  refine AW.sr ?_
  refine AOps.p rfl (rfl : _ = (AV.int .i64 code17)) ?_
  refine AOps.p rfl (rfl : _ = (AV.bool (code17 != 0))) ?_
  refine AOps.nilR ?_
  rcases oite h with ⟨hc19, h⟩ | ⟨hc19, h⟩
  ·refine AW.condT (congrArg AV.bool hc19) ?_
   refine AW.sr ?_
   refine AOps.p rfl (rfl : _ = (AV.int .i64 code17)) ?_
   refine AOps.p rfl (rfl : _ = (AV.sl 0 true [])) ?_
   refine AOps.assignR rfl rfl rfl (rfl : _ = (AV.int .i64 code17)) rfl ?_
   refine AOps.nilR ?_
   cases h
   exact AW.ret ⟨rfl, _, _, rfl, ⟨_, rfl, (.cons ⟨_, _, _, rfl, ⟨.inr ⟨rfl, rfl⟩, .nil⟩⟩ (.cons rfl .nil))⟩⟩
  refine AW.condF (congrArg AV.bool hc19) ?_
  refine AW.skip ?_
  refine AW.sr ?_
  refine AOps.ldE (v := (AV.agg [(AV.sl z2 f3 e4)])) rfl rfl rfl rfl rfl rfl ?_
  refine AOps.p rfl (rfl : _ = (AV.str w6)) ?_
  obtain ⟨y20, h21, h⟩ := obind h
  refine AOps.callDP (g := 21) (args := [(AV.str w6)]) (p := (rL rS 1) y20) rfl rfl rfl (impl_factors_ok  h21 hWF.still) (fun v hv => Nice.pure (k := FINK) (p := (rL rS 1) y20) (.L fun _ => .S) _ v hv) ?_
  intro _ o27 h22
  obtain ⟨z23, f24, e25, rfl, h26⟩ := h22
  obtain ⟨y28, h29, h⟩ := obind h
  refine AOps.callDP (g := 20) (args := [(AV.agg [(AV.sl z2 f3 e4)]), (AV.int .i64 0), (AV.int .i64 0), (AV.sl z23 f24 e25)]) (p := (rL (rI .i64) 1) y28) rfl rfl rfl (impl_Program_trail_ok h5 h26 h29 hWF.still) (fun v hv => Nice.pure (k := FINK) (p := (rL (rI .i64) 1) y28) (.L fun _ => .I) _ v hv) ?_
  intro _ o35 h30
  obtain ⟨z31, f32, e33, rfl, h34⟩ := h30
  refine AOps.assignR rfl rfl rfl (rfl : _ = (AV.sl z31 f32 e33)) rfl ?_
  refine AOps.p rfl (rfl : _ = (AV.int .i64 0)) ?_
  refine AOps.nilR ?_
  cases h
  exact AW.ret ⟨rfl, _, _, rfl, ⟨_, rfl, (.cons ⟨_, _, _, rfl, h34⟩ (.cons rfl .nil))⟩⟩
 intro KJ18
 rcases oite h with ⟨hc36, h⟩ | ⟨hc36, h⟩
 ·refine AW.condT (congrArg AV.bool hc36) ?_
  refine AW.region ?_
  refine AOps.p rfl (rfl : _ = (AV.int .i64 6)) ?_
  refine AOps.nilR ?_
  exact AW.res [(1, (AV.str w6)), (2, (AV.eptr [(AV.sl z2 f3 e4)] 0)), (7, (AV.int .i64 6))] [] ⟨rfl, rfl, rfl, trivial⟩ trivial (KJ18 (6) _ _ h)
 refine AW.condF (congrArg AV.bool hc36) ?_
 refine AW.skip ?_
 exact AW.res [(1, (AV.str w6)), (2, (AV.eptr [(AV.sl z2 f3 e4)] 0)), (7, (AV.int .i64 y7.2))] [] ⟨rfl, rfl, rfl, trivial⟩ trivial (KJ18 (y7.2) _ _ h)
theorem laws_FnExactRunOfWord_ok {p1 : ProgramT} {p1_6 : List UInt8} {z2 : Nat} {f3 : Bool} {e4 : List AV} {s : St} (h5 : LR rModule 2 p1.Modules z2 e4) {r : Bool} (h : laws_FnExactRunOfWord p1 p1_6 = some r) (hs : WF s) (hz : s.n = 0 ∧ s.ro = 0) : ACall Cf 3 [(AV.agg [(AV.sl z2 f3 e4)]), (AV.str p1_6)] s fun v _ s' => (rB) r v ∧ s' = s := by
 refine ACall.boxes rfl rfl rfl ?_
 have hH0 := HS.g0 (HS.init hs)
 have hG0 := AllG.nil
 have hl : LoOK [] false s := LoOK.nil
 unfold laws_FnExactRunOfWord at h
 refine AW.sr ?_
 refine AOps.makeR rfl rfl rfl rfl rfl rfl (rfl : _ = (AV.eptr [(AV.sl z2 f3 e4)] 0)) ?_
 refine AOps.p rfl (rfl : _ = (AV.bool false)) ?_
 refine AOps.nilR ?_
 refine AW.seq ?_
 refine AW.sr ?_
 refine AOps.p rfl (rfl : _ = (AV.str p1_6)) ?_
 refine AOps.p rfl (rfl : _ = (AV.int .i64 (p1_6.length : Int))) ?_
 refine AOps.p rfl (rfl : _ = (AV.bool (decide (((p1_6.length : Int) : Int) > 1048576)))) ?_
 refine AOps.nilR ?_
 rcases oite h with ⟨hc7, h⟩ | ⟨hc7, h⟩
 ·refine AW.condT (congrArg AV.bool hc7) ?_
  refine AW.sr ?_
  refine AOps.p rfl (rfl : _ = (AV.bool true)) ?_
  refine AOps.nilR ?_
  cases h
  exact AW.ret ⟨⟨_, hH0⟩, _, _, rfl, (Fin.of (p := (rB) true) .B rfl).2⟩
 refine AW.condF (congrArg AV.bool hc7) ?_
 refine AW.skip ?_
 refine AW.sr ?_
 refine AOps.p rfl (rfl : _ = (AV.int .i64 1048576)) ?_
 refine AOps.nilR ?_
 refine AW.sr ?_
 refine AOps.ldE (v := (AV.agg [(AV.sl z2 f3 e4)])) rfl rfl rfl rfl rfl rfl ?_
 refine AOps.p rfl (rfl : _ = (AV.int .i64 1048576)) ?_
 obtain ⟨y8, h9, h⟩ := obind h
 refine AOps.callP (g := 4) (args := [(AV.agg [(AV.sl z2 f3 e4)]), (AV.int .i64 1048576)]) (p := (rI .i64) y8) rfl rfl rfl (laws_szProgram_ok h5 h9 (HS.wf' hH0)) ?_
 intro _ o11 h10
 cases h10
 refine AOps.assignR rfl rfl rfl (rfl : _ = (AV.int .i64 y8)) rfl ?_
 refine AOps.nilR ?_
 refine AW.seq ?_
 refine AW.sr ?_
 refine AOps.p rfl (rfl : _ = (AV.int .i64 y8)) ?_
 refine AOps.p rfl (rfl : _ = (AV.bool (decide ((y8 : Int) < 0)))) ?_
 refine AOps.nilR ?_
 rcases oite h with ⟨hc12, h⟩ | ⟨hc12, h⟩
 ·refine AW.condT (congrArg AV.bool hc12) ?_
  refine AW.sr ?_
  refine AOps.p rfl (rfl : _ = (AV.bool true)) ?_
  refine AOps.nilR ?_
  cases h
  exact AW.ret ⟨⟨_, hH0⟩, _, _, rfl, (Fin.of (p := (rB) true) .B rfl).2⟩
 refine AW.condF (congrArg AV.bool hc12) ?_
 refine AW.skip ?_
 refine AW.sr ?_
 refine AOps.ldE (v := (AV.agg [(AV.sl z2 f3 e4)])) rfl rfl rfl rfl rfl rfl ?_
 obtain ⟨y13, h14, h⟩ := obind h
 refine AOps.callP (g := 6) (args := [(AV.agg [(AV.sl z2 f3 e4)])]) (p := (rProgramT) y13) rfl rfl rfl (laws_toProgram_ok h5 h14 (HS.wf' hH0)) ?_
 intro _ o23 h15
 obtain ⟨_, rfl, h16⟩ := h15
 obtain ⟨_, _, rfl, h17, h18⟩ := Cs_cons h16
 obtain ⟨z19, f20, e21, rfl, h22⟩ := h17
 cases Cs_nil h18
 refine AOps.p rfl (rfl : _ = (AV.str p1_6)) ?_
 obtain ⟨y24, h25, h⟩ := obind h
 refine AOps.callP (g := 5) (args := [(AV.agg [(AV.sl z19 f20 e21)]), (AV.str p1_6)]) (p := (fun x => rT [(rL (rI .i64) 1) x.1, (rI .i64) x.2]) y24) rfl rfl rfl (spec_RunOfWord_ok h22 h25 (HS.wf' hH0)) ?_
 intro _ o36 h26
 obtain ⟨_, rfl, h27⟩ := h26
 obtain ⟨_, _, rfl, h28, h29⟩ := Cs_cons h27
 obtain ⟨z30, f31, e32, rfl, h33⟩ := h28
 obtain ⟨_, _, rfl, h34, h35⟩ := Cs_cons h29
 cases h34
 cases Cs_nil h35
 refine AOps.p rfl (rfl : _ = (AV.tup [(AV.sl z30 f31 e32), (AV.int .i64 y24.2)])) ?_
 refine AOps.p rfl (rfl : _ = (AV.sl z30 f31 e32)) ?_
 refine AOps.p rfl (rfl : _ = (AV.int .i64 y24.2)) ?_
 refine AOps.assignR rfl rfl rfl (rfl : _ = (AV.sl z30 f31 e32)) rfl ?_
 refine AOps.assignR rfl rfl rfl (rfl : _ = (AV.int .i64 y24.2)) rfl ?_
 refine AOps.nilR ?_
 refine AW.sr ?_
 refine AOps.ldE (v := (AV.agg [(AV.sl z2 f3 e4)])) rfl rfl rfl rfl rfl rfl ?_
 obtain ⟨y37, h38, h⟩ := obind h
 have hP42 := HS.pop0 hH0
 refine AOps.callF (al := true) (g := 6) (args := [(AV.agg [(AV.sl z2 f3 e4)])]) rfl rfl rfl (laws_toProgram_K0_ok h5  h38 (HS.wf' hH0)) ?_
 rintro _ _ s43 ⟨h39, k40, Ls45, rfl, hH46, hG47, ho41⟩
 have hJ48 := HS.joinK0 hP42 hH46
 obtain ⟨Ls49, Lf50, hG51, hF52, hP53⟩ := HS.pushN hJ48 hG0 hG47
 cases hF52
 have hH54 := HS.push0 hP53
 change HS [] false s s43 (([] : List BX) ++ List.flatten Ls49) at hH54
 change AllG [OS oE60 h39 k40 y37.Modules] Ls49 at hG51
 refine AOps.allocP rfl rfl rfl rfl ⟨rfl, rfl⟩ rfl ?_
 refine AOps.stP (v := (AV.agg [h39])) rfl rfl rfl rfl rfl rfl rfl (lay_cons ho41 lay_nil) rfl (lt_b rfl) rfl ?_
 refine AOps.nilR ?_
 refine AW.sr ?_
 refine AOps.ldE (v := (AV.agg [h39])) rfl rfl rfl rfl rfl rfl ?_
 refine AOps.p rfl (rfl : _ = (AV.str p1_6)) ?_
 obtain ⟨y55, h56, h⟩ := obind h
 refine AOps.lendK (al := true) (g := 7) (args := [(AV.agg [h39]), (AV.str p1_6)]) (ps := [(rProgramT) y37, (rS) p1_6]) (p := fun v s' => ∃ (h64 : AV) (k65 : KT) (Ls' : List (List BX)), v = (AV.tup [h64, (AV.int .i64 y55.2)]) ∧ HS [] true s43.blind s' (([] : List BX) ++ List.flatten Ls') ∧ AllG [OS oE2 h64 k65 y55.1] Ls' ∧ h64.one = true) rfl rfl rfl rfl rfl rfl rfl (.cons (Fin.A (.cons (Fin.up (by decide) (HS.finS hH54 hG51 (j := 0) rfl Sub.here (Or.inl rfl))) .nil)) (.cons (Fin.of (p := (rS) p1_6) .S rfl) .nil)) (fun args' hc => by obtain ⟨_, _, rfl, hv0, hd0⟩ := Cs_cons hc; obtain ⟨_, rfl, h57⟩ := hv0; obtain ⟨_, _, rfl, h58, h59⟩ := Cs_cons h57; obtain ⟨z60, f61, e62, rfl, h63⟩ := h58; cases Cs_nil h59; obtain ⟨_, _, rfl, hv1, hd1⟩ := Cs_cons hd0; cases hv1; cases Cs_nil hd1; exact impl_RunOfWord_K00_okN h63 h56 WF.blind) (by rintro v s1 ⟨_, _, Lq, rfl, hHq, hGq, _⟩; simp [AV.flatB, AV.flatL, HS.flatB0 hHq hGq (j := 0) rfl (Flt.leaf (fun x v n hr => by cases hr; rfl))]) ?_
 rintro _ s67 ⟨h64, k65, Ls69, rfl, hH70, hG71, ho66⟩
 have hH72 := HS.joinL (Lf := Ls69) hH54 (by simpa using hH70) hG71 (FG.cons (Flt.leaf (fun x v n hr => by cases hr; rfl)) FG.nil)
 have hG73 := AllG.app hG71 hG51
 have hH74 := HS.reL hH72
 change HS [] false s (St.join s43 s67) (([] : List BX) ++ List.flatten (Ls69 ++ Ls49)) at hH74
 change AllG [OS oE2 h64 k65 y55.1, OS oE60 h39 k40 y37.Modules] (Ls69 ++ Ls49) at hG73
 refine AOps.p rfl (rfl : _ = (AV.tup [h64, (AV.int .i64 y55.2)])) ?_
 refine AOps.p rfl (rfl : _ = h64) ?_
 refine AOps.p rfl (rfl : _ = (AV.int .i64 y55.2)) ?_
 refine AOps.assignR rfl rfl rfl (rfl : _ = h64) rfl ?_
 refine AOps.assignR rfl rfl rfl (rfl : _ = (AV.int .i64 y55.2)) rfl ?_
 refine AOps.nilR ?_
 refine AW.seq ?_
 refine AW.sr ?_
 refine AOps.p rfl (rfl : _ = h64) ?_
 refine AOps.p rfl (rfl : _ = (AV.sl z30 f31 e32)) ?_
 obtain ⟨y75, h76, h⟩ := obind h
 refine AOps.lendP (g := 8) (args := [h64, (AV.sl z30 f31 e32)]) (ps := [(rL (rI .i64) 1) y55.1, (rL (rI .i64) 1) y24.1]) (p := (rB) y75) rfl rfl rfl rfl rfl rfl rfl (.cons (Fin.up (by decide) (HS.finS hH74 hG73 (j := 0) rfl Sub.here (Or.inl rfl))) (.cons (Fin.of (p := (rL (rI .i64) 1) y24.1) (.L fun _ => .I) (⟨_, _, _, rfl, h33⟩)) .nil)) (fun args' hc => by obtain ⟨_, _, rfl, hv0, hd0⟩ := Cs_cons hc; obtain ⟨z77, f78, e79, rfl, h80⟩ := hv0; obtain ⟨_, _, rfl, hv1, hd1⟩ := Cs_cons hd0; obtain ⟨z81, f82, e83, rfl, h84⟩ := hv1; cases Cs_nil hd1; exact laws_eqInt64S_okN h80 h84 h76 WF.blind) (fun v n hv => by cases hv; rfl) ?_
 intro _ h85
 cases h85
 refine AOps.p rfl (rfl : _ = (AV.bool (!y75))) ?_
 refine AOps.p rfl (rfl : _ = (AV.bool (!y75))) ?_
 refine AOps.split 4 (fun f' => ∃ tm' os', f' = ⟨updL tm' [(1, (AV.str p1_6)), (2, (AV.eptr [(AV.sl z2 f3 e4)] 0)), (6, (AV.sl z30 f31 e32)), (7, (AV.int .i64 y24.2)), (8, (AV.eptr [h39] 0)), (9, h64), (10, (AV.int .i64 y55.2)), (47, (AV.bool ((!y75) || (y55.2 != y24.2))))], updL os' [], (St.join s43 s67)⟩) ?_ ?_
 ·rcases Bool.eq_false_or_eq_true (!y75) with hc86 | hc86
  ·refine AOps.know (d := 43) rfl hc86 ?_
   refine AOps.skipR rfl rfl ?_
   refine AOps.skipR rfl rfl ?_
   refine AOps.skipR rfl rfl ?_
   refine AOps.p rfl (rfl : _ = (AV.bool true)) ?_
   refine AOps.resR [(1, (AV.str p1_6)), (2, (AV.eptr [(AV.sl z2 f3 e4)] 0)), (6, (AV.sl z30 f31 e32)), (7, (AV.int .i64 y24.2)), (8, (AV.eptr [h39] 0)), (9, h64), (10, (AV.int .i64 y55.2)), (47, (AV.bool ((!y75) || (y55.2 != y24.2))))] [] ?_ ?_ _ ⟨_, _, rfl⟩
   ·exact ⟨rfl, rfl, rfl, rfl, rfl, rfl, rfl, congrArg AV.bool (or_t hc86), trivial⟩
   exact trivial
  ·refine AOps.know (d := 43) rfl hc86 ?_
   refine AOps.p rfl (rfl : _ = (AV.int .i64 y55.2)) ?_
   refine AOps.p rfl (rfl : _ = (AV.int .i64 y24.2)) ?_
   refine AOps.p rfl (rfl : _ = (AV.bool (y55.2 != y24.2))) ?_
   refine AOps.p rfl (rfl : _ = (AV.bool (y55.2 != y24.2))) ?_
   refine AOps.resR [(1, (AV.str p1_6)), (2, (AV.eptr [(AV.sl z2 f3 e4)] 0)), (6, (AV.sl z30 f31 e32)), (7, (AV.int .i64 y24.2)), (8, (AV.eptr [h39] 0)), (9, h64), (10, (AV.int .i64 y55.2)), (47, (AV.bool ((!y75) || (y55.2 != y24.2))))] [] ?_ ?_ _ ⟨_, _, rfl⟩
   ·exact ⟨rfl, rfl, rfl, rfl, rfl, rfl, rfl, congrArg AV.bool (or_f hc86), trivial⟩
   exact trivial
 rintro _ ⟨tm, os, rfl⟩
 refine AOps.nilR ?_
 rcases oite h with ⟨hc87, h⟩ | ⟨hc87, h⟩
 ·refine AW.condT (congrArg AV.bool hc87) ?_
  refine AW.sr ?_
  refine AOps.p rfl (rfl : _ = (AV.bool false)) ?_
  refine AOps.nilR ?_
  cases h
  exact AW.ret ⟨⟨_, hH74⟩, _, _, rfl, (Fin.of (p := (rB) false) .B rfl).2⟩
 refine AW.condF (congrArg AV.bool hc87) ?_
 refine AW.skip ?_
 refine AW.seq ?_
 refine AW.sr ?_
 refine AOps.ldE (v := (AV.agg [h39])) rfl rfl rfl rfl rfl rfl ?_
 refine AOps.ldE (v := (AV.agg [(AV.sl z2 f3 e4)])) rfl rfl rfl rfl rfl rfl ?_
 obtain ⟨y88, h89, h⟩ := obind h
 refine AOps.callDP (g := 6) (args := [(AV.agg [(AV.sl z2 f3 e4)])]) (p := (rProgramT) y88) rfl rfl rfl (laws_toProgram_ok h5 h89 ((HS.wf' hH74).still)) (fun v hv => Nice.pure (k := FINK) (p := (rProgramT) y88) (.A (.cons (.L fun _ => (.A (.cons .I (.cons (.L fun _ => (.A (.cons .I (.cons .I (.cons .S (.cons .I .nil)))))) .nil)))) .nil)) _ v hv) ?_
 intro _ o98 h90
 obtain ⟨_, rfl, h91⟩ := h90
 obtain ⟨_, _, rfl, h92, h93⟩ := Cs_cons h91
 obtain ⟨z94, f95, e96, rfl, h97⟩ := h92
 cases Cs_nil h93
 obtain ⟨y99, h100, h⟩ := obind h
 refine AOps.lendD (g := 9) (args := [(AV.agg [h39]), (AV.agg [(AV.sl z94 f95 e96)])]) (ps := [(rProgramT) y37, (rProgramT) y88]) (p := (rB) y99) rfl rfl rfl rfl rfl rfl rfl (.cons (Fin.A (.cons (Fin.up (by decide) (HS.finSt hH74 hG73 (j := 1) rfl Sub.here)) .nil)) (.cons (Fin.of (p := (rProgramT) y88) (.A (.cons (.L fun _ => (.A (.cons .I (.cons (.L fun _ => (.A (.cons .I (.cons .I (.cons .S (.cons .I .nil)))))) .nil)))) .nil)) (⟨_, rfl, (.cons ⟨_, _, _, rfl, h97⟩ .nil)⟩)) .nil)) (fun args' hc => by obtain ⟨_, _, rfl, hv0, hd0⟩ := Cs_cons hc; obtain ⟨_, rfl, h101⟩ := hv0; obtain ⟨_, _, rfl, h102, h103⟩ := Cs_cons h101; obtain ⟨z104, f105, e106, rfl, h107⟩ := h102; cases Cs_nil h103; obtain ⟨_, _, rfl, hv1, hd1⟩ := Cs_cons hd0; obtain ⟨_, rfl, h108⟩ := hv1; obtain ⟨_, _, rfl, h109, h110⟩ := Cs_cons h108; obtain ⟨z111, f112, e113, rfl, h114⟩ := h109; cases Cs_nil h110; cases Cs_nil hd1; exact laws_eqProgram_okN h107 h114 h100 WF.blind) (fun v n hv => by cases hv; rfl) (fun v hv => Nice.pure (k := FINK) (p := (rB) y99) .B _ v hv) ?_
 intro _ h115
 cases h115
 refine AOps.p rfl (rfl : _ = (AV.bool (!y99))) ?_
 refine AOps.nilR ?_
 rcases oite h with ⟨hc116, h⟩ | ⟨hc116, h⟩
 ·refine AW.condT (congrArg AV.bool hc116) ?_
  refine AW.sr ?_
  refine AOps.p rfl (rfl : _ = (AV.bool false)) ?_
  refine AOps.nilR ?_
  cases h
  exact AW.ret ⟨⟨_, hH74⟩, _, _, rfl, (Fin.of (p := (rB) false) .B rfl).2⟩
 refine AW.condF (congrArg AV.bool hc116) ?_
 refine AW.skip ?_
 refine AW.sr ?_
 refine AOps.p rfl (rfl : _ = (AV.int .i64 1)) ?_
 refine AOps.nilR ?_
 refine AW.sr ?_
 refine AOps.ldE (v := (AV.agg [h39])) rfl rfl rfl rfl rfl rfl ?_
 refine AOps.p rfl (rfl : _ = (AV.int .i64 1)) ?_
 obtain ⟨y117, h118, h⟩ := obind h
 have hP119 := HS.pop0 hH74
 have hF0 : AllG ([] : List (List BX → Prop)) [] := AllG.nil
 obtain ⟨Ls120, Lf121, hG122, hF123, hP124⟩ := HS.popG hP119 hG73 hF0 (j := 1) rfl
 refine AOps.callF (al := true) (g := 10) (args := [(AV.agg [h39]), (AV.int .i64 1)]) rfl rfl rfl (laws_markProgram_K10_ok ho41 (HS.enterK hP124) hF123 (HS.enterLo hP124 hl) h118 (HS.wf' hH74)) ?_
 rintro _ _ s125 ⟨Ls127, rfl, hH128, hG129⟩
 have hJ130 := HS.joinK hP124 hH128
 obtain ⟨Ls131, Lf132, hG133, hF134, hP135⟩ := HS.putG hJ130 hG122 hG129 (j := 1) rfl
 cases hF134
 have hH136 := HS.push0 hP135
 change HS [] false s s125 (([] : List BX) ++ List.flatten Ls131) at hH136
 change AllG [OS oE2 h64 k65 y55.1, OS oE60 h39 k40 y117.2] Ls131 at hG133
 refine AOps.assignR rfl rfl rfl (rfl : _ = (AV.int .i64 y117.1)) rfl ?_
 refine AOps.nilR ?_
 refine AW.seq ?_
 refine AW.sr ?_
 refine AOps.p rfl (rfl : _ = (AV.int .i64 y117.1)) ?_
 refine AOps.p rfl (rfl : _ = (AV.bool (decide ((y117.1 : Int) < 0)))) ?_
 refine AOps.p rfl (rfl : _ = (AV.bool (decide ((y117.1 : Int) < 0)))) ?_
 obtain ⟨b138, hb, h⟩ := obind h
 refine AOps.split 5 (fun f' => ∃ tm' os', f' = ⟨updL tm' [(1, (AV.str p1_6)), (2, (AV.eptr [(AV.sl z2 f3 e4)] 0)), (6, (AV.sl z30 f31 e32)), (7, (AV.int .i64 y24.2)), (9, h64), (10, (AV.int .i64 y55.2)), (63, (AV.bool b138))], updL os' [], s125⟩) ?_ ?_
 ·rcases oite hb with ⟨hc137, hb⟩ | ⟨hc137, hb⟩
  ·refine AOps.know (d := 58) rfl hc137 ?_
   refine AOps.skipR rfl rfl ?_
   refine AOps.skipR rfl rfl ?_
   refine AOps.skipR rfl rfl ?_
   refine AOps.skipR rfl rfl ?_
   refine AOps.p rfl (rfl : _ = (AV.bool true)) ?_
   refine AOps.resR [(1, (AV.str p1_6)), (2, (AV.eptr [(AV.sl z2 f3 e4)] 0)), (6, (AV.sl z30 f31 e32)), (7, (AV.int .i64 y24.2)), (9, h64), (10, (AV.int .i64 y55.2)), (63, (AV.bool b138))] [] ?_ ?_ _ ⟨_, _, rfl⟩
   ·exact ⟨rfl, rfl, rfl, rfl, rfl, rfl, congrArg AV.bool (Option.some.inj hb), trivial⟩
   exact trivial
  ·have h := hb
   refine AOps.know (d := 58) rfl hc137 ?_
   refine AOps.p rfl (rfl : _ = h64) ?_
   refine AOps.p rfl (rfl : _ = (AV.sl z30 f31 e32)) ?_
   obtain ⟨y139, h140, h⟩ := obind h
   refine AOps.lendP (g := 8) (args := [h64, (AV.sl z30 f31 e32)]) (ps := [(rL (rI .i64) 1) y55.1, (rL (rI .i64) 1) y24.1]) (p := (rB) y139) rfl rfl rfl rfl rfl rfl rfl (.cons (Fin.up (by decide) (HS.finS hH136 hG133 (j := 0) rfl Sub.here (Or.inl rfl))) (.cons (Fin.of (p := (rL (rI .i64) 1) y24.1) (.L fun _ => .I) (⟨_, _, _, rfl, h33⟩)) .nil)) (fun args' hc => by obtain ⟨_, _, rfl, hv0, hd0⟩ := Cs_cons hc; obtain ⟨z141, f142, e143, rfl, h144⟩ := hv0; obtain ⟨_, _, rfl, hv1, hd1⟩ := Cs_cons hd0; obtain ⟨z145, f146, e147, rfl, h148⟩ := hv1; cases Cs_nil hd1; exact laws_eqInt64S_okN h144 h148 h140 WF.blind) (fun v n hv => by cases hv; rfl) ?_
   intro _ h149
   cases h149
   refine AOps.p rfl (rfl : _ = (AV.bool (!y139))) ?_
   refine AOps.p rfl (rfl : _ = (AV.bool (!y139))) ?_
   refine AOps.resR [(1, (AV.str p1_6)), (2, (AV.eptr [(AV.sl z2 f3 e4)] 0)), (6, (AV.sl z30 f31 e32)), (7, (AV.int .i64 y24.2)), (9, h64), (10, (AV.int .i64 y55.2)), (63, (AV.bool b138))] [] ?_ ?_ _ ⟨_, _, rfl⟩
   ·exact ⟨rfl, rfl, rfl, rfl, rfl, rfl, congrArg AV.bool (Option.some.inj h), trivial⟩
   exact trivial
 rintro _ ⟨tm, os, rfl⟩
 refine AOps.p rfl (rfl : _ = (AV.bool b138)) ?_
 refine AOps.split 4 (fun f' => ∃ tm' os', f' = ⟨updL tm' [(1, (AV.str p1_6)), (2, (AV.eptr [(AV.sl z2 f3 e4)] 0)), (6, (AV.sl z30 f31 e32)), (7, (AV.int .i64 y24.2)), (9, h64), (68, (AV.bool (b138 || (y55.2 != y24.2))))], updL os' [], s125⟩) ?_ ?_
 ·rcases Bool.eq_false_or_eq_true b138 with hc150 | hc150
  ·refine AOps.know (d := 64) rfl hc150 ?_
   refine AOps.skipR rfl rfl ?_
   refine AOps.skipR rfl rfl ?_
   refine AOps.skipR rfl rfl ?_
   refine AOps.p rfl (rfl : _ = (AV.bool true)) ?_
   refine AOps.resR [(1, (AV.str p1_6)), (2, (AV.eptr [(AV.sl z2 f3 e4)] 0)), (6, (AV.sl z30 f31 e32)), (7, (AV.int .i64 y24.2)), (9, h64), (68, (AV.bool (b138 || (y55.2 != y24.2))))] [] ?_ ?_ _ ⟨_, _, rfl⟩
   ·exact ⟨rfl, rfl, rfl, rfl, rfl, congrArg AV.bool (or_t hc150), trivial⟩
   exact trivial
  ·refine AOps.know (d := 64) rfl hc150 ?_
   refine AOps.p rfl (rfl : _ = (AV.int .i64 y55.2)) ?_
   refine AOps.p rfl (rfl : _ = (AV.int .i64 y24.2)) ?_
   refine AOps.p rfl (rfl : _ = (AV.bool (y55.2 != y24.2))) ?_
   refine AOps.p rfl (rfl : _ = (AV.bool (y55.2 != y24.2))) ?_
   refine AOps.resR [(1, (AV.str p1_6)), (2, (AV.eptr [(AV.sl z2 f3 e4)] 0)), (6, (AV.sl z30 f31 e32)), (7, (AV.int .i64 y24.2)), (9, h64), (68, (AV.bool (b138 || (y55.2 != y24.2))))] [] ?_ ?_ _ ⟨_, _, rfl⟩
   ·exact ⟨rfl, rfl, rfl, rfl, rfl, congrArg AV.bool (or_f hc150), trivial⟩
   exact trivial
 rintro _ ⟨tm, os, rfl⟩
 refine AOps.nilR ?_
 rcases oite h with ⟨hc151, h⟩ | ⟨hc151, h⟩
 ·refine AW.condT (congrArg AV.bool hc151) ?_
  refine AW.sr ?_
  refine AOps.p rfl (rfl : _ = (AV.bool false)) ?_
  refine AOps.nilR ?_
  cases h
  exact AW.ret ⟨⟨_, hH136⟩, _, _, rfl, (Fin.of (p := (rB) false) .B rfl).2⟩
 refine AW.condF (congrArg AV.bool hc151) ?_
 refine AW.skip ?_
 refine AW.sr ?_
 refine AOps.p rfl (rfl : _ = (AV.int .i64 1)) ?_
 refine AOps.nilR ?_
 refine AW.sr ?_
 refine AOps.p rfl (rfl : _ = h64) ?_
 refine AOps.p rfl (rfl : _ = (AV.int .i64 1)) ?_
 obtain ⟨y152, h153, h⟩ := obind h
 have hP154 := HS.pop0 hH136
 have hF0 : AllG ([] : List (List BX → Prop)) [] := AllG.nil
 obtain ⟨Ls155, Lf156, hG157, hF158, hP159⟩ := HS.popG hP154 hG133 hF0 (j := 0) rfl
 refine AOps.callF (al := true) (g := 11) (args := [h64, (AV.int .i64 1)]) rfl rfl rfl (laws_markInt64S_K10_ok ho66 (HS.enterK hP159) hF158 (HS.enterLo hP159 hl) h153 (HS.wf' hH136)) ?_
 rintro _ _ s160 ⟨Ls162, rfl, hH163, hG164⟩
 have hJ165 := HS.joinK hP159 hH163
 obtain ⟨Ls166, Lf167, hG168, hF169, hP170⟩ := HS.putG hJ165 hG157 hG164 (j := 0) rfl
 cases hF169
 have hH171 := HS.push0 hP170
 change HS [] false s s160 (([] : List BX) ++ List.flatten Ls166) at hH171
 change AllG [OS oE2 h64 k65 y152.2, OS oE60 h39 k40 y117.2] Ls166 at hG168
 refine AOps.assignR rfl rfl rfl (rfl : _ = (AV.int .i64 y152.1)) rfl ?_
 refine AOps.nilR ?_
 refine AW.sr ?_
 refine AOps.p rfl (rfl : _ = (AV.int .i64 1)) ?_
 refine AOps.nilR ?_
 refine AW.sr ?_
 refine AOps.p rfl (rfl : _ = h64) ?_
 refine AOps.p rfl (rfl : _ = (AV.int .i64 1)) ?_
 obtain ⟨y172, h173, h⟩ := obind h
 refine AOps.lendP (g := 12) (args := [h64, (AV.int .i64 1)]) (ps := [(rL (rI .i64) 1) y152.2, (rI .i64) 1]) (p := (rI .i64) y172) rfl rfl rfl rfl rfl rfl rfl (.cons (Fin.up (by decide) (HS.finS hH171 hG168 (j := 0) rfl Sub.here (Or.inl rfl))) (.cons (Fin.of (p := (rI .i64) 1) .I rfl) .nil)) (fun args' hc => by obtain ⟨_, _, rfl, hv0, hd0⟩ := Cs_cons hc; obtain ⟨z174, f175, e176, rfl, h177⟩ := hv0; obtain ⟨_, _, rfl, hv1, hd1⟩ := Cs_cons hd0; cases hv1; cases Cs_nil hd1; exact laws_heldInt64S_okN h177 h173 WF.blind) (fun v n hv => by cases hv; rfl) ?_
 intro _ h178
 cases h178
 refine AOps.assignR rfl rfl rfl (rfl : _ = (AV.int .i64 y172)) rfl ?_
 refine AOps.nilR ?_
 refine AW.seq ?_
 refine AW.sr ?_
 refine AOps.p rfl (rfl : _ = (AV.int .i64 y172)) ?_
 refine AOps.p rfl (rfl : _ = (AV.bool (decide ((y172 : Int) < 0)))) ?_
 refine AOps.nilR ?_
 rcases oite h with ⟨hc179, h⟩ | ⟨hc179, h⟩
 ·refine AW.condT (congrArg AV.bool hc179) ?_
  refine AW.sr ?_
  refine AOps.p rfl (rfl : _ = (AV.bool false)) ?_
  refine AOps.nilR ?_
  cases h
  exact AW.ret ⟨⟨_, hH171⟩, _, _, rfl, (Fin.of (p := (rB) false) .B rfl).2⟩
 refine AW.condF (congrArg AV.bool hc179) ?_
 refine AW.skip ?_
 refine AW.seq ?_
 refine AW.sr ?_
 refine AOps.p rfl (rfl : _ = (AV.int .i64 y172)) ?_
 refine AOps.p rfl (rfl : _ = (AV.int .i64 y152.1)) ?_
 refine AOps.p rfl (rfl : _ = (AV.bool (y172 != y152.1))) ?_
 refine AOps.nilR ?_
 rcases oite h with ⟨hc180, h⟩ | ⟨hc180, h⟩
 ·refine AW.condT (congrArg AV.bool hc180) ?_
  refine AW.sr ?_
  refine AOps.p rfl (rfl : _ = (AV.bool false)) ?_
  refine AOps.nilR ?_
  cases h
  exact AW.ret ⟨⟨_, hH171⟩, _, _, rfl, (Fin.of (p := (rB) false) .B rfl).2⟩
 refine AW.condF (congrArg AV.bool hc180) ?_
 refine AW.skip ?_
 refine AW.sr ?_
 refine AOps.ldE (v := (AV.agg [(AV.sl z2 f3 e4)])) rfl rfl rfl rfl rfl rfl ?_
 obtain ⟨y181, h182, h⟩ := obind h
 refine AOps.callP (g := 6) (args := [(AV.agg [(AV.sl z2 f3 e4)])]) (p := (rProgramT) y181) rfl rfl rfl (laws_toProgram_ok h5 h182 (HS.wf' hH171)) ?_
 intro _ o191 h183
 obtain ⟨_, rfl, h184⟩ := h183
 obtain ⟨_, _, rfl, h185, h186⟩ := Cs_cons h184
 obtain ⟨z187, f188, e189, rfl, h190⟩ := h185
 cases Cs_nil h186
 refine AOps.p rfl (rfl : _ = (AV.str p1_6)) ?_
 obtain ⟨y192, h193, h⟩ := obind h
 refine AOps.callP (g := 7) (args := [(AV.agg [(AV.sl z187 f188 e189)]), (AV.str p1_6)]) (p := (fun x => rT [(rL (rI .i64) 1) x.1, (rI .i64) x.2]) y192) rfl rfl rfl (impl_RunOfWord_ok h190 h193 (HS.wf' hH171)) ?_
 intro _ o204 h194
 obtain ⟨_, rfl, h195⟩ := h194
 obtain ⟨_, _, rfl, h196, h197⟩ := Cs_cons h195
 obtain ⟨z198, f199, e200, rfl, h201⟩ := h196
 obtain ⟨_, _, rfl, h202, h203⟩ := Cs_cons h197
 cases h202
 cases Cs_nil h203
 refine AOps.p rfl (rfl : _ = (AV.tup [(AV.sl z198 f199 e200), (AV.int .i64 y192.2)])) ?_
 refine AOps.p rfl (rfl : _ = (AV.sl z198 f199 e200)) ?_
 refine AOps.p rfl (rfl : _ = (AV.int .i64 y192.2)) ?_
 refine AOps.assignR rfl rfl rfl (rfl : _ = (AV.sl z198 f199 e200)) rfl ?_
 refine AOps.assignR rfl rfl rfl (rfl : _ = (AV.int .i64 y192.2)) rfl ?_
 refine AOps.nilR ?_
 refine AW.seq ?_
 refine AW.sr ?_
 refine AOps.p rfl (rfl : _ = (AV.sl z198 f199 e200)) ?_
 refine AOps.p rfl (rfl : _ = (AV.sl z30 f31 e32)) ?_
 obtain ⟨y205, h206, h⟩ := obind h
 refine AOps.lendP (g := 8) (args := [(AV.sl z198 f199 e200), (AV.sl z30 f31 e32)]) (ps := [(rL (rI .i64) 1) y192.1, (rL (rI .i64) 1) y24.1]) (p := (rB) y205) rfl rfl rfl rfl rfl rfl rfl (.cons (Fin.of (p := (rL (rI .i64) 1) y192.1) (.L fun _ => .I) (⟨_, _, _, rfl, h201⟩)) (.cons (Fin.of (p := (rL (rI .i64) 1) y24.1) (.L fun _ => .I) (⟨_, _, _, rfl, h33⟩)) .nil)) (fun args' hc => by obtain ⟨_, _, rfl, hv0, hd0⟩ := Cs_cons hc; obtain ⟨z207, f208, e209, rfl, h210⟩ := hv0; obtain ⟨_, _, rfl, hv1, hd1⟩ := Cs_cons hd0; obtain ⟨z211, f212, e213, rfl, h214⟩ := hv1; cases Cs_nil hd1; exact laws_eqInt64S_okN h210 h214 h206 WF.blind) (fun v n hv => by cases hv; rfl) ?_
 intro _ h215
 cases h215
 refine AOps.p rfl (rfl : _ = (AV.bool (!y205))) ?_
 refine AOps.p rfl (rfl : _ = (AV.bool (!y205))) ?_
 refine AOps.split 4 (fun f' => ∃ tm' os', f' = ⟨updL tm' [(9, h64), (12, (AV.int .i64 y152.1)), (95, (AV.bool ((!y205) || (y192.2 != y24.2))))], updL os' [], s160⟩) ?_ ?_
 ·rcases Bool.eq_false_or_eq_true (!y205) with hc216 | hc216
  ·refine AOps.know (d := 91) rfl hc216 ?_
   refine AOps.skipR rfl rfl ?_
   refine AOps.skipR rfl rfl ?_
   refine AOps.skipR rfl rfl ?_
   refine AOps.p rfl (rfl : _ = (AV.bool true)) ?_
   refine AOps.resR [(9, h64), (12, (AV.int .i64 y152.1)), (95, (AV.bool ((!y205) || (y192.2 != y24.2))))] [] ?_ ?_ _ ⟨_, _, rfl⟩
   ·exact ⟨rfl, rfl, congrArg AV.bool (or_t hc216), trivial⟩
   exact trivial
  ·refine AOps.know (d := 91) rfl hc216 ?_
   refine AOps.p rfl (rfl : _ = (AV.int .i64 y192.2)) ?_
   refine AOps.p rfl (rfl : _ = (AV.int .i64 y24.2)) ?_
   refine AOps.p rfl (rfl : _ = (AV.bool (y192.2 != y24.2))) ?_
   refine AOps.p rfl (rfl : _ = (AV.bool (y192.2 != y24.2))) ?_
   refine AOps.resR [(9, h64), (12, (AV.int .i64 y152.1)), (95, (AV.bool ((!y205) || (y192.2 != y24.2))))] [] ?_ ?_ _ ⟨_, _, rfl⟩
   ·exact ⟨rfl, rfl, congrArg AV.bool (or_f hc216), trivial⟩
   exact trivial
 rintro _ ⟨tm, os, rfl⟩
 refine AOps.nilR ?_
 rcases oite h with ⟨hc217, h⟩ | ⟨hc217, h⟩
 ·refine AW.condT (congrArg AV.bool hc217) ?_
  refine AW.sr ?_
  refine AOps.p rfl (rfl : _ = (AV.bool false)) ?_
  refine AOps.nilR ?_
  cases h
  exact AW.ret ⟨⟨_, hH171⟩, _, _, rfl, (Fin.of (p := (rB) false) .B rfl).2⟩
 refine AW.condF (congrArg AV.bool hc217) ?_
 refine AW.skip ?_
 refine AW.sr ?_
 refine AOps.p rfl (rfl : _ = (AV.int .i64 1)) ?_
 refine AOps.nilR ?_
 refine AW.sr ?_
 refine AOps.p rfl (rfl : _ = h64) ?_
 refine AOps.p rfl (rfl : _ = (AV.int .i64 1)) ?_
 obtain ⟨y218, h219, h⟩ := obind h
 refine AOps.lendP (g := 12) (args := [h64, (AV.int .i64 1)]) (ps := [(rL (rI .i64) 1) y152.2, (rI .i64) 1]) (p := (rI .i64) y218) rfl rfl rfl rfl rfl rfl rfl (.cons (Fin.up (by decide) (HS.finS hH171 hG168 (j := 0) rfl Sub.here (Or.inl rfl))) (.cons (Fin.of (p := (rI .i64) 1) .I rfl) .nil)) (fun args' hc => by obtain ⟨_, _, rfl, hv0, hd0⟩ := Cs_cons hc; obtain ⟨z220, f221, e222, rfl, h223⟩ := hv0; obtain ⟨_, _, rfl, hv1, hd1⟩ := Cs_cons hd0; cases hv1; cases Cs_nil hd1; exact laws_heldInt64S_okN h223 h219 WF.blind) (fun v n hv => by cases hv; rfl) ?_
 intro _ h224
 cases h224
 refine AOps.assignR rfl rfl rfl (rfl : _ = (AV.int .i64 y218)) rfl ?_
 refine AOps.nilR ?_
 refine AW.seq ?_
 refine AW.sr ?_
 refine AOps.p rfl (rfl : _ = (AV.int .i64 y218)) ?_
 refine AOps.p rfl (rfl : _ = (AV.bool (decide ((y218 : Int) < 0)))) ?_
 refine AOps.nilR ?_
 rcases oite h with ⟨hc225, h⟩ | ⟨hc225, h⟩
 ·refine AW.condT (congrArg AV.bool hc225) ?_
  refine AW.sr ?_
  refine AOps.p rfl (rfl : _ = (AV.bool false)) ?_
  refine AOps.nilR ?_
  cases h
  exact AW.ret ⟨⟨_, hH171⟩, _, _, rfl, (Fin.of (p := (rB) false) .B rfl).2⟩
 refine AW.condF (congrArg AV.bool hc225) ?_
 refine AW.skip ?_
 refine AW.seq ?_
 refine AW.sr ?_
 refine AOps.p rfl (rfl : _ = (AV.int .i64 y218)) ?_
 refine AOps.p rfl (rfl : _ = (AV.int .i64 y152.1)) ?_
 refine AOps.p rfl (rfl : _ = (AV.bool (y218 != y152.1))) ?_
 refine AOps.nilR ?_
 rcases oite h with ⟨hc226, h⟩ | ⟨hc226, h⟩
 ·refine AW.condT (congrArg AV.bool hc226) ?_
  refine AW.sr ?_
  refine AOps.p rfl (rfl : _ = (AV.bool false)) ?_
  refine AOps.nilR ?_
  cases h
  exact AW.ret ⟨⟨_, hH171⟩, _, _, rfl, (Fin.of (p := (rB) false) .B rfl).2⟩
 refine AW.condF (congrArg AV.bool hc226) ?_
 refine AW.skip ?_
 refine AW.sr ?_
 refine AOps.p rfl (rfl : _ = (AV.bool true)) ?_
 refine AOps.nilR ?_
 cases h
 exact AW.ret ⟨⟨_, hH171⟩, _, _, rfl, (Fin.of (p := (rB) true) .B rfl).2⟩
end Go.Proofs.Ythnilfmdmaebfaa.law
