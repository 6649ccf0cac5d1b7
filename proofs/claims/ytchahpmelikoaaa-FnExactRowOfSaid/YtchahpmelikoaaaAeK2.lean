import Derived.Test.YtchahpmelikoaaaAeD
import Derived.Test.YtchahpmelikoaaaAe4
import Derived.Test.YtchahpmelikoaaaAeK1
set_option linter.unusedVariables false
set_option linter.unusedSimpArgs false
namespace Go.Proofs.Ytchahpmelikoaaa.law
open Go Go.Proofs Ae
set_option maxRecDepth 100000
set_option linter.unusedVariables false
theorem laws_toInt64S_K0_ok {a1 : List Int} {z2 : Nat} {f3 : Bool} {e4 : List AV} {s : St} (h5 : LR (rI .i64) 1 a1 z2 e4) {r : (List Int)} (h : laws_toInt64S_K0 a1 = some r) (hs : WF s) : ACall Cf 53 [(AV.sl z2 f3 e4)] s (fun v _ s' => ∃ (h1' : AV) (k2' : KT) (Ls' : List (List BX)), v = h1' ∧ HS [] true s s' (([] : List BX) ++ List.flatten Ls') ∧ AllG [OS oE2 h1' k2' r] Ls' ∧ h1'.one = true) true := by
 refine ACall.keepR rfl rfl rfl ?_
 have hH0 := HS.g0 (HS.initK hs)
 have hG0 := AllG.nil
 have hl : LoOK [] true s := LoOK.nil
 unfold laws_toInt64S_K0 at h
 refine AW.sr ?_
 refine AOps.p rfl (rfl : _ = (AV.sl 0 true [])) ?_
 refine AOps.nilR ?_
 refine AW.sr ?_
 refine AOps.p rfl (rfl : _ = (AV.sl z2 f3 e4)) ?_
 refine AOps.p rfl (len_eq h5) ?_
 obtain ⟨l6, h7, h⟩ := obind h
 refine AOps.mkO (e := oE2) (x0 := (0 : Int)) (fun _ => AV.undef) hH0 hG0 rfl rfl rfl rfl rfl rfl rfl ⟨rfl, rfl, by decide⟩ h7 ⟨rfl, rfl⟩ (fun _ => ⟨⟨(AV.int .i64 0), rfl, rfl⟩, rfl⟩) rfl ?_
 intro h8 k10 Ls11 s12 ho9 hG13 hH14
 change HS [] true s s12 (([] : List BX) ++ List.flatten Ls11) at hH14
 change AllG [OS oE2 h8 k10 l6] Ls11 at hG13
 refine AOps.assignR rfl rfl rfl (rfl : _ = h8) rfl ?_
 refine AOps.nilR ?_
 refine AW.seq ?_
 refine AW.sr ?_
 refine AOps.p rfl (rfl : _ = (AV.int .i64 0)) ?_
 refine AOps.nilR ?_
 refine AW.meet (σ := (List Int) × St × (List (List BX))) (fun (out15, s16, Ls17) tm os => ⟨updL tm [(3, h8)], updL os [], s16⟩) (fun (out15, s16, Ls17) => (HS [] true s s16 (([] : List BX) ++ List.flatten Ls17)) ∧ (AllG [OS oE2 h8 k10 out15] Ls17) ∧ laws_toInt64S_K0_J1 out15 = some r) ?_ ?_
 ·rintro ⟨out15, s16, Ls17⟩ tm os ⟨hH18, hG19, h⟩
  unfold laws_toInt64S_K0_J1 at h
  refine AW.sr ?_
  refine AOps.p rfl (rfl : _ = h8) ?_
  refine AOps.assignR rfl rfl rfl (rfl : _ = h8) rfl ?_
  refine AOps.nilR ?_
  cases h
  exact AW.ret ⟨_, _, rfl, ⟨h8, k10, Ls17, rfl, hH18, hG19, ho9⟩⟩
 intro KJ20
 refine AW.block ?_
 refine AW.res [(0, (AV.sl z2 f3 e4)), (3, h8), (4, (AV.int .i64 0))] [] ⟨rfl, rfl, rfl, trivial⟩ trivial ?_
 refine AW.loopF (σ := (List Int) × Int) (τ := St × (List (List BX))) (fun (out21, i22) (s23, Ls24) => (HS [] true s s23 (([] : List BX) ++ List.flatten Ls24)) ∧ (AllG [OS oE2 h8 k10 out21] Ls24)) (fun (out21, i22) (s23, Ls24) tm os => ⟨updL tm [(0, (AV.sl z2 f3 e4)), (3, h8), (4, (AV.int .i64 i22))], updL os [], s23⟩) ?_ (x := (l6, 0)) (y := (s12, Ls11)) h ⟨hH14, hG13⟩
 clear h
 rintro ⟨out21, i22⟩ ⟨s23, Ls24⟩ tm os ⟨hH25, hG26⟩ e1 h hL1 hR1
 unfold laws_toInt64S_K0_S1 at h
 dsimp only at h
 refine AW.seq ?_
 refine AW.sr ?_
 refine AOps.p rfl (rfl : _ = (AV.int .i64 i22)) ?_
 refine AOps.p rfl (rfl : _ = (AV.sl z2 f3 e4)) ?_
 refine AOps.p rfl (len_eq h5) ?_
 refine AOps.p rfl (rfl : _ = (AV.bool (decide ((i22 : Int) < (a1.length : Int))))) ?_
 refine AOps.nilR ?_
 rcases oite h with ⟨hc27, h⟩ | ⟨hc27, h⟩
 ·refine AW.condT (congrArg AV.bool hc27) ?_
  refine AW.skip ?_
  refine AW.seq ?_
  refine AW.block ?_
  refine AW.region ?_
  refine AOps.p rfl (rfl : _ = h8) ?_
  refine AOps.p rfl (rfl : _ = (AV.int .i64 i22)) ?_
  refine AOps.p rfl (rfl : _ = (AV.sl z2 f3 e4)) ?_
  refine AOps.p rfl (rfl : _ = (AV.int .i64 i22)) ?_
  obtain ⟨x28, h29, h⟩ := obind h
  obtain ⟨v32, h30, h31⟩ := idx_sl h5 h29
  cases h30
  refine AOps.pureR rfl rfl rfl h31 rfl (rfl : _ = (AV.eptr [(AV.int .i64 x28)] 0)) ?_
  refine AOps.ldE (v := (AV.int .i64 x28)) rfl rfl rfl rfl rfl rfl ?_
  obtain ⟨x35, h36, h⟩ := obind h
  refine AOps.idxO (j := 0) hG26 rfl Sub.here h36 rfl rfl rfl rfl rfl rfl rfl rfl rfl ?_
  intro b33 hb34
  refine AOps.stO (j := 0) (q := 0) (v := (AV.int .i64 x28)) (y' := x28) hH25 hG26 hl rfl Sub.here h36 hb34 rfl rfl rfl rfl rfl rfl rfl rfl (lt_b rfl) (le_b rfl) rfl (fun c B hc => oLeaf_set hc rfl) ?_
  intro Ls37 s38 hG39 hH40
  change HS [] true s s38 (([] : List BX) ++ List.flatten Ls37) at hH40
  change AllG [OS oE2 h8 k10 (out21.set (Int.toNat i22) x28)] Ls37 at hG39
  refine AOps.nilR ?_
  refine AW.inBlock ?_
  refine AW.region ?_
  refine AOps.p rfl (rfl : _ = (AV.int .i64 i22)) ?_
  refine AOps.p rfl (rfl : _ = (AV.int .i64 (IntKind.wrap .i64 (i22 + 1)))) ?_
  refine AOps.assignR rfl rfl rfl (rfl : _ = (AV.int .i64 (IntKind.wrap .i64 (i22 + 1)))) rfl ?_
  refine AOps.nilR ?_
  cases h
  exact AW.res [(0, (AV.sl z2 f3 e4)), (3, h8), (4, (AV.int .i64 (IntKind.wrap .i64 (i22 + 1))))] [] ⟨rfl, rfl, rfl, trivial⟩ trivial (hL1 _ rfl (s38, Ls37) _ _ ⟨hH40, hG39⟩)
 refine AW.condF (congrArg AV.bool hc27) ?_
 refine AW.exit rfl ?_
 obtain ⟨r41, hm, hx⟩ := omap h
 clear h
 subst hx
 have hx := hR1 _ rfl
 rw [hx] at hm
 have h := hm
 exact AW.res [(3, h8)] [] ⟨rfl, trivial⟩ trivial (KJ20 (out21, s23, Ls24) _ _ ⟨hH25, hG26, h⟩)
theorem laws_toInt64SS_K0_ok {a1 : List (List Int)} {z2 : Nat} {f3 : Bool} {e4 : List AV} {s : St} (h5 : LR (rL (rI .i64) 1) 1 a1 z2 e4) {r : (List (List Int))} (h : laws_toInt64SS_K0 a1 = some r) (hs : WF s) : ACall Cf 29 [(AV.sl z2 f3 e4)] s (fun v _ s' => ∃ (h1' : AV) (k2' : KT) (Ls' : List (List BX)), v = h1' ∧ HS [] true s s' (([] : List BX) ++ List.flatten Ls') ∧ AllG [OS oE79 h1' k2' r] Ls' ∧ h1'.one = true) true := by
 refine ACall.keepR rfl rfl rfl ?_
 have hH0 := HS.g0 (HS.initK hs)
 have hG0 := AllG.nil
 have hl : LoOK [] true s := LoOK.nil
 unfold laws_toInt64SS_K0 at h
 refine AW.sr ?_
 refine AOps.p rfl (rfl : _ = (AV.sl 0 true [])) ?_
 refine AOps.nilR ?_
 refine AW.sr ?_
 refine AOps.p rfl (rfl : _ = (AV.sl z2 f3 e4)) ?_
 refine AOps.p rfl (len_eq h5) ?_
 obtain ⟨l6, h7, h⟩ := obind h
 refine AOps.mkO (e := oE79) (x0 := (([] : List Int) : List Int)) (fun _ => AV.sl 0 true []) hH0 hG0 rfl rfl rfl rfl rfl rfl rfl ⟨rfl, rfl, by decide⟩ h7 ⟨rfl, rfl⟩ (fun _ => ⟨rfl, OS.nil (Or.inr rfl)⟩) rfl ?_
 intro h8 k10 Ls11 s12 ho9 hG13 hH14
 change HS [] true s s12 (([] : List BX) ++ List.flatten Ls11) at hH14
 change AllG [OS oE79 h8 k10 l6] Ls11 at hG13
 refine AOps.assignR rfl rfl rfl (rfl : _ = h8) rfl ?_
 refine AOps.nilR ?_
 refine AW.seq ?_
 refine AW.sr ?_
 refine AOps.p rfl (rfl : _ = (AV.int .i64 0)) ?_
 refine AOps.nilR ?_
 refine AW.meet (σ := (List (List Int)) × KT × St × (List (List BX))) (fun (out15, k16, s17, Ls18) tm os => ⟨updL tm [(3, h8)], updL os [], s17⟩) (fun (out15, k16, s17, Ls18) => (HS [] true s s17 (([] : List BX) ++ List.flatten Ls18)) ∧ (AllG [OS oE79 h8 k16 out15] Ls18) ∧ laws_toInt64SS_K0_J1 out15 = some r) ?_ ?_
 ·rintro ⟨out15, k16, s17, Ls18⟩ tm os ⟨hH19, hG20, h⟩
  unfold laws_toInt64SS_K0_J1 at h
  refine AW.sr ?_
  refine AOps.p rfl (rfl : _ = h8) ?_
  refine AOps.assignR rfl rfl rfl (rfl : _ = h8) rfl ?_
  refine AOps.nilR ?_
  cases h
  exact AW.ret ⟨_, _, rfl, ⟨h8, k16, Ls18, rfl, hH19, hG20, ho9⟩⟩
 intro KJ21
 refine AW.block ?_
 refine AW.res [(0, (AV.sl z2 f3 e4)), (3, h8), (4, (AV.int .i64 0))] [] ⟨rfl, rfl, rfl, trivial⟩ trivial ?_
 refine AW.loopF (σ := (List (List Int)) × Int) (τ := KT × St × (List (List BX))) (fun (out22, i24) (k23, s25, Ls26) => (HS [] true s s25 (([] : List BX) ++ List.flatten Ls26)) ∧ (AllG [OS oE79 h8 k23 out22] Ls26)) (fun (out22, i24) (k23, s25, Ls26) tm os => ⟨updL tm [(0, (AV.sl z2 f3 e4)), (3, h8), (4, (AV.int .i64 i24))], updL os [], s25⟩) ?_ (x := (l6, 0)) (y := (k10, s12, Ls11)) h ⟨hH14, hG13⟩
 clear h
 rintro ⟨out22, i24⟩ ⟨k23, s25, Ls26⟩ tm os ⟨hH27, hG28⟩ e1 h hL1 hR1
 unfold laws_toInt64SS_K0_S1 at h
 dsimp only at h
 refine AW.seq ?_
 refine AW.sr ?_
 refine AOps.p rfl (rfl : _ = (AV.int .i64 i24)) ?_
 refine AOps.p rfl (rfl : _ = (AV.sl z2 f3 e4)) ?_
 refine AOps.p rfl (len_eq h5) ?_
 refine AOps.p rfl (rfl : _ = (AV.bool (decide ((i24 : Int) < (a1.length : Int))))) ?_
 refine AOps.nilR ?_
 rcases oite h with ⟨hc29, h⟩ | ⟨hc29, h⟩
 ·refine AW.condT (congrArg AV.bool hc29) ?_
  refine AW.skip ?_
  refine AW.seq ?_
  refine AW.block ?_
  refine AW.region ?_
  refine AOps.p rfl (rfl : _ = h8) ?_
  refine AOps.p rfl (rfl : _ = (AV.int .i64 i24)) ?_
  refine AOps.p rfl (rfl : _ = (AV.sl z2 f3 e4)) ?_
  refine AOps.p rfl (rfl : _ = (AV.int .i64 i24)) ?_
  obtain ⟨x30, h31, h⟩ := obind h
  obtain ⟨v34, h32, h33⟩ := idx_sl h5 h31
  obtain ⟨z35, f36, e37, rfl, h38⟩ := h32
  refine AOps.pureR rfl rfl rfl h33 rfl (rfl : _ = (AV.eptr [(AV.sl z35 f36 e37)] 0)) ?_
  refine AOps.ldE (v := (AV.sl z35 f36 e37)) rfl rfl rfl rfl rfl rfl ?_
  obtain ⟨y39, h40, h⟩ := obind h
  have hP44 := HS.pop0 hH27
  refine AOps.callF (al := true) (g := 53) (args := [(AV.sl z35 f36 e37)]) rfl rfl rfl (laws_toInt64S_K0_ok h38  h40 (HS.wf' hH27)) ?_
  rintro h41 _ s45 ⟨_, k42, Ls47, rfl, hH48, hG49, ho43⟩
  have hJ50 := HS.joinK0 hP44 hH48
  obtain ⟨Ls51, Lf52, hG53, hF54, hP55⟩ := HS.pushN hJ50 hG28 hG49
  cases hF54
  have hH56 := HS.push0 hP55
  change HS [] true s s45 (([] : List BX) ++ List.flatten Ls51) at hH56
  change AllG [OS oE2 h41 k42 y39, OS oE79 h8 k23 out22] Ls51 at hG53
  obtain ⟨x59, h60, h⟩ := obind h
  refine AOps.idxO (j := 1) hG53 rfl Sub.here h60 rfl rfl rfl rfl rfl rfl rfl rfl rfl ?_
  intro b57 hb58
  refine AOps.stH (j := 1) (j2 := 0) (q := 0) (y' := y39) hH56 hG53 hl rfl rfl (by decide) h60 hb58 rfl rfl rfl rfl rfl rfl rfl (le_b rfl) rfl (fun ρ => match ρ with | [] => h41 | a :: ρ => k42 (a :: ρ)) (fun c B L2 hc hO => by obtain ⟨rfl, _⟩ := hc; exact OS.own hO) ?_
  intro k61 Ls62 s63 hG64 hH65
  change HS [] true s s63 (([] : List BX) ++ List.flatten Ls62) at hH65
  change AllG [(fun L => L = []), OS oE79 h8 k61 (out22.set (Int.toNat i24) y39)] Ls62 at hG64
  refine AOps.nilR ?_
  refine AW.inBlock ?_
  refine AW.region ?_
  refine AOps.p rfl (rfl : _ = (AV.int .i64 i24)) ?_
  refine AOps.p rfl (rfl : _ = (AV.int .i64 (IntKind.wrap .i64 (i24 + 1)))) ?_
  refine AOps.assignR rfl rfl rfl (rfl : _ = (AV.int .i64 (IntKind.wrap .i64 (i24 + 1)))) rfl ?_
  refine AOps.nilR ?_
  cases h
  obtain ⟨Ls66, hG67, hH68⟩ := HS.selEG hH65 hG64 [] [some 1]
  change HS [] true s s63 (([] : List BX) ++ List.flatten Ls66) at hH68
  change AllG [OS oE79 h8 k61 (out22.set (Int.toNat i24) y39)] Ls66 at hG67
  exact AW.res [(0, (AV.sl z2 f3 e4)), (3, h8), (4, (AV.int .i64 (IntKind.wrap .i64 (i24 + 1))))] [] ⟨rfl, rfl, rfl, trivial⟩ trivial (hL1 _ rfl (k61, s63, Ls66) _ _ ⟨hH68, hG67⟩)
 refine AW.condF (congrArg AV.bool hc29) ?_
 refine AW.exit rfl ?_
 obtain ⟨r69, hm, hx⟩ := omap h
 clear h
 subst hx
 have hx := hR1 _ rfl
 rw [hx] at hm
 have h := hm
 exact AW.res [(3, h8)] [] ⟨rfl, trivial⟩ trivial (KJ21 (out22, k23, s25, Ls26) _ _ ⟨hH27, hG28, h⟩)
theorem laws_toInt64SSS_K0_ok {a1 : List (List (List Int))} {z2 : Nat} {f3 : Bool} {e4 : List AV} {s : St} (h5 : LR (rL (rL (rI .i64) 1) 1) 1 a1 z2 e4) {r : (List (List (List Int)))} (h : laws_toInt64SSS_K0 a1 = some r) (hs : WF s) : ACall Cf 28 [(AV.sl z2 f3 e4)] s (fun v _ s' => ∃ (h1' : AV) (k2' : KT) (Ls' : List (List BX)), v = h1' ∧ HS [] true s s' (([] : List BX) ++ List.flatten Ls') ∧ AllG [OS oE25 h1' k2' r] Ls' ∧ h1'.one = true) true := by
 refine ACall.keepR rfl rfl rfl ?_
 have hH0 := HS.g0 (HS.initK hs)
 have hG0 := AllG.nil
 have hl : LoOK [] true s := LoOK.nil
 unfold laws_toInt64SSS_K0 at h
 refine AW.sr ?_
 refine AOps.p rfl (rfl : _ = (AV.sl 0 true [])) ?_
 refine AOps.nilR ?_
 refine AW.sr ?_
 refine AOps.p rfl (rfl : _ = (AV.sl z2 f3 e4)) ?_
 refine AOps.p rfl (len_eq h5) ?_
 obtain ⟨l6, h7, h⟩ := obind h
 refine AOps.mkO (e := oE25) (x0 := (([] : List (List Int)) : List (List Int))) (fun _ => AV.sl 0 true []) hH0 hG0 rfl rfl rfl rfl rfl rfl rfl ⟨rfl, rfl, by decide⟩ h7 ⟨rfl, rfl⟩ (fun _ => ⟨rfl, OS.nil (Or.inr rfl)⟩) rfl ?_
 intro h8 k10 Ls11 s12 ho9 hG13 hH14
 change HS [] true s s12 (([] : List BX) ++ List.flatten Ls11) at hH14
 change AllG [OS oE25 h8 k10 l6] Ls11 at hG13
 refine AOps.assignR rfl rfl rfl (rfl : _ = h8) rfl ?_
 refine AOps.nilR ?_
 refine AW.seq ?_
 refine AW.sr ?_
 refine AOps.p rfl (rfl : _ = (AV.int .i64 0)) ?_
 refine AOps.nilR ?_
 refine AW.meet (σ := (List (List (List Int))) × KT × St × (List (List BX))) (fun (out15, k16, s17, Ls18) tm os => ⟨updL tm [(3, h8)], updL os [], s17⟩) (fun (out15, k16, s17, Ls18) => (HS [] true s s17 (([] : List BX) ++ List.flatten Ls18)) ∧ (AllG [OS oE25 h8 k16 out15] Ls18) ∧ laws_toInt64SSS_K0_J1 out15 = some r) ?_ ?_
 ·rintro ⟨out15, k16, s17, Ls18⟩ tm os ⟨hH19, hG20, h⟩
  unfold laws_toInt64SSS_K0_J1 at h
  refine AW.sr ?_
  refine AOps.p rfl (rfl : _ = h8) ?_
  refine AOps.assignR rfl rfl rfl (rfl : _ = h8) rfl ?_
  refine AOps.nilR ?_
  cases h
  exact AW.ret ⟨_, _, rfl, ⟨h8, k16, Ls18, rfl, hH19, hG20, ho9⟩⟩
 intro KJ21
 refine AW.block ?_
 refine AW.res [(0, (AV.sl z2 f3 e4)), (3, h8), (4, (AV.int .i64 0))] [] ⟨rfl, rfl, rfl, trivial⟩ trivial ?_
 refine AW.loopF (σ := (List (List (List Int))) × Int) (τ := KT × St × (List (List BX))) (fun (out22, i24) (k23, s25, Ls26) => (HS [] true s s25 (([] : List BX) ++ List.flatten Ls26)) ∧ (AllG [OS oE25 h8 k23 out22] Ls26)) (fun (out22, i24) (k23, s25, Ls26) tm os => ⟨updL tm [(0, (AV.sl z2 f3 e4)), (3, h8), (4, (AV.int .i64 i24))], updL os [], s25⟩) ?_ (x := (l6, 0)) (y := (k10, s12, Ls11)) h ⟨hH14, hG13⟩
 clear h
 rintro ⟨out22, i24⟩ ⟨k23, s25, Ls26⟩ tm os ⟨hH27, hG28⟩ e1 h hL1 hR1
 unfold laws_toInt64SSS_K0_S1 at h
 dsimp only at h
 refine AW.seq ?_
 refine AW.sr ?_
 refine AOps.p rfl (rfl : _ = (AV.int .i64 i24)) ?_
 refine AOps.p rfl (rfl : _ = (AV.sl z2 f3 e4)) ?_
 refine AOps.p rfl (len_eq h5) ?_
 refine AOps.p rfl (rfl : _ = (AV.bool (decide ((i24 : Int) < (a1.length : Int))))) ?_
 refine AOps.nilR ?_
 rcases oite h with ⟨hc29, h⟩ | ⟨hc29, h⟩
 ·refine AW.condT (congrArg AV.bool hc29) ?_
  refine AW.skip ?_
  refine AW.seq ?_
  refine AW.block ?_
  refine AW.region ?_
  refine AOps.p rfl (rfl : _ = h8) ?_
  refine AOps.p rfl (rfl : _ = (AV.int .i64 i24)) ?_
  refine AOps.p rfl (rfl : _ = (AV.sl z2 f3 e4)) ?_
  refine AOps.p rfl (rfl : _ = (AV.int .i64 i24)) ?_
  obtain ⟨x30, h31, h⟩ := obind h
  obtain ⟨v34, h32, h33⟩ := idx_sl h5 h31
  obtain ⟨z35, f36, e37, rfl, h38⟩ := h32
  refine AOps.pureR rfl rfl rfl h33 rfl (rfl : _ = (AV.eptr [(AV.sl z35 f36 e37)] 0)) ?_
  refine AOps.ldE (v := (AV.sl z35 f36 e37)) rfl rfl rfl rfl rfl rfl ?_
  obtain ⟨y39, h40, h⟩ := obind h
  have hP44 := HS.pop0 hH27
  refine AOps.callF (al := true) (g := 29) (args := [(AV.sl z35 f36 e37)]) rfl rfl rfl (laws_toInt64SS_K0_ok h38  h40 (HS.wf' hH27)) ?_
  rintro h41 _ s45 ⟨_, k42, Ls47, rfl, hH48, hG49, ho43⟩
  have hJ50 := HS.joinK0 hP44 hH48
  obtain ⟨Ls51, Lf52, hG53, hF54, hP55⟩ := HS.pushN hJ50 hG28 hG49
  cases hF54
  have hH56 := HS.push0 hP55
  change HS [] true s s45 (([] : List BX) ++ List.flatten Ls51) at hH56
  change AllG [OS oE79 h41 k42 y39, OS oE25 h8 k23 out22] Ls51 at hG53
  obtain ⟨x59, h60, h⟩ := obind h
  refine AOps.idxO (j := 1) hG53 rfl Sub.here h60 rfl rfl rfl rfl rfl rfl rfl rfl rfl ?_
  intro b57 hb58
  refine AOps.stH (j := 1) (j2 := 0) (q := 0) (y' := y39) hH56 hG53 hl rfl rfl (by decide) h60 hb58 rfl rfl rfl rfl rfl rfl rfl (le_b rfl) rfl (fun ρ => match ρ with | [] => h41 | a :: ρ => k42 (a :: ρ)) (fun c B L2 hc hO => by obtain ⟨rfl, _⟩ := hc; exact OS.own hO) ?_
  intro k61 Ls62 s63 hG64 hH65
  change HS [] true s s63 (([] : List BX) ++ List.flatten Ls62) at hH65
  change AllG [(fun L => L = []), OS oE25 h8 k61 (out22.set (Int.toNat i24) y39)] Ls62 at hG64
  refine AOps.nilR ?_
  refine AW.inBlock ?_
  refine AW.region ?_
  refine AOps.p rfl (rfl : _ = (AV.int .i64 i24)) ?_
  refine AOps.p rfl (rfl : _ = (AV.int .i64 (IntKind.wrap .i64 (i24 + 1)))) ?_
  refine AOps.assignR rfl rfl rfl (rfl : _ = (AV.int .i64 (IntKind.wrap .i64 (i24 + 1)))) rfl ?_
  refine AOps.nilR ?_
  cases h
  obtain ⟨Ls66, hG67, hH68⟩ := HS.selEG hH65 hG64 [] [some 1]
  change HS [] true s s63 (([] : List BX) ++ List.flatten Ls66) at hH68
  change AllG [OS oE25 h8 k61 (out22.set (Int.toNat i24) y39)] Ls66 at hG67
  exact AW.res [(0, (AV.sl z2 f3 e4)), (3, h8), (4, (AV.int .i64 (IntKind.wrap .i64 (i24 + 1))))] [] ⟨rfl, rfl, rfl, trivial⟩ trivial (hL1 _ rfl (k61, s63, Ls66) _ _ ⟨hH68, hG67⟩)
 refine AW.condF (congrArg AV.bool hc29) ?_
 refine AW.exit rfl ?_
 obtain ⟨r69, hm, hx⟩ := omap h
 clear h
 subst hx
 have hx := hR1 _ rfl
 rw [hx] at hm
 have h := hm
 exact AW.res [(3, h8)] [] ⟨rfl, trivial⟩ trivial (KJ21 (out22, k23, s25, Ls26) _ _ ⟨hH27, hG28, h⟩)
theorem laws_toChecker_K0_ok {a1 : Checker} {z2 : Nat} {f3 : Bool} {e4 : List AV} {z6 : Nat} {f7 : Bool} {e8 : List AV} {z10 : Nat} {f11 : Bool} {e12 : List AV} {z14 : Nat} {f15 : Bool} {e16 : List AV} {s : St} (h5 : LR rB 1 a1.Accept z2 e4) (h9 : LR (rL rPush 2) 1 a1.Call z6 e8) (h13 : LR (rL (rL (rI .i64) 1) 1) 1 a1.Return z10 e12) (h17 : LR (rL (rI .i64) 1) 1 a1.Inner z14 e16) {r : Checker} (h : laws_toChecker_K0 a1 = some r) (hs : WF s) : ACall Cf 7 [(AV.agg [(AV.int .i64 a1.Stack), (AV.int .i64 a1.Start), (AV.sl z2 f3 e4), (AV.sl z6 f7 e8), (AV.sl z10 f11 e12), (AV.sl z14 f15 e16)])] s (fun v _ s' => ∃ (h1' : AV) (k2' : KT) (h4' : AV) (k5' : KT) (h7' : AV) (k8' : KT) (h10' : AV) (k11' : KT) (Ls' : List (List BX)), v = (AV.agg [(AV.int .i64 r.Stack), (AV.int .i64 r.Start), h1', h4', h7', h10']) ∧ HS [] true s s' (([] : List BX) ++ List.flatten Ls') ∧ AllG [OS oE4 h1' k2' r.Accept, OS oE81 h4' k5' r.Call, OS oE25 h7' k8' r.Return, OS oE79 h10' k11' r.Inner] Ls' ∧ h1'.one = true ∧ h4'.one = true ∧ h7'.one = true ∧ h10'.one = true) true := by
 refine ACall.keepR rfl rfl rfl ?_
 have hH0 := HS.g0 (HS.initK hs)
 have hG0 := AllG.nil
 have hl : LoOK [] true s := LoOK.nil
 unfold laws_toChecker_K0 at h
 refine AW.sr ?_
 refine AOps.makeR rfl rfl rfl rfl rfl rfl (rfl : _ = (AV.eptr [(AV.int .i64 a1.Stack), (AV.int .i64 a1.Start), (AV.sl z2 f3 e4), (AV.sl z6 f7 e8), (AV.sl z10 f11 e12), (AV.sl z14 f15 e16)] 0)) ?_
 refine AOps.allocP rfl rfl rfl rfl ⟨rfl, rfl⟩ rfl ?_
 refine AOps.nilR ?_
 refine AW.sr ?_
 refine AOps.alloc1 hH0 rfl rfl rfl rfl rfl rfl ?_
 intro b18 s19 hH20
 change HS [] true s s19 (([⟨some b18, [(AV.int .i64 0), (AV.int .i64 0), (AV.sl 0 true []), (AV.sl 0 true []), (AV.sl 0 true []), (AV.sl 0 true [])], (fun _ => false)⟩] : List BX) ++ List.flatten ([] : List (List BX))) at hH20
 refine AOps.nilR ?_
 refine AW.sr ?_
 refine AOps.p rfl (rfl : _ = (AV.eptr [(AV.int .i64 a1.Stack), (AV.int .i64 a1.Start), (AV.sl z2 f3 e4), (AV.sl z6 f7 e8), (AV.sl z10 f11 e12), (AV.sl z14 f15 e16)] 0)) ?_
 refine AOps.ldE (v := (AV.int .i64 a1.Stack)) rfl rfl rfl rfl rfl rfl ?_
 refine AOps.p rfl (rfl : _ = (AV.ptr b18 0)) ?_
 refine AOps.stE (i := 0) (v := (AV.int .i64 a1.Stack)) hH20 hl rfl rfl rfl rfl rfl rfl rfl rfl rfl (lt_b rfl) (le_b rfl) rfl ?_
 intro w21 s22 h23 h24 hH25
 change HS [] true s s22 (([⟨some b18, [(AV.int .i64 a1.Stack), (AV.int .i64 0), (AV.sl 0 true []), (AV.sl 0 true []), (AV.sl 0 true []), (AV.sl 0 true [])], w21⟩] : List BX) ++ List.flatten ([] : List (List BX))) at hH25
 refine AOps.nilR ?_
 refine AW.sr ?_
 refine AOps.p rfl (rfl : _ = (AV.eptr [(AV.int .i64 a1.Stack), (AV.int .i64 a1.Start), (AV.sl z2 f3 e4), (AV.sl z6 f7 e8), (AV.sl z10 f11 e12), (AV.sl z14 f15 e16)] 1)) ?_
 refine AOps.ldE (v := (AV.int .i64 a1.Start)) rfl rfl rfl rfl rfl rfl ?_
 refine AOps.p rfl (rfl : _ = (AV.ptr b18 1)) ?_
 refine AOps.stE (i := 0) (v := (AV.int .i64 a1.Start)) hH25 hl rfl rfl rfl rfl rfl rfl rfl rfl rfl (lt_b rfl) (le_b rfl) rfl ?_
 intro w26 s27 h28 h29 hH30
 change HS [] true s s27 (([⟨some b18, [(AV.int .i64 a1.Stack), (AV.int .i64 a1.Start), (AV.sl 0 true []), (AV.sl 0 true []), (AV.sl 0 true []), (AV.sl 0 true [])], w26⟩] : List BX) ++ List.flatten ([] : List (List BX))) at hH30
 refine AOps.nilR ?_
 refine AW.sr ?_
 refine AOps.p rfl (rfl : _ = (AV.eptr [(AV.int .i64 a1.Stack), (AV.int .i64 a1.Start), (AV.sl z2 f3 e4), (AV.sl z6 f7 e8), (AV.sl z10 f11 e12), (AV.sl z14 f15 e16)] 2)) ?_
 refine AOps.ldE (v := (AV.sl z2 f3 e4)) rfl rfl rfl rfl rfl rfl ?_
 obtain ⟨y31, h32, h⟩ := obind h
 have hP36 := HS.pop0 hH30
 refine AOps.callF (al := true) (g := 26) (args := [(AV.sl z2 f3 e4)]) rfl rfl rfl (laws_toBoolS_K0_ok h5  h32 (HS.wf' hH30)) ?_
 rintro h33 _ s37 ⟨_, k34, Ls39, rfl, hH40, hG41, ho35⟩
 have hJ42 := HS.joinK0 hP36 hH40
 obtain ⟨Ls43, Lf44, hG45, hF46, hP47⟩ := HS.pushN hJ42 hG0 hG41
 cases hF46
 have hH48 := HS.push0 hP47
 change HS [] true s s37 (([⟨some b18, [(AV.int .i64 a1.Stack), (AV.int .i64 a1.Start), (AV.sl 0 true []), (AV.sl 0 true []), (AV.sl 0 true []), (AV.sl 0 true [])], w26⟩] : List BX) ++ List.flatten Ls43) at hH48
 change AllG [OS oE4 h33 k34 y31] Ls43 at hG45
 refine AOps.p rfl (rfl : _ = (AV.ptr b18 2)) ?_
 refine AOps.stE (i := 0) (v := h33) hH48 hl rfl rfl rfl rfl rfl rfl rfl (one_lay ho35) (one_len ho35) (lt_b rfl) (le_b rfl) rfl ?_
 intro w49 s50 h51 h52 hH53
 rw [AV.cells_one ho35] at hH53
 change HS [] true s s50 (([⟨some b18, [(AV.int .i64 a1.Stack), (AV.int .i64 a1.Start), h33, (AV.sl 0 true []), (AV.sl 0 true []), (AV.sl 0 true [])], w49⟩] : List BX) ++ List.flatten Ls43) at hH53
 refine AOps.nilR ?_
 refine AW.sr ?_
 refine AOps.p rfl (rfl : _ = (AV.eptr [(AV.int .i64 a1.Stack), (AV.int .i64 a1.Start), (AV.sl z2 f3 e4), (AV.sl z6 f7 e8), (AV.sl z10 f11 e12), (AV.sl z14 f15 e16)] 3)) ?_
 refine AOps.ldE (v := (AV.sl z6 f7 e8)) rfl rfl rfl rfl rfl rfl ?_
 obtain ⟨y54, h55, h⟩ := obind h
 have hP59 := HS.pop0 hH53
 refine AOps.callF (al := true) (g := 27) (args := [(AV.sl z6 f7 e8)]) rfl rfl rfl (laws_toPushSS_K0_ok h9  h55 (HS.wf' hH53)) ?_
 rintro h56 _ s60 ⟨_, k57, Ls62, rfl, hH63, hG64, ho58⟩
 have hJ65 := HS.joinK0 hP59 hH63
 obtain ⟨Ls66, Lf67, hG68, hF69, hP70⟩ := HS.pushN hJ65 hG45 hG64
 cases hF69
 have hH71 := HS.push0 hP70
 change HS [] true s s60 (([⟨some b18, [(AV.int .i64 a1.Stack), (AV.int .i64 a1.Start), h33, (AV.sl 0 true []), (AV.sl 0 true []), (AV.sl 0 true [])], w49⟩] : List BX) ++ List.flatten Ls66) at hH71
 change AllG [OS oE81 h56 k57 y54, OS oE4 h33 k34 y31] Ls66 at hG68
 refine AOps.p rfl (rfl : _ = (AV.ptr b18 3)) ?_
 refine AOps.stE (i := 0) (v := h56) hH71 hl rfl rfl rfl rfl rfl rfl rfl (one_lay ho58) (one_len ho58) (lt_b rfl) (le_b rfl) rfl ?_
 intro w72 s73 h74 h75 hH76
 rw [AV.cells_one ho58] at hH76
 change HS [] true s s73 (([⟨some b18, [(AV.int .i64 a1.Stack), (AV.int .i64 a1.Start), h33, h56, (AV.sl 0 true []), (AV.sl 0 true [])], w72⟩] : List BX) ++ List.flatten Ls66) at hH76
 refine AOps.nilR ?_
 refine AW.sr ?_
 refine AOps.p rfl (rfl : _ = (AV.eptr [(AV.int .i64 a1.Stack), (AV.int .i64 a1.Start), (AV.sl z2 f3 e4), (AV.sl z6 f7 e8), (AV.sl z10 f11 e12), (AV.sl z14 f15 e16)] 4)) ?_
 refine AOps.ldE (v := (AV.sl z10 f11 e12)) rfl rfl rfl rfl rfl rfl ?_
 obtain ⟨y77, h78, h⟩ := obind h
 have hP82 := HS.pop0 hH76
 refine AOps.callF (al := true) (g := 28) (args := [(AV.sl z10 f11 e12)]) rfl rfl rfl (laws_toInt64SSS_K0_ok h13  h78 (HS.wf' hH76)) ?_
 rintro h79 _ s83 ⟨_, k80, Ls85, rfl, hH86, hG87, ho81⟩
 have hJ88 := HS.joinK0 hP82 hH86
 obtain ⟨Ls89, Lf90, hG91, hF92, hP93⟩ := HS.pushN hJ88 hG68 hG87
 cases hF92
 have hH94 := HS.push0 hP93
 change HS [] true s s83 (([⟨some b18, [(AV.int .i64 a1.Stack), (AV.int .i64 a1.Start), h33, h56, (AV.sl 0 true []), (AV.sl 0 true [])], w72⟩] : List BX) ++ List.flatten Ls89) at hH94
 change AllG [OS oE25 h79 k80 y77, OS oE81 h56 k57 y54, OS oE4 h33 k34 y31] Ls89 at hG91
 refine AOps.p rfl (rfl : _ = (AV.ptr b18 4)) ?_
 refine AOps.stE (i := 0) (v := h79) hH94 hl rfl rfl rfl rfl rfl rfl rfl (one_lay ho81) (one_len ho81) (lt_b rfl) (le_b rfl) rfl ?_
 intro w95 s96 h97 h98 hH99
 rw [AV.cells_one ho81] at hH99
 change HS [] true s s96 (([⟨some b18, [(AV.int .i64 a1.Stack), (AV.int .i64 a1.Start), h33, h56, h79, (AV.sl 0 true [])], w95⟩] : List BX) ++ List.flatten Ls89) at hH99
 refine AOps.nilR ?_
 refine AW.sr ?_
 refine AOps.p rfl (rfl : _ = (AV.eptr [(AV.int .i64 a1.Stack), (AV.int .i64 a1.Start), (AV.sl z2 f3 e4), (AV.sl z6 f7 e8), (AV.sl z10 f11 e12), (AV.sl z14 f15 e16)] 5)) ?_
 refine AOps.ldE (v := (AV.sl z14 f15 e16)) rfl rfl rfl rfl rfl rfl ?_
 obtain ⟨y100, h101, h⟩ := obind h
 have hP105 := HS.pop0 hH99
 refine AOps.callF (al := true) (g := 29) (args := [(AV.sl z14 f15 e16)]) rfl rfl rfl (laws_toInt64SS_K0_ok h17  h101 (HS.wf' hH99)) ?_
 rintro h102 _ s106 ⟨_, k103, Ls108, rfl, hH109, hG110, ho104⟩
 have hJ111 := HS.joinK0 hP105 hH109
 obtain ⟨Ls112, Lf113, hG114, hF115, hP116⟩ := HS.pushN hJ111 hG91 hG110
 cases hF115
 have hH117 := HS.push0 hP116
 change HS [] true s s106 (([⟨some b18, [(AV.int .i64 a1.Stack), (AV.int .i64 a1.Start), h33, h56, h79, (AV.sl 0 true [])], w95⟩] : List BX) ++ List.flatten Ls112) at hH117
 change AllG [OS oE79 h102 k103 y100, OS oE25 h79 k80 y77, OS oE81 h56 k57 y54, OS oE4 h33 k34 y31] Ls112 at hG114
 refine AOps.p rfl (rfl : _ = (AV.ptr b18 5)) ?_
 refine AOps.stE (i := 0) (v := h102) hH117 hl rfl rfl rfl rfl rfl rfl rfl (one_lay ho104) (one_len ho104) (lt_b rfl) (le_b rfl) rfl ?_
 intro w118 s119 h120 h121 hH122
 rw [AV.cells_one ho104] at hH122
 change HS [] true s s119 (([⟨some b18, [(AV.int .i64 a1.Stack), (AV.int .i64 a1.Start), h33, h56, h79, h102], w118⟩] : List BX) ++ List.flatten Ls112) at hH122
 refine AOps.nilR ?_
 refine AW.sr ?_
 refine AOps.ldB (i := 0) (v := (AV.agg [(AV.int .i64 a1.Stack), (AV.int .i64 a1.Start), h33, h56, h79, h102])) hH122 rfl rfl rfl rfl rfl rfl rfl rfl rfl ?_
 refine AOps.stP (v := (AV.agg [(AV.int .i64 a1.Stack), (AV.int .i64 a1.Start), h33, h56, h79, h102])) rfl rfl rfl rfl rfl rfl rfl (lay_cons rfl (lay_cons rfl (lay_cons ho35 (lay_cons ho58 (lay_cons ho81 (lay_cons ho104 lay_nil)))))) rfl (lt_b rfl) rfl ?_
 refine AOps.nilR ?_
 cases h
 obtain ⟨Ls123, hG124, hH125⟩ := HS.selEG hH122 hG114 [] [some 3, some 2, some 1, some 0]
 exact AW.ret ⟨_, _, rfl, ⟨h33, k34, h56, k57, h79, k80, h102, k103, Ls123, rfl, hH125, hG124, ho35, ho58, ho81, ho104⟩⟩
theorem laws_toContextS_K0_ok {a1 : List Context} {z2 : Nat} {f3 : Bool} {e4 : List AV} {s : St} (h5 : LR rContext 2 a1 z2 e4) {r : (List Context)} (h : laws_toContextS_K0 a1 = some r) (hs : WF s) : ACall Cf 8 [(AV.sl z2 f3 e4)] s (fun v _ s' => ∃ (h1' : AV) (k2' : KT) (Ls' : List (List BX)), v = h1' ∧ HS [] true s s' (([] : List BX) ++ List.flatten Ls') ∧ AllG [OS oE55 h1' k2' r] Ls' ∧ h1'.one = true) true := by
 refine ACall.keepR rfl rfl rfl ?_
 have hH0 := HS.g0 (HS.initK hs)
 have hG0 := AllG.nil
 have hl : LoOK [] true s := LoOK.nil
 unfold laws_toContextS_K0 at h
 refine AW.sr ?_
 refine AOps.p rfl (rfl : _ = (AV.sl 0 true [])) ?_
 refine AOps.nilR ?_
 refine AW.sr ?_
 refine AOps.p rfl (rfl : _ = (AV.sl z2 f3 e4)) ?_
 refine AOps.p rfl (len_eq h5) ?_
 obtain ⟨l6, h7, h⟩ := obind h
 refine AOps.mkO (e := oE55) (x0 := ((⟨([] : List UInt8), ([] : List UInt8)⟩ : Context) : Context)) (fun _ => AV.undef) hH0 hG0 rfl rfl rfl rfl rfl rfl rfl ⟨rfl, rfl, by decide⟩ h7 ⟨rfl, rfl⟩ (fun _ => ⟨⟨(AV.agg [(AV.str ([] : List UInt8)), (AV.str ([] : List UInt8))]), ⟨_, rfl, (.cons rfl (.cons rfl .nil))⟩, rfl⟩, rfl⟩) rfl ?_
 intro h8 k10 Ls11 s12 ho9 hG13 hH14
 change HS [] true s s12 (([] : List BX) ++ List.flatten Ls11) at hH14
 change AllG [OS oE55 h8 k10 l6] Ls11 at hG13
 refine AOps.assignR rfl rfl rfl (rfl : _ = h8) rfl ?_
 refine AOps.nilR ?_
 refine AW.seq ?_
 refine AW.sr ?_
 refine AOps.p rfl (rfl : _ = (AV.int .i64 0)) ?_
 refine AOps.nilR ?_
 refine AW.meet (σ := (List Context) × St × (List (List BX))) (fun (out15, s16, Ls17) tm os => ⟨updL tm [(3, h8)], updL os [], s16⟩) (fun (out15, s16, Ls17) => (HS [] true s s16 (([] : List BX) ++ List.flatten Ls17)) ∧ (AllG [OS oE55 h8 k10 out15] Ls17) ∧ laws_toContextS_K0_J1 out15 = some r) ?_ ?_
 ·rintro ⟨out15, s16, Ls17⟩ tm os ⟨hH18, hG19, h⟩
  unfold laws_toContextS_K0_J1 at h
  refine AW.sr ?_
  refine AOps.p rfl (rfl : _ = h8) ?_
  refine AOps.assignR rfl rfl rfl (rfl : _ = h8) rfl ?_
  refine AOps.nilR ?_
  cases h
  exact AW.ret ⟨_, _, rfl, ⟨h8, k10, Ls17, rfl, hH18, hG19, ho9⟩⟩
 intro KJ20
 refine AW.block ?_
 refine AW.res [(0, (AV.sl z2 f3 e4)), (3, h8), (4, (AV.int .i64 0))] [] ⟨rfl, rfl, rfl, trivial⟩ trivial ?_
 refine AW.loopF (σ := (List Context) × Int) (τ := St × (List (List BX))) (fun (out21, i22) (s23, Ls24) => (HS [] true s s23 (([] : List BX) ++ List.flatten Ls24)) ∧ (AllG [OS oE55 h8 k10 out21] Ls24)) (fun (out21, i22) (s23, Ls24) tm os => ⟨updL tm [(0, (AV.sl z2 f3 e4)), (3, h8), (4, (AV.int .i64 i22))], updL os [], s23⟩) ?_ (x := (l6, 0)) (y := (s12, Ls11)) h ⟨hH14, hG13⟩
 clear h
 rintro ⟨out21, i22⟩ ⟨s23, Ls24⟩ tm os ⟨hH25, hG26⟩ e1 h hL1 hR1
 unfold laws_toContextS_K0_S1 at h
 dsimp only at h
 refine AW.seq ?_
 refine AW.sr ?_
 refine AOps.p rfl (rfl : _ = (AV.int .i64 i22)) ?_
 refine AOps.p rfl (rfl : _ = (AV.sl z2 f3 e4)) ?_
 refine AOps.p rfl (len_eq h5) ?_
 refine AOps.p rfl (rfl : _ = (AV.bool (decide ((i22 : Int) < (a1.length : Int))))) ?_
 refine AOps.nilR ?_
 rcases oite h with ⟨hc27, h⟩ | ⟨hc27, h⟩
 ·refine AW.condT (congrArg AV.bool hc27) ?_
  refine AW.skip ?_
  refine AW.seq ?_
  refine AW.block ?_
  refine AW.region ?_
  refine AOps.p rfl (rfl : _ = h8) ?_
  refine AOps.p rfl (rfl : _ = (AV.int .i64 i22)) ?_
  refine AOps.p rfl (rfl : _ = (AV.sl z2 f3 e4)) ?_
  refine AOps.p rfl (rfl : _ = (AV.int .i64 i22)) ?_
  obtain ⟨x28, h29, h⟩ := obind h
  obtain ⟨v32, h30, h31⟩ := idx_sl h5 h29
  obtain ⟨_, rfl, h33⟩ := h30
  obtain ⟨_, _, rfl, h34, h35⟩ := Cs_cons h33
  cases h34
  obtain ⟨_, _, rfl, h36, h37⟩ := Cs_cons h35
  cases h36
  cases Cs_nil h37
  refine AOps.pureR rfl rfl rfl h31 rfl (rfl : _ = (AV.eptr [(AV.str x28.Front), (AV.str x28.Back)] 0)) ?_
  refine AOps.ldE (v := (AV.agg [(AV.str x28.Front), (AV.str x28.Back)])) rfl rfl rfl rfl rfl rfl ?_
  obtain ⟨y38, h39, h⟩ := obind h
  refine AOps.callP (g := 30) (args := [(AV.agg [(AV.str x28.Front), (AV.str x28.Back)])]) (p := (rContext) y38) rfl rfl rfl (laws_toContext_ok  h39 (HS.wf' hH25)) ?_
  intro _ o46 h40
  obtain ⟨_, rfl, h41⟩ := h40
  obtain ⟨_, _, rfl, h42, h43⟩ := Cs_cons h41
  cases h42
  obtain ⟨_, _, rfl, h44, h45⟩ := Cs_cons h43
  cases h44
  cases Cs_nil h45
  obtain ⟨x49, h50, h⟩ := obind h
  refine AOps.idxO (j := 0) hG26 rfl Sub.here h50 rfl rfl rfl rfl rfl rfl rfl rfl rfl ?_
  intro b47 hb48
  refine AOps.stO (j := 0) (q := 0) (v := (AV.agg [(AV.str y38.Front), (AV.str y38.Back)])) (y' := y38) hH25 hG26 hl rfl Sub.here h50 hb48 rfl rfl rfl rfl rfl rfl rfl rfl (lt_b rfl) (le_b rfl) rfl (fun c B hc => oLeaf_set hc ⟨_, rfl, (.cons rfl (.cons rfl .nil))⟩) ?_
  intro Ls51 s52 hG53 hH54
  change HS [] true s s52 (([] : List BX) ++ List.flatten Ls51) at hH54
  change AllG [OS oE55 h8 k10 (out21.set (Int.toNat i22) y38)] Ls51 at hG53
  refine AOps.nilR ?_
  refine AW.inBlock ?_
  refine AW.region ?_
  refine AOps.p rfl (rfl : _ = (AV.int .i64 i22)) ?_
  refine AOps.p rfl (rfl : _ = (AV.int .i64 (IntKind.wrap .i64 (i22 + 1)))) ?_
  refine AOps.assignR rfl rfl rfl (rfl : _ = (AV.int .i64 (IntKind.wrap .i64 (i22 + 1)))) rfl ?_
  refine AOps.nilR ?_
  cases h
  exact AW.res [(0, (AV.sl z2 f3 e4)), (3, h8), (4, (AV.int .i64 (IntKind.wrap .i64 (i22 + 1))))] [] ⟨rfl, rfl, rfl, trivial⟩ trivial (hL1 _ rfl (s52, Ls51) _ _ ⟨hH54, hG53⟩)
 refine AW.condF (congrArg AV.bool hc27) ?_
 refine AW.exit rfl ?_
 obtain ⟨r55, hm, hx⟩ := omap h
 clear h
 subst hx
 have hx := hR1 _ rfl
 rw [hx] at hm
 have h := hm
 exact AW.res [(3, h8)] [] ⟨rfl, trivial⟩ trivial (KJ20 (out21, s23, Ls24) _ _ ⟨hH25, hG26, h⟩)
theorem impl_size_bool_ok {list1 : List Bool} {z2 : Nat} {f3 : Bool} {e4 : List AV} {s : St} (h5 : LR rB 1 list1 z2 e4) {r : Int} (h : impl_size_bool list1 = some r) (hs : WF s) : ACall Cf 54 [(AV.sl z2 f3 e4)] s fun v _ s' => (rI .i64) r v ∧ s' = s := by
 refine ACall.pure rfl rfl rfl .I ?_
 have hWF := hs.lo'
 unfold impl_size_bool at h
 refine AW.sr ?_
 refine AOps.p rfl (rfl : _ = (AV.int .i64 0)) ?_
 refine AOps.nilR ?_
 refine AW.sr ?_
 refine AOps.p rfl (rfl : _ = (AV.sl z2 f3 e4)) ?_
 refine AOps.p rfl (len_eq h5) ?_
 refine AOps.assignR rfl rfl rfl (rfl : _ = (AV.int .i64 (list1.length : Int))) rfl ?_
 refine AOps.nilR ?_
 cases h
 exact AW.ret ⟨rfl, _, _, rfl, rfl⟩
theorem impl_within_ok {n1 : Int} {low2 : Int} {high3 : Int} {s : St} {r : Bool} (h : impl_within n1 low2 high3 = some r) (hs : WF s) : ACall Cf 55 [(AV.int .i64 n1), (AV.int .i64 low2), (AV.int .i64 high3)] s fun v _ s' => (rB) r v ∧ s' = s := by
 refine ACall.pure rfl rfl rfl .B ?_
 have hWF := hs.lo'
 unfold impl_within at h
 refine AW.sr ?_
 refine AOps.p rfl (rfl : _ = (AV.bool false)) ?_
 refine AOps.nilR ?_
 refine AW.sr ?_
 refine AOps.p rfl (rfl : _ = (AV.int .i64 n1)) ?_
 refine AOps.p rfl (rfl : _ = (AV.int .i64 low2)) ?_
 refine AOps.p rfl (rfl : _ = (AV.bool (decide ((n1 : Int) ≥ low2)))) ?_
 refine AOps.p rfl (rfl : _ = (AV.bool (decide ((n1 : Int) ≥ low2)))) ?_
 refine AOps.split 4 (fun f' => ∃ tm' os', f' = ⟨updL tm' [(14, (AV.bool ((decide ((n1 : Int) ≥ low2)) && (decide ((n1 : Int) ≤ high3)))))], updL os' [], { s with lo := s.n }⟩) ?_ ?_
 ·rcases Bool.eq_false_or_eq_true (decide ((n1 : Int) ≥ low2)) with hc4 | hc4
  ·refine AOps.know (d := 10) rfl hc4 ?_
   refine AOps.p rfl (rfl : _ = (AV.int .i64 n1)) ?_
   refine AOps.p rfl (rfl : _ = (AV.int .i64 high3)) ?_
   refine AOps.p rfl (rfl : _ = (AV.bool (decide ((n1 : Int) ≤ high3)))) ?_
   refine AOps.p rfl (rfl : _ = (AV.bool (decide ((n1 : Int) ≤ high3)))) ?_
   refine AOps.resR [(14, (AV.bool ((decide ((n1 : Int) ≥ low2)) && (decide ((n1 : Int) ≤ high3)))))] [] ?_ ?_ _ ⟨_, _, rfl⟩
   ·exact ⟨congrArg AV.bool (and_t hc4), trivial⟩
   exact trivial
  ·refine AOps.know (d := 10) rfl hc4 ?_
   refine AOps.skipR rfl rfl ?_
   refine AOps.skipR rfl rfl ?_
   refine AOps.skipR rfl rfl ?_
   refine AOps.p rfl (rfl : _ = (AV.bool false)) ?_
   refine AOps.resR [(14, (AV.bool ((decide ((n1 : Int) ≥ low2)) && (decide ((n1 : Int) ≤ high3)))))] [] ?_ ?_ _ ⟨_, _, rfl⟩
   ·exact ⟨congrArg AV.bool (and_f hc4), trivial⟩
   exact trivial
 rintro _ ⟨tm, os, rfl⟩
 refine AOps.assignR rfl rfl rfl (rfl : _ = (AV.bool ((decide ((n1 : Int) ≥ low2)) && (decide ((n1 : Int) ≤ high3))))) rfl ?_
 refine AOps.nilR ?_
 cases h
 exact AW.ret ⟨rfl, _, _, rfl, rfl⟩
theorem impl_Checker_isState_ok {c1 : Checker} {s18 : Int} {z2 : Nat} {f3 : Bool} {e4 : List AV} {z6 : Nat} {f7 : Bool} {e8 : List AV} {z10 : Nat} {f11 : Bool} {e12 : List AV} {z14 : Nat} {f15 : Bool} {e16 : List AV} {s : St} (h5 : LR rB 1 c1.Accept z2 e4) (h9 : LR (rL rPush 2) 1 c1.Call z6 e8) (h13 : LR (rL (rL (rI .i64) 1) 1) 1 c1.Return z10 e12) (h17 : LR (rL (rI .i64) 1) 1 c1.Inner z14 e16) {r : Bool} (h : impl_Checker_isState c1 s18 = some r) (hs : WF s) : ACall Cf 56 [(AV.agg [(AV.int .i64 c1.Stack), (AV.int .i64 c1.Start), (AV.sl z2 f3 e4), (AV.sl z6 f7 e8), (AV.sl z10 f11 e12), (AV.sl z14 f15 e16)]), (AV.int .i64 s18)] s fun v _ s' => (rB) r v ∧ s' = s := by
 refine ACall.pure rfl rfl rfl .B ?_
 have hWF := hs.lo'
 unfold impl_Checker_isState at h
 refine AW.sr ?_
 refine AOps.makeR rfl rfl rfl rfl rfl rfl (rfl : _ = (AV.eptr [(AV.int .i64 c1.Stack), (AV.int .i64 c1.Start), (AV.sl z2 f3 e4), (AV.sl z6 f7 e8), (AV.sl z10 f11 e12), (AV.sl z14 f15 e16)] 0)) ?_
 refine AOps.p rfl (rfl : _ = (AV.bool false)) ?_
 refine AOps.nilR ?_
 refine AW.sr ?_
 refine AOps.p rfl (rfl : _ = (AV.int .i64 s18)) ?_
 refine AOps.p rfl (rfl : _ = (AV.eptr [(AV.int .i64 c1.Stack), (AV.int .i64 c1.Start), (AV.sl z2 f3 e4), (AV.sl z6 f7 e8), (AV.sl z10 f11 e12), (AV.sl z14 f15 e16)] 2)) ?_
 refine AOps.ldE (v := (AV.sl z2 f3 e4)) rfl rfl rfl rfl rfl rfl ?_
 obtain ⟨y19, h20, h⟩ := obind h
 refine AOps.callP (g := 54) (args := [(AV.sl z2 f3 e4)]) (p := (rI .i64) y19) rfl rfl rfl (impl_size_bool_ok h5 h20 hWF) ?_
 intro _ o22 h21
 cases h21
 refine AOps.p rfl (rfl : _ = (AV.int .i64 (IntKind.wrap .i64 (y19 - 1)))) ?_
 obtain ⟨y23, h24, h⟩ := obind h
 refine AOps.callP (g := 55) (args := [(AV.int .i64 s18), (AV.int .i64 0), (AV.int .i64 (IntKind.wrap .i64 (y19 - 1)))]) (p := (rB) y23) rfl rfl rfl (impl_within_ok  h24 hWF) ?_
 intro _ o26 h25
 cases h25
 refine AOps.assignR rfl rfl rfl (rfl : _ = (AV.bool y23)) rfl ?_
 refine AOps.nilR ?_
 cases h
 exact AW.ret ⟨rfl, _, _, rfl, rfl⟩
theorem impl_size_simpl_Push_ok {list1 : List (List Push)} {z2 : Nat} {f3 : Bool} {e4 : List AV} {s : St} (h5 : LR (rL rPush 2) 1 list1 z2 e4) {r : Int} (h : impl_size_simpl_Push list1 = some r) (hs : WF s) : ACall Cf 57 [(AV.sl z2 f3 e4)] s fun v _ s' => (rI .i64) r v ∧ s' = s := by
 refine ACall.pure rfl rfl rfl .I ?_
 have hWF := hs.lo'
 unfold impl_size_simpl_Push at h
 refine AW.sr ?_
 refine AOps.p rfl (rfl : _ = (AV.int .i64 0)) ?_
 refine AOps.nilR ?_
 refine AW.sr ?_
 refine AOps.p rfl (rfl : _ = (AV.sl z2 f3 e4)) ?_
 refine AOps.p rfl (len_eq h5) ?_
 refine AOps.assignR rfl rfl rfl (rfl : _ = (AV.int .i64 (list1.length : Int))) rfl ?_
 refine AOps.nilR ?_
 cases h
 exact AW.ret ⟨rfl, _, _, rfl, rfl⟩
theorem impl_size_s_int64_ok {list1 : List (List (List Int))} {z2 : Nat} {f3 : Bool} {e4 : List AV} {s : St} (h5 : LR (rL (rL (rI .i64) 1) 1) 1 list1 z2 e4) {r : Int} (h : impl_size_s_int64 list1 = some r) (hs : WF s) : ACall Cf 58 [(AV.sl z2 f3 e4)] s fun v _ s' => (rI .i64) r v ∧ s' = s := by
 refine ACall.pure rfl rfl rfl .I ?_
 have hWF := hs.lo'
 unfold impl_size_s_int64 at h
 refine AW.sr ?_
 refine AOps.p rfl (rfl : _ = (AV.int .i64 0)) ?_
 refine AOps.nilR ?_
 refine AW.sr ?_
 refine AOps.p rfl (rfl : _ = (AV.sl z2 f3 e4)) ?_
 refine AOps.p rfl (len_eq h5) ?_
 refine AOps.assignR rfl rfl rfl (rfl : _ = (AV.int .i64 (list1.length : Int))) rfl ?_
 refine AOps.nilR ?_
 cases h
 exact AW.ret ⟨rfl, _, _, rfl, rfl⟩
theorem impl_size_sint64_ok {list1 : List (List Int)} {z2 : Nat} {f3 : Bool} {e4 : List AV} {s : St} (h5 : LR (rL (rI .i64) 1) 1 list1 z2 e4) {r : Int} (h : impl_size_sint64 list1 = some r) (hs : WF s) : ACall Cf 59 [(AV.sl z2 f3 e4)] s fun v _ s' => (rI .i64) r v ∧ s' = s := by
 refine ACall.pure rfl rfl rfl .I ?_
 have hWF := hs.lo'
 unfold impl_size_sint64 at h
 refine AW.sr ?_
 refine AOps.p rfl (rfl : _ = (AV.int .i64 0)) ?_
 refine AOps.nilR ?_
 refine AW.sr ?_
 refine AOps.p rfl (rfl : _ = (AV.sl z2 f3 e4)) ?_
 refine AOps.p rfl (len_eq h5) ?_
 refine AOps.assignR rfl rfl rfl (rfl : _ = (AV.int .i64 (list1.length : Int))) rfl ?_
 refine AOps.nilR ?_
 cases h
 exact AW.ret ⟨rfl, _, _, rfl, rfl⟩
theorem impl_size_int64_ok {list1 : List Int} {z2 : Nat} {f3 : Bool} {e4 : List AV} {s : St} (h5 : LR (rI .i64) 1 list1 z2 e4) {r : Int} (h : impl_size_int64 list1 = some r) (hs : WF s) : ACall Cf 61 [(AV.sl z2 f3 e4)] s fun v _ s' => (rI .i64) r v ∧ s' = s := by
 refine ACall.pure rfl rfl rfl .I ?_
 have hWF := hs.lo'
 unfold impl_size_int64 at h
 refine AW.sr ?_
 refine AOps.p rfl (rfl : _ = (AV.int .i64 0)) ?_
 refine AOps.nilR ?_
 refine AW.sr ?_
 refine AOps.p rfl (rfl : _ = (AV.sl z2 f3 e4)) ?_
 refine AOps.p rfl (len_eq h5) ?_
 refine AOps.assignR rfl rfl rfl (rfl : _ = (AV.int .i64 (list1.length : Int))) rfl ?_
 refine AOps.nilR ?_
 cases h
 exact AW.ret ⟨rfl, _, _, rfl, rfl⟩
theorem slices_IndexFunc_sint64_int64_ok {s1 : List Int} {f6 : Int → Option Bool} {z2 : Nat} {f3 : Bool} {e4 : List AV} {g7 : Nat} {cap8 : List AV} {s : St} (h5 : LR (rI .i64) 1 s1 z2 e4) (h9 : ∀ x vs y, Cs [(rI .i64) x] vs → f6 x = some y → ∀ s, WF s → ACall Cf g7 (vs ++ cap8) s fun v _ s' => (rB) y v ∧ s' = s) {r : Int} (h : slices_IndexFunc_sint64_int64 s1 f6 = some r) (hs : WF s) : ACall Cf 79 [(AV.sl z2 f3 e4), (AV.fn g7 cap8)] s fun v _ s' => (rI .i64) r v ∧ s' = s := by
 refine ACall.pure rfl rfl rfl .I ?_
 have hWF := hs.lo'
 unfold slices_IndexFunc_sint64_int64 at h
 refine AW.sr ?_
 refine AOps.p rfl (rfl : _ = (AV.int .i64 0)) ?_
 refine AOps.nilR ?_
 refine AW.seq ?_
 refine AW.sr ?_
 refine AOps.p rfl (rfl : _ = (AV.sl z2 f3 e4)) ?_
 refine AOps.p rfl (len_eq h5) ?_
 refine AOps.p rfl (rfl : _ = (AV.int .i64 0)) ?_
 refine AOps.nilR ?_
 refine AW.meet (σ := Unit) (fun _ tm os => ⟨updL tm [], updL os [], { s with lo := s.n }⟩) (fun _ => slices_IndexFunc_sint64_int64_J1 = some r) ?_ ?_
 ·rintro _ tm os h
  unfold slices_IndexFunc_sint64_int64_J1 at h
  refine AW.sr ?_
  refine AOps.p rfl (rfl : _ = (AV.int .i64 (-1))) ?_
  refine AOps.nilR ?_
  cases h
  exact AW.ret ⟨rfl, _, _, rfl, rfl⟩
 intro KJ10
 refine AW.block ?_
 refine AW.res [(0, (AV.sl z2 f3 e4)), (1, (AV.fn g7 cap8)), (7, (AV.int .i64 (s1.length : Int))), (8, (AV.int .i64 0))] [] ⟨rfl, rfl, rfl, rfl, trivial⟩ trivial ?_
 refine AW.loopF (σ := Int) (τ := Unit) (fun t11 _ => True) (fun t11 _ tm os => ⟨updL tm [(0, (AV.sl z2 f3 e4)), (1, (AV.fn g7 cap8)), (7, (AV.int .i64 (s1.length : Int))), (8, (AV.int .i64 t11))], updL os [], { s with lo := s.n }⟩) ?_ (x := (0)) (y := ()) h trivial
 clear h
 rintro t11 _ tm os - e1 h hL1 hR1
 unfold slices_IndexFunc_sint64_int64_S1 at h
 refine AW.sr ?_
 refine AOps.p rfl (rfl : _ = (AV.bool (decide ((t11 : Int) < (s1.length : Int))))) ?_
 refine AOps.nilR ?_
 refine AW.seq ?_
 rcases oite h with ⟨hc12, h⟩ | ⟨hc12, h⟩
 ·refine AW.condT (congrArg AV.bool hc12) ?_
  refine AW.skip ?_
  refine AW.seq ?_
  refine AW.block ?_
  refine AW.sr ?_
  refine AOps.p rfl (rfl : _ = (AV.int .i64 t11)) ?_
  refine AOps.assignR rfl rfl rfl (rfl : _ = (AV.int .i64 t11)) rfl ?_
  refine AOps.nilR ?_
  refine AW.sr ?_
  refine AOps.p rfl (rfl : _ = (AV.fn g7 cap8)) ?_
  refine AOps.p rfl (rfl : _ = (AV.sl z2 f3 e4)) ?_
  refine AOps.p rfl (rfl : _ = (AV.int .i64 t11)) ?_
  obtain ⟨x13, h14, h⟩ := obind h
  obtain ⟨v17, h15, h16⟩ := idx_sl h5 h14
  cases h15
  refine AOps.pureR rfl rfl rfl h16 rfl (rfl : _ = (AV.eptr [(AV.int .i64 x13)] 0)) ?_
  refine AOps.ldE (v := (AV.int .i64 x13)) rfl rfl rfl rfl rfl rfl ?_
  obtain ⟨y18, h19, h⟩ := obind h
  refine AOps.callP (g := g7) (args := ([(AV.int .i64 x13)] ++ cap8)) (p := (rB) y18) rfl rfl rfl (h9 x13 _ _ (.cons rfl .nil) h19 _ hWF) ?_
  intro _ o21 h20
  cases h20
  refine AOps.nilR ?_
  rcases oite h with ⟨hc22, h⟩ | ⟨hc22, h⟩
  ·refine AW.condT (congrArg AV.bool hc22) ?_
   refine AW.sr ?_
   refine AOps.p rfl (rfl : _ = (AV.int .i64 t11)) ?_
   refine AOps.assignR rfl rfl rfl (rfl : _ = (AV.int .i64 t11)) rfl ?_
   refine AOps.nilR ?_
   cases h
   have hr := hR1 _ rfl
   subst hr
   exact AW.ret ⟨rfl, _, _, rfl, rfl⟩
  refine AW.condF (congrArg AV.bool hc22) ?_
  refine AW.skip ?_
  refine AW.inBlock ?_
  refine AW.region ?_
  refine AOps.p rfl (rfl : _ = (AV.int .i64 (IntKind.wrap .i64 (t11 + 1)))) ?_
  refine AOps.p rfl (rfl : _ = (AV.int .i64 (IntKind.wrap .i64 (t11 + 1)))) ?_
  refine AOps.nilR ?_
  cases h
  exact AW.res [(0, (AV.sl z2 f3 e4)), (1, (AV.fn g7 cap8)), (7, (AV.int .i64 (s1.length : Int))), (8, (AV.int .i64 (IntKind.wrap .i64 (t11 + 1))))] [] ⟨rfl, rfl, rfl, rfl, trivial⟩ trivial (hL1 _ rfl () _ _ trivial)
 refine AW.condF (congrArg AV.bool hc12) ?_
 refine AW.exit rfl ?_
 obtain ⟨r23, hm, hx⟩ := omap h
 clear h
 subst hx
 have hx := hR1 _ rfl
 rw [hx] at hm
 have h := hm
 exact AW.res [] [] trivial trivial (KJ10 () _ _ h)
theorem slices_ContainsFunc_sint64_int64_ok {s1 : List Int} {f6 : Int → Option Bool} {z2 : Nat} {f3 : Bool} {e4 : List AV} {g7 : Nat} {cap8 : List AV} {s : St} (h5 : LR (rI .i64) 1 s1 z2 e4) (h9 : ∀ x vs y, Cs [(rI .i64) x] vs → f6 x = some y → ∀ s, WF s → ACall Cf g7 (vs ++ cap8) s fun v _ s' => (rB) y v ∧ s' = s) {r : Bool} (h : slices_ContainsFunc_sint64_int64 s1 f6 = some r) (hs : WF s) : ACall Cf 62 [(AV.sl z2 f3 e4), (AV.fn g7 cap8)] s fun v _ s' => (rB) r v ∧ s' = s := by
 refine ACall.pure rfl rfl rfl .B ?_
 have hWF := hs.lo'
 unfold slices_ContainsFunc_sint64_int64 at h
 refine AW.sr ?_
 refine AOps.p rfl (rfl : _ = (AV.bool false)) ?_
 refine AOps.nilR ?_
 refine AW.sr ?_
 refine AOps.p rfl (rfl : _ = (AV.sl z2 f3 e4)) ?_
 refine AOps.p rfl (rfl : _ = (AV.fn g7 cap8)) ?_
 obtain ⟨y10, h11, h⟩ := obind h
 refine AOps.callP (g := 79) (args := [(AV.sl z2 f3 e4), (AV.fn g7 cap8)]) (p := (rI .i64) y10) rfl rfl rfl (slices_IndexFunc_sint64_int64_ok h5 h9 h11 hWF) ?_
 intro _ o13 h12
 cases h12
 refine AOps.p rfl (rfl : _ = (AV.bool (decide ((y10 : Int) ≥ 0)))) ?_
 refine AOps.assignR rfl rfl rfl (rfl : _ = (AV.bool (decide ((y10 : Int) ≥ 0)))) rfl ?_
 refine AOps.nilR ?_
 cases h
 exact AW.ret ⟨rfl, _, _, rfl, rfl⟩
theorem impl_ValidChecker_1_1_ok {s1 : Int} {c2 : Checker} {z3 : Nat} {f4 : Bool} {e5 : List AV} {z7 : Nat} {f8 : Bool} {e9 : List AV} {z11 : Nat} {f12 : Bool} {e13 : List AV} {z15 : Nat} {f16 : Bool} {e17 : List AV} {s : St} (h6 : LR rB 1 c2.Accept z3 e5) (h10 : LR (rL rPush 2) 1 c2.Call z7 e9) (h14 : LR (rL (rL (rI .i64) 1) 1) 1 c2.Return z11 e13) (h18 : LR (rL (rI .i64) 1) 1 c2.Inner z15 e17) {r : Bool} (h : impl_ValidChecker_1_1 s1 c2 = some r) (hs : WF s) : ACall Cf 63 [(AV.int .i64 s1), (AV.eptr [(AV.int .i64 c2.Stack), (AV.int .i64 c2.Start), (AV.sl z3 f4 e5), (AV.sl z7 f8 e9), (AV.sl z11 f12 e13), (AV.sl z15 f16 e17)] 0)] s fun v _ s' => (rB) r v ∧ s' = s := by
 refine ACall.pure rfl rfl rfl .B ?_
 have hWF := hs.lo'
 unfold impl_ValidChecker_1_1 at h
 refine AW.sr ?_
 refine AOps.p rfl (rfl : _ = (AV.bool false)) ?_
 refine AOps.nilR ?_
 refine AW.sr ?_
 refine AOps.ldE (v := (AV.agg [(AV.int .i64 c2.Stack), (AV.int .i64 c2.Start), (AV.sl z3 f4 e5), (AV.sl z7 f8 e9), (AV.sl z11 f12 e13), (AV.sl z15 f16 e17)])) rfl rfl rfl rfl rfl rfl ?_
 refine AOps.p rfl (rfl : _ = (AV.int .i64 s1)) ?_
 obtain ⟨y19, h20, h⟩ := obind h
 refine AOps.callP (g := 56) (args := [(AV.agg [(AV.int .i64 c2.Stack), (AV.int .i64 c2.Start), (AV.sl z3 f4 e5), (AV.sl z7 f8 e9), (AV.sl z11 f12 e13), (AV.sl z15 f16 e17)]), (AV.int .i64 s1)]) (p := (rB) y19) rfl rfl rfl (impl_Checker_isState_ok h6 h10 h14 h18 h20 hWF) ?_
 intro _ o22 h21
 cases h21
 refine AOps.p rfl (rfl : _ = (AV.bool (!y19))) ?_
 refine AOps.assignR rfl rfl rfl (rfl : _ = (AV.bool (!y19))) rfl ?_
 refine AOps.nilR ?_
 cases h
 exact AW.ret ⟨rfl, _, _, rfl, rfl⟩
theorem impl_ValidChecker_1_ok {list1 : List Int} {many6 : Int} {c7 : Checker} {z2 : Nat} {f3 : Bool} {e4 : List AV} {z8 : Nat} {f9 : Bool} {e10 : List AV} {z12 : Nat} {f13 : Bool} {e14 : List AV} {z16 : Nat} {f17 : Bool} {e18 : List AV} {z20 : Nat} {f21 : Bool} {e22 : List AV} {s : St} (h5 : LR (rI .i64) 1 list1 z2 e4) (h11 : LR rB 1 c7.Accept z8 e10) (h15 : LR (rL rPush 2) 1 c7.Call z12 e14) (h19 : LR (rL (rL (rI .i64) 1) 1) 1 c7.Return z16 e18) (h23 : LR (rL (rI .i64) 1) 1 c7.Inner z20 e22) {r : Bool} (h : impl_ValidChecker_1 list1 many6 c7 = some r) (hs : WF s) : ACall Cf 60 [(AV.sl z2 f3 e4), (AV.int .i64 many6), (AV.eptr [(AV.int .i64 c7.Stack), (AV.int .i64 c7.Start), (AV.sl z8 f9 e10), (AV.sl z12 f13 e14), (AV.sl z16 f17 e18), (AV.sl z20 f21 e22)] 0)] s fun v _ s' => (rB) r v ∧ s' = s := by
 refine ACall.pure rfl rfl rfl .B ?_
 have hWF := hs.lo'
 unfold impl_ValidChecker_1 at h
 refine AW.sr ?_
 refine AOps.p rfl (rfl : _ = (AV.bool false)) ?_
 refine AOps.nilR ?_
 refine AW.sr ?_
 refine AOps.p rfl (rfl : _ = (AV.sl z2 f3 e4)) ?_
 obtain ⟨y24, h25, h⟩ := obind h
 refine AOps.callP (g := 61) (args := [(AV.sl z2 f3 e4)]) (p := (rI .i64) y24) rfl rfl rfl (impl_size_int64_ok h5 h25 hWF) ?_
 intro _ o27 h26
 cases h26
 refine AOps.p rfl (rfl : _ = (AV.int .i64 many6)) ?_
 refine AOps.p rfl (rfl : _ = (AV.bool (y24 == many6))) ?_
 refine AOps.p rfl (rfl : _ = (AV.bool (y24 == many6))) ?_
 obtain ⟨b29, hb, h⟩ := obind h
 refine AOps.split 5 (fun f' => ∃ tm' os', f' = ⟨updL tm' [(15, (AV.bool b29))], updL os' [], { s with lo := s.n }⟩) ?_ ?_
 ·rcases oite hb with ⟨hc28, hb⟩ | ⟨hc28, hb⟩
  ·have h := hb
   refine AOps.know (d := 10) rfl hc28 ?_
   refine AOps.p rfl (rfl : _ = (AV.sl z2 f3 e4)) ?_
   refine AOps.p rfl (rfl : _ = (AV.fn 63 [(AV.eptr [(AV.int .i64 c7.Stack), (AV.int .i64 c7.Start), (AV.sl z8 f9 e10), (AV.sl z12 f13 e14), (AV.sl z16 f17 e18), (AV.sl z20 f21 e22)] 0)])) ?_
   obtain ⟨y30, h31, h⟩ := obind h
   refine AOps.callP (g := 62) (args := [(AV.sl z2 f3 e4), (AV.fn 63 [(AV.eptr [(AV.int .i64 c7.Stack), (AV.int .i64 c7.Start), (AV.sl z8 f9 e10), (AV.sl z12 f13 e14), (AV.sl z16 f17 e18), (AV.sl z20 f21 e22)] 0)])]) (p := (rB) y30) rfl rfl rfl (slices_ContainsFunc_sint64_int64_ok h5 (by intro x vs y hc hx s hs; obtain ⟨_, _, rfl, hv0, hd0⟩ := Cs_cons hc; cases hv0; cases Cs_nil hd0; exact impl_ValidChecker_1_1_ok h11 h15 h19 h23 hx hs) h31 hWF) ?_
   intro _ o33 h32
   cases h32
   refine AOps.p rfl (rfl : _ = (AV.bool (!y30))) ?_
   refine AOps.p rfl (rfl : _ = (AV.bool (!y30))) ?_
   refine AOps.resR [(15, (AV.bool b29))] [] ?_ ?_ _ ⟨_, _, rfl⟩
   ·exact ⟨congrArg AV.bool (Option.some.inj h), trivial⟩
   exact trivial
  ·refine AOps.know (d := 10) rfl hc28 ?_
   refine AOps.skipR rfl rfl ?_
   refine AOps.skipR rfl rfl ?_
   refine AOps.skipR rfl rfl ?_
   refine AOps.skipR rfl rfl ?_
   refine AOps.p rfl (rfl : _ = (AV.bool false)) ?_
   refine AOps.resR [(15, (AV.bool b29))] [] ?_ ?_ _ ⟨_, _, rfl⟩
   ·exact ⟨congrArg AV.bool (Option.some.inj hb), trivial⟩
   exact trivial
 rintro _ ⟨tm, os, rfl⟩
 refine AOps.assignR rfl rfl rfl (rfl : _ = (AV.bool b29)) rfl ?_
 refine AOps.nilR ?_
 cases h
 exact AW.ret ⟨rfl, _, _, rfl, rfl⟩
theorem impl_Checker_isMark_ok {c1 : Checker} {x18 : Int} {z2 : Nat} {f3 : Bool} {e4 : List AV} {z6 : Nat} {f7 : Bool} {e8 : List AV} {z10 : Nat} {f11 : Bool} {e12 : List AV} {z14 : Nat} {f15 : Bool} {e16 : List AV} {s : St} (h5 : LR rB 1 c1.Accept z2 e4) (h9 : LR (rL rPush 2) 1 c1.Call z6 e8) (h13 : LR (rL (rL (rI .i64) 1) 1) 1 c1.Return z10 e12) (h17 : LR (rL (rI .i64) 1) 1 c1.Inner z14 e16) {r : Bool} (h : impl_Checker_isMark c1 x18 = some r) (hs : WF s) : ACall Cf 64 [(AV.agg [(AV.int .i64 c1.Stack), (AV.int .i64 c1.Start), (AV.sl z2 f3 e4), (AV.sl z6 f7 e8), (AV.sl z10 f11 e12), (AV.sl z14 f15 e16)]), (AV.int .i64 x18)] s fun v _ s' => (rB) r v ∧ s' = s := by
 refine ACall.pure rfl rfl rfl .B ?_
 have hWF := hs.lo'
 unfold impl_Checker_isMark at h
 refine AW.sr ?_
 refine AOps.makeR rfl rfl rfl rfl rfl rfl (rfl : _ = (AV.eptr [(AV.int .i64 c1.Stack), (AV.int .i64 c1.Start), (AV.sl z2 f3 e4), (AV.sl z6 f7 e8), (AV.sl z10 f11 e12), (AV.sl z14 f15 e16)] 0)) ?_
 refine AOps.p rfl (rfl : _ = (AV.bool false)) ?_
 refine AOps.nilR ?_
 refine AW.sr ?_
 refine AOps.p rfl (rfl : _ = (AV.int .i64 x18)) ?_
 refine AOps.p rfl (rfl : _ = (AV.eptr [(AV.int .i64 c1.Stack), (AV.int .i64 c1.Start), (AV.sl z2 f3 e4), (AV.sl z6 f7 e8), (AV.sl z10 f11 e12), (AV.sl z14 f15 e16)] 0)) ?_
 refine AOps.ldE (v := (AV.int .i64 c1.Stack)) rfl rfl rfl rfl rfl rfl ?_
 refine AOps.p rfl (rfl : _ = (AV.int .i64 (IntKind.wrap .i64 (c1.Stack - 1)))) ?_
 obtain ⟨y19, h20, h⟩ := obind h
 refine AOps.callP (g := 55) (args := [(AV.int .i64 x18), (AV.int .i64 0), (AV.int .i64 (IntKind.wrap .i64 (c1.Stack - 1)))]) (p := (rB) y19) rfl rfl rfl (impl_within_ok  h20 hWF) ?_
 intro _ o22 h21
 cases h21
 refine AOps.assignR rfl rfl rfl (rfl : _ = (AV.bool y19)) rfl ?_
 refine AOps.nilR ?_
 cases h
 exact AW.ret ⟨rfl, _, _, rfl, rfl⟩
theorem impl_ValidChecker_ok {p1 : Checker} {z2 : Nat} {f3 : Bool} {e4 : List AV} {z6 : Nat} {f7 : Bool} {e8 : List AV} {z10 : Nat} {f11 : Bool} {e12 : List AV} {z14 : Nat} {f15 : Bool} {e16 : List AV} {s : St} (h5 : LR rB 1 p1.Accept z2 e4) (h9 : LR (rL rPush 2) 1 p1.Call z6 e8) (h13 : LR (rL (rL (rI .i64) 1) 1) 1 p1.Return z10 e12) (h17 : LR (rL (rI .i64) 1) 1 p1.Inner z14 e16) {r : Bool} (h : impl_ValidChecker p1 = some r) (hs : WF s) : ACall Cf 31 [(AV.agg [(AV.int .i64 p1.Stack), (AV.int .i64 p1.Start), (AV.sl z2 f3 e4), (AV.sl z6 f7 e8), (AV.sl z10 f11 e12), (AV.sl z14 f15 e16)])] s fun v _ s' => (rB) r v ∧ s' = s := by
 refine ACall.pure rfl rfl rfl .B ?_
 have hWF := hs.lo'
 unfold impl_ValidChecker at h
 refine AW.sr ?_
 refine AOps.makeR rfl rfl rfl rfl rfl rfl (rfl : _ = (AV.eptr [(AV.int .i64 p1.Stack), (AV.int .i64 p1.Start), (AV.sl z2 f3 e4), (AV.sl z6 f7 e8), (AV.sl z10 f11 e12), (AV.sl z14 f15 e16)] 0)) ?_
 refine AOps.p rfl (rfl : _ = (AV.bool false)) ?_
 refine AOps.nilR ?_
 refine AW.sr ?_
 refine AOps.p rfl (rfl : _ = (AV.eptr [(AV.int .i64 p1.Stack), (AV.int .i64 p1.Start), (AV.sl z2 f3 e4), (AV.sl z6 f7 e8), (AV.sl z10 f11 e12), (AV.sl z14 f15 e16)] 2)) ?_
 refine AOps.ldE (v := (AV.sl z2 f3 e4)) rfl rfl rfl rfl rfl rfl ?_
 obtain ⟨y18, h19, h⟩ := obind h
 refine AOps.callP (g := 54) (args := [(AV.sl z2 f3 e4)]) (p := (rI .i64) y18) rfl rfl rfl (impl_size_bool_ok h5 h19 hWF) ?_
 intro _ o21 h20
 cases h20
 refine AOps.assignR rfl rfl rfl (rfl : _ = (AV.int .i64 y18)) rfl ?_
 refine AOps.nilR ?_
 refine AW.seq ?_
 refine AW.sr ?_
 refine AOps.p rfl (rfl : _ = (AV.int .i64 y18)) ?_
 obtain ⟨y22, h23, h⟩ := obind h
 refine AOps.callP (g := 55) (args := [(AV.int .i64 y18), (AV.int .i64 1), (AV.int .i64 40)]) (p := (rB) y22) rfl rfl rfl (impl_within_ok  h23 hWF) ?_
 intro _ o25 h24
 cases h24
 refine AOps.p rfl (rfl : _ = (AV.bool (!y22))) ?_
 refine AOps.p rfl (rfl : _ = (AV.bool (!y22))) ?_
 obtain ⟨b27, hb, h⟩ := obind h
 refine AOps.split 5 (fun f' => ∃ tm' os', f' = ⟨updL tm' [(1, (AV.eptr [(AV.int .i64 p1.Stack), (AV.int .i64 p1.Start), (AV.sl z2 f3 e4), (AV.sl z6 f7 e8), (AV.sl z10 f11 e12), (AV.sl z14 f15 e16)] 0)), (3, (AV.int .i64 y18)), (19, (AV.bool b27))], updL os' [], { s with lo := s.n }⟩) ?_ ?_
 ·rcases oite hb with ⟨hc26, hb⟩ | ⟨hc26, hb⟩
  ·refine AOps.know (d := 14) rfl hc26 ?_
   refine AOps.skipR rfl rfl ?_
   refine AOps.skipR rfl rfl ?_
   refine AOps.skipR rfl rfl ?_
   refine AOps.skipR rfl rfl ?_
   refine AOps.p rfl (rfl : _ = (AV.bool true)) ?_
   refine AOps.resR [(1, (AV.eptr [(AV.int .i64 p1.Stack), (AV.int .i64 p1.Start), (AV.sl z2 f3 e4), (AV.sl z6 f7 e8), (AV.sl z10 f11 e12), (AV.sl z14 f15 e16)] 0)), (3, (AV.int .i64 y18)), (19, (AV.bool b27))] [] ?_ ?_ _ ⟨_, _, rfl⟩
   ·exact ⟨rfl, rfl, congrArg AV.bool (Option.some.inj hb), trivial⟩
   exact trivial
  ·have h := hb
   refine AOps.know (d := 14) rfl hc26 ?_
   refine AOps.p rfl (rfl : _ = (AV.eptr [(AV.int .i64 p1.Stack), (AV.int .i64 p1.Start), (AV.sl z2 f3 e4), (AV.sl z6 f7 e8), (AV.sl z10 f11 e12), (AV.sl z14 f15 e16)] 0)) ?_
   refine AOps.ldE (v := (AV.int .i64 p1.Stack)) rfl rfl rfl rfl rfl rfl ?_
   obtain ⟨y28, h29, h⟩ := obind h
   refine AOps.callP (g := 55) (args := [(AV.int .i64 p1.Stack), (AV.int .i64 1), (AV.int .i64 80)]) (p := (rB) y28) rfl rfl rfl (impl_within_ok  h29 hWF) ?_
   intro _ o31 h30
   cases h30
   refine AOps.p rfl (rfl : _ = (AV.bool (!y28))) ?_
   refine AOps.p rfl (rfl : _ = (AV.bool (!y28))) ?_
   refine AOps.resR [(1, (AV.eptr [(AV.int .i64 p1.Stack), (AV.int .i64 p1.Start), (AV.sl z2 f3 e4), (AV.sl z6 f7 e8), (AV.sl z10 f11 e12), (AV.sl z14 f15 e16)] 0)), (3, (AV.int .i64 y18)), (19, (AV.bool b27))] [] ?_ ?_ _ ⟨_, _, rfl⟩
   ·exact ⟨rfl, rfl, congrArg AV.bool (Option.some.inj h), trivial⟩
   exact trivial
 rintro _ ⟨tm, os, rfl⟩
 refine AOps.p rfl (rfl : _ = (AV.bool b27)) ?_
 obtain ⟨b33, hb, h⟩ := obind h
 refine AOps.split 6 (fun f' => ∃ tm' os', f' = ⟨updL tm' [(1, (AV.eptr [(AV.int .i64 p1.Stack), (AV.int .i64 p1.Start), (AV.sl z2 f3 e4), (AV.sl z6 f7 e8), (AV.sl z10 f11 e12), (AV.sl z14 f15 e16)] 0)), (3, (AV.int .i64 y18)), (26, (AV.bool b33))], updL os' [], { s with lo := s.n }⟩) ?_ ?_
 ·rcases oite hb with ⟨hc32, hb⟩ | ⟨hc32, hb⟩
  ·refine AOps.know (d := 20) rfl hc32 ?_
   refine AOps.skipR rfl rfl ?_
   refine AOps.skipR rfl rfl ?_
   refine AOps.skipR rfl rfl ?_
   refine AOps.skipR rfl rfl ?_
   refine AOps.skipR rfl rfl ?_
   refine AOps.p rfl (rfl : _ = (AV.bool true)) ?_
   refine AOps.resR [(1, (AV.eptr [(AV.int .i64 p1.Stack), (AV.int .i64 p1.Start), (AV.sl z2 f3 e4), (AV.sl z6 f7 e8), (AV.sl z10 f11 e12), (AV.sl z14 f15 e16)] 0)), (3, (AV.int .i64 y18)), (26, (AV.bool b33))] [] ?_ ?_ _ ⟨_, _, rfl⟩
   ·exact ⟨rfl, rfl, congrArg AV.bool (Option.some.inj hb), trivial⟩
   exact trivial
  ·have h := hb
   refine AOps.know (d := 20) rfl hc32 ?_
   refine AOps.ldE (v := (AV.agg [(AV.int .i64 p1.Stack), (AV.int .i64 p1.Start), (AV.sl z2 f3 e4), (AV.sl z6 f7 e8), (AV.sl z10 f11 e12), (AV.sl z14 f15 e16)])) rfl rfl rfl rfl rfl rfl ?_
   refine AOps.p rfl (rfl : _ = (AV.eptr [(AV.int .i64 p1.Stack), (AV.int .i64 p1.Start), (AV.sl z2 f3 e4), (AV.sl z6 f7 e8), (AV.sl z10 f11 e12), (AV.sl z14 f15 e16)] 1)) ?_
   refine AOps.ldE (v := (AV.int .i64 p1.Start)) rfl rfl rfl rfl rfl rfl ?_
   obtain ⟨y34, h35, h⟩ := obind h
   refine AOps.callP (g := 56) (args := [(AV.agg [(AV.int .i64 p1.Stack), (AV.int .i64 p1.Start), (AV.sl z2 f3 e4), (AV.sl z6 f7 e8), (AV.sl z10 f11 e12), (AV.sl z14 f15 e16)]), (AV.int .i64 p1.Start)]) (p := (rB) y34) rfl rfl rfl (impl_Checker_isState_ok h5 h9 h13 h17 h35 hWF) ?_
   intro _ o37 h36
   cases h36
   refine AOps.p rfl (rfl : _ = (AV.bool (!y34))) ?_
   refine AOps.p rfl (rfl : _ = (AV.bool (!y34))) ?_
   refine AOps.resR [(1, (AV.eptr [(AV.int .i64 p1.Stack), (AV.int .i64 p1.Start), (AV.sl z2 f3 e4), (AV.sl z6 f7 e8), (AV.sl z10 f11 e12), (AV.sl z14 f15 e16)] 0)), (3, (AV.int .i64 y18)), (26, (AV.bool b33))] [] ?_ ?_ _ ⟨_, _, rfl⟩
   ·exact ⟨rfl, rfl, congrArg AV.bool (Option.some.inj h), trivial⟩
   exact trivial
 rintro _ ⟨tm, os, rfl⟩
 refine AOps.p rfl (rfl : _ = (AV.bool b33)) ?_
 obtain ⟨b39, hb, h⟩ := obind h
 refine AOps.split 6 (fun f' => ∃ tm' os', f' = ⟨updL tm' [(1, (AV.eptr [(AV.int .i64 p1.Stack), (AV.int .i64 p1.Start), (AV.sl z2 f3 e4), (AV.sl z6 f7 e8), (AV.sl z10 f11 e12), (AV.sl z14 f15 e16)] 0)), (3, (AV.int .i64 y18)), (33, (AV.bool b39))], updL os' [], { s with lo := s.n }⟩) ?_ ?_
 ·rcases oite hb with ⟨hc38, hb⟩ | ⟨hc38, hb⟩
  ·refine AOps.know (d := 27) rfl hc38 ?_
   refine AOps.skipR rfl rfl ?_
   refine AOps.skipR rfl rfl ?_
   refine AOps.skipR rfl rfl ?_
   refine AOps.skipR rfl rfl ?_
   refine AOps.skipR rfl rfl ?_
   refine AOps.p rfl (rfl : _ = (AV.bool true)) ?_
   refine AOps.resR [(1, (AV.eptr [(AV.int .i64 p1.Stack), (AV.int .i64 p1.Start), (AV.sl z2 f3 e4), (AV.sl z6 f7 e8), (AV.sl z10 f11 e12), (AV.sl z14 f15 e16)] 0)), (3, (AV.int .i64 y18)), (33, (AV.bool b39))] [] ?_ ?_ _ ⟨_, _, rfl⟩
   ·exact ⟨rfl, rfl, congrArg AV.bool (Option.some.inj hb), trivial⟩
   exact trivial
  ·have h := hb
   refine AOps.know (d := 27) rfl hc38 ?_
   refine AOps.p rfl (rfl : _ = (AV.eptr [(AV.int .i64 p1.Stack), (AV.int .i64 p1.Start), (AV.sl z2 f3 e4), (AV.sl z6 f7 e8), (AV.sl z10 f11 e12), (AV.sl z14 f15 e16)] 3)) ?_
   refine AOps.ldE (v := (AV.sl z6 f7 e8)) rfl rfl rfl rfl rfl rfl ?_
   obtain ⟨y40, h41, h⟩ := obind h
   refine AOps.callP (g := 57) (args := [(AV.sl z6 f7 e8)]) (p := (rI .i64) y40) rfl rfl rfl (impl_size_simpl_Push_ok h9 h41 hWF) ?_
   intro _ o43 h42
   cases h42
   refine AOps.p rfl (rfl : _ = (AV.int .i64 y18)) ?_
   refine AOps.p rfl (rfl : _ = (AV.bool (y40 != y18))) ?_
   refine AOps.p rfl (rfl : _ = (AV.bool (y40 != y18))) ?_
   refine AOps.resR [(1, (AV.eptr [(AV.int .i64 p1.Stack), (AV.int .i64 p1.Start), (AV.sl z2 f3 e4), (AV.sl z6 f7 e8), (AV.sl z10 f11 e12), (AV.sl z14 f15 e16)] 0)), (3, (AV.int .i64 y18)), (33, (AV.bool b39))] [] ?_ ?_ _ ⟨_, _, rfl⟩
   ·exact ⟨rfl, rfl, congrArg AV.bool (Option.some.inj h), trivial⟩
   exact trivial
 rintro _ ⟨tm, os, rfl⟩
 refine AOps.p rfl (rfl : _ = (AV.bool b39)) ?_
 obtain ⟨b45, hb, h⟩ := obind h
 refine AOps.split 6 (fun f' => ∃ tm' os', f' = ⟨updL tm' [(1, (AV.eptr [(AV.int .i64 p1.Stack), (AV.int .i64 p1.Start), (AV.sl z2 f3 e4), (AV.sl z6 f7 e8), (AV.sl z10 f11 e12), (AV.sl z14 f15 e16)] 0)), (3, (AV.int .i64 y18)), (40, (AV.bool b45))], updL os' [], { s with lo := s.n }⟩) ?_ ?_
 ·rcases oite hb with ⟨hc44, hb⟩ | ⟨hc44, hb⟩
  ·refine AOps.know (d := 34) rfl hc44 ?_
   refine AOps.skipR rfl rfl ?_
   refine AOps.skipR rfl rfl ?_
   refine AOps.skipR rfl rfl ?_
   refine AOps.skipR rfl rfl ?_
   refine AOps.skipR rfl rfl ?_
   refine AOps.p rfl (rfl : _ = (AV.bool true)) ?_
   refine AOps.resR [(1, (AV.eptr [(AV.int .i64 p1.Stack), (AV.int .i64 p1.Start), (AV.sl z2 f3 e4), (AV.sl z6 f7 e8), (AV.sl z10 f11 e12), (AV.sl z14 f15 e16)] 0)), (3, (AV.int .i64 y18)), (40, (AV.bool b45))] [] ?_ ?_ _ ⟨_, _, rfl⟩
   ·exact ⟨rfl, rfl, congrArg AV.bool (Option.some.inj hb), trivial⟩
   exact trivial
  ·have h := hb
   refine AOps.know (d := 34) rfl hc44 ?_
   refine AOps.p rfl (rfl : _ = (AV.eptr [(AV.int .i64 p1.Stack), (AV.int .i64 p1.Start), (AV.sl z2 f3 e4), (AV.sl z6 f7 e8), (AV.sl z10 f11 e12), (AV.sl z14 f15 e16)] 4)) ?_
   refine AOps.ldE (v := (AV.sl z10 f11 e12)) rfl rfl rfl rfl rfl rfl ?_
   obtain ⟨y46, h47, h⟩ := obind h
   refine AOps.callP (g := 58) (args := [(AV.sl z10 f11 e12)]) (p := (rI .i64) y46) rfl rfl rfl (impl_size_s_int64_ok h13 h47 hWF) ?_
   intro _ o49 h48
   cases h48
   refine AOps.p rfl (rfl : _ = (AV.int .i64 y18)) ?_
   refine AOps.p rfl (rfl : _ = (AV.bool (y46 != y18))) ?_
   refine AOps.p rfl (rfl : _ = (AV.bool (y46 != y18))) ?_
   refine AOps.resR [(1, (AV.eptr [(AV.int .i64 p1.Stack), (AV.int .i64 p1.Start), (AV.sl z2 f3 e4), (AV.sl z6 f7 e8), (AV.sl z10 f11 e12), (AV.sl z14 f15 e16)] 0)), (3, (AV.int .i64 y18)), (40, (AV.bool b45))] [] ?_ ?_ _ ⟨_, _, rfl⟩
   ·exact ⟨rfl, rfl, congrArg AV.bool (Option.some.inj h), trivial⟩
   exact trivial
 rintro _ ⟨tm, os, rfl⟩
 refine AOps.p rfl (rfl : _ = (AV.bool b45)) ?_
 obtain ⟨b51, hb, h⟩ := obind h
 refine AOps.split 6 (fun f' => ∃ tm' os', f' = ⟨updL tm' [(1, (AV.eptr [(AV.int .i64 p1.Stack), (AV.int .i64 p1.Start), (AV.sl z2 f3 e4), (AV.sl z6 f7 e8), (AV.sl z10 f11 e12), (AV.sl z14 f15 e16)] 0)), (3, (AV.int .i64 y18)), (47, (AV.bool b51))], updL os' [], { s with lo := s.n }⟩) ?_ ?_
 ·rcases oite hb with ⟨hc50, hb⟩ | ⟨hc50, hb⟩
  ·refine AOps.know (d := 41) rfl hc50 ?_
   refine AOps.skipR rfl rfl ?_
   refine AOps.skipR rfl rfl ?_
   refine AOps.skipR rfl rfl ?_
   refine AOps.skipR rfl rfl ?_
   refine AOps.skipR rfl rfl ?_
   refine AOps.p rfl (rfl : _ = (AV.bool true)) ?_
   refine AOps.resR [(1, (AV.eptr [(AV.int .i64 p1.Stack), (AV.int .i64 p1.Start), (AV.sl z2 f3 e4), (AV.sl z6 f7 e8), (AV.sl z10 f11 e12), (AV.sl z14 f15 e16)] 0)), (3, (AV.int .i64 y18)), (47, (AV.bool b51))] [] ?_ ?_ _ ⟨_, _, rfl⟩
   ·exact ⟨rfl, rfl, congrArg AV.bool (Option.some.inj hb), trivial⟩
   exact trivial
  ·have h := hb
   refine AOps.know (d := 41) rfl hc50 ?_
   refine AOps.p rfl (rfl : _ = (AV.eptr [(AV.int .i64 p1.Stack), (AV.int .i64 p1.Start), (AV.sl z2 f3 e4), (AV.sl z6 f7 e8), (AV.sl z10 f11 e12), (AV.sl z14 f15 e16)] 5)) ?_
   refine AOps.ldE (v := (AV.sl z14 f15 e16)) rfl rfl rfl rfl rfl rfl ?_
   obtain ⟨y52, h53, h⟩ := obind h
   refine AOps.callP (g := 59) (args := [(AV.sl z14 f15 e16)]) (p := (rI .i64) y52) rfl rfl rfl (impl_size_sint64_ok h17 h53 hWF) ?_
   intro _ o55 h54
   cases h54
   refine AOps.p rfl (rfl : _ = (AV.int .i64 y18)) ?_
   refine AOps.p rfl (rfl : _ = (AV.bool (y52 != y18))) ?_
   refine AOps.p rfl (rfl : _ = (AV.bool (y52 != y18))) ?_
   refine AOps.resR [(1, (AV.eptr [(AV.int .i64 p1.Stack), (AV.int .i64 p1.Start), (AV.sl z2 f3 e4), (AV.sl z6 f7 e8), (AV.sl z10 f11 e12), (AV.sl z14 f15 e16)] 0)), (3, (AV.int .i64 y18)), (47, (AV.bool b51))] [] ?_ ?_ _ ⟨_, _, rfl⟩
   ·exact ⟨rfl, rfl, congrArg AV.bool (Option.some.inj h), trivial⟩
   exact trivial
 rintro _ ⟨tm, os, rfl⟩
 refine AOps.nilR ?_
 rcases oite h with ⟨hc56, h⟩ | ⟨hc56, h⟩
 ·refine AW.condT (congrArg AV.bool hc56) ?_
  refine AW.sr ?_
  refine AOps.p rfl (rfl : _ = (AV.bool false)) ?_
  refine AOps.nilR ?_
  cases h
  exact AW.ret ⟨rfl, _, _, rfl, rfl⟩
 refine AW.condF (congrArg AV.bool hc56) ?_
 refine AW.skip ?_
 refine AW.sr ?_
 refine AOps.p rfl (rfl : _ = (AV.fn 60 [(AV.eptr [(AV.int .i64 p1.Stack), (AV.int .i64 p1.Start), (AV.sl z2 f3 e4), (AV.sl z6 f7 e8), (AV.sl z10 f11 e12), (AV.sl z14 f15 e16)] 0)])) ?_
 refine AOps.assignR rfl rfl rfl (rfl : _ = (AV.fn 60 [(AV.eptr [(AV.int .i64 p1.Stack), (AV.int .i64 p1.Start), (AV.sl z2 f3 e4), (AV.sl z6 f7 e8), (AV.sl z10 f11 e12), (AV.sl z14 f15 e16)] 0)])) rfl ?_
 refine AOps.nilR ?_
 refine AW.seq ?_
 refine AW.sr ?_
 refine AOps.p rfl (rfl : _ = (AV.int .i64 y18)) ?_
 refine AOps.p rfl (rfl : _ = (AV.int .i64 0)) ?_
 refine AOps.nilR ?_
 refine AW.meet (σ := Unit) (fun _ tm os => ⟨updL tm [], updL os [], { s with lo := s.n }⟩) (fun _ => impl_ValidChecker_J1 = some r) ?_ ?_
 ·rintro _ tm os h
  unfold impl_ValidChecker_J1 at h
  refine AW.sr ?_
  refine AOps.p rfl (rfl : _ = (AV.bool true)) ?_
  refine AOps.nilR ?_
  cases h
  exact AW.ret ⟨rfl, _, _, rfl, rfl⟩
 intro KJ57
 refine AW.block ?_
 refine AW.res [(1, (AV.eptr [(AV.int .i64 p1.Stack), (AV.int .i64 p1.Start), (AV.sl z2 f3 e4), (AV.sl z6 f7 e8), (AV.sl z10 f11 e12), (AV.sl z14 f15 e16)] 0)), (4, (AV.fn 60 [(AV.eptr [(AV.int .i64 p1.Stack), (AV.int .i64 p1.Start), (AV.sl z2 f3 e4), (AV.sl z6 f7 e8), (AV.sl z10 f11 e12), (AV.sl z14 f15 e16)] 0)])), (49, (AV.int .i64 y18)), (50, (AV.int .i64 0))] [] ⟨rfl, rfl, rfl, rfl, trivial⟩ trivial ?_
 refine AW.loopF (σ := Int) (τ := Unit) (fun t58 _ => True) (fun t58 _ tm os => ⟨updL tm [(1, (AV.eptr [(AV.int .i64 p1.Stack), (AV.int .i64 p1.Start), (AV.sl z2 f3 e4), (AV.sl z6 f7 e8), (AV.sl z10 f11 e12), (AV.sl z14 f15 e16)] 0)), (4, (AV.fn 60 [(AV.eptr [(AV.int .i64 p1.Stack), (AV.int .i64 p1.Start), (AV.sl z2 f3 e4), (AV.sl z6 f7 e8), (AV.sl z10 f11 e12), (AV.sl z14 f15 e16)] 0)])), (49, (AV.int .i64 y18)), (50, (AV.int .i64 t58))], updL os [], { s with lo := s.n }⟩) ?_ (x := (0)) (y := ()) h trivial
 clear h
 rintro t58 _ tm os - e1 h hL1 hR1
 unfold impl_ValidChecker_S1 at h
 refine AW.sr ?_
 refine AOps.p rfl (rfl : _ = (AV.bool (decide ((t58 : Int) < y18)))) ?_
 refine AOps.nilR ?_
 refine AW.seq ?_
 rcases oite h with ⟨hc59, h⟩ | ⟨hc59, h⟩
 ·refine AW.condT (congrArg AV.bool hc59) ?_
  refine AW.skip ?_
  refine AW.seq ?_
  refine AW.block ?_
  refine AW.sr ?_
  refine AOps.p rfl (rfl : _ = (AV.int .i64 t58)) ?_
  refine AOps.assignR rfl rfl rfl (rfl : _ = (AV.int .i64 t58)) rfl ?_
  refine AOps.nilR ?_
  refine AW.seq ?_
  refine AW.sr ?_
  refine AOps.p rfl (rfl : _ = (AV.eptr [(AV.int .i64 p1.Stack), (AV.int .i64 p1.Start), (AV.sl z2 f3 e4), (AV.sl z6 f7 e8), (AV.sl z10 f11 e12), (AV.sl z14 f15 e16)] 3)) ?_
  refine AOps.ldE (v := (AV.sl z6 f7 e8)) rfl rfl rfl rfl rfl rfl ?_
  refine AOps.p rfl (rfl : _ = (AV.int .i64 t58)) ?_
  obtain ⟨x60, h61, h⟩ := obind h
  obtain ⟨v64, h62, h63⟩ := idx_sl h9 h61
  obtain ⟨z65, f66, e67, rfl, h68⟩ := h62
  refine AOps.pureR rfl rfl rfl h63 rfl (rfl : _ = (AV.eptr [(AV.sl z65 f66 e67)] 0)) ?_
  refine AOps.ldE (v := (AV.sl z65 f66 e67)) rfl rfl rfl rfl rfl rfl ?_
  refine AOps.p rfl (len_eq h68) ?_
  refine AOps.p rfl (rfl : _ = (AV.bool ((x60.length : Int) != 2))) ?_
  refine AOps.p rfl (rfl : _ = (AV.bool ((x60.length : Int) != 2))) ?_
  obtain ⟨b70, hb, h⟩ := obind h
  refine AOps.split 8 (fun f' => ∃ tm' os', f' = ⟨updL tm' [(1, (AV.eptr [(AV.int .i64 p1.Stack), (AV.int .i64 p1.Start), (AV.sl z2 f3 e4), (AV.sl z6 f7 e8), (AV.sl z10 f11 e12), (AV.sl z14 f15 e16)] 0)), (4, (AV.fn 60 [(AV.eptr [(AV.int .i64 p1.Stack), (AV.int .i64 p1.Start), (AV.sl z2 f3 e4), (AV.sl z6 f7 e8), (AV.sl z10 f11 e12), (AV.sl z14 f15 e16)] 0)])), (5, (AV.int .i64 t58)), (49, (AV.int .i64 y18)), (50, (AV.int .i64 t58)), (68, (AV.bool b70))], updL os' [], { s with lo := s.n }⟩) ?_ ?_
  ·rcases oite hb with ⟨hc69, hb⟩ | ⟨hc69, hb⟩
   ·refine AOps.know (d := 60) rfl hc69 ?_
    refine AOps.skipR rfl rfl ?_
    refine AOps.skipR rfl rfl ?_
    refine AOps.skipR rfl rfl ?_
    refine AOps.skipR rfl rfl ?_
    refine AOps.skipR rfl rfl ?_
    refine AOps.skipR rfl rfl ?_
    refine AOps.skipR rfl rfl ?_
    refine AOps.p rfl (rfl : _ = (AV.bool true)) ?_
    refine AOps.resR [(1, (AV.eptr [(AV.int .i64 p1.Stack), (AV.int .i64 p1.Start), (AV.sl z2 f3 e4), (AV.sl z6 f7 e8), (AV.sl z10 f11 e12), (AV.sl z14 f15 e16)] 0)), (4, (AV.fn 60 [(AV.eptr [(AV.int .i64 p1.Stack), (AV.int .i64 p1.Start), (AV.sl z2 f3 e4), (AV.sl z6 f7 e8), (AV.sl z10 f11 e12), (AV.sl z14 f15 e16)] 0)])), (5, (AV.int .i64 t58)), (49, (AV.int .i64 y18)), (50, (AV.int .i64 t58)), (68, (AV.bool b70))] [] ?_ ?_ _ ⟨_, _, rfl⟩
    ·exact ⟨rfl, rfl, rfl, rfl, rfl, congrArg AV.bool (Option.some.inj hb), trivial⟩
    exact trivial
   ·have h := hb
    refine AOps.know (d := 60) rfl hc69 ?_
    refine AOps.p rfl (rfl : _ = (AV.eptr [(AV.int .i64 p1.Stack), (AV.int .i64 p1.Start), (AV.sl z2 f3 e4), (AV.sl z6 f7 e8), (AV.sl z10 f11 e12), (AV.sl z14 f15 e16)] 4)) ?_
    refine AOps.ldE (v := (AV.sl z10 f11 e12)) rfl rfl rfl rfl rfl rfl ?_
    refine AOps.p rfl (rfl : _ = (AV.int .i64 t58)) ?_
    obtain ⟨x71, h72, h⟩ := obind h
    obtain ⟨v75, h73, h74⟩ := idx_sl h13 h72
    obtain ⟨z76, f77, e78, rfl, h79⟩ := h73
    refine AOps.pureR rfl rfl rfl h74 rfl (rfl : _ = (AV.eptr [(AV.sl z76 f77 e78)] 0)) ?_
    refine AOps.ldE (v := (AV.sl z76 f77 e78)) rfl rfl rfl rfl rfl rfl ?_
    refine AOps.p rfl (len_eq h79) ?_
    refine AOps.p rfl (rfl : _ = (AV.bool ((x71.length : Int) != 2))) ?_
    refine AOps.p rfl (rfl : _ = (AV.bool ((x71.length : Int) != 2))) ?_
    refine AOps.resR [(1, (AV.eptr [(AV.int .i64 p1.Stack), (AV.int .i64 p1.Start), (AV.sl z2 f3 e4), (AV.sl z6 f7 e8), (AV.sl z10 f11 e12), (AV.sl z14 f15 e16)] 0)), (4, (AV.fn 60 [(AV.eptr [(AV.int .i64 p1.Stack), (AV.int .i64 p1.Start), (AV.sl z2 f3 e4), (AV.sl z6 f7 e8), (AV.sl z10 f11 e12), (AV.sl z14 f15 e16)] 0)])), (5, (AV.int .i64 t58)), (49, (AV.int .i64 y18)), (50, (AV.int .i64 t58)), (68, (AV.bool b70))] [] ?_ ?_ _ ⟨_, _, rfl⟩
    ·exact ⟨rfl, rfl, rfl, rfl, rfl, congrArg AV.bool (Option.some.inj h), trivial⟩
    exact trivial
  rintro _ ⟨tm, os, rfl⟩
  refine AOps.p rfl (rfl : _ = (AV.bool b70)) ?_
  obtain ⟨b81, hb, h⟩ := obind h
  refine AOps.split 9 (fun f' => ∃ tm' os', f' = ⟨updL tm' [(1, (AV.eptr [(AV.int .i64 p1.Stack), (AV.int .i64 p1.Start), (AV.sl z2 f3 e4), (AV.sl z6 f7 e8), (AV.sl z10 f11 e12), (AV.sl z14 f15 e16)] 0)), (4, (AV.fn 60 [(AV.eptr [(AV.int .i64 p1.Stack), (AV.int .i64 p1.Start), (AV.sl z2 f3 e4), (AV.sl z6 f7 e8), (AV.sl z10 f11 e12), (AV.sl z14 f15 e16)] 0)])), (5, (AV.int .i64 t58)), (49, (AV.int .i64 y18)), (50, (AV.int .i64 t58)), (78, (AV.bool b81))], updL os' [], { s with lo := s.n }⟩) ?_ ?_
  ·rcases oite hb with ⟨hc80, hb⟩ | ⟨hc80, hb⟩
   ·refine AOps.know (d := 69) rfl hc80 ?_
    refine AOps.skipR rfl rfl ?_
    refine AOps.skipR rfl rfl ?_
    refine AOps.skipR rfl rfl ?_
    refine AOps.skipR rfl rfl ?_
    refine AOps.skipR rfl rfl ?_
    refine AOps.skipR rfl rfl ?_
    refine AOps.skipR rfl rfl ?_
    refine AOps.skipR rfl rfl ?_
    refine AOps.p rfl (rfl : _ = (AV.bool true)) ?_
    refine AOps.resR [(1, (AV.eptr [(AV.int .i64 p1.Stack), (AV.int .i64 p1.Start), (AV.sl z2 f3 e4), (AV.sl z6 f7 e8), (AV.sl z10 f11 e12), (AV.sl z14 f15 e16)] 0)), (4, (AV.fn 60 [(AV.eptr [(AV.int .i64 p1.Stack), (AV.int .i64 p1.Start), (AV.sl z2 f3 e4), (AV.sl z6 f7 e8), (AV.sl z10 f11 e12), (AV.sl z14 f15 e16)] 0)])), (5, (AV.int .i64 t58)), (49, (AV.int .i64 y18)), (50, (AV.int .i64 t58)), (78, (AV.bool b81))] [] ?_ ?_ _ ⟨_, _, rfl⟩
    ·exact ⟨rfl, rfl, rfl, rfl, rfl, congrArg AV.bool (Option.some.inj hb), trivial⟩
    exact trivial
   ·have h := hb
    refine AOps.know (d := 69) rfl hc80 ?_
    refine AOps.p rfl (rfl : _ = (AV.fn 60 [(AV.eptr [(AV.int .i64 p1.Stack), (AV.int .i64 p1.Start), (AV.sl z2 f3 e4), (AV.sl z6 f7 e8), (AV.sl z10 f11 e12), (AV.sl z14 f15 e16)] 0)])) ?_
    refine AOps.p rfl (rfl : _ = (AV.eptr [(AV.int .i64 p1.Stack), (AV.int .i64 p1.Start), (AV.sl z2 f3 e4), (AV.sl z6 f7 e8), (AV.sl z10 f11 e12), (AV.sl z14 f15 e16)] 5)) ?_
    refine AOps.ldE (v := (AV.sl z14 f15 e16)) rfl rfl rfl rfl rfl rfl ?_
    refine AOps.p rfl (rfl : _ = (AV.int .i64 t58)) ?_
    obtain ⟨x82, h83, h⟩ := obind h
    obtain ⟨v86, h84, h85⟩ := idx_sl h17 h83
    obtain ⟨z87, f88, e89, rfl, h90⟩ := h84
    refine AOps.pureR rfl rfl rfl h85 rfl (rfl : _ = (AV.eptr [(AV.sl z87 f88 e89)] 0)) ?_
    refine AOps.ldE (v := (AV.sl z87 f88 e89)) rfl rfl rfl rfl rfl rfl ?_
    obtain ⟨y91, h92, h⟩ := obind h
    refine AOps.callP (g := 60) (args := [(AV.sl z87 f88 e89), (AV.int .i64 2), (AV.eptr [(AV.int .i64 p1.Stack), (AV.int .i64 p1.Start), (AV.sl z2 f3 e4), (AV.sl z6 f7 e8), (AV.sl z10 f11 e12), (AV.sl z14 f15 e16)] 0)]) (p := (rB) y91) rfl rfl rfl (impl_ValidChecker_1_ok h90 h5 h9 h13 h17 h92 hWF) ?_
    intro _ o94 h93
    cases h93
    refine AOps.p rfl (rfl : _ = (AV.bool (!y91))) ?_
    refine AOps.p rfl (rfl : _ = (AV.bool (!y91))) ?_
    refine AOps.resR [(1, (AV.eptr [(AV.int .i64 p1.Stack), (AV.int .i64 p1.Start), (AV.sl z2 f3 e4), (AV.sl z6 f7 e8), (AV.sl z10 f11 e12), (AV.sl z14 f15 e16)] 0)), (4, (AV.fn 60 [(AV.eptr [(AV.int .i64 p1.Stack), (AV.int .i64 p1.Start), (AV.sl z2 f3 e4), (AV.sl z6 f7 e8), (AV.sl z10 f11 e12), (AV.sl z14 f15 e16)] 0)])), (5, (AV.int .i64 t58)), (49, (AV.int .i64 y18)), (50, (AV.int .i64 t58)), (78, (AV.bool b81))] [] ?_ ?_ _ ⟨_, _, rfl⟩
    ·exact ⟨rfl, rfl, rfl, rfl, rfl, congrArg AV.bool (Option.some.inj h), trivial⟩
    exact trivial
  rintro _ ⟨tm, os, rfl⟩
  refine AOps.nilR ?_
  rcases oite h with ⟨hc95, h⟩ | ⟨hc95, h⟩
  ·refine AW.condT (congrArg AV.bool hc95) ?_
   refine AW.sr ?_
   refine AOps.p rfl (rfl : _ = (AV.bool false)) ?_
   refine AOps.nilR ?_
   cases h
   have hr := hR1 _ rfl
   subst hr
   exact AW.ret ⟨rfl, _, _, rfl, rfl⟩
  refine AW.condF (congrArg AV.bool hc95) ?_
  refine AW.skip ?_
  refine AW.sr ?_
  refine AOps.p rfl (rfl : _ = (AV.int .i64 0)) ?_
  refine AOps.nilR ?_
  refine AW.meet (σ := Unit) (fun _ tm os => ⟨updL tm [(1, (AV.eptr [(AV.int .i64 p1.Stack), (AV.int .i64 p1.Start), (AV.sl z2 f3 e4), (AV.sl z6 f7 e8), (AV.sl z10 f11 e12), (AV.sl z14 f15 e16)] 0)), (4, (AV.fn 60 [(AV.eptr [(AV.int .i64 p1.Stack), (AV.int .i64 p1.Start), (AV.sl z2 f3 e4), (AV.sl z6 f7 e8), (AV.sl z10 f11 e12), (AV.sl z14 f15 e16)] 0)])), (49, (AV.int .i64 y18)), (50, (AV.int .i64 t58))], updL os [], { s with lo := s.n }⟩) (fun _ => impl_ValidChecker_J2 t58 = some e1) ?_ ?_
  ·rintro _ tm os h
   unfold impl_ValidChecker_J2 at h
   refine AW.inBlock ?_
   refine AW.region ?_
   refine AOps.p rfl (rfl : _ = (AV.int .i64 (IntKind.wrap .i64 (t58 + 1)))) ?_
   refine AOps.p rfl (rfl : _ = (AV.int .i64 (IntKind.wrap .i64 (t58 + 1)))) ?_
   refine AOps.nilR ?_
   cases h
   exact AW.res [(1, (AV.eptr [(AV.int .i64 p1.Stack), (AV.int .i64 p1.Start), (AV.sl z2 f3 e4), (AV.sl z6 f7 e8), (AV.sl z10 f11 e12), (AV.sl z14 f15 e16)] 0)), (4, (AV.fn 60 [(AV.eptr [(AV.int .i64 p1.Stack), (AV.int .i64 p1.Start), (AV.sl z2 f3 e4), (AV.sl z6 f7 e8), (AV.sl z10 f11 e12), (AV.sl z14 f15 e16)] 0)])), (49, (AV.int .i64 y18)), (50, (AV.int .i64 (IntKind.wrap .i64 (t58 + 1))))] [] ⟨rfl, rfl, rfl, rfl, trivial⟩ trivial (hL1 _ rfl () _ _ trivial)
  intro KJ96
  refine AW.block ?_
  refine AW.res [(1, (AV.eptr [(AV.int .i64 p1.Stack), (AV.int .i64 p1.Start), (AV.sl z2 f3 e4), (AV.sl z6 f7 e8), (AV.sl z10 f11 e12), (AV.sl z14 f15 e16)] 0)), (4, (AV.fn 60 [(AV.eptr [(AV.int .i64 p1.Stack), (AV.int .i64 p1.Start), (AV.sl z2 f3 e4), (AV.sl z6 f7 e8), (AV.sl z10 f11 e12), (AV.sl z14 f15 e16)] 0)])), (5, (AV.int .i64 t58)), (49, (AV.int .i64 y18)), (50, (AV.int .i64 t58)), (79, (AV.int .i64 0))] [] ⟨rfl, rfl, rfl, rfl, rfl, rfl, trivial⟩ trivial ?_
  refine AW.loopF (σ := Int) (τ := Unit) (fun t97 _ => True) (fun t97 _ tm os => ⟨updL tm [(1, (AV.eptr [(AV.int .i64 p1.Stack), (AV.int .i64 p1.Start), (AV.sl z2 f3 e4), (AV.sl z6 f7 e8), (AV.sl z10 f11 e12), (AV.sl z14 f15 e16)] 0)), (4, (AV.fn 60 [(AV.eptr [(AV.int .i64 p1.Stack), (AV.int .i64 p1.Start), (AV.sl z2 f3 e4), (AV.sl z6 f7 e8), (AV.sl z10 f11 e12), (AV.sl z14 f15 e16)] 0)])), (5, (AV.int .i64 t58)), (49, (AV.int .i64 y18)), (50, (AV.int .i64 t58)), (79, (AV.int .i64 t97))], updL os [], { s with lo := s.n }⟩) ?_ (x := (0)) (y := ()) h trivial
  clear h
  rintro t97 _ tm os - e2 h hL2 hR2
  unfold impl_ValidChecker_S2 at h
  refine AW.sr ?_
  refine AOps.p rfl (rfl : _ = (AV.bool (decide ((t97 : Int) < 2)))) ?_
  refine AOps.nilR ?_
  refine AW.seq ?_
  rcases oite h with ⟨hc98, h⟩ | ⟨hc98, h⟩
  ·refine AW.condT (congrArg AV.bool hc98) ?_
   refine AW.skip ?_
   refine AW.seq ?_
   refine AW.block ?_
   refine AW.sr ?_
   refine AOps.p rfl (rfl : _ = (AV.int .i64 t97)) ?_
   refine AOps.assignR rfl rfl rfl (rfl : _ = (AV.int .i64 t97)) rfl ?_
   refine AOps.nilR ?_
   refine AW.sr ?_
   refine AOps.p rfl (rfl : _ = (AV.eptr [(AV.int .i64 p1.Stack), (AV.int .i64 p1.Start), (AV.sl z2 f3 e4), (AV.sl z6 f7 e8), (AV.sl z10 f11 e12), (AV.sl z14 f15 e16)] 3)) ?_
   refine AOps.ldE (v := (AV.sl z6 f7 e8)) rfl rfl rfl rfl rfl rfl ?_
   refine AOps.p rfl (rfl : _ = (AV.int .i64 t58)) ?_
   obtain ⟨x99, h100, h⟩ := obind h
   obtain ⟨v103, h101, h102⟩ := idx_sl h9 h100
   obtain ⟨z104, f105, e106, rfl, h107⟩ := h101
   refine AOps.pureR rfl rfl rfl h102 rfl (rfl : _ = (AV.eptr [(AV.sl z104 f105 e106)] 0)) ?_
   refine AOps.ldE (v := (AV.sl z104 f105 e106)) rfl rfl rfl rfl rfl rfl ?_
   refine AOps.p rfl (rfl : _ = (AV.int .i64 t97)) ?_
   obtain ⟨x108, h109, h⟩ := obind h
   obtain ⟨v112, h110, h111⟩ := idx_sl h107 h109
   obtain ⟨_, rfl, h113⟩ := h110
   obtain ⟨_, _, rfl, h114, h115⟩ := Cs_cons h113
   cases h114
   obtain ⟨_, _, rfl, h116, h117⟩ := Cs_cons h115
   cases h116
   cases Cs_nil h117
   refine AOps.pureR rfl rfl rfl h111 rfl (rfl : _ = (AV.eptr [(AV.int .i64 x108.To), (AV.int .i64 x108.Put)] 0)) ?_
   refine AOps.ldE (v := (AV.agg [(AV.int .i64 x108.To), (AV.int .i64 x108.Put)])) rfl rfl rfl rfl rfl rfl ?_
   refine AOps.allocP rfl rfl rfl rfl ⟨rfl, rfl⟩ rfl ?_
   refine AOps.stP (v := (AV.agg [(AV.int .i64 x108.To), (AV.int .i64 x108.Put)])) rfl rfl rfl rfl rfl rfl rfl rfl rfl (lt_b rfl) rfl ?_
   refine AOps.nilR ?_
   refine AW.sr ?_
   refine AOps.ldE (v := (AV.agg [(AV.int .i64 p1.Stack), (AV.int .i64 p1.Start), (AV.sl z2 f3 e4), (AV.sl z6 f7 e8), (AV.sl z10 f11 e12), (AV.sl z14 f15 e16)])) rfl rfl rfl rfl rfl rfl ?_
   refine AOps.p rfl (rfl : _ = (AV.eptr [(AV.int .i64 x108.To), (AV.int .i64 x108.Put)] 0)) ?_
   refine AOps.ldE (v := (AV.int .i64 x108.To)) rfl rfl rfl rfl rfl rfl ?_
   obtain ⟨y118, h119, h⟩ := obind h
   refine AOps.callDP (g := 56) (args := [(AV.agg [(AV.int .i64 p1.Stack), (AV.int .i64 p1.Start), (AV.sl z2 f3 e4), (AV.sl z6 f7 e8), (AV.sl z10 f11 e12), (AV.sl z14 f15 e16)]), (AV.int .i64 x108.To)]) (p := (rB) y118) rfl rfl rfl (impl_Checker_isState_ok h5 h9 h13 h17 h119 hWF.still) (fun v hv => Nice.pure (k := FINK) (p := (rB) y118) .B _ v hv) ?_
   intro _ o121 h120
   cases h120
   refine AOps.p rfl (rfl : _ = (AV.bool (!y118))) ?_
   refine AOps.p rfl (rfl : _ = (AV.bool (!y118))) ?_
   obtain ⟨b123, hb, h⟩ := obind h
   refine AOps.split 6 (fun f' => ∃ tm' os', f' = ⟨updL tm' [(1, (AV.eptr [(AV.int .i64 p1.Stack), (AV.int .i64 p1.Start), (AV.sl z2 f3 e4), (AV.sl z6 f7 e8), (AV.sl z10 f11 e12), (AV.sl z14 f15 e16)] 0)), (4, (AV.fn 60 [(AV.eptr [(AV.int .i64 p1.Stack), (AV.int .i64 p1.Start), (AV.sl z2 f3 e4), (AV.sl z6 f7 e8), (AV.sl z10 f11 e12), (AV.sl z14 f15 e16)] 0)])), (5, (AV.int .i64 t58)), (6, (AV.int .i64 t97)), (49, (AV.int .i64 y18)), (50, (AV.int .i64 t58)), (79, (AV.int .i64 t97)), (101, (AV.bool b123))], updL os' [], { s with lo := s.n }⟩) ?_ ?_
   ·rcases oite hb with ⟨hc122, hb⟩ | ⟨hc122, hb⟩
    ·refine AOps.know (d := 95) rfl hc122 ?_
     refine AOps.skipR rfl rfl ?_
     refine AOps.skipR rfl rfl ?_
     refine AOps.skipR rfl rfl ?_
     refine AOps.skipR rfl rfl ?_
     refine AOps.skipR rfl rfl ?_
     refine AOps.p rfl (rfl : _ = (AV.bool true)) ?_
     refine AOps.resR [(1, (AV.eptr [(AV.int .i64 p1.Stack), (AV.int .i64 p1.Start), (AV.sl z2 f3 e4), (AV.sl z6 f7 e8), (AV.sl z10 f11 e12), (AV.sl z14 f15 e16)] 0)), (4, (AV.fn 60 [(AV.eptr [(AV.int .i64 p1.Stack), (AV.int .i64 p1.Start), (AV.sl z2 f3 e4), (AV.sl z6 f7 e8), (AV.sl z10 f11 e12), (AV.sl z14 f15 e16)] 0)])), (5, (AV.int .i64 t58)), (6, (AV.int .i64 t97)), (49, (AV.int .i64 y18)), (50, (AV.int .i64 t58)), (79, (AV.int .i64 t97)), (101, (AV.bool b123))] [] ?_ ?_ _ ⟨_, _, rfl⟩
     ·exact ⟨rfl, rfl, rfl, rfl, rfl, rfl, rfl, congrArg AV.bool (Option.some.inj hb), trivial⟩
     exact trivial
    ·have h := hb
     refine AOps.know (d := 95) rfl hc122 ?_
     refine AOps.ldE (v := (AV.agg [(AV.int .i64 p1.Stack), (AV.int .i64 p1.Start), (AV.sl z2 f3 e4), (AV.sl z6 f7 e8), (AV.sl z10 f11 e12), (AV.sl z14 f15 e16)])) rfl rfl rfl rfl rfl rfl ?_
     refine AOps.p rfl (rfl : _ = (AV.eptr [(AV.int .i64 x108.To), (AV.int .i64 x108.Put)] 1)) ?_
     refine AOps.ldE (v := (AV.int .i64 x108.Put)) rfl rfl rfl rfl rfl rfl ?_
     obtain ⟨y124, h125, h⟩ := obind h
     refine AOps.callDP (g := 64) (args := [(AV.agg [(AV.int .i64 p1.Stack), (AV.int .i64 p1.Start), (AV.sl z2 f3 e4), (AV.sl z6 f7 e8), (AV.sl z10 f11 e12), (AV.sl z14 f15 e16)]), (AV.int .i64 x108.Put)]) (p := (rB) y124) rfl rfl rfl (impl_Checker_isMark_ok h5 h9 h13 h17 h125 hWF.still) (fun v hv => Nice.pure (k := FINK) (p := (rB) y124) .B _ v hv) ?_
     intro _ o127 h126
     cases h126
     refine AOps.p rfl (rfl : _ = (AV.bool (!y124))) ?_
     refine AOps.p rfl (rfl : _ = (AV.bool (!y124))) ?_
     refine AOps.resR [(1, (AV.eptr [(AV.int .i64 p1.Stack), (AV.int .i64 p1.Start), (AV.sl z2 f3 e4), (AV.sl z6 f7 e8), (AV.sl z10 f11 e12), (AV.sl z14 f15 e16)] 0)), (4, (AV.fn 60 [(AV.eptr [(AV.int .i64 p1.Stack), (AV.int .i64 p1.Start), (AV.sl z2 f3 e4), (AV.sl z6 f7 e8), (AV.sl z10 f11 e12), (AV.sl z14 f15 e16)] 0)])), (5, (AV.int .i64 t58)), (6, (AV.int .i64 t97)), (49, (AV.int .i64 y18)), (50, (AV.int .i64 t58)), (79, (AV.int .i64 t97)), (101, (AV.bool b123))] [] ?_ ?_ _ ⟨_, _, rfl⟩
     ·exact ⟨rfl, rfl, rfl, rfl, rfl, rfl, rfl, congrArg AV.bool (Option.some.inj h), trivial⟩
     exact trivial
   rintro _ ⟨tm, os, rfl⟩
   refine AOps.p rfl (rfl : _ = (AV.bool b123)) ?_
   obtain ⟨b129, hb, h⟩ := obind h
   refine AOps.split 15 (fun f' => ∃ tm' os', f' = ⟨updL tm' [(1, (AV.eptr [(AV.int .i64 p1.Stack), (AV.int .i64 p1.Start), (AV.sl z2 f3 e4), (AV.sl z6 f7 e8), (AV.sl z10 f11 e12), (AV.sl z14 f15 e16)] 0)), (4, (AV.fn 60 [(AV.eptr [(AV.int .i64 p1.Stack), (AV.int .i64 p1.Start), (AV.sl z2 f3 e4), (AV.sl z6 f7 e8), (AV.sl z10 f11 e12), (AV.sl z14 f15 e16)] 0)])), (5, (AV.int .i64 t58)), (49, (AV.int .i64 y18)), (50, (AV.int .i64 t58)), (79, (AV.int .i64 t97)), (117, (AV.bool b129))], updL os' [], { s with lo := s.n }⟩) ?_ ?_
   ·rcases oite hb with ⟨hc128, hb⟩ | ⟨hc128, hb⟩
    ·refine AOps.know (d := 102) rfl hc128 ?_
     refine AOps.skipR rfl rfl ?_
     refine AOps.skipR rfl rfl ?_
     refine AOps.skipR rfl rfl ?_
     refine AOps.skipR rfl rfl ?_
     refine AOps.skipR rfl rfl ?_
     refine AOps.skipR rfl rfl ?_
     refine AOps.skipR rfl rfl ?_
     refine AOps.skipR rfl rfl ?_
     refine AOps.skipR rfl rfl ?_
     refine AOps.skipR rfl rfl ?_
     refine AOps.skipR rfl rfl ?_
     refine AOps.skipR rfl rfl ?_
     refine AOps.skipR rfl rfl ?_
     refine AOps.skipR rfl rfl ?_
     refine AOps.p rfl (rfl : _ = (AV.bool true)) ?_
     refine AOps.resR [(1, (AV.eptr [(AV.int .i64 p1.Stack), (AV.int .i64 p1.Start), (AV.sl z2 f3 e4), (AV.sl z6 f7 e8), (AV.sl z10 f11 e12), (AV.sl z14 f15 e16)] 0)), (4, (AV.fn 60 [(AV.eptr [(AV.int .i64 p1.Stack), (AV.int .i64 p1.Start), (AV.sl z2 f3 e4), (AV.sl z6 f7 e8), (AV.sl z10 f11 e12), (AV.sl z14 f15 e16)] 0)])), (5, (AV.int .i64 t58)), (49, (AV.int .i64 y18)), (50, (AV.int .i64 t58)), (79, (AV.int .i64 t97)), (117, (AV.bool b129))] [] ?_ ?_ _ ⟨_, _, rfl⟩
     ·exact ⟨rfl, rfl, rfl, rfl, rfl, rfl, congrArg AV.bool (Option.some.inj hb), trivial⟩
     exact trivial
    ·have h := hb
     refine AOps.know (d := 102) rfl hc128 ?_
     refine AOps.p rfl (rfl : _ = (AV.fn 60 [(AV.eptr [(AV.int .i64 p1.Stack), (AV.int .i64 p1.Start), (AV.sl z2 f3 e4), (AV.sl z6 f7 e8), (AV.sl z10 f11 e12), (AV.sl z14 f15 e16)] 0)])) ?_
     refine AOps.p rfl (rfl : _ = (AV.eptr [(AV.int .i64 p1.Stack), (AV.int .i64 p1.Start), (AV.sl z2 f3 e4), (AV.sl z6 f7 e8), (AV.sl z10 f11 e12), (AV.sl z14 f15 e16)] 4)) ?_
     refine AOps.ldE (v := (AV.sl z10 f11 e12)) rfl rfl rfl rfl rfl rfl ?_
     refine AOps.p rfl (rfl : _ = (AV.int .i64 t58)) ?_
     obtain ⟨x130, h131, h⟩ := obind h
     obtain ⟨v134, h132, h133⟩ := idx_sl h13 h131
     obtain ⟨z135, f136, e137, rfl, h138⟩ := h132
     refine AOps.pureR rfl rfl rfl h133 rfl (rfl : _ = (AV.eptr [(AV.sl z135 f136 e137)] 0)) ?_
     refine AOps.ldE (v := (AV.sl z135 f136 e137)) rfl rfl rfl rfl rfl rfl ?_
     refine AOps.p rfl (rfl : _ = (AV.int .i64 t97)) ?_
     obtain ⟨x139, h140, h⟩ := obind h
     obtain ⟨v143, h141, h142⟩ := idx_sl h138 h140
     obtain ⟨z144, f145, e146, rfl, h147⟩ := h141
     refine AOps.pureR rfl rfl rfl h142 rfl (rfl : _ = (AV.eptr [(AV.sl z144 f145 e146)] 0)) ?_
     refine AOps.ldE (v := (AV.sl z144 f145 e146)) rfl rfl rfl rfl rfl rfl ?_
     refine AOps.p rfl (rfl : _ = (AV.eptr [(AV.int .i64 p1.Stack), (AV.int .i64 p1.Start), (AV.sl z2 f3 e4), (AV.sl z6 f7 e8), (AV.sl z10 f11 e12), (AV.sl z14 f15 e16)] 0)) ?_
     refine AOps.ldE (v := (AV.int .i64 p1.Stack)) rfl rfl rfl rfl rfl rfl ?_
     refine AOps.p rfl (rfl : _ = (AV.int .i64 (IntKind.wrap .i64 (p1.Stack + 1)))) ?_
     obtain ⟨y148, h149, h⟩ := obind h
     refine AOps.callDP (g := 60) (args := [(AV.sl z144 f145 e146), (AV.int .i64 (IntKind.wrap .i64 (p1.Stack + 1))), (AV.eptr [(AV.int .i64 p1.Stack), (AV.int .i64 p1.Start), (AV.sl z2 f3 e4), (AV.sl z6 f7 e8), (AV.sl z10 f11 e12), (AV.sl z14 f15 e16)] 0)]) (p := (rB) y148) rfl rfl rfl (impl_ValidChecker_1_ok h147 h5 h9 h13 h17 h149 hWF.still) (fun v hv => Nice.pure (k := FINK) (p := (rB) y148) .B _ v hv) ?_
     intro _ o151 h150
     cases h150
     refine AOps.p rfl (rfl : _ = (AV.bool (!y148))) ?_
     refine AOps.p rfl (rfl : _ = (AV.bool (!y148))) ?_
     refine AOps.resR [(1, (AV.eptr [(AV.int .i64 p1.Stack), (AV.int .i64 p1.Start), (AV.sl z2 f3 e4), (AV.sl z6 f7 e8), (AV.sl z10 f11 e12), (AV.sl z14 f15 e16)] 0)), (4, (AV.fn 60 [(AV.eptr [(AV.int .i64 p1.Stack), (AV.int .i64 p1.Start), (AV.sl z2 f3 e4), (AV.sl z6 f7 e8), (AV.sl z10 f11 e12), (AV.sl z14 f15 e16)] 0)])), (5, (AV.int .i64 t58)), (49, (AV.int .i64 y18)), (50, (AV.int .i64 t58)), (79, (AV.int .i64 t97)), (117, (AV.bool b129))] [] ?_ ?_ _ ⟨_, _, rfl⟩
     ·exact ⟨rfl, rfl, rfl, rfl, rfl, rfl, congrArg AV.bool (Option.some.inj h), trivial⟩
     exact trivial
   rintro _ ⟨tm, os, rfl⟩
   refine AOps.nilR ?_
   rcases oite h with ⟨hc152, h⟩ | ⟨hc152, h⟩
   ·refine AW.condT (congrArg AV.bool hc152) ?_
    refine AW.sr ?_
    refine AOps.p rfl (rfl : _ = (AV.bool false)) ?_
    refine AOps.nilR ?_
    cases h
    have hr := hR2 _ rfl
    cases hr
    have hr := hR1 _ rfl
    subst hr
    exact AW.ret ⟨rfl, _, _, rfl, rfl⟩
   refine AW.condF (congrArg AV.bool hc152) ?_
   refine AW.skip ?_
   refine AW.inBlock ?_
   refine AW.region ?_
   refine AOps.p rfl (rfl : _ = (AV.int .i64 (IntKind.wrap .i64 (t97 + 1)))) ?_
   refine AOps.p rfl (rfl : _ = (AV.int .i64 (IntKind.wrap .i64 (t97 + 1)))) ?_
   refine AOps.nilR ?_
   cases h
   exact AW.res [(1, (AV.eptr [(AV.int .i64 p1.Stack), (AV.int .i64 p1.Start), (AV.sl z2 f3 e4), (AV.sl z6 f7 e8), (AV.sl z10 f11 e12), (AV.sl z14 f15 e16)] 0)), (4, (AV.fn 60 [(AV.eptr [(AV.int .i64 p1.Stack), (AV.int .i64 p1.Start), (AV.sl z2 f3 e4), (AV.sl z6 f7 e8), (AV.sl z10 f11 e12), (AV.sl z14 f15 e16)] 0)])), (5, (AV.int .i64 t58)), (49, (AV.int .i64 y18)), (50, (AV.int .i64 t58)), (79, (AV.int .i64 (IntKind.wrap .i64 (t97 + 1))))] [] ⟨rfl, rfl, rfl, rfl, rfl, rfl, trivial⟩ trivial (hL2 _ rfl () _ _ trivial)
  refine AW.condF (congrArg AV.bool hc98) ?_
  refine AW.exit rfl ?_
  obtain ⟨r153, hm, hx⟩ := omap h
  clear h
  subst hx
  have hx := hR2 _ rfl
  rw [hx] at hm
  have h := hm
  exact AW.res [(1, (AV.eptr [(AV.int .i64 p1.Stack), (AV.int .i64 p1.Start), (AV.sl z2 f3 e4), (AV.sl z6 f7 e8), (AV.sl z10 f11 e12), (AV.sl z14 f15 e16)] 0)), (4, (AV.fn 60 [(AV.eptr [(AV.int .i64 p1.Stack), (AV.int .i64 p1.Start), (AV.sl z2 f3 e4), (AV.sl z6 f7 e8), (AV.sl z10 f11 e12), (AV.sl z14 f15 e16)] 0)])), (49, (AV.int .i64 y18)), (50, (AV.int .i64 t58))] [] ⟨rfl, rfl, rfl, rfl, trivial⟩ trivial (KJ96 () _ _ h)
 refine AW.condF (congrArg AV.bool hc59) ?_
 refine AW.exit rfl ?_
 obtain ⟨r154, hm, hx⟩ := omap h
 clear h
 subst hx
 have hx := hR1 _ rfl
 rw [hx] at hm
 have h := hm
 exact AW.res [] [] trivial trivial (KJ57 () _ _ h)
theorem internal_stringslite_IndexByte_ok {s1 : List UInt8} {c2 : Int} {s : St} {r : Int} (h : internal_stringslite_IndexByte s1 c2 = some r) (hs : WF s) : ACall Cf 80 [(AV.str s1), (AV.int .u8 c2)] s fun v _ s' => (rI .i64) r v ∧ s' = s := by
 refine ACall.pure rfl rfl rfl .I ?_
 have hWF := hs.lo'
 unfold internal_stringslite_IndexByte at h
 refine AW.sr ?_
 refine AOps.p rfl (rfl : _ = (AV.int .i64 0)) ?_
 refine AOps.nilR ?_
 refine AW.sr ?_
 refine AOps.p rfl (rfl : _ = (AV.str s1)) ?_
 refine AOps.p rfl (rfl : _ = (AV.int .u8 c2)) ?_
 obtain ⟨y3, h4, h⟩ := obind h
 refine AOps.callP (g := 86) (args := [(AV.str s1), (AV.int .u8 c2)]) (p := (rI .i64) y3) rfl rfl rfl (ext_byte_ok h4 hWF) ?_
 intro _ o6 h5
 cases h5
 refine AOps.assignR rfl rfl rfl (rfl : _ = (AV.int .i64 y3)) rfl ?_
 refine AOps.nilR ?_
 cases h
 exact AW.ret ⟨rfl, _, _, rfl, rfl⟩
theorem strings_IndexByte_ok {s1 : List UInt8} {c2 : Int} {s : St} {r : Int} (h : strings_IndexByte s1 c2 = some r) (hs : WF s) : ACall Cf 65 [(AV.str s1), (AV.int .u8 c2)] s fun v _ s' => (rI .i64) r v ∧ s' = s := by
 refine ACall.pure rfl rfl rfl .I ?_
 have hWF := hs.lo'
 unfold strings_IndexByte at h
 refine AW.sr ?_
 refine AOps.p rfl (rfl : _ = (AV.int .i64 0)) ?_
 refine AOps.nilR ?_
 refine AW.sr ?_
 refine AOps.p rfl (rfl : _ = (AV.str s1)) ?_
 refine AOps.p rfl (rfl : _ = (AV.int .u8 c2)) ?_
 obtain ⟨y3, h4, h⟩ := obind h
 refine AOps.callP (g := 80) (args := [(AV.str s1), (AV.int .u8 c2)]) (p := (rI .i64) y3) rfl rfl rfl (internal_stringslite_IndexByte_ok  h4 hWF) ?_
 intro _ o6 h5
 cases h5
 refine AOps.assignR rfl rfl rfl (rfl : _ = (AV.int .i64 y3)) rfl ?_
 refine AOps.nilR ?_
 cases h
 exact AW.ret ⟨rfl, _, _, rfl, rfl⟩
theorem impl_ValidWord_ok {w1 : List UInt8} {s : St} {r : Bool} (h : impl_ValidWord w1 = some r) (hs : WF s) : ACall Cf 32 [(AV.str w1)] s fun v _ s' => (rB) r v ∧ s' = s := by
 refine ACall.pure rfl rfl rfl .B ?_
 have hWF := hs.lo'
 unfold impl_ValidWord at h
 refine AW.sr ?_
 refine AOps.p rfl (rfl : _ = (AV.bool false)) ?_
 refine AOps.nilR ?_
 refine AW.seq ?_
 refine AW.sr ?_
 refine AOps.p rfl (rfl : _ = (AV.str w1)) ?_
 refine AOps.p rfl (rfl : _ = (AV.int .i64 (w1.length : Int))) ?_
 refine AOps.p rfl (rfl : _ = (AV.int .i64 0)) ?_
 refine AOps.nilR ?_
 refine AW.meet (σ := Unit) (fun _ tm os => ⟨updL tm [(0, (AV.str w1))], updL os [], { s with lo := s.n }⟩) (fun _ => impl_ValidWord_J1 w1 = some r) ?_ ?_
 ·rintro _ tm os h
  unfold impl_ValidWord_J1 at h
  refine AW.sr ?_
  refine AOps.p rfl (rfl : _ = (AV.str w1)) ?_
  refine AOps.p rfl (rfl : _ = (AV.int .i64 (w1.length : Int))) ?_
  refine AOps.p rfl (rfl : _ = (AV.bool (decide (((w1.length : Int) : Int) ≤ 60)))) ?_
  refine AOps.assignR rfl rfl rfl (rfl : _ = (AV.bool (decide (((w1.length : Int) : Int) ≤ 60)))) rfl ?_
  refine AOps.nilR ?_
  cases h
  exact AW.ret ⟨rfl, _, _, rfl, rfl⟩
 intro KJ2
 refine AW.block ?_
 refine AW.res [(0, (AV.str w1)), (5, (AV.int .i64 (w1.length : Int))), (6, (AV.int .i64 0))] [] ⟨rfl, rfl, rfl, trivial⟩ trivial ?_
 refine AW.loopF (σ := Int) (τ := Unit) (fun t3 _ => True) (fun t3 _ tm os => ⟨updL tm [(0, (AV.str w1)), (5, (AV.int .i64 (w1.length : Int))), (6, (AV.int .i64 t3))], updL os [], { s with lo := s.n }⟩) ?_ (x := (0)) (y := ()) h trivial
 clear h
 rintro t3 _ tm os - e1 h hL1 hR1
 unfold impl_ValidWord_S1 at h
 refine AW.sr ?_
 refine AOps.p rfl (rfl : _ = (AV.bool (decide ((t3 : Int) < (w1.length : Int))))) ?_
 refine AOps.nilR ?_
 refine AW.seq ?_
 rcases oite h with ⟨hc4, h⟩ | ⟨hc4, h⟩
 ·refine AW.condT (congrArg AV.bool hc4) ?_
  refine AW.skip ?_
  refine AW.seq ?_
  refine AW.block ?_
  refine AW.sr ?_
  refine AOps.p rfl (rfl : _ = (AV.int .i64 t3)) ?_
  refine AOps.assignR rfl rfl rfl (rfl : _ = (AV.int .i64 t3)) rfl ?_
  refine AOps.nilR ?_
  refine AW.sr ?_
  refine AOps.p rfl (rfl : _ = (AV.str w1)) ?_
  refine AOps.p rfl (rfl : _ = (AV.int .i64 t3)) ?_
  obtain ⟨c5, h6, h⟩ := obind h
  refine AOps.pureR rfl rfl rfl (chr_str h6) rfl (rfl : _ = (AV.int .u8 c5)) ?_
  obtain ⟨y7, h8, h⟩ := obind h
  refine AOps.callP (g := 65) (args := [(AV.str ([40, 91, 41, 93, 97, 98] : List UInt8)), (AV.int .u8 c5)]) (p := (rI .i64) y7) rfl rfl rfl (strings_IndexByte_ok  h8 hWF) ?_
  intro _ o10 h9
  cases h9
  refine AOps.p rfl (rfl : _ = (AV.bool (decide ((y7 : Int) < 0)))) ?_
  refine AOps.nilR ?_
  rcases oite h with ⟨hc11, h⟩ | ⟨hc11, h⟩
  ·refine AW.condT (congrArg AV.bool hc11) ?_
   refine AW.sr ?_
   refine AOps.p rfl (rfl : _ = (AV.bool false)) ?_
   refine AOps.nilR ?_
   cases h
   have hr := hR1 _ rfl
   subst hr
   exact AW.ret ⟨rfl, _, _, rfl, rfl⟩
  refine AW.condF (congrArg AV.bool hc11) ?_
  refine AW.skip ?_
  refine AW.inBlock ?_
  refine AW.region ?_
  refine AOps.p rfl (rfl : _ = (AV.int .i64 (IntKind.wrap .i64 (t3 + 1)))) ?_
  refine AOps.p rfl (rfl : _ = (AV.int .i64 (IntKind.wrap .i64 (t3 + 1)))) ?_
  refine AOps.nilR ?_
  cases h
  exact AW.res [(0, (AV.str w1)), (5, (AV.int .i64 (w1.length : Int))), (6, (AV.int .i64 (IntKind.wrap .i64 (t3 + 1))))] [] ⟨rfl, rfl, rfl, trivial⟩ trivial (hL1 _ rfl () _ _ trivial)
 refine AW.condF (congrArg AV.bool hc4) ?_
 refine AW.exit rfl ?_
 obtain ⟨r12, hm, hx⟩ := omap h
 clear h
 subst hx
 have hx := hR1 _ rfl
 rw [hx] at hm
 have h := hm
 exact AW.res [(0, (AV.str w1))] [] ⟨rfl, trivial⟩ trivial (KJ2 () _ _ h)
theorem slices_IndexFunc_simpl_Context_impl_Context_ok {s1 : List Context} {f6 : Context → Option Bool} {z2 : Nat} {f3 : Bool} {e4 : List AV} {g7 : Nat} {cap8 : List AV} {s : St} (h5 : LR rContext 2 s1 z2 e4) (h9 : ∀ x vs y, Cs [rContext x] vs → f6 x = some y → ∀ s, WF s → ACall Cf g7 (vs ++ cap8) s fun v _ s' => (rB) y v ∧ s' = s) {r : Int} (h : slices_IndexFunc_simpl_Context_impl_Context s1 f6 = some r) (hs : WF s) : ACall Cf 66 [(AV.sl z2 f3 e4), (AV.fn g7 cap8)] s fun v _ s' => (rI .i64) r v ∧ s' = s := by
 refine ACall.pure rfl rfl rfl .I ?_
 have hWF := hs.lo'
 unfold slices_IndexFunc_simpl_Context_impl_Context at h
 refine AW.sr ?_
 refine AOps.p rfl (rfl : _ = (AV.int .i64 0)) ?_
 refine AOps.nilR ?_
 refine AW.seq ?_
 refine AW.sr ?_
 refine AOps.p rfl (rfl : _ = (AV.sl z2 f3 e4)) ?_
 refine AOps.p rfl (len_eq h5) ?_
 refine AOps.p rfl (rfl : _ = (AV.int .i64 0)) ?_
 refine AOps.nilR ?_
 refine AW.meet (σ := Unit) (fun _ tm os => ⟨updL tm [], updL os [], { s with lo := s.n }⟩) (fun _ => slices_IndexFunc_simpl_Context_impl_Context_J1 = some r) ?_ ?_
 ·rintro _ tm os h
  unfold slices_IndexFunc_simpl_Context_impl_Context_J1 at h
  refine AW.sr ?_
  refine AOps.p rfl (rfl : _ = (AV.int .i64 (-1))) ?_
  refine AOps.nilR ?_
  cases h
  exact AW.ret ⟨rfl, _, _, rfl, rfl⟩
 intro KJ10
 refine AW.block ?_
 refine AW.res [(0, (AV.sl z2 f3 e4)), (1, (AV.fn g7 cap8)), (7, (AV.int .i64 (s1.length : Int))), (8, (AV.int .i64 0))] [] ⟨rfl, rfl, rfl, rfl, trivial⟩ trivial ?_
 refine AW.loopF (σ := Int) (τ := Unit) (fun t11 _ => True) (fun t11 _ tm os => ⟨updL tm [(0, (AV.sl z2 f3 e4)), (1, (AV.fn g7 cap8)), (7, (AV.int .i64 (s1.length : Int))), (8, (AV.int .i64 t11))], updL os [], { s with lo := s.n }⟩) ?_ (x := (0)) (y := ()) h trivial
 clear h
 rintro t11 _ tm os - e1 h hL1 hR1
 unfold slices_IndexFunc_simpl_Context_impl_Context_S1 at h
 refine AW.sr ?_
 refine AOps.p rfl (rfl : _ = (AV.bool (decide ((t11 : Int) < (s1.length : Int))))) ?_
 refine AOps.nilR ?_
 refine AW.seq ?_
 rcases oite h with ⟨hc12, h⟩ | ⟨hc12, h⟩
 ·refine AW.condT (congrArg AV.bool hc12) ?_
  refine AW.skip ?_
  refine AW.seq ?_
  refine AW.block ?_
  refine AW.sr ?_
  refine AOps.p rfl (rfl : _ = (AV.int .i64 t11)) ?_
  refine AOps.assignR rfl rfl rfl (rfl : _ = (AV.int .i64 t11)) rfl ?_
  refine AOps.nilR ?_
  refine AW.sr ?_
  refine AOps.p rfl (rfl : _ = (AV.fn g7 cap8)) ?_
  refine AOps.p rfl (rfl : _ = (AV.sl z2 f3 e4)) ?_
  refine AOps.p rfl (rfl : _ = (AV.int .i64 t11)) ?_
  obtain ⟨x13, h14, h⟩ := obind h
  obtain ⟨v17, h15, h16⟩ := idx_sl h5 h14
  obtain ⟨_, rfl, h18⟩ := h15
  obtain ⟨_, _, rfl, h19, h20⟩ := Cs_cons h18
  cases h19
  obtain ⟨_, _, rfl, h21, h22⟩ := Cs_cons h20
  cases h21
  cases Cs_nil h22
  refine AOps.pureR rfl rfl rfl h16 rfl (rfl : _ = (AV.eptr [(AV.str x13.Front), (AV.str x13.Back)] 0)) ?_
  refine AOps.ldE (v := (AV.agg [(AV.str x13.Front), (AV.str x13.Back)])) rfl rfl rfl rfl rfl rfl ?_
  obtain ⟨y23, h24, h⟩ := obind h
  refine AOps.callP (g := g7) (args := ([(AV.agg [(AV.str x13.Front), (AV.str x13.Back)])] ++ cap8)) (p := (rB) y23) rfl rfl rfl (h9 x13 _ _ (.cons ⟨_, rfl, (.cons rfl (.cons rfl .nil))⟩ .nil) h24 _ hWF) ?_
  intro _ o26 h25
  cases h25
  refine AOps.nilR ?_
  rcases oite h with ⟨hc27, h⟩ | ⟨hc27, h⟩
  ·refine AW.condT (congrArg AV.bool hc27) ?_
   refine AW.sr ?_
   refine AOps.p rfl (rfl : _ = (AV.int .i64 t11)) ?_
   refine AOps.assignR rfl rfl rfl (rfl : _ = (AV.int .i64 t11)) rfl ?_
   refine AOps.nilR ?_
   cases h
   have hr := hR1 _ rfl
   subst hr
   exact AW.ret ⟨rfl, _, _, rfl, rfl⟩
  refine AW.condF (congrArg AV.bool hc27) ?_
  refine AW.skip ?_
  refine AW.inBlock ?_
  refine AW.region ?_
  refine AOps.p rfl (rfl : _ = (AV.int .i64 (IntKind.wrap .i64 (t11 + 1)))) ?_
  refine AOps.p rfl (rfl : _ = (AV.int .i64 (IntKind.wrap .i64 (t11 + 1)))) ?_
  refine AOps.nilR ?_
  cases h
  exact AW.res [(0, (AV.sl z2 f3 e4)), (1, (AV.fn g7 cap8)), (7, (AV.int .i64 (s1.length : Int))), (8, (AV.int .i64 (IntKind.wrap .i64 (t11 + 1))))] [] ⟨rfl, rfl, rfl, rfl, trivial⟩ trivial (hL1 _ rfl () _ _ trivial)
 refine AW.condF (congrArg AV.bool hc12) ?_
 refine AW.exit rfl ?_
 obtain ⟨r28, hm, hx⟩ := omap h
 clear h
 subst hx
 have hx := hR1 _ rfl
 rw [hx] at hm
 have h := hm
 exact AW.res [] [] trivial trivial (KJ10 () _ _ h)
theorem slices_ContainsFunc_simpl_Context_impl_Context_ok {s1 : List Context} {f6 : Context → Option Bool} {z2 : Nat} {f3 : Bool} {e4 : List AV} {g7 : Nat} {cap8 : List AV} {s : St} (h5 : LR rContext 2 s1 z2 e4) (h9 : ∀ x vs y, Cs [rContext x] vs → f6 x = some y → ∀ s, WF s → ACall Cf g7 (vs ++ cap8) s fun v _ s' => (rB) y v ∧ s' = s) {r : Bool} (h : slices_ContainsFunc_simpl_Context_impl_Context s1 f6 = some r) (hs : WF s) : ACall Cf 33 [(AV.sl z2 f3 e4), (AV.fn g7 cap8)] s fun v _ s' => (rB) r v ∧ s' = s := by
 refine ACall.pure rfl rfl rfl .B ?_
 have hWF := hs.lo'
 unfold slices_ContainsFunc_simpl_Context_impl_Context at h
 refine AW.sr ?_
 refine AOps.p rfl (rfl : _ = (AV.bool false)) ?_
 refine AOps.nilR ?_
 refine AW.sr ?_
 refine AOps.p rfl (rfl : _ = (AV.sl z2 f3 e4)) ?_
 refine AOps.p rfl (rfl : _ = (AV.fn g7 cap8)) ?_
 obtain ⟨y10, h11, h⟩ := obind h
 refine AOps.callP (g := 66) (args := [(AV.sl z2 f3 e4), (AV.fn g7 cap8)]) (p := (rI .i64) y10) rfl rfl rfl (slices_IndexFunc_simpl_Context_impl_Context_ok h5 h9 h11 hWF) ?_
 intro _ o13 h12
 cases h12
 refine AOps.p rfl (rfl : _ = (AV.bool (decide ((y10 : Int) ≥ 0)))) ?_
 refine AOps.assignR rfl rfl rfl (rfl : _ = (AV.bool (decide ((y10 : Int) ≥ 0)))) rfl ?_
 refine AOps.nilR ?_
 cases h
 exact AW.ret ⟨rfl, _, _, rfl, rfl⟩
theorem impl_RowOf_1_ok {x1 : Context} {s : St} {r : Bool} (h : impl_RowOf_1 x1 = some r) (hs : WF s) : ACall Cf 34 [(AV.agg [(AV.str x1.Front), (AV.str x1.Back)])] s fun v _ s' => (rB) r v ∧ s' = s := by
 refine ACall.pure rfl rfl rfl .B ?_
 have hWF := hs.lo'
 unfold impl_RowOf_1 at h
 refine AW.sr ?_
 refine AOps.makeR rfl rfl rfl rfl rfl rfl (rfl : _ = (AV.eptr [(AV.str x1.Front), (AV.str x1.Back)] 0)) ?_
 refine AOps.p rfl (rfl : _ = (AV.bool false)) ?_
 refine AOps.nilR ?_
 refine AW.sr ?_
 refine AOps.p rfl (rfl : _ = (AV.eptr [(AV.str x1.Front), (AV.str x1.Back)] 0)) ?_
 refine AOps.ldE (v := (AV.str x1.Front)) rfl rfl rfl rfl rfl rfl ?_
 obtain ⟨y2, h3, h⟩ := obind h
 refine AOps.callP (g := 32) (args := [(AV.str x1.Front)]) (p := (rB) y2) rfl rfl rfl (impl_ValidWord_ok  h3 hWF) ?_
 intro _ o5 h4
 cases h4
 refine AOps.p rfl (rfl : _ = (AV.bool (!y2))) ?_
 refine AOps.p rfl (rfl : _ = (AV.bool (!y2))) ?_
 obtain ⟨b7, hb, h⟩ := obind h
 refine AOps.split 5 (fun f' => ∃ tm' os', f' = ⟨updL tm' [(12, (AV.bool b7))], updL os' [], { s with lo := s.n }⟩) ?_ ?_
 ·rcases oite hb with ⟨hc6, hb⟩ | ⟨hc6, hb⟩
  ·refine AOps.know (d := 7) rfl hc6 ?_
   refine AOps.skipR rfl rfl ?_
   refine AOps.skipR rfl rfl ?_
   refine AOps.skipR rfl rfl ?_
   refine AOps.skipR rfl rfl ?_
   refine AOps.p rfl (rfl : _ = (AV.bool true)) ?_
   refine AOps.resR [(12, (AV.bool b7))] [] ?_ ?_ _ ⟨_, _, rfl⟩
   ·exact ⟨congrArg AV.bool (Option.some.inj hb), trivial⟩
   exact trivial
  ·have h := hb
   refine AOps.know (d := 7) rfl hc6 ?_
   refine AOps.p rfl (rfl : _ = (AV.eptr [(AV.str x1.Front), (AV.str x1.Back)] 1)) ?_
   refine AOps.ldE (v := (AV.str x1.Back)) rfl rfl rfl rfl rfl rfl ?_
   obtain ⟨y8, h9, h⟩ := obind h
   refine AOps.callP (g := 32) (args := [(AV.str x1.Back)]) (p := (rB) y8) rfl rfl rfl (impl_ValidWord_ok  h9 hWF) ?_
   intro _ o11 h10
   cases h10
   refine AOps.p rfl (rfl : _ = (AV.bool (!y8))) ?_
   refine AOps.p rfl (rfl : _ = (AV.bool (!y8))) ?_
   refine AOps.resR [(12, (AV.bool b7))] [] ?_ ?_ _ ⟨_, _, rfl⟩
   ·exact ⟨congrArg AV.bool (Option.some.inj h), trivial⟩
   exact trivial
 rintro _ ⟨tm, os, rfl⟩
 refine AOps.assignR rfl rfl rfl (rfl : _ = (AV.bool b7)) rfl ?_
 refine AOps.nilR ?_
 cases h
 exact AW.ret ⟨rfl, _, _, rfl, rfl⟩
theorem impl_isReturn_ok {c1 : Int} {s : St} {r : Bool} (h : impl_isReturn c1 = some r) (hs : WF s) : ACall Cf 81 [(AV.int .u8 c1)] s fun v _ s' => (rB) r v ∧ s' = s := by
 refine ACall.pure rfl rfl rfl .B ?_
 have hWF := hs.lo'
 unfold impl_isReturn at h
 refine AW.sr ?_
 refine AOps.p rfl (rfl : _ = (AV.bool false)) ?_
 refine AOps.nilR ?_
 refine AW.sr ?_
 refine AOps.p rfl (rfl : _ = (AV.int .u8 c1)) ?_
 refine AOps.p rfl (rfl : _ = (AV.bool (c1 == 41))) ?_
 refine AOps.p rfl (rfl : _ = (AV.bool (c1 == 41))) ?_
 refine AOps.split 3 (fun f' => ∃ tm' os', f' = ⟨updL tm' [(8, (AV.bool ((c1 == 41) || (c1 == 93))))], updL os' [], { s with lo := s.n }⟩) ?_ ?_
 ·rcases Bool.eq_false_or_eq_true (c1 == 41) with hc2 | hc2
  ·refine AOps.know (d := 5) rfl hc2 ?_
   refine AOps.skipR rfl rfl ?_
   refine AOps.skipR rfl rfl ?_
   refine AOps.p rfl (rfl : _ = (AV.bool true)) ?_
   refine AOps.resR [(8, (AV.bool ((c1 == 41) || (c1 == 93))))] [] ?_ ?_ _ ⟨_, _, rfl⟩
   ·exact ⟨congrArg AV.bool (or_t hc2), trivial⟩
   exact trivial
  ·refine AOps.know (d := 5) rfl hc2 ?_
   refine AOps.p rfl (rfl : _ = (AV.int .u8 c1)) ?_
   refine AOps.p rfl (rfl : _ = (AV.bool (c1 == 93))) ?_
   refine AOps.p rfl (rfl : _ = (AV.bool (c1 == 93))) ?_
   refine AOps.resR [(8, (AV.bool ((c1 == 41) || (c1 == 93))))] [] ?_ ?_ _ ⟨_, _, rfl⟩
   ·exact ⟨congrArg AV.bool (or_f hc2), trivial⟩
   exact trivial
 rintro _ ⟨tm, os, rfl⟩
 refine AOps.assignR rfl rfl rfl (rfl : _ = (AV.bool ((c1 == 41) || (c1 == 93)))) rfl ?_
 refine AOps.nilR ?_
 cases h
 exact AW.ret ⟨rfl, _, _, rfl, rfl⟩
theorem impl_isCall_ok {c1 : Int} {s : St} {r : Bool} (h : impl_isCall c1 = some r) (hs : WF s) : ACall Cf 82 [(AV.int .u8 c1)] s fun v _ s' => (rB) r v ∧ s' = s := by
 refine ACall.pure rfl rfl rfl .B ?_
 have hWF := hs.lo'
 unfold impl_isCall at h
 refine AW.sr ?_
 refine AOps.p rfl (rfl : _ = (AV.bool false)) ?_
 refine AOps.nilR ?_
 refine AW.sr ?_
 refine AOps.p rfl (rfl : _ = (AV.int .u8 c1)) ?_
 refine AOps.p rfl (rfl : _ = (AV.bool (c1 == 40))) ?_
 refine AOps.p rfl (rfl : _ = (AV.bool (c1 == 40))) ?_
 refine AOps.split 3 (fun f' => ∃ tm' os', f' = ⟨updL tm' [(8, (AV.bool ((c1 == 40) || (c1 == 91))))], updL os' [], { s with lo := s.n }⟩) ?_ ?_
 ·rcases Bool.eq_false_or_eq_true (c1 == 40) with hc2 | hc2
  ·refine AOps.know (d := 5) rfl hc2 ?_
   refine AOps.skipR rfl rfl ?_
   refine AOps.skipR rfl rfl ?_
   refine AOps.p rfl (rfl : _ = (AV.bool true)) ?_
   refine AOps.resR [(8, (AV.bool ((c1 == 40) || (c1 == 91))))] [] ?_ ?_ _ ⟨_, _, rfl⟩
   ·exact ⟨congrArg AV.bool (or_t hc2), trivial⟩
   exact trivial
  ·refine AOps.know (d := 5) rfl hc2 ?_
   refine AOps.p rfl (rfl : _ = (AV.int .u8 c1)) ?_
   refine AOps.p rfl (rfl : _ = (AV.bool (c1 == 91))) ?_
   refine AOps.p rfl (rfl : _ = (AV.bool (c1 == 91))) ?_
   refine AOps.resR [(8, (AV.bool ((c1 == 40) || (c1 == 91))))] [] ?_ ?_ _ ⟨_, _, rfl⟩
   ·exact ⟨congrArg AV.bool (or_f hc2), trivial⟩
   exact trivial
 rintro _ ⟨tm, os, rfl⟩
 refine AOps.assignR rfl rfl rfl (rfl : _ = (AV.bool ((c1 == 40) || (c1 == 91)))) rfl ?_
 refine AOps.nilR ?_
 cases h
 exact AW.ret ⟨rfl, _, _, rfl, rfl⟩
theorem impl_size_int64_d_ok {list1 : List Int} {v2 : AV} {x3 : BX} {s : St} (h4 : DY (rI .i64) false 1 list1 v2 x3) (h5 : ∀ b, x3.b = some b → s.h b = some x3.cs) {r : Int} (h : impl_size_int64_d list1 = some r) (hs : WF s) : ACall Cf 61 [v2] s fun v _ s' => (rI .i64) r v ∧ s' = s := by
 refine ACall.pure rfl rfl rfl .I ?_
 have hWF := hs.lo'
 unfold impl_size_int64_d at h
 refine AW.sr ?_
 refine AOps.p rfl (rfl : _ = (AV.int .i64 0)) ?_
 refine AOps.nilR ?_
 refine AW.sr ?_
 refine AOps.p rfl (rfl : _ = v2) ?_
 refine AOps.pureR rfl rfl rfl (DY.len h4 rfl rfl rfl) rfl (rfl : _ = (AV.int .i64 (list1.length : Int))) ?_
 refine AOps.assignR rfl rfl rfl (rfl : _ = (AV.int .i64 (list1.length : Int))) rfl ?_
 refine AOps.nilR ?_
 cases h
 exact AW.ret ⟨rfl, _, _, rfl, rfl⟩
theorem impl_match_ok {p1 : List UInt8} {s : St} {r : Matching} (h : impl_match p1 = some r) (hs : WF s) : ACall Cf 67 [(AV.str p1)] s fun v _ s' => (rMatching) r v ∧ s' = s := by
 refine ACall.boxes rfl rfl rfl ?_
 have hH0 := HS.init hs
 unfold impl_match at h
 refine AW.sr ?_
 refine AOps.allocP rfl rfl rfl rfl ⟨rfl, rfl⟩ rfl ?_
 refine AOps.nilR ?_
 refine AW.sr ?_
 refine AOps.makeR rfl rfl rfl rfl rfl rfl (rfl : _ = (AV.sl 1 true [(AV.int .i64 0)])) ?_
 refine AOps.p rfl (rfl : _ = (AV.agg [(AV.sl 0 true []), (AV.sl 0 true []), (AV.sl 0 true []), (AV.sl 1 true [(AV.int .i64 0)]), (AV.sl 0 true [])])) ?_
 refine AOps.alloc1 hH0 rfl rfl rfl rfl rfl rfl ?_
 intro b2 s3 hH4
 change HS [] false s s3 [⟨some b2, [(AV.sl 0 true []), (AV.sl 0 true []), (AV.sl 0 true []), (AV.sl 0 true []), (AV.sl 0 true [])], (fun _ => false)⟩] at hH4
 refine AOps.stB (i := 0) (v := (AV.agg [(AV.sl 0 true []), (AV.sl 0 true []), (AV.sl 0 true []), (AV.sl 1 true [(AV.int .i64 0)]), (AV.sl 0 true [])])) hH4 rfl rfl rfl rfl rfl rfl rfl rfl rfl (lt_b rfl) (le_b rfl) rfl ?_
 intro w5 s6 h7 h8 hH9
 change HS [] false s s6 [⟨some b2, [(AV.sl 0 true []), (AV.sl 0 true []), (AV.sl 0 true []), (AV.sl 1 true [(AV.int .i64 0)]), (AV.sl 0 true [])], w5⟩] at hH9
 refine AOps.nilR ?_
 refine AW.seq ?_
 refine AW.sr ?_
 refine AOps.p rfl (rfl : _ = (AV.str p1)) ?_
 refine AOps.p rfl (rfl : _ = (AV.int .i64 (p1.length : Int))) ?_
 refine AOps.p rfl (rfl : _ = (AV.int .i64 0)) ?_
 refine AOps.nilR ?_
 refine AW.meet (σ := (List Int) × (List Int) × (List Int) × (List Int) × (List Int) × (Nat → Bool) × BX × AV × Nat × Bool × (List AV) × BX × AV × Nat × Bool × (List AV) × Nat × Bool × (List AV) × St) (fun (m11, m15, m21, m25, m31, w10, x12, v13, z16, f17, e18, x22, v23, z26, f27, e28, z32, f33, e34, s37) tm os => ⟨updL tm [(2, (AV.pend 5)), (3, (AV.ptr b2 0))], updL os [(2, true)], s37⟩) (fun (m11, m15, m21, m25, m31, w10, x12, v13, z16, f17, e18, x22, v23, z26, f27, e28, z32, f33, e34, s37) => (DY (rI .i64) false 1 m11 v13 x12) ∧ (LR (rI .i64) 1 m15 z16 e18) ∧ (f17 = true ∨ w10 1 = true) ∧ (DY (rI .i64) false 1 m21 v23 x22) ∧ (LR (rI .i64) 1 m25 z26 e28) ∧ (f27 = true ∨ w10 3 = true) ∧ (LR (rI .i64) 1 m31 z32 e34) ∧ (f33 = true ∨ w10 4 = true) ∧ (HS [] false s s37 [⟨some b2, [v13, (AV.sl z16 f17 e18), v23, (AV.sl z26 f27 e28), (AV.sl z32 f33 e34)], w10⟩, x12, x22]) ∧ impl_match_J1 m11 m15 m21 m25 m31 = some r) ?_ ?_
 ·rintro ⟨m11, m15, m21, m25, m31, w10, x12, v13, z16, f17, e18, x22, v23, z26, f27, e28, z32, f33, e34, s37⟩ tm os ⟨h14, h19, h20, h24, h29, h30, h35, h36, hH38, h⟩
  unfold impl_match_J1 at h
  refine AW.sr ?_
  refine AOps.ldB (i := 0) (v := (AV.agg [v13, (AV.sl z16 f17 e18), v23, (AV.sl z26 f27 e28), (AV.sl z32 f33 e34)])) hH38 rfl rfl rfl rfl rfl rfl rfl rfl rfl ?_
  refine AOps.stP (v := (AV.agg [v13, (AV.sl z16 f17 e18), v23, (AV.sl z26 f27 e28), (AV.sl z32 f33 e34)])) rfl rfl rfl rfl rfl rfl rfl (lay_cons (DY.one h14) (lay_cons rfl (lay_cons (DY.one h24) (lay_cons rfl (lay_cons rfl lay_nil))))) rfl (lt_b rfl) rfl ?_
  refine AOps.nilR ?_
  cases h
  exact AW.ret ⟨⟨_, hH38⟩, _, _, rfl, (Fin.A (.cons (Fin.dy (r := rI .i64) hH38 (i := 1) rfl h14 (fun _ => .I) (fun _ => rfl)) (.cons (Fin.of (p := (rL (rI .i64) 1) m15) (.L fun _ => .I) (⟨_, _, _, rfl, h19⟩)) (.cons (Fin.dy (r := rI .i64) hH38 (i := 2) rfl h24 (fun _ => .I) (fun _ => rfl)) (.cons (Fin.of (p := (rL (rI .i64) 1) m25) (.L fun _ => .I) (⟨_, _, _, rfl, h29⟩)) (.cons (Fin.of (p := (rL (rI .i64) 1) m31) (.L fun _ => .I) (⟨_, _, _, rfl, h35⟩)) .nil)))))).2⟩
 intro KJ39
 refine AW.block ?_
 refine AW.res [(0, (AV.str p1)), (2, (AV.pend 5)), (3, (AV.ptr b2 0)), (13, (AV.int .i64 (p1.length : Int))), (14, (AV.int .i64 0))] [(2, true)] ⟨rfl, rfl, rfl, rfl, rfl, trivial⟩ ⟨rfl, trivial⟩ ?_
 refine AW.loopF (σ := (List Int) × (List Int) × (List Int) × (List Int) × (List Int) × Int) (τ := (Nat → Bool) × BX × AV × Nat × Bool × (List AV) × BX × AV × Nat × Bool × (List AV) × Nat × Bool × (List AV) × St) (fun (m41, m45, m51, m55, m61, t67) (w40, x42, v43, z46, f47, e48, x52, v53, z56, f57, e58, z62, f63, e64, s68) => (DY (rI .i64) false 1 m41 v43 x42) ∧ (LR (rI .i64) 1 m45 z46 e48) ∧ (f47 = true ∨ w40 1 = true) ∧ (DY (rI .i64) false 1 m51 v53 x52) ∧ (LR (rI .i64) 1 m55 z56 e58) ∧ (f57 = true ∨ w40 3 = true) ∧ (LR (rI .i64) 1 m61 z62 e64) ∧ (f63 = true ∨ w40 4 = true) ∧ (HS [] false s s68 [⟨some b2, [v43, (AV.sl z46 f47 e48), v53, (AV.sl z56 f57 e58), (AV.sl z62 f63 e64)], w40⟩, x42, x52])) (fun (m41, m45, m51, m55, m61, t67) (w40, x42, v43, z46, f47, e48, x52, v53, z56, f57, e58, z62, f63, e64, s68) tm os => ⟨updL tm [(0, (AV.str p1)), (2, (AV.pend 5)), (3, (AV.ptr b2 0)), (13, (AV.int .i64 (p1.length : Int))), (14, (AV.int .i64 t67))], updL os [(2, true)], s68⟩) ?_ (x := (([] : List Int), ([] : List Int), ([] : List Int), ([0] : List Int), ([] : List Int), 0)) (y := (w5, noBX, (AV.sl 0 true []), 0, true, [], noBX, (AV.sl 0 true []), 1, true, [(AV.int .i64 0)], 0, true, [], s6)) h ⟨DY.nil, ⟨.inr ⟨rfl, rfl⟩, .nil⟩, (Or.inl rfl), DY.nil, LR.lit (r := rI .i64) (sz := 1) (.cons rfl .nil), (Or.inl rfl), ⟨.inr ⟨rfl, rfl⟩, .nil⟩, (Or.inl rfl), (HS.sel hH9 [some 0, none, none] (by decide))⟩
 clear h
 rintro ⟨m41, m45, m51, m55, m61, t67⟩ ⟨w40, x42, v43, z46, f47, e48, x52, v53, z56, f57, e58, z62, f63, e64, s68⟩ tm os ⟨h44, h49, h50, h54, h59, h60, h65, h66, hH69⟩ e1 h hL1 hR1
 unfold impl_match_S1 at h
 dsimp only at h
 refine AW.sr ?_
 refine AOps.p rfl (rfl : _ = (AV.bool (decide ((t67 : Int) < (p1.length : Int))))) ?_
 refine AOps.nilR ?_
 refine AW.seq ?_
 rcases oite h with ⟨hc70, h⟩ | ⟨hc70, h⟩
 ·refine AW.condT (congrArg AV.bool hc70) ?_
  refine AW.skip ?_
  refine AW.seq ?_
  refine AW.block ?_
  refine AW.sr ?_
  refine AOps.p rfl (rfl : _ = (AV.int .i64 t67)) ?_
  refine AOps.assignR rfl rfl rfl (rfl : _ = (AV.int .i64 t67)) rfl ?_
  refine AOps.nilR ?_
  refine AW.sr ?_
  refine AOps.p rfl (rfl : _ = (AV.int .i64 t67)) ?_
  refine AOps.assignR rfl rfl rfl (rfl : _ = (AV.int .i64 t67)) rfl ?_
  refine AOps.p rfl (rfl : _ = (AV.int .i64 (-1))) ?_
  refine AOps.nilR ?_
  refine AW.sr ?_
  refine AOps.p rfl (rfl : _ = (AV.ptr b2 2)) ?_
  refine AOps.ldB (i := 0) (v := v53) hH69 rfl rfl rfl rfl rfl rfl rfl rfl rfl ?_
  refine AOps.pureR rfl rfl rfl (DY.len h54 rfl rfl rfl) rfl (rfl : _ = (AV.int .i64 (m51.length : Int))) ?_
  refine AOps.assignR rfl rfl rfl (rfl : _ = (AV.int .i64 (m51.length : Int))) rfl ?_
  refine AOps.nilR ?_
  refine AW.seq ?_
  refine AW.block ?_
  refine AW.sr ?_
  refine AOps.p rfl (rfl : _ = (AV.str p1)) ?_
  refine AOps.p rfl (rfl : _ = (AV.int .i64 t67)) ?_
  obtain ⟨c71, h72, h⟩ := obind h
  refine AOps.pureR rfl rfl rfl (chr_str h72) rfl (rfl : _ = (AV.int .u8 c71)) ?_
  obtain ⟨y73, h74, h⟩ := obind h
  refine AOps.callP (g := 81) (args := [(AV.int .u8 c71)]) (p := (rB) y73) rfl rfl rfl (impl_isReturn_ok  h74 (HS.wf' hH69)) ?_
  intro _ o76 h75
  cases h75
  refine AOps.p rfl (rfl : _ = (AV.bool y73)) ?_
  refine AOps.split 3 (fun f' => ∃ tm' os', f' = ⟨updL tm' [(0, (AV.str p1)), (2, (AV.pend 5)), (3, (AV.ptr b2 0)), (4, (AV.int .i64 t67)), (5, (AV.int .i64 t67)), (6, (AV.int .i64 (-1))), (7, (AV.int .i64 (m51.length : Int))), (13, (AV.int .i64 (p1.length : Int))), (14, (AV.int .i64 t67)), (29, (AV.bool (y73 && ((m51.length : Int) == 0))))], updL os' [(2, true)], s68⟩) ?_ ?_
  ·rcases Bool.eq_false_or_eq_true y73 with hc77 | hc77
   ·refine AOps.know (d := 26) rfl hc77 ?_
    refine AOps.p rfl (rfl : _ = (AV.int .i64 (m51.length : Int))) ?_
    refine AOps.p rfl (rfl : _ = (AV.bool ((m51.length : Int) == 0))) ?_
    refine AOps.p rfl (rfl : _ = (AV.bool ((m51.length : Int) == 0))) ?_
    refine AOps.resR [(0, (AV.str p1)), (2, (AV.pend 5)), (3, (AV.ptr b2 0)), (4, (AV.int .i64 t67)), (5, (AV.int .i64 t67)), (6, (AV.int .i64 (-1))), (7, (AV.int .i64 (m51.length : Int))), (13, (AV.int .i64 (p1.length : Int))), (14, (AV.int .i64 t67)), (29, (AV.bool (y73 && ((m51.length : Int) == 0))))] [(2, true)] ?_ ?_ _ ⟨_, _, rfl⟩
    ·exact ⟨rfl, rfl, rfl, rfl, rfl, rfl, rfl, rfl, rfl, congrArg AV.bool (and_t hc77), trivial⟩
    exact ⟨rfl, trivial⟩
   ·refine AOps.know (d := 26) rfl hc77 ?_
    refine AOps.skipR rfl rfl ?_
    refine AOps.skipR rfl rfl ?_
    refine AOps.p rfl (rfl : _ = (AV.bool false)) ?_
    refine AOps.resR [(0, (AV.str p1)), (2, (AV.pend 5)), (3, (AV.ptr b2 0)), (4, (AV.int .i64 t67)), (5, (AV.int .i64 t67)), (6, (AV.int .i64 (-1))), (7, (AV.int .i64 (m51.length : Int))), (13, (AV.int .i64 (p1.length : Int))), (14, (AV.int .i64 t67)), (29, (AV.bool (y73 && ((m51.length : Int) == 0))))] [(2, true)] ?_ ?_ _ ⟨_, _, rfl⟩
    ·exact ⟨rfl, rfl, rfl, rfl, rfl, rfl, rfl, rfl, rfl, congrArg AV.bool (and_f hc77), trivial⟩
    exact ⟨rfl, trivial⟩
  rintro _ ⟨tm, os, rfl⟩
  refine AOps.assignR rfl rfl rfl (rfl : _ = (AV.bool (y73 && ((m51.length : Int) == 0)))) rfl ?_
  refine AOps.nilR ?_
  refine AW.meet (σ := (List Int) × (List Int) × (List Int) × Int × (Nat → Bool) × BX × AV × Nat × Bool × (List AV) × BX × AV × St) (fun (m79, m83, m89, t95, w78, x80, v81, z84, f85, e86, x90, v91, s96) tm os => ⟨updL tm [(0, (AV.str p1)), (2, (AV.pend 5)), (3, (AV.ptr b2 0)), (4, (AV.int .i64 t67)), (5, (AV.int .i64 t67)), (6, (AV.int .i64 t95)), (13, (AV.int .i64 (p1.length : Int))), (14, (AV.int .i64 t67))], updL os [(2, true)], s96⟩) (fun (m79, m83, m89, t95, w78, x80, v81, z84, f85, e86, x90, v91, s96) => (DY (rI .i64) false 1 m79 v81 x80) ∧ (LR (rI .i64) 1 m83 z84 e86) ∧ (f85 = true ∨ w78 1 = true) ∧ (DY (rI .i64) false 1 m89 v91 x90) ∧ (f57 = true ∨ w78 3 = true) ∧ (f63 = true ∨ w78 4 = true) ∧ (HS [] false s s96 [⟨some b2, [v81, (AV.sl z84 f85 e86), v91, (AV.sl z56 f57 e58), (AV.sl z62 f63 e64)], w78⟩, x80, x90]) ∧ impl_match_J2 p1 m55 m61 t67 m79 m83 m89 t95 = some e1) ?_ ?_
  ·rintro ⟨m79, m83, m89, t95, w78, x80, v81, z84, f85, e86, x90, v91, s96⟩ tm os ⟨h82, h87, h88, h92, h93, h94, hH97, h⟩
   unfold impl_match_J2 at h
   refine AW.inBlock ?_
   refine AW.sr ?_
   refine AOps.p rfl (rfl : _ = (AV.int .i64 (-1))) ?_
   refine AOps.nilR ?_
   refine AW.seq ?_
   refine AW.sr ?_
   refine AOps.p rfl (rfl : _ = (AV.ptr b2 2)) ?_
   refine AOps.ldB (i := 0) (v := v91) hH97 rfl rfl rfl rfl rfl rfl rfl rfl rfl ?_
   refine AOps.pureR rfl rfl rfl (DY.len h92 rfl rfl rfl) rfl (rfl : _ = (AV.int .i64 (m89.length : Int))) ?_
   refine AOps.assignR rfl rfl rfl (rfl : _ = (AV.int .i64 (m89.length : Int))) rfl ?_
   refine AOps.nilR ?_
   refine AW.sr ?_
   refine AOps.p rfl (rfl : _ = (AV.int .i64 (m89.length : Int))) ?_
   refine AOps.p rfl (rfl : _ = (AV.bool (decide (((m89.length : Int) : Int) > 0)))) ?_
   refine AOps.nilR ?_
   refine AW.meet (σ := Int × BX × AV × St) (fun (t102, x99, v100, s103) tm os => ⟨updL tm [(0, (AV.str p1)), (2, (AV.pend 5)), (3, (AV.ptr b2 0)), (4, (AV.int .i64 t67)), (5, (AV.int .i64 t67)), (6, (AV.int .i64 t95)), (8, (AV.int .i64 t102)), (13, (AV.int .i64 (p1.length : Int))), (14, (AV.int .i64 t67))], updL os [(2, true)], s103⟩) (fun (t102, x99, v100, s103) => (DY (rI .i64) false 1 m89 v100 x99) ∧ (HS [] false s s103 [⟨some b2, [v81, (AV.sl z84 f85 e86), v100, (AV.sl z56 f57 e58), (AV.sl z62 f63 e64)], w78⟩, x80, x99]) ∧ impl_match_J3 p1 m55 m61 t67 m79 m83 m89 t95 t102 = some e1) ?_ ?_
   ·rintro ⟨t102, x99, v100, s103⟩ tm os ⟨h101, hH104, h⟩
    unfold impl_match_J3 at h
    refine AW.seq ?_
    refine AW.sr ?_
    refine AOps.p rfl (rfl : _ = (AV.str p1)) ?_
    refine AOps.p rfl (rfl : _ = (AV.int .i64 t67)) ?_
    obtain ⟨c106, h107, h⟩ := obind h
    refine AOps.pureR rfl rfl rfl (chr_str h107) rfl (rfl : _ = (AV.int .u8 c106)) ?_
    obtain ⟨y108, h109, h⟩ := obind h
    refine AOps.callP (g := 82) (args := [(AV.int .u8 c106)]) (p := (rB) y108) rfl rfl rfl (impl_isCall_ok  h109 (HS.wf' hH104)) ?_
    intro _ o111 h110
    cases h110
    refine AOps.nilR ?_
    refine AW.meet (σ := (List Int) × Int × (Nat → Bool) × BX × AV × St) (fun (m114, t120, w112, x115, v116, s121) tm os => ⟨updL tm [(0, (AV.str p1)), (2, (AV.pend 5)), (3, (AV.ptr b2 0)), (6, (AV.int .i64 t120)), (8, (AV.int .i64 t102)), (13, (AV.int .i64 (p1.length : Int))), (14, (AV.int .i64 t67))], updL os [(2, true)], s121⟩) (fun (m114, t120, w112, x115, v116, s121) => (f85 = true ∨ w112 1 = true) ∧ (DY (rI .i64) false 1 m114 v116 x115) ∧ (f57 = true ∨ w112 3 = true) ∧ (f63 = true ∨ w112 4 = true) ∧ (HS [] false s s121 [⟨some b2, [v81, (AV.sl z84 f85 e86), v116, (AV.sl z56 f57 e58), (AV.sl z62 f63 e64)], w112⟩, x80, x115]) ∧ impl_match_J4 m55 m61 t67 m79 m83 t102 m114 t120 = some e1) ?_ ?_
    ·rintro ⟨m114, t120, w112, x115, v116, s121⟩ tm os ⟨h113, h117, h118, h119, hH122, h⟩
     unfold impl_match_J4 at h
     refine AW.sr ?_
     refine AOps.p rfl (rfl : _ = (AV.ptr b2 0)) ?_
     refine AOps.ldB (i := 0) (v := v81) hH122 rfl rfl rfl rfl rfl rfl rfl rfl rfl ?_
     refine AOps.p rfl (rfl : _ = (AV.int .i64 t120)) ?_
     refine AOps.makeR rfl rfl rfl rfl rfl rfl (rfl : _ = (AV.sl 1 true [(AV.int .i64 t120)])) ?_
     obtain ⟨l124, h125, h⟩ := obind h
     refine AOps.appD (i := 1) (r := rI .i64) (ei := ty2) (z' := 1) (f' := true) (e' := [(AV.int .i64 t120)]) hH122 rfl h82 Sh.I rfl rfl rfl rfl rfl rfl rfl (appSrc_sl (LR.z (LR.lit (r := rI .i64) (sz := 1) (.cons rfl .nil))) rfl) (LR.el (LR.lit (r := rI .i64) (sz := 1) (.cons rfl .nil))) rfl ⟨by decide, by decide, rfl, rfl⟩ rfl rfl h125 ?_
     intro b126 n127 cs128 s129 h130 hH131
     change HS [] false s s129 [⟨some b2, [v81, (AV.sl z84 f85 e86), v116, (AV.sl z56 f57 e58), (AV.sl z62 f63 e64)], w112⟩, ⟨some b126, cs128, fun _ => false⟩, x115] at hH131
     refine AOps.p rfl (rfl : _ = (AV.ptr b2 4)) ?_
     refine AOps.ldMv (i := 0) (v := (AV.sl z62 f63 e64)) hH131 rfl rfl rfl rfl rfl rfl rfl rfl rfl rfl h119 ?_
     intro o132 w133 s137 h134 h135 hH136
     change HS [] false s s137 [⟨some b2, [v81, (AV.sl z84 f85 e86), v116, (AV.sl z56 f57 e58), (AV.sl z62 f63 e64)], w133⟩, ⟨some b126, cs128, fun _ => false⟩, x115] at hH136
     refine AOps.p rfl (rfl : _ = (AV.int .i64 t102)) ?_
     refine AOps.makeR rfl rfl rfl rfl rfl rfl (rfl : _ = (AV.sl 1 true [(AV.int .i64 t102)])) ?_
     obtain ⟨l138, h139, h⟩ := obind h
     obtain ⟨h140, h141⟩ := app_LR h65 (LR.lit (r := rI .i64) (sz := 1) (.cons rfl .nil)) h139
     refine AOps.appL (z := z62) (f := f63) (e := e64) (z' := 1) (f' := true) (e' := [(AV.int .i64 t102)]) rfl rfl rfl rfl rfl rfl rfl (appSrc_sl (LR.z (LR.lit (r := rI .i64) (sz := 1) (.cons rfl .nil))) rfl) (LR.z h65) ⟨by decide, by decide, rfl, rfl⟩ rfl rfl h141 (own_tmp h134 rfl rfl) ?_
     refine AOps.p rfl (rfl : _ = (AV.ptr b2 0)) ?_
     refine AOps.stB (i := 0) (v := (AV.ms false 1 b126 0 n127)) hH136 rfl rfl rfl rfl rfl rfl rfl rfl rfl (lt_b rfl) (le_b rfl) rfl ?_
     intro w142 s143 h144 h145 hH146
     change HS [] false s s143 [⟨some b2, [(AV.ms false 1 b126 0 n127), (AV.sl z84 f85 e86), v116, (AV.sl z56 f57 e58), (AV.sl z62 f63 e64)], w142⟩, ⟨some b126, cs128, fun _ => false⟩, x115] at hH146
     refine AOps.p rfl (rfl : _ = (AV.ptr b2 4)) ?_
     refine AOps.stB (i := 0) (v := (AV.sl 1 false (e64 ++ [(AV.int .i64 t102)]))) hH146 rfl rfl rfl rfl rfl rfl rfl rfl rfl (lt_b rfl) (le_b rfl) rfl ?_
     intro w147 s148 h149 h150 hH151
     change HS [] false s s148 [⟨some b2, [(AV.ms false 1 b126 0 n127), (AV.sl z84 f85 e86), v116, (AV.sl z56 f57 e58), (AV.sl 1 false (e64 ++ [(AV.int .i64 t102)]))], w147⟩, ⟨some b126, cs128, fun _ => false⟩, x115] at hH151
     refine AOps.nilR ?_
     refine AW.region ?_
     refine AOps.p rfl (rfl : _ = (AV.ptr b2 3)) ?_
     refine AOps.ldMv (i := 0) (v := (AV.sl z56 f57 e58)) hH151 rfl rfl rfl rfl rfl rfl rfl rfl rfl rfl (own_keep (own_keep (own_keep h118 (h135 _ (by decide))) (h144 _ (by decide))) (h149 _ (by decide))) ?_
     intro o152 w153 s157 h154 h155 hH156
     change HS [] false s s157 [⟨some b2, [(AV.ms false 1 b126 0 n127), (AV.sl z84 f85 e86), v116, (AV.sl z56 f57 e58), (AV.sl 1 false (e64 ++ [(AV.int .i64 t102)]))], w153⟩, ⟨some b126, cs128, fun _ => false⟩, x115] at hH156
     refine AOps.p rfl (rfl : _ = (AV.ptr b2 2)) ?_
     refine AOps.ldB (i := 0) (v := v116) hH156 rfl rfl rfl rfl rfl rfl rfl rfl rfl ?_
     obtain ⟨y158, h159, h⟩ := obind h
     refine AOps.callDP (g := 61) (args := [v116]) (p := (rI .i64) y158) rfl rfl rfl (impl_size_int64_d_ok (s := St.still s157) h117 (HS.fr hH156 (i := 2) rfl) h159 ((HS.wf' hH156).still)) (fun v hv => Nice.pure (k := FINK) (p := (rI .i64) y158) .I _ v hv) ?_
     intro _ o161 h160
     cases h160
     refine AOps.makeR rfl rfl rfl rfl rfl rfl (rfl : _ = (AV.sl 1 true [(AV.int .i64 y158)])) ?_
     obtain ⟨l162, h163, h⟩ := obind h
     obtain ⟨h164, h165⟩ := app_LR h59 (LR.lit (r := rI .i64) (sz := 1) (.cons rfl .nil)) h163
     refine AOps.appL (z := z56) (f := f57) (e := e58) (z' := 1) (f' := true) (e' := [(AV.int .i64 y158)]) rfl rfl rfl rfl rfl rfl rfl (appSrc_sl (LR.z (LR.lit (r := rI .i64) (sz := 1) (.cons rfl .nil))) rfl) (LR.z h59) ⟨by decide, by decide, rfl, rfl⟩ rfl rfl h165 (own_tmp h154 rfl rfl) ?_
     refine AOps.p rfl (rfl : _ = (AV.ptr b2 3)) ?_
     refine AOps.stB (i := 0) (v := (AV.sl 1 false (e58 ++ [(AV.int .i64 y158)]))) hH156 rfl rfl rfl rfl rfl rfl rfl rfl rfl (lt_b rfl) (le_b rfl) rfl ?_
     intro w166 s167 h168 h169 hH170
     change HS [] false s s167 [⟨some b2, [(AV.ms false 1 b126 0 n127), (AV.sl z84 f85 e86), v116, (AV.sl 1 false (e58 ++ [(AV.int .i64 y158)])), (AV.sl 1 false (e64 ++ [(AV.int .i64 t102)]))], w166⟩, ⟨some b126, cs128, fun _ => false⟩, x115] at hH170
     refine AOps.nilR ?_
     refine AW.inBlock ?_
     refine AW.region ?_
     refine AOps.p rfl (rfl : _ = (AV.int .i64 (IntKind.wrap .i64 (t67 + 1)))) ?_
     refine AOps.p rfl (rfl : _ = (AV.int .i64 (IntKind.wrap .i64 (t67 + 1)))) ?_
     refine AOps.nilR ?_
     cases h
     exact AW.res [(0, (AV.str p1)), (2, (AV.pend 5)), (3, (AV.ptr b2 0)), (13, (AV.int .i64 (p1.length : Int))), (14, (AV.int .i64 (IntKind.wrap .i64 (t67 + 1))))] [(2, true)] ⟨rfl, rfl, rfl, rfl, rfl, trivial⟩ ⟨rfl, trivial⟩ (hL1 _ rfl (w166, ⟨some b126, cs128, fun _ => false⟩, (AV.ms false 1 b126 0 n127), z84, f85, e86, x115, v116, 1, false, (e58 ++ [(AV.int .i64 y158)]), 1, false, (e64 ++ [(AV.int .i64 t102)]), s167) _ _ ⟨(DY.ms rfl h130), h87, (own_keep (own_keep (own_keep (own_keep (own_keep h113 (h135 _ (by decide))) (h144 _ (by decide))) (h149 _ (by decide))) (h155 _ (by decide))) (h168 _ (by decide))), h117, h164, (own_st (Or.inr rfl) h169 rfl rfl rfl), h140, (own_keep (own_keep (own_st (Or.inr rfl) h150 rfl rfl rfl) (h155 _ (by decide))) (h168 _ (by decide))), (HS.sel hH170 [some 0, some 1, some 2] (by decide))⟩)
    intro KJ123
    rcases oite h with ⟨hc171, h⟩ | ⟨hc171, h⟩
    ·refine AW.condT (congrArg AV.bool hc171) ?_
     refine AW.sr ?_
     refine AOps.p rfl (rfl : _ = (AV.int .i64 (-2))) ?_
     refine AOps.nilR ?_
     refine AW.region ?_
     refine AOps.p rfl (rfl : _ = (AV.ptr b2 2)) ?_
     refine AOps.ldB (i := 0) (v := v100) hH104 rfl rfl rfl rfl rfl rfl rfl rfl rfl ?_
     refine AOps.p rfl (rfl : _ = (AV.int .i64 t67)) ?_
     refine AOps.makeR rfl rfl rfl rfl rfl rfl (rfl : _ = (AV.sl 1 true [(AV.int .i64 t67)])) ?_
     obtain ⟨l172, h173, h⟩ := obind h
     refine AOps.appD (i := 2) (r := rI .i64) (ei := ty2) (z' := 1) (f' := true) (e' := [(AV.int .i64 t67)]) hH104 rfl h101 Sh.I rfl rfl rfl rfl rfl rfl rfl (appSrc_sl (LR.z (LR.lit (r := rI .i64) (sz := 1) (.cons rfl .nil))) rfl) (LR.el (LR.lit (r := rI .i64) (sz := 1) (.cons rfl .nil))) rfl ⟨by decide, by decide, rfl, rfl⟩ rfl rfl h173 ?_
     intro b174 n175 cs176 s177 h178 hH179
     change HS [] false s s177 [⟨some b2, [v81, (AV.sl z84 f85 e86), v100, (AV.sl z56 f57 e58), (AV.sl z62 f63 e64)], w78⟩, x80, ⟨some b174, cs176, fun _ => false⟩] at hH179
     refine AOps.p rfl (rfl : _ = (AV.ptr b2 2)) ?_
     refine AOps.stB (i := 0) (v := (AV.ms false 1 b174 0 n175)) hH179 rfl rfl rfl rfl rfl rfl rfl rfl rfl (lt_b rfl) (le_b rfl) rfl ?_
     intro w180 s181 h182 h183 hH184
     change HS [] false s s181 [⟨some b2, [v81, (AV.sl z84 f85 e86), (AV.ms false 1 b174 0 n175), (AV.sl z56 f57 e58), (AV.sl z62 f63 e64)], w180⟩, x80, ⟨some b174, cs176, fun _ => false⟩] at hH184
     refine AOps.nilR ?_
     exact AW.res [(0, (AV.str p1)), (2, (AV.pend 5)), (3, (AV.ptr b2 0)), (6, (AV.int .i64 (-2))), (8, (AV.int .i64 t102)), (13, (AV.int .i64 (p1.length : Int))), (14, (AV.int .i64 t67))] [(2, true)] ⟨rfl, rfl, rfl, rfl, rfl, rfl, rfl, trivial⟩ ⟨rfl, trivial⟩ (KJ123 (l172, (-2), w180, ⟨some b174, cs176, fun _ => false⟩, (AV.ms false 1 b174 0 n175), s181) _ _ ⟨(own_keep h88 (h182 _ (by decide))), (DY.ms rfl h178), (own_keep h93 (h182 _ (by decide))), (own_keep h94 (h182 _ (by decide))), (HS.sel hH184 [some 0, some 1, some 2] (by decide)), h⟩)
    refine AW.condF (congrArg AV.bool hc171) ?_
    refine AW.skip ?_
    exact AW.res [(0, (AV.str p1)), (2, (AV.pend 5)), (3, (AV.ptr b2 0)), (6, (AV.int .i64 t95)), (8, (AV.int .i64 t102)), (13, (AV.int .i64 (p1.length : Int))), (14, (AV.int .i64 t67))] [(2, true)] ⟨rfl, rfl, rfl, rfl, rfl, rfl, rfl, trivial⟩ ⟨rfl, trivial⟩ (KJ123 (m89, t95, w78, x99, v100, s103) _ _ ⟨h88, h101, h93, h94, (HS.sel hH104 [some 0, some 1, some 2] (by decide)), h⟩)
   intro KJ105
   rcases oite h with ⟨hc185, h⟩ | ⟨hc185, h⟩
   ·refine AW.condT (congrArg AV.bool hc185) ?_
    refine AW.region ?_
    refine AOps.p rfl (rfl : _ = (AV.ptr b2 2)) ?_
    refine AOps.ldB (i := 0) (v := v91) hH97 rfl rfl rfl rfl rfl rfl rfl rfl rfl ?_
    refine AOps.p rfl (rfl : _ = (AV.int .i64 (m89.length : Int))) ?_
    refine AOps.p rfl (rfl : _ = (AV.int .i64 (IntKind.wrap .i64 ((m89.length : Int) - 1)))) ?_
    obtain ⟨x186, h187, h⟩ := obind h
    obtain ⟨b188, n189, h190, h192, h191⟩ := DY.has h92 h187
    subst h192
    refine AOps.pureR rfl rfl rfl (idx_ms h191 h187) rfl (rfl : _ = (AV.ptr b188 (0 + Int.toNat (IntKind.wrap .i64 ((m89.length : Int) - 1)) * 1))) ?_
    refine AOps.ldM (i := 2) (r := rI .i64) (off := 0) hH97 rfl h190 h191 h187 rfl rfl rfl rfl rfl (lt_b rfl) (le_b rfl) rfl rfl ?_ (fun c hr hs => by cases hr; exact ⟨_, rfl⟩)
    intro c193 h194 h195 v196 h197
    cases h194
    cases h197
    refine AOps.assignR rfl rfl rfl (rfl : _ = (AV.int .i64 x186)) rfl ?_
    refine AOps.nilR ?_
    exact AW.res [(0, (AV.str p1)), (2, (AV.pend 5)), (3, (AV.ptr b2 0)), (4, (AV.int .i64 t67)), (5, (AV.int .i64 t67)), (6, (AV.int .i64 t95)), (8, (AV.int .i64 x186)), (13, (AV.int .i64 (p1.length : Int))), (14, (AV.int .i64 t67))] [(2, true)] ⟨rfl, rfl, rfl, rfl, rfl, rfl, rfl, rfl, rfl, trivial⟩ ⟨rfl, trivial⟩ (KJ105 (x186, x90, (AV.ms false 1 b188 0 n189), s96) _ _ ⟨(DY.ms h190 h191), (HS.sel hH97 [some 0, some 1, some 2] (by decide)), h⟩)
   refine AW.condF (congrArg AV.bool hc185) ?_
   refine AW.skip ?_
   exact AW.res [(0, (AV.str p1)), (2, (AV.pend 5)), (3, (AV.ptr b2 0)), (4, (AV.int .i64 t67)), (5, (AV.int .i64 t67)), (6, (AV.int .i64 t95)), (8, (AV.int .i64 (-1))), (13, (AV.int .i64 (p1.length : Int))), (14, (AV.int .i64 t67))] [(2, true)] ⟨rfl, rfl, rfl, rfl, rfl, rfl, rfl, rfl, rfl, trivial⟩ ⟨rfl, trivial⟩ (KJ105 ((-1), x90, v91, s96) _ _ ⟨h92, (HS.sel hH97 [some 0, some 1, some 2] (by decide)), h⟩)
  intro KJ98
  rcases oite h with ⟨hc198, h⟩ | ⟨hc198, h⟩
  ·refine AW.condT (congrArg AV.bool hc198) ?_
   refine AW.sr ?_
   refine AOps.p rfl (rfl : _ = (AV.int .i64 (-2))) ?_
   refine AOps.nilR ?_
   refine AW.region ?_
   refine AOps.p rfl (rfl : _ = (AV.ptr b2 1)) ?_
   refine AOps.ldMv (i := 0) (v := (AV.sl z46 f47 e48)) hH69 rfl rfl rfl rfl rfl rfl rfl rfl rfl rfl h50 ?_
   intro o199 w200 s204 h201 h202 hH203
   change HS [] false s s204 [⟨some b2, [v43, (AV.sl z46 f47 e48), v53, (AV.sl z56 f57 e58), (AV.sl z62 f63 e64)], w200⟩, x42, x52] at hH203
   refine AOps.p rfl (rfl : _ = (AV.int .i64 t67)) ?_
   refine AOps.makeR rfl rfl rfl rfl rfl rfl (rfl : _ = (AV.sl 1 true [(AV.int .i64 t67)])) ?_
   obtain ⟨l205, h206, h⟩ := obind h
   obtain ⟨h207, h208⟩ := app_LR h49 (LR.lit (r := rI .i64) (sz := 1) (.cons rfl .nil)) h206
   refine AOps.appL (z := z46) (f := f47) (e := e48) (z' := 1) (f' := true) (e' := [(AV.int .i64 t67)]) rfl rfl rfl rfl rfl rfl rfl (appSrc_sl (LR.z (LR.lit (r := rI .i64) (sz := 1) (.cons rfl .nil))) rfl) (LR.z h49) ⟨by decide, by decide, rfl, rfl⟩ rfl rfl h208 (own_tmp h201 rfl rfl) ?_
   refine AOps.p rfl (rfl : _ = (AV.ptr b2 1)) ?_
   refine AOps.stB (i := 0) (v := (AV.sl 1 false (e48 ++ [(AV.int .i64 t67)]))) hH203 rfl rfl rfl rfl rfl rfl rfl rfl rfl (lt_b rfl) (le_b rfl) rfl ?_
   intro w209 s210 h211 h212 hH213
   change HS [] false s s210 [⟨some b2, [v43, (AV.sl 1 false (e48 ++ [(AV.int .i64 t67)])), v53, (AV.sl z56 f57 e58), (AV.sl z62 f63 e64)], w209⟩, x42, x52] at hH213
   refine AOps.nilR ?_
   exact AW.res [(0, (AV.str p1)), (2, (AV.pend 5)), (3, (AV.ptr b2 0)), (4, (AV.int .i64 t67)), (5, (AV.int .i64 t67)), (6, (AV.int .i64 (-2))), (13, (AV.int .i64 (p1.length : Int))), (14, (AV.int .i64 t67))] [(2, true)] ⟨rfl, rfl, rfl, rfl, rfl, rfl, rfl, rfl, trivial⟩ ⟨rfl, trivial⟩ (KJ98 (m41, l205, m51, (-2), w209, x42, v43, 1, false, (e48 ++ [(AV.int .i64 t67)]), x52, v53, s210) _ _ ⟨h44, h207, (own_st (Or.inr rfl) h212 rfl rfl rfl), h54, (own_keep (own_keep h60 (h202 _ (by decide))) (h211 _ (by decide))), (own_keep (own_keep h66 (h202 _ (by decide))) (h211 _ (by decide))), (HS.sel hH213 [some 0, some 1, some 2] (by decide)), h⟩)
  refine AW.condF (congrArg AV.bool hc198) ?_
  refine AW.sr ?_
  refine AOps.p rfl (rfl : _ = (AV.str p1)) ?_
  refine AOps.p rfl (rfl : _ = (AV.int .i64 t67)) ?_
  obtain ⟨c214, h215, h⟩ := obind h
  refine AOps.pureR rfl rfl rfl (chr_str h215) rfl (rfl : _ = (AV.int .u8 c214)) ?_
  obtain ⟨y216, h217, h⟩ := obind h
  refine AOps.callP (g := 81) (args := [(AV.int .u8 c214)]) (p := (rB) y216) rfl rfl rfl (impl_isReturn_ok  h217 (HS.wf' hH69)) ?_
  intro _ o219 h218
  cases h218
  refine AOps.assignR rfl rfl rfl (rfl : _ = (AV.bool y216)) rfl ?_
  refine AOps.nilR ?_
  rcases oite h with ⟨hc220, h⟩ | ⟨hc220, h⟩
  ·refine AW.condT (congrArg AV.bool hc220) ?_
   refine AW.sr ?_
   refine AOps.p rfl (rfl : _ = (AV.ptr b2 2)) ?_
   refine AOps.ldB (i := 0) (v := v53) hH69 rfl rfl rfl rfl rfl rfl rfl rfl rfl ?_
   refine AOps.p rfl (rfl : _ = (AV.int .i64 (m51.length : Int))) ?_
   refine AOps.p rfl (rfl : _ = (AV.int .i64 (IntKind.wrap .i64 ((m51.length : Int) - 1)))) ?_
   obtain ⟨x221, h222, h⟩ := obind h
   obtain ⟨b223, n224, h225, h227, h226⟩ := DY.has h54 h222
   subst h227
   refine AOps.pureR rfl rfl rfl (idx_ms h226 h222) rfl (rfl : _ = (AV.ptr b223 (0 + Int.toNat (IntKind.wrap .i64 ((m51.length : Int) - 1)) * 1))) ?_
   refine AOps.ldM (i := 2) (r := rI .i64) (off := 0) hH69 rfl h225 h226 h222 rfl rfl rfl rfl rfl (lt_b rfl) (le_b rfl) rfl rfl ?_ (fun c hr hs => by cases hr; exact ⟨_, rfl⟩)
   intro c228 h229 h230 v231 h232
   cases h229
   cases h232
   refine AOps.assignR rfl rfl rfl (rfl : _ = (AV.int .i64 x221)) rfl ?_
   refine AOps.nilR ?_
   refine AW.sr ?_
   refine AOps.p rfl (rfl : _ = (AV.ptr b2 0)) ?_
   refine AOps.ldB (i := 0) (v := v43) hH69 rfl rfl rfl rfl rfl rfl rfl rfl rfl ?_
   refine AOps.p rfl (rfl : _ = (AV.int .i64 x221)) ?_
   refine AOps.p rfl (rfl : _ = (AV.int .i64 t67)) ?_
   obtain ⟨x233, h234, h⟩ := obind h
   obtain ⟨b235, n236, h237, h239, h238⟩ := DY.has h44 h234
   subst h239
   refine AOps.pureR rfl rfl rfl (idx_ms h238 h234) rfl (rfl : _ = (AV.ptr b235 (0 + Int.toNat x221 * 1))) ?_
   refine AOps.stM (i := 1) (r := rI .i64) (v := (AV.int .i64 t67)) (y := t67) hH69 rfl h237 h238 h234 rfl rfl rfl rfl rfl rfl (Sh.I t67 _ rfl) rfl rfl (lt_b rfl) rfl rfl ?_
   intro cs240 w241 s242 h243 hH244
   change HS [] false s s242 [⟨some b2, [(AV.ms false 1 b235 0 n236), (AV.sl z46 f47 e48), (AV.ms false 1 b223 0 n224), (AV.sl z56 f57 e58), (AV.sl z62 f63 e64)], w40⟩, ⟨some b235, cs240, w241⟩, x52] at hH244
   refine AOps.nilR ?_
   refine AW.region ?_
   refine AOps.p rfl (rfl : _ = (AV.ptr b2 2)) ?_
   refine AOps.ldB (i := 0) (v := (AV.ms false 1 b223 0 n224)) hH244 rfl rfl rfl rfl rfl rfl rfl rfl rfl ?_
   refine AOps.p rfl (rfl : _ = (AV.int .i64 (m51.length : Int))) ?_
   refine AOps.p rfl (rfl : _ = (AV.int .i64 (IntKind.wrap .i64 ((m51.length : Int) - 1)))) ?_
   obtain ⟨l245, h246, h⟩ := obind h
   obtain ⟨h247, h248⟩ := MS.cut (b := b223) (k := .i64) h226 h246
   refine AOps.pureR rfl rfl rfl h248 rfl (rfl : _ = (AV.ms false 1 b223 0 (Int.toNat (IntKind.wrap .i64 ((m51.length : Int) - 1))))) ?_
   refine AOps.p rfl (rfl : _ = (AV.ptr b2 2)) ?_
   refine AOps.stB (i := 0) (v := (AV.ms false 1 b223 0 (Int.toNat (IntKind.wrap .i64 ((m51.length : Int) - 1))))) hH244 rfl rfl rfl rfl rfl rfl rfl rfl rfl (lt_b rfl) (le_b rfl) rfl ?_
   intro w249 s250 h251 h252 hH253
   change HS [] false s s250 [⟨some b2, [(AV.ms false 1 b235 0 n236), (AV.sl z46 f47 e48), (AV.ms false 1 b223 0 (Int.toNat (IntKind.wrap .i64 ((m51.length : Int) - 1)))), (AV.sl z56 f57 e58), (AV.sl z62 f63 e64)], w249⟩, ⟨some b235, cs240, w241⟩, x52] at hH253
   refine AOps.nilR ?_
   exact AW.res [(0, (AV.str p1)), (2, (AV.pend 5)), (3, (AV.ptr b2 0)), (4, (AV.int .i64 t67)), (5, (AV.int .i64 t67)), (6, (AV.int .i64 x221)), (13, (AV.int .i64 (p1.length : Int))), (14, (AV.int .i64 t67))] [(2, true)] ⟨rfl, rfl, rfl, rfl, rfl, rfl, rfl, rfl, trivial⟩ ⟨rfl, trivial⟩ (KJ98 ((m41.set (Int.toNat x221) t67), m45, l245, x221, w249, ⟨some b235, cs240, w241⟩, (AV.ms false 1 b235 0 n236), z46, f47, e48, x52, (AV.ms false 1 b223 0 (Int.toNat (IntKind.wrap .i64 ((m51.length : Int) - 1)))), s250) _ _ ⟨(DY.ms rfl h243), h49, (own_keep h50 (h251 _ (by decide))), (DY.ms h225 h247), (own_keep h60 (h251 _ (by decide))), (own_keep h66 (h251 _ (by decide))), (HS.sel hH253 [some 0, some 1, some 2] (by decide)), h⟩)
  refine AW.condF (congrArg AV.bool hc220) ?_
  refine AW.skip ?_
  exact AW.res [(0, (AV.str p1)), (2, (AV.pend 5)), (3, (AV.ptr b2 0)), (4, (AV.int .i64 t67)), (5, (AV.int .i64 t67)), (6, (AV.int .i64 (-1))), (13, (AV.int .i64 (p1.length : Int))), (14, (AV.int .i64 t67))] [(2, true)] ⟨rfl, rfl, rfl, rfl, rfl, rfl, rfl, rfl, trivial⟩ ⟨rfl, trivial⟩ (KJ98 (m41, m45, m51, (-1), w40, x42, v43, z46, f47, e48, x52, v53, s68) _ _ ⟨h44, h49, h50, h54, h60, h66, (HS.sel hH69 [some 0, some 1, some 2] (by decide)), h⟩)
 refine AW.condF (congrArg AV.bool hc70) ?_
 refine AW.exit rfl ?_
 obtain ⟨r254, hm, hx⟩ := omap h
 clear h
 subst hx
 have hx := hR1 _ rfl
 rw [hx] at hm
 have h := hm
 exact AW.res [(2, (AV.pend 5)), (3, (AV.ptr b2 0))] [(2, true)] ⟨rfl, rfl, trivial⟩ ⟨rfl, trivial⟩ (KJ39 (m41, m45, m51, m55, m61, w40, x42, v43, z46, f47, e48, x52, v53, z56, f57, e58, z62, f63, e64, s68) _ _ ⟨h44, h49, h50, h54, h59, h60, h65, h66, (HS.sel hH69 [some 0, some 1, some 2] (by decide)), h⟩)
theorem impl_isMatched_ok {w1 : List UInt8} {s : St} {r : Bool} (h : impl_isMatched w1 = some r) (hs : WF s) : ACall Cf 35 [(AV.str w1)] s fun v _ s' => (rB) r v ∧ s' = s := by
 refine ACall.pure rfl rfl rfl .B ?_
 have hWF := hs.lo'
 unfold impl_isMatched at h
 refine AW.sr ?_
 refine AOps.p rfl (rfl : _ = (AV.bool false)) ?_
 refine AOps.nilR ?_
 refine AW.sr ?_
 refine AOps.p rfl (rfl : _ = (AV.str w1)) ?_
 obtain ⟨y2, h3, h⟩ := obind h
 refine AOps.callP (g := 67) (args := [(AV.str w1)]) (p := (rMatching) y2) rfl rfl rfl (impl_match_ok  h3 hWF) ?_
 intro _ o36 h4
 obtain ⟨_, rfl, h5⟩ := h4
 obtain ⟨_, _, rfl, h6, h7⟩ := Cs_cons h5
 obtain ⟨z8, f9, e10, rfl, h11⟩ := h6
 obtain ⟨_, _, rfl, h12, h13⟩ := Cs_cons h7
 obtain ⟨z14, f15, e16, rfl, h17⟩ := h12
 obtain ⟨_, _, rfl, h18, h19⟩ := Cs_cons h13
 obtain ⟨z20, f21, e22, rfl, h23⟩ := h18
 obtain ⟨_, _, rfl, h24, h25⟩ := Cs_cons h19
 obtain ⟨z26, f27, e28, rfl, h29⟩ := h24
 obtain ⟨_, _, rfl, h30, h31⟩ := Cs_cons h25
 obtain ⟨z32, f33, e34, rfl, h35⟩ := h30
 cases Cs_nil h31
 refine AOps.allocP rfl rfl rfl rfl ⟨rfl, rfl⟩ rfl ?_
 refine AOps.stP (v := (AV.agg [(AV.sl z8 f9 e10), (AV.sl z14 f15 e16), (AV.sl z20 f21 e22), (AV.sl z26 f27 e28), (AV.sl z32 f33 e34)])) rfl rfl rfl rfl rfl rfl rfl rfl rfl (lt_b rfl) rfl ?_
 refine AOps.nilR ?_
 refine AW.sr ?_
 refine AOps.p rfl (rfl : _ = (AV.eptr [(AV.sl z8 f9 e10), (AV.sl z14 f15 e16), (AV.sl z20 f21 e22), (AV.sl z26 f27 e28), (AV.sl z32 f33 e34)] 1)) ?_
 refine AOps.ldE (v := (AV.sl z14 f15 e16)) rfl rfl rfl rfl rfl rfl ?_
 refine AOps.p rfl (len_eq h17) ?_
 refine AOps.p rfl (rfl : _ = (AV.eptr [(AV.sl z8 f9 e10), (AV.sl z14 f15 e16), (AV.sl z20 f21 e22), (AV.sl z26 f27 e28), (AV.sl z32 f33 e34)] 2)) ?_
 refine AOps.ldE (v := (AV.sl z20 f21 e22)) rfl rfl rfl rfl rfl rfl ?_
 refine AOps.p rfl (len_eq h23) ?_
 refine AOps.p rfl (rfl : _ = (AV.int .i64 (IntKind.wrap .i64 ((y2.returns.length : Int) + (y2.calls.length : Int))))) ?_
 refine AOps.p rfl (rfl : _ = (AV.bool ((IntKind.wrap .i64 ((y2.returns.length : Int) + (y2.calls.length : Int))) == 0))) ?_
 refine AOps.assignR rfl rfl rfl (rfl : _ = (AV.bool ((IntKind.wrap .i64 ((y2.returns.length : Int) + (y2.calls.length : Int))) == 0))) rfl ?_
 refine AOps.nilR ?_
 cases h
 exact AW.ret ⟨rfl, _, _, rfl, rfl⟩
theorem impl_Context_around_ok {x1 : Context} {u2 : List UInt8} {s : St} {r : (List UInt8)} (h : impl_Context_around x1 u2 = some r) (hs : WF s) : ACall Cf 69 [(AV.agg [(AV.str x1.Front), (AV.str x1.Back)]), (AV.str u2)] s fun v _ s' => (rS) r v ∧ s' = s := by
 refine ACall.pure rfl rfl rfl .S ?_
 have hWF := hs.lo'
 unfold impl_Context_around at h
 refine AW.sr ?_
 refine AOps.makeR rfl rfl rfl rfl rfl rfl (rfl : _ = (AV.eptr [(AV.str x1.Front), (AV.str x1.Back)] 0)) ?_
 refine AOps.p rfl (rfl : _ = (AV.str ([] : List UInt8))) ?_
 refine AOps.nilR ?_
 refine AW.sr ?_
 refine AOps.p rfl (rfl : _ = (AV.eptr [(AV.str x1.Front), (AV.str x1.Back)] 0)) ?_
 refine AOps.ldE (v := (AV.str x1.Front)) rfl rfl rfl rfl rfl rfl ?_
 refine AOps.p rfl (rfl : _ = (AV.str u2)) ?_
 obtain ⟨w3, h4, h⟩ := obind h
 refine AOps.pureR rfl rfl rfl (add_str h4) rfl (rfl : _ = (AV.str w3)) ?_
 refine AOps.p rfl (rfl : _ = (AV.eptr [(AV.str x1.Front), (AV.str x1.Back)] 1)) ?_
 refine AOps.ldE (v := (AV.str x1.Back)) rfl rfl rfl rfl rfl rfl ?_
 obtain ⟨w5, h6, h⟩ := obind h
 refine AOps.pureR rfl rfl rfl (add_str h6) rfl (rfl : _ = (AV.str w5)) ?_
 refine AOps.assignR rfl rfl rfl (rfl : _ = (AV.str w5)) rfl ?_
 refine AOps.nilR ?_
 cases h
 exact AW.ret ⟨rfl, _, _, rfl, rfl⟩
theorem impl_Checker_end_1_F1_ok {s1 : Int} {rest2 : List Int} {c710 : Int} {c1114 : List Int} {z3 : Nat} {f4 : Bool} {e5 : List AV} {b8 : Nat} {w9 : Nat → Bool} {b12 : Nat} {w13 : Nat → Bool} {z15 : Nat} {f16 : Bool} {e17 : List AV} {s : St} (h6 : LR (rI .i64) 1 rest2 z3 e5) (h18 : LR (rI .i64) 1 c1114 z15 e17) (hE : HS [b8, b12] false s { s with lo := s.n } [⟨some b8, [(AV.int .i64 c710)], w9⟩, ⟨some b12, [(AV.sl z15 f16 e17)], w13⟩]) {r : Unit × Int × (List Int)} (h : impl_Checker_end_1_F1 s1 rest2 c710 c1114 = some r) (hs : WF s) : ACall Cf 90 [(AV.int .i64 s1), (AV.sl z3 f4 e5), (AV.ptr b8 0), (AV.ptr b12 0)] s fun v _ s' => (fun (_ : Unit) => rT []) r.1 v ∧ ∃ (w0' : Nat → Bool) (w1' : Nat → Bool) (z1' : Nat) (f1' : Bool) (e1' : List AV), Fx [b8, b12] s s' [⟨some b8, [(AV.int .i64 r.2.1)], w0'⟩, ⟨some b12, [(AV.sl z1' f1' e1')], w1'⟩] ∧ LR (rI .i64) 1 r.2.2 z1' e1' := by
 refine ACall.foreign rfl rfl rfl ?_
 unfold impl_Checker_end_1_F1 at h
 refine AW.region ?_
 refine AOps.p rfl (rfl : _ = (AV.int .i64 s1)) ?_
 refine AOps.p rfl (rfl : _ = (AV.sl z3 f4 e5)) ?_
 refine AOps.stX (i := 0) (v := (AV.int .i64 s1)) hE rfl rfl rfl rfl rfl rfl rfl rfl rfl (lt_b rfl) (le_b rfl) rfl rfl ?_
 intro w19 s20 h21 h22 hH23
 change HS [b8, b12] false s s20 [⟨some b8, [(AV.int .i64 s1)], w19⟩, ⟨some b12, [(AV.sl z15 f16 e17)], w13⟩] at hH23
 refine AOps.stX (i := 1) (v := (AV.sl z3 f4 e5)) hH23 rfl rfl rfl rfl rfl rfl rfl rfl rfl (lt_b rfl) (le_b rfl) rfl (Nice.pure (k := FINK) (p := (rL (rI .i64) 1) rest2) (.L fun _ => .I) 0 _ ⟨_, _, _, rfl, h6⟩) ?_
 intro w24 s25 h26 h27 hH28
 change HS [b8, b12] false s s25 [⟨some b8, [(AV.int .i64 s1)], w19⟩, ⟨some b12, [(AV.sl z3 f4 e5)], w24⟩] at hH28
 refine AOps.nilR ?_
 cases h
 exact AW.nil ⟨_, _, rfl, finF (p := (fun (_ : Unit) => rT []) ()) (Fin.T .nil) ⟨w19, w24, z3, f4, e5, HS.leaveP hH28 [0, 1] rfl, h6⟩⟩
theorem impl_kindOf_ok {c1 : Int} {s : St} {r : Int} (h : impl_kindOf c1 = some r) (hs : WF s) : ACall Cf 92 [(AV.int .u8 c1)] s fun v _ s' => (rI .i64) r v ∧ s' = s := by
 refine ACall.pure rfl rfl rfl .I ?_
 have hWF := hs.lo'
 unfold impl_kindOf at h
 refine AW.sr ?_
 refine AOps.p rfl (rfl : _ = (AV.int .i64 0)) ?_
 refine AOps.nilR ?_
 refine AW.sr ?_
 refine AOps.p rfl (rfl : _ = (AV.int .u8 c1)) ?_
 obtain ⟨y2, h3, h⟩ := obind h
 refine AOps.callP (g := 65) (args := [(AV.str ([40, 91, 41, 93, 97, 98] : List UInt8)), (AV.int .u8 c1)]) (p := (rI .i64) y2) rfl rfl rfl (strings_IndexByte_ok  h3 hWF) ?_
 intro _ o5 h4
 cases h4
 obtain ⟨q6, h7, h⟩ := obind h
 refine AOps.pureR rfl rfl rfl (rem_ok h7) rfl (rfl : _ = (AV.int .i64 q6)) ?_
 refine AOps.assignR rfl rfl rfl (rfl : _ = (AV.int .i64 q6)) rfl ?_
 refine AOps.nilR ?_
 cases h
 exact AW.ret ⟨rfl, _, _, rfl, rfl⟩
theorem impl_isInner_ok {c1 : Int} {s : St} {r : Bool} (h : impl_isInner c1 = some r) (hs : WF s) : ACall Cf 94 [(AV.int .u8 c1)] s fun v _ s' => (rB) r v ∧ s' = s := by
 refine ACall.pure rfl rfl rfl .B ?_
 have hWF := hs.lo'
 unfold impl_isInner at h
 refine AW.sr ?_
 refine AOps.p rfl (rfl : _ = (AV.bool false)) ?_
 refine AOps.nilR ?_
 refine AW.sr ?_
 refine AOps.p rfl (rfl : _ = (AV.int .u8 c1)) ?_
 refine AOps.p rfl (rfl : _ = (AV.bool (c1 == 97))) ?_
 refine AOps.p rfl (rfl : _ = (AV.bool (c1 == 97))) ?_
 refine AOps.split 3 (fun f' => ∃ tm' os', f' = ⟨updL tm' [(8, (AV.bool ((c1 == 97) || (c1 == 98))))], updL os' [], { s with lo := s.n }⟩) ?_ ?_
 ·rcases Bool.eq_false_or_eq_true (c1 == 97) with hc2 | hc2
  ·refine AOps.know (d := 5) rfl hc2 ?_
   refine AOps.skipR rfl rfl ?_
   refine AOps.skipR rfl rfl ?_
   refine AOps.p rfl (rfl : _ = (AV.bool true)) ?_
   refine AOps.resR [(8, (AV.bool ((c1 == 97) || (c1 == 98))))] [] ?_ ?_ _ ⟨_, _, rfl⟩
   ·exact ⟨congrArg AV.bool (or_t hc2), trivial⟩
   exact trivial
  ·refine AOps.know (d := 5) rfl hc2 ?_
   refine AOps.p rfl (rfl : _ = (AV.int .u8 c1)) ?_
   refine AOps.p rfl (rfl : _ = (AV.bool (c1 == 98))) ?_
   refine AOps.p rfl (rfl : _ = (AV.bool (c1 == 98))) ?_
   refine AOps.resR [(8, (AV.bool ((c1 == 97) || (c1 == 98))))] [] ?_ ?_ _ ⟨_, _, rfl⟩
   ·exact ⟨congrArg AV.bool (or_f hc2), trivial⟩
   exact trivial
 rintro _ ⟨tm, os, rfl⟩
 refine AOps.assignR rfl rfl rfl (rfl : _ = (AV.bool ((c1 == 97) || (c1 == 98)))) rfl ?_
 refine AOps.nilR ?_
 cases h
 exact AW.ret ⟨rfl, _, _, rfl, rfl⟩
theorem impl_Checker_step_ok {p1 : Checker} {p1_18 : Int} {p2_19 : List Int} {p3_24 : Int} {z2 : Nat} {f3 : Bool} {e4 : List AV} {z6 : Nat} {f7 : Bool} {e8 : List AV} {z10 : Nat} {f11 : Bool} {e12 : List AV} {z14 : Nat} {f15 : Bool} {e16 : List AV} {z20 : Nat} {f21 : Bool} {e22 : List AV} {s : St} (h5 : LR rB 1 p1.Accept z2 e4) (h9 : LR (rL rPush 2) 1 p1.Call z6 e8) (h13 : LR (rL (rL (rI .i64) 1) 1) 1 p1.Return z10 e12) (h17 : LR (rL (rI .i64) 1) 1 p1.Inner z14 e16) (h23 : LR (rI .i64) 1 p2_19 z20 e22) {r : Int × (List Int)} (h : impl_Checker_step p1 p1_18 p2_19 p3_24 = some r) (hs : WF s) : ACall Cf 91 [(AV.agg [(AV.int .i64 p1.Stack), (AV.int .i64 p1.Start), (AV.sl z2 f3 e4), (AV.sl z6 f7 e8), (AV.sl z10 f11 e12), (AV.sl z14 f15 e16)]), (AV.int .i64 p1_18), (AV.sl z20 f21 e22), (AV.int .u8 p3_24)] s fun v _ s' => (fun x => rT [(rI .i64) x.1, (rL (rI .i64) 1) x.2]) r v ∧ s' = s := by
 refine ACall.pure rfl rfl rfl (.T (.cons .I (.cons (.L fun _ => .I) .nil))) ?_
 have hWF := hs.lo'
 unfold impl_Checker_step at h
 refine AW.sr ?_
 refine AOps.makeR rfl rfl rfl rfl rfl rfl (rfl : _ = (AV.eptr [(AV.int .i64 p1.Stack), (AV.int .i64 p1.Start), (AV.sl z2 f3 e4), (AV.sl z6 f7 e8), (AV.sl z10 f11 e12), (AV.sl z14 f15 e16)] 0)) ?_
 refine AOps.p rfl (rfl : _ = (AV.int .i64 0)) ?_
 refine AOps.p rfl (rfl : _ = (AV.sl 0 true [])) ?_
 refine AOps.nilR ?_
 refine AW.sr ?_
 refine AOps.p rfl (rfl : _ = (AV.int .u8 p3_24)) ?_
 obtain ⟨y25, h26, h⟩ := obind h
 refine AOps.callP (g := 92) (args := [(AV.int .u8 p3_24)]) (p := (rI .i64) y25) rfl rfl rfl (impl_kindOf_ok  h26 hWF) ?_
 intro _ o28 h27
 cases h27
 refine AOps.assignR rfl rfl rfl (rfl : _ = (AV.int .i64 y25)) rfl ?_
 refine AOps.nilR ?_
 refine AW.seq ?_
 refine AW.block ?_
 refine AW.sr ?_
 refine AOps.p rfl (rfl : _ = (AV.int .u8 p3_24)) ?_
 obtain ⟨y29, h30, h⟩ := obind h
 refine AOps.callP (g := 82) (args := [(AV.int .u8 p3_24)]) (p := (rB) y29) rfl rfl rfl (impl_isCall_ok  h30 hWF) ?_
 intro _ o32 h31
 cases h31
 refine AOps.assignR rfl rfl rfl (rfl : _ = (AV.bool y29)) rfl ?_
 refine AOps.nilR ?_
 rcases oite h with ⟨hc33, h⟩ | ⟨hc33, h⟩
 ·refine AW.condT (congrArg AV.bool hc33) ?_
  refine AW.sr ?_
  refine AOps.p rfl (rfl : _ = (AV.eptr [(AV.int .i64 p1.Stack), (AV.int .i64 p1.Start), (AV.sl z2 f3 e4), (AV.sl z6 f7 e8), (AV.sl z10 f11 e12), (AV.sl z14 f15 e16)] 3)) ?_
  refine AOps.ldE (v := (AV.sl z6 f7 e8)) rfl rfl rfl rfl rfl rfl ?_
  refine AOps.p rfl (rfl : _ = (AV.int .i64 p1_18)) ?_
  obtain ⟨x34, h35, h⟩ := obind h
  obtain ⟨v38, h36, h37⟩ := idx_sl h9 h35
  obtain ⟨z39, f40, e41, rfl, h42⟩ := h36
  refine AOps.pureR rfl rfl rfl h37 rfl (rfl : _ = (AV.eptr [(AV.sl z39 f40 e41)] 0)) ?_
  refine AOps.ldE (v := (AV.sl z39 f40 e41)) rfl rfl rfl rfl rfl rfl ?_
  refine AOps.p rfl (rfl : _ = (AV.int .i64 y25)) ?_
  obtain ⟨x43, h44, h⟩ := obind h
  obtain ⟨v47, h45, h46⟩ := idx_sl h42 h44
  obtain ⟨_, rfl, h48⟩ := h45
  obtain ⟨_, _, rfl, h49, h50⟩ := Cs_cons h48
  cases h49
  obtain ⟨_, _, rfl, h51, h52⟩ := Cs_cons h50
  cases h51
  cases Cs_nil h52
  refine AOps.pureR rfl rfl rfl h46 rfl (rfl : _ = (AV.eptr [(AV.int .i64 x43.To), (AV.int .i64 x43.Put)] 0)) ?_
  refine AOps.ldE (v := (AV.agg [(AV.int .i64 x43.To), (AV.int .i64 x43.Put)])) rfl rfl rfl rfl rfl rfl ?_
  refine AOps.allocP rfl rfl rfl rfl ⟨rfl, rfl⟩ rfl ?_
  refine AOps.stP (v := (AV.agg [(AV.int .i64 x43.To), (AV.int .i64 x43.Put)])) rfl rfl rfl rfl rfl rfl rfl rfl rfl (lt_b rfl) rfl ?_
  refine AOps.nilR ?_
  refine AW.sr ?_
  refine AOps.p rfl (rfl : _ = (AV.eptr [(AV.int .i64 x43.To), (AV.int .i64 x43.Put)] 0)) ?_
  refine AOps.ldE (v := (AV.int .i64 x43.To)) rfl rfl rfl rfl rfl rfl ?_
  refine AOps.p rfl (rfl : _ = (AV.sl z20 f21 e22)) ?_
  obtain ⟨y53, h54, h⟩ := obind h
  refine AOps.callDPO (g := 93) (args := [(AV.sl z20 f21 e22)]) (p := (rL (rI .i64) 1) y53) rfl rfl rfl (ext_clone93_ok h23 h54 hWF.still) (fun v hv => Nice.pure (k := FINK) (p := (rL (rI .i64) 1) y53) (.L fun _ => .I) _ v hv) ?_
  intro _ h55
  obtain ⟨z56, f57, e58, rfl, h59⟩ := h55
  refine AOps.p rfl (rfl : _ = (AV.eptr [(AV.int .i64 x43.To), (AV.int .i64 x43.Put)] 1)) ?_
  refine AOps.ldE (v := (AV.int .i64 x43.Put)) rfl rfl rfl rfl rfl rfl ?_
  refine AOps.makeR rfl rfl rfl rfl rfl rfl (rfl : _ = (AV.sl 1 true [(AV.int .i64 x43.Put)])) ?_
  obtain ⟨l61, h62, h⟩ := obind h
  obtain ⟨h63, h64⟩ := app_LR h59 (LR.lit (r := rI .i64) (sz := 1) (.cons rfl .nil)) h62
  refine AOps.appL (z := z56) (f := f57) (e := e58) (z' := 1) (f' := true) (e' := [(AV.int .i64 x43.Put)]) rfl rfl rfl rfl rfl rfl rfl (appSrc_sl (LR.z (LR.lit (r := rI .i64) (sz := 1) (.cons rfl .nil))) rfl) (LR.z h59) ⟨by decide, by decide, rfl, rfl⟩ rfl rfl h64 (Or.inr ⟨30, rfl, rfl⟩) ?_
  refine AOps.assignR rfl rfl rfl (rfl : _ = (AV.int .i64 x43.To)) rfl ?_
  refine AOps.assignR rfl rfl rfl (rfl : _ = (AV.sl 1 false (e58 ++ [(AV.int .i64 x43.Put)]))) rfl ?_
  refine AOps.nilR ?_
  cases h
  exact AW.ret ⟨rfl, _, _, rfl, ⟨_, rfl, (.cons rfl (.cons ⟨_, _, _, rfl, h63⟩ .nil))⟩⟩
 refine AW.condF (congrArg AV.bool hc33) ?_
 refine AW.sr ?_
 refine AOps.p rfl (rfl : _ = (AV.int .u8 p3_24)) ?_
 obtain ⟨y65, h66, h⟩ := obind h
 refine AOps.callP (g := 94) (args := [(AV.int .u8 p3_24)]) (p := (rB) y65) rfl rfl rfl (impl_isInner_ok  h66 hWF) ?_
 intro _ o68 h67
 cases h67
 refine AOps.assignR rfl rfl rfl (rfl : _ = (AV.bool y65)) rfl ?_
 refine AOps.nilR ?_
 rcases oite h with ⟨hc69, h⟩ | ⟨hc69, h⟩
 ·refine AW.condT (congrArg AV.bool hc69) ?_
  refine AW.sr ?_
  refine AOps.p rfl (rfl : _ = (AV.eptr [(AV.int .i64 p1.Stack), (AV.int .i64 p1.Start), (AV.sl z2 f3 e4), (AV.sl z6 f7 e8), (AV.sl z10 f11 e12), (AV.sl z14 f15 e16)] 5)) ?_
  refine AOps.ldE (v := (AV.sl z14 f15 e16)) rfl rfl rfl rfl rfl rfl ?_
  refine AOps.p rfl (rfl : _ = (AV.int .i64 p1_18)) ?_
  obtain ⟨x70, h71, h⟩ := obind h
  obtain ⟨v74, h72, h73⟩ := idx_sl h17 h71
  obtain ⟨z75, f76, e77, rfl, h78⟩ := h72
  refine AOps.pureR rfl rfl rfl h73 rfl (rfl : _ = (AV.eptr [(AV.sl z75 f76 e77)] 0)) ?_
  refine AOps.ldE (v := (AV.sl z75 f76 e77)) rfl rfl rfl rfl rfl rfl ?_
  refine AOps.p rfl (rfl : _ = (AV.int .i64 y25)) ?_
  obtain ⟨x79, h80, h⟩ := obind h
  obtain ⟨v83, h81, h82⟩ := idx_sl h78 h80
  cases h81
  refine AOps.pureR rfl rfl rfl h82 rfl (rfl : _ = (AV.eptr [(AV.int .i64 x79)] 0)) ?_
  refine AOps.ldE (v := (AV.int .i64 x79)) rfl rfl rfl rfl rfl rfl ?_
  refine AOps.p rfl (rfl : _ = (AV.sl z20 f21 e22)) ?_
  refine AOps.assignR rfl rfl rfl (rfl : _ = (AV.int .i64 x79)) rfl ?_
  refine AOps.assignR rfl rfl rfl (rfl : _ = (AV.sl z20 f21 e22)) rfl ?_
  refine AOps.nilR ?_
  cases h
  exact AW.ret ⟨rfl, _, _, rfl, ⟨_, rfl, (.cons rfl (.cons ⟨_, _, _, rfl, h23⟩ .nil))⟩⟩
 refine AW.condF (congrArg AV.bool hc69) ?_
 refine AW.skip ?_
 refine AW.inBlock ?_
 refine AW.sr ?_
 refine AOps.p rfl (rfl : _ = (AV.eptr [(AV.int .i64 p1.Stack), (AV.int .i64 p1.Start), (AV.sl z2 f3 e4), (AV.sl z6 f7 e8), (AV.sl z10 f11 e12), (AV.sl z14 f15 e16)] 0)) ?_
 refine AOps.ldE (v := (AV.int .i64 p1.Stack)) rfl rfl rfl rfl rfl rfl ?_
 refine AOps.assignR rfl rfl rfl (rfl : _ = (AV.int .i64 p1.Stack)) rfl ?_
 refine AOps.nilR ?_
 refine AW.seq ?_
 refine AW.sr ?_
 refine AOps.p rfl (rfl : _ = (AV.sl z20 f21 e22)) ?_
 refine AOps.p rfl (len_eq h23) ?_
 refine AOps.assignR rfl rfl rfl (rfl : _ = (AV.int .i64 (p2_19.length : Int))) rfl ?_
 refine AOps.nilR ?_
 refine AW.sr ?_
 refine AOps.p rfl (rfl : _ = (AV.int .i64 (p2_19.length : Int))) ?_
 refine AOps.p rfl (rfl : _ = (AV.bool (decide (((p2_19.length : Int) : Int) > 0)))) ?_
 refine AOps.nilR ?_
 refine AW.meet (σ := (List Int) × Int × Nat × Bool × (List AV)) (fun (t84, t89, z85, f86, e87) tm os => ⟨updL tm [(1, (AV.int .i64 p1_18)), (2, (AV.sl z85 f86 e87)), (4, (AV.eptr [(AV.int .i64 p1.Stack), (AV.int .i64 p1.Start), (AV.sl z2 f3 e4), (AV.sl z6 f7 e8), (AV.sl z10 f11 e12), (AV.sl z14 f15 e16)] 0)), (10, (AV.int .i64 y25)), (12, (AV.int .i64 t89))], updL os [], { s with lo := s.n }⟩) (fun (t84, t89, z85, f86, e87) => (LR (rI .i64) 1 t84 z85 e87) ∧ impl_Checker_step_J1 p1 p1_18 y25 t84 t89 = some r) ?_ ?_
 ·rintro ⟨t84, t89, z85, f86, e87⟩ tm os ⟨h88, h⟩
  unfold impl_Checker_step_J1 at h
  refine AW.sr ?_
  refine AOps.p rfl (rfl : _ = (AV.eptr [(AV.int .i64 p1.Stack), (AV.int .i64 p1.Start), (AV.sl z2 f3 e4), (AV.sl z6 f7 e8), (AV.sl z10 f11 e12), (AV.sl z14 f15 e16)] 4)) ?_
  refine AOps.ldE (v := (AV.sl z10 f11 e12)) rfl rfl rfl rfl rfl rfl ?_
  refine AOps.p rfl (rfl : _ = (AV.int .i64 p1_18)) ?_
  obtain ⟨x91, h92, h⟩ := obind h
  obtain ⟨v95, h93, h94⟩ := idx_sl h13 h92
  obtain ⟨z96, f97, e98, rfl, h99⟩ := h93
  refine AOps.pureR rfl rfl rfl h94 rfl (rfl : _ = (AV.eptr [(AV.sl z96 f97 e98)] 0)) ?_
  refine AOps.ldE (v := (AV.sl z96 f97 e98)) rfl rfl rfl rfl rfl rfl ?_
  refine AOps.p rfl (rfl : _ = (AV.int .i64 y25)) ?_
  obtain ⟨x100, h101, h⟩ := obind h
  obtain ⟨v104, h102, h103⟩ := idx_sl h99 h101
  obtain ⟨z105, f106, e107, rfl, h108⟩ := h102
  refine AOps.pureR rfl rfl rfl h103 rfl (rfl : _ = (AV.eptr [(AV.sl z105 f106 e107)] 0)) ?_
  refine AOps.ldE (v := (AV.sl z105 f106 e107)) rfl rfl rfl rfl rfl rfl ?_
  refine AOps.p rfl (rfl : _ = (AV.int .i64 t89)) ?_
  obtain ⟨x109, h110, h⟩ := obind h
  obtain ⟨v113, h111, h112⟩ := idx_sl h108 h110
  cases h111
  refine AOps.pureR rfl rfl rfl h112 rfl (rfl : _ = (AV.eptr [(AV.int .i64 x109)] 0)) ?_
  refine AOps.ldE (v := (AV.int .i64 x109)) rfl rfl rfl rfl rfl rfl ?_
  refine AOps.p rfl (rfl : _ = (AV.sl z85 f86 e87)) ?_
  refine AOps.assignR rfl rfl rfl (rfl : _ = (AV.int .i64 x109)) rfl ?_
  refine AOps.assignR rfl rfl rfl (rfl : _ = (AV.sl z85 f86 e87)) rfl ?_
  refine AOps.nilR ?_
  cases h
  exact AW.ret ⟨rfl, _, _, rfl, ⟨_, rfl, (.cons rfl (.cons ⟨_, _, _, rfl, h88⟩ .nil))⟩⟩
 intro KJ90
 rcases oite h with ⟨hc114, h⟩ | ⟨hc114, h⟩
 ·refine AW.condT (congrArg AV.bool hc114) ?_
  refine AW.region ?_
  refine AOps.p rfl (rfl : _ = (AV.sl z20 f21 e22)) ?_
  refine AOps.p rfl (rfl : _ = (AV.int .i64 (p2_19.length : Int))) ?_
  refine AOps.p rfl (rfl : _ = (AV.int .i64 (IntKind.wrap .i64 ((p2_19.length : Int) - 1)))) ?_
  obtain ⟨x115, h116, h⟩ := obind h
  obtain ⟨v119, h117, h118⟩ := idx_sl h23 h116
  cases h117
  refine AOps.pureR rfl rfl rfl h118 rfl (rfl : _ = (AV.eptr [(AV.int .i64 x115)] 0)) ?_
  refine AOps.ldE (v := (AV.int .i64 x115)) rfl rfl rfl rfl rfl rfl ?_
  refine AOps.p rfl (rfl : _ = (AV.sl z20 f21 e22)) ?_
  refine AOps.p rfl (rfl : _ = (AV.int .i64 (p2_19.length : Int))) ?_
  refine AOps.p rfl (rfl : _ = (AV.int .i64 (IntKind.wrap .i64 ((p2_19.length : Int) - 1)))) ?_
  obtain ⟨l120, h121, h⟩ := obind h
  obtain ⟨f122, e123, h124, h125⟩ := cut_slH f21 h23 h121
  refine AOps.pureR rfl rfl rfl h125 rfl (rfl : _ = (AV.sl z20 f122 e123)) ?_
  refine AOps.assignR rfl rfl rfl (rfl : _ = (AV.int .i64 x115)) rfl ?_
  refine AOps.assignR rfl rfl rfl (rfl : _ = (AV.sl z20 f122 e123)) rfl ?_
  refine AOps.nilR ?_
  exact AW.res [(1, (AV.int .i64 p1_18)), (2, (AV.sl z20 f122 e123)), (4, (AV.eptr [(AV.int .i64 p1.Stack), (AV.int .i64 p1.Start), (AV.sl z2 f3 e4), (AV.sl z6 f7 e8), (AV.sl z10 f11 e12), (AV.sl z14 f15 e16)] 0)), (10, (AV.int .i64 y25)), (12, (AV.int .i64 x115))] [] ⟨rfl, rfl, rfl, rfl, rfl, trivial⟩ trivial (KJ90 (l120, x115, z20, f122, e123) _ _ ⟨h124, h⟩)
 refine AW.condF (congrArg AV.bool hc114) ?_
 refine AW.skip ?_
 exact AW.res [(1, (AV.int .i64 p1_18)), (2, (AV.sl z20 f21 e22)), (4, (AV.eptr [(AV.int .i64 p1.Stack), (AV.int .i64 p1.Start), (AV.sl z2 f3 e4), (AV.sl z6 f7 e8), (AV.sl z10 f11 e12), (AV.sl z14 f15 e16)] 0)), (10, (AV.int .i64 y25)), (12, (AV.int .i64 p1.Stack))] [] ⟨rfl, rfl, rfl, rfl, rfl, trivial⟩ trivial (KJ90 (p2_19, p1.Stack, z20, f21, e22) _ _ ⟨h23, h⟩)
theorem impl_Checker_run_F1_ok {c1 : Checker} {state18 : Int} {stack19 : List Int} {w24 : List UInt8} {c2629 : Int} {c3033 : List Int} {z2 : Nat} {f3 : Bool} {e4 : List AV} {z6 : Nat} {f7 : Bool} {e8 : List AV} {z10 : Nat} {f11 : Bool} {e12 : List AV} {z14 : Nat} {f15 : Bool} {e16 : List AV} {z20 : Nat} {f21 : Bool} {e22 : List AV} {b27 : Nat} {w28 : Nat → Bool} {b31 : Nat} {w32 : Nat → Bool} {z34 : Nat} {f35 : Bool} {e36 : List AV} {s : St} (h5 : LR rB 1 c1.Accept z2 e4) (h9 : LR (rL rPush 2) 1 c1.Call z6 e8) (h13 : LR (rL (rL (rI .i64) 1) 1) 1 c1.Return z10 e12) (h17 : LR (rL (rI .i64) 1) 1 c1.Inner z14 e16) (h23 : LR (rI .i64) 1 stack19 z20 e22) (h37 : LR (rI .i64) 1 c3033 z34 e36) (hE : HS [b27, b31] false s { s with lo := s.n } [⟨some b27, [(AV.int .i64 c2629)], w28⟩, ⟨some b31, [(AV.sl z34 f35 e36)], w32⟩]) {r : Unit × Int × (List Int)} (h : impl_Checker_run_F1 c1 state18 stack19 w24 c2629 c3033 = some r) (hs : WF s) : ACall Cf 89 [(AV.agg [(AV.int .i64 c1.Stack), (AV.int .i64 c1.Start), (AV.sl z2 f3 e4), (AV.sl z6 f7 e8), (AV.sl z10 f11 e12), (AV.sl z14 f15 e16)]), (AV.int .i64 state18), (AV.sl z20 f21 e22), (AV.str w24), (AV.fn 90 [(AV.ptr b27 0), (AV.ptr b31 0)])] s fun v _ s' => (fun (_ : Unit) => rT []) r.1 v ∧ ∃ (w0' : Nat → Bool) (w1' : Nat → Bool) (z1' : Nat) (f1' : Bool) (e1' : List AV), Fx [b27, b31] s s' [⟨some b27, [(AV.int .i64 r.2.1)], w0'⟩, ⟨some b31, [(AV.sl z1' f1' e1')], w1'⟩] ∧ LR (rI .i64) 1 r.2.2 z1' e1' := by
 refine ACall.foreign rfl rfl rfl ?_
 unfold impl_Checker_run_F1 at h
 refine AW.sr ?_
 refine AOps.makeR rfl rfl rfl rfl rfl rfl (rfl : _ = (AV.eptr [(AV.int .i64 c1.Stack), (AV.int .i64 c1.Start), (AV.sl z2 f3 e4), (AV.sl z6 f7 e8), (AV.sl z10 f11 e12), (AV.sl z14 f15 e16)] 0)) ?_
 refine AOps.nilR ?_
 refine AW.sr ?_
 refine AOps.p rfl (rfl : _ = (AV.fn 90 [(AV.ptr b27 0), (AV.ptr b31 0)])) ?_
 refine AOps.p rfl (rfl : _ = (AV.int .i64 state18)) ?_
 refine AOps.p rfl (rfl : _ = (AV.sl z20 f21 e22)) ?_
 obtain ⟨y38, h39, h⟩ := obind h
 refine AOps.callF (g := 90) (args := [(AV.int .i64 state18), (AV.sl z20 f21 e22), (AV.ptr b27 0), (AV.ptr b31 0)]) rfl rfl rfl (impl_Checker_end_1_F1_ok h23 h37 (HS.enterP hE [0, 1] [b27, b31] rfl (by decide)) h39 (HS.wf' hE)) ?_
 intro _ o45 s42 h44
 obtain ⟨h40, w46, w47, z48, f49, e50, h41, h51⟩ := h44
 have hH43 := HS.callP hE [0, 1] h41 rfl rfl
 change HS [b27, b31] false s s42 [⟨some b27, [(AV.int .i64 y38.2.1)], w46⟩, ⟨some b31, [(AV.sl z48 f49 e50)], w47⟩] at hH43
 cases h40
 refine AOps.nilR ?_
 refine AW.sr ?_
 refine AOps.p rfl (rfl : _ = (AV.str w24)) ?_
 refine AOps.p rfl (rfl : _ = (AV.int .i64 (w24.length : Int))) ?_
 refine AOps.p rfl (rfl : _ = (AV.int .i64 0)) ?_
 refine AOps.nilR ?_
 refine AW.meet (σ := Int × (List Int) × (Nat → Bool) × (Nat → Bool) × Nat × Bool × (List AV) × St) (fun (m53, m55, w52, w54, z56, f57, e58, s60) tm os => ⟨updL tm [], updL os [], s60⟩) (fun (m53, m55, w52, w54, z56, f57, e58, s60) => (LR (rI .i64) 1 m55 z56 e58) ∧ (HS [b27, b31] false s s60 [⟨some b27, [(AV.int .i64 m53)], w52⟩, ⟨some b31, [(AV.sl z56 f57 e58)], w54⟩]) ∧ impl_Checker_run_F1_J1 m53 m55 = some r) ?_ ?_
 ·rintro ⟨m53, m55, w52, w54, z56, f57, e58, s60⟩ tm os ⟨h59, hH61, h⟩
  unfold impl_Checker_run_F1_J1 at h
  cases h
  exact AW.nil ⟨_, _, rfl, finF (p := (fun (_ : Unit) => rT []) ()) (Fin.T .nil) ⟨w52, w54, z56, f57, e58, HS.leaveP hH61 [0, 1] rfl, h59⟩⟩
 intro KJ62
 refine AW.block ?_
 refine AW.res [(1, (AV.int .i64 state18)), (2, (AV.sl z20 f21 e22)), (3, (AV.str w24)), (4, (AV.fn 90 [(AV.ptr b27 0), (AV.ptr b31 0)])), (5, (AV.eptr [(AV.int .i64 c1.Stack), (AV.int .i64 c1.Start), (AV.sl z2 f3 e4), (AV.sl z6 f7 e8), (AV.sl z10 f11 e12), (AV.sl z14 f15 e16)] 0)), (16, (AV.int .i64 (w24.length : Int))), (17, (AV.int .i64 0))] [] ⟨rfl, rfl, rfl, rfl, rfl, rfl, rfl, trivial⟩ trivial ?_
 refine AW.loopF (σ := Int × (List Int) × Int × (List Int) × Int) (τ := Nat × Bool × (List AV) × (Nat → Bool) × (Nat → Bool) × Nat × Bool × (List AV) × St) (fun (state63, stack64, m70, m72, t77) (z65, f66, e67, w69, w71, z73, f74, e75, s78) => (LR (rI .i64) 1 stack64 z65 e67) ∧ (LR (rI .i64) 1 m72 z73 e75) ∧ (HS [b27, b31] false s s78 [⟨some b27, [(AV.int .i64 m70)], w69⟩, ⟨some b31, [(AV.sl z73 f74 e75)], w71⟩])) (fun (state63, stack64, m70, m72, t77) (z65, f66, e67, w69, w71, z73, f74, e75, s78) tm os => ⟨updL tm [(1, (AV.int .i64 state63)), (2, (AV.sl z65 f66 e67)), (3, (AV.str w24)), (4, (AV.fn 90 [(AV.ptr b27 0), (AV.ptr b31 0)])), (5, (AV.eptr [(AV.int .i64 c1.Stack), (AV.int .i64 c1.Start), (AV.sl z2 f3 e4), (AV.sl z6 f7 e8), (AV.sl z10 f11 e12), (AV.sl z14 f15 e16)] 0)), (16, (AV.int .i64 (w24.length : Int))), (17, (AV.int .i64 t77))], updL os [], s78⟩) ?_ (x := (state18, stack19, y38.2.1, y38.2.2, 0)) (y := (z20, f21, e22, w46, w47, z48, f49, e50, s42)) h ⟨h23, h51, (HS.sel hH43 [some 0, some 1] (by decide))⟩
 clear h
 rintro ⟨state63, stack64, m70, m72, t77⟩ ⟨z65, f66, e67, w69, w71, z73, f74, e75, s78⟩ tm os ⟨h68, h76, hH79⟩ e1 h hL1 hR1
 unfold impl_Checker_run_F1_S1 at h
 dsimp only at h
 refine AW.sr ?_
 refine AOps.p rfl (rfl : _ = (AV.bool (decide ((t77 : Int) < (w24.length : Int))))) ?_
 refine AOps.nilR ?_
 refine AW.seq ?_
 rcases oite h with ⟨hc80, h⟩ | ⟨hc80, h⟩
 ·refine AW.condT (congrArg AV.bool hc80) ?_
  refine AW.skip ?_
  refine AW.seq ?_
  refine AW.block ?_
  refine AW.sr ?_
  refine AOps.p rfl (rfl : _ = (AV.int .i64 t77)) ?_
  refine AOps.assignR rfl rfl rfl (rfl : _ = (AV.int .i64 t77)) rfl ?_
  refine AOps.nilR ?_
  refine AW.sr ?_
  refine AOps.ldE (v := (AV.agg [(AV.int .i64 c1.Stack), (AV.int .i64 c1.Start), (AV.sl z2 f3 e4), (AV.sl z6 f7 e8), (AV.sl z10 f11 e12), (AV.sl z14 f15 e16)])) rfl rfl rfl rfl rfl rfl ?_
  refine AOps.p rfl (rfl : _ = (AV.int .i64 state63)) ?_
  refine AOps.p rfl (rfl : _ = (AV.sl z65 f66 e67)) ?_
  refine AOps.p rfl (rfl : _ = (AV.str w24)) ?_
  refine AOps.p rfl (rfl : _ = (AV.int .i64 t77)) ?_
  obtain ⟨c81, h82, h⟩ := obind h
  refine AOps.pureR rfl rfl rfl (chr_str h82) rfl (rfl : _ = (AV.int .u8 c81)) ?_
  obtain ⟨y83, h84, h⟩ := obind h
  refine AOps.callDP (g := 91) (args := [(AV.agg [(AV.int .i64 c1.Stack), (AV.int .i64 c1.Start), (AV.sl z2 f3 e4), (AV.sl z6 f7 e8), (AV.sl z10 f11 e12), (AV.sl z14 f15 e16)]), (AV.int .i64 state63), (AV.sl z65 f66 e67), (AV.int .u8 c81)]) (p := (fun x => rT [(rI .i64) x.1, (rL (rI .i64) 1) x.2]) y83) rfl rfl rfl (impl_Checker_step_ok h5 h9 h13 h17 h68 h84 ((HS.wf' hH79).still)) (fun v hv => Nice.pure (k := FINK) (p := (fun x => rT [(rI .i64) x.1, (rL (rI .i64) 1) x.2]) y83) (.T (.cons .I (.cons (.L fun _ => .I) .nil))) _ v hv) ?_
  intro _ o95 h85
  obtain ⟨_, rfl, h86⟩ := h85
  obtain ⟨_, _, rfl, h87, h88⟩ := Cs_cons h86
  cases h87
  obtain ⟨_, _, rfl, h89, h90⟩ := Cs_cons h88
  obtain ⟨z91, f92, e93, rfl, h94⟩ := h89
  cases Cs_nil h90
  refine AOps.p rfl (rfl : _ = (AV.tup [(AV.int .i64 y83.1), (AV.sl z91 f92 e93)])) ?_
  refine AOps.p rfl (rfl : _ = (AV.int .i64 y83.1)) ?_
  refine AOps.p rfl (rfl : _ = (AV.sl z91 f92 e93)) ?_
  refine AOps.assignR rfl rfl rfl (rfl : _ = (AV.int .i64 y83.1)) rfl ?_
  refine AOps.assignR rfl rfl rfl (rfl : _ = (AV.sl z91 f92 e93)) rfl ?_
  refine AOps.nilR ?_
  refine AW.region ?_
  refine AOps.p rfl (rfl : _ = (AV.fn 90 [(AV.ptr b27 0), (AV.ptr b31 0)])) ?_
  refine AOps.p rfl (rfl : _ = (AV.int .i64 y83.1)) ?_
  refine AOps.p rfl (rfl : _ = (AV.sl z91 f92 e93)) ?_
  obtain ⟨y96, h97, h⟩ := obind h
  refine AOps.callF (g := 90) (args := [(AV.int .i64 y83.1), (AV.sl z91 f92 e93), (AV.ptr b27 0), (AV.ptr b31 0)]) rfl rfl rfl (impl_Checker_end_1_F1_ok h94 h76 (HS.enterP hH79 [0, 1] [b27, b31] rfl (by decide)) h97 (HS.wf' hH79)) ?_
  intro _ o103 s100 h102
  obtain ⟨h98, w104, w105, z106, f107, e108, h99, h109⟩ := h102
  have hH101 := HS.callP hH79 [0, 1] h99 rfl rfl
  change HS [b27, b31] false s s100 [⟨some b27, [(AV.int .i64 y96.2.1)], w104⟩, ⟨some b31, [(AV.sl z106 f107 e108)], w105⟩] at hH101
  cases h98
  refine AOps.nilR ?_
  refine AW.inBlock ?_
  refine AW.region ?_
  refine AOps.p rfl (rfl : _ = (AV.int .i64 (IntKind.wrap .i64 (t77 + 1)))) ?_
  refine AOps.p rfl (rfl : _ = (AV.int .i64 (IntKind.wrap .i64 (t77 + 1)))) ?_
  refine AOps.nilR ?_
  cases h
  exact AW.res [(1, (AV.int .i64 y83.1)), (2, (AV.sl z91 f92 e93)), (3, (AV.str w24)), (4, (AV.fn 90 [(AV.ptr b27 0), (AV.ptr b31 0)])), (5, (AV.eptr [(AV.int .i64 c1.Stack), (AV.int .i64 c1.Start), (AV.sl z2 f3 e4), (AV.sl z6 f7 e8), (AV.sl z10 f11 e12), (AV.sl z14 f15 e16)] 0)), (16, (AV.int .i64 (w24.length : Int))), (17, (AV.int .i64 (IntKind.wrap .i64 (t77 + 1))))] [] ⟨rfl, rfl, rfl, rfl, rfl, rfl, rfl, trivial⟩ trivial (hL1 _ rfl (z91, f92, e93, w104, w105, z106, f107, e108, s100) _ _ ⟨h94, h109, (HS.sel hH101 [some 0, some 1] (by decide))⟩)
 refine AW.condF (congrArg AV.bool hc80) ?_
 refine AW.exit rfl ?_
 obtain ⟨r110, hm, hx⟩ := omap h
 clear h
 subst hx
 have hx := hR1 _ rfl
 rw [hx] at hm
 have h := hm
 exact AW.res [] [] trivial trivial (KJ62 (m70, m72, w69, w71, z73, f74, e75, s78) _ _ ⟨h76, (HS.sel hH79 [some 0, some 1] (by decide)), h⟩)
theorem impl_Checker_end_ok {c1 : Checker} {state18 : Int} {stack19 : List Int} {w24 : List UInt8} {z2 : Nat} {f3 : Bool} {e4 : List AV} {z6 : Nat} {f7 : Bool} {e8 : List AV} {z10 : Nat} {f11 : Bool} {e12 : List AV} {z14 : Nat} {f15 : Bool} {e16 : List AV} {z20 : Nat} {f21 : Bool} {e22 : List AV} {s : St} (h5 : LR rB 1 c1.Accept z2 e4) (h9 : LR (rL rPush 2) 1 c1.Call z6 e8) (h13 : LR (rL (rL (rI .i64) 1) 1) 1 c1.Return z10 e12) (h17 : LR (rL (rI .i64) 1) 1 c1.Inner z14 e16) (h23 : LR (rI .i64) 1 stack19 z20 e22) {r : Int × (List Int)} (h : impl_Checker_end c1 state18 stack19 w24 = some r) (hs : WF s) : ACall Cf 87 [(AV.agg [(AV.int .i64 c1.Stack), (AV.int .i64 c1.Start), (AV.sl z2 f3 e4), (AV.sl z6 f7 e8), (AV.sl z10 f11 e12), (AV.sl z14 f15 e16)]), (AV.int .i64 state18), (AV.sl z20 f21 e22), (AV.str w24)] s fun v _ s' => (fun x => rT [(rI .i64) x.1, (rL (rI .i64) 1) x.2]) r v ∧ s' = s := by
 refine ACall.boxes rfl rfl rfl ?_
 have hH0 := HS.init hs
 unfold impl_Checker_end at h
 refine AW.sr ?_
 refine AOps.makeR rfl rfl rfl rfl rfl rfl (rfl : _ = (AV.eptr [(AV.int .i64 c1.Stack), (AV.int .i64 c1.Start), (AV.sl z2 f3 e4), (AV.sl z6 f7 e8), (AV.sl z10 f11 e12), (AV.sl z14 f15 e16)] 0)) ?_
 refine AOps.box1 (v := (AV.int .i64 state18)) hH0 rfl rfl rfl rfl rfl rfl rfl rfl ?_
 intro b25 s26 hH27
 change HS [] false s s26 [⟨some b25, [(AV.int .i64 state18)], (fun _ => false)⟩] at hH27
 refine AOps.box1 (v := (AV.sl z20 f21 e22)) hH27 rfl rfl rfl rfl rfl rfl rfl rfl ?_
 intro b28 s29 hH30
 change HS [] false s s29 [⟨some b28, [(AV.sl z20 f21 e22)], (fun _ => false)⟩, ⟨some b25, [(AV.int .i64 state18)], (fun _ => false)⟩] at hH30
 refine AOps.p rfl (rfl : _ = (AV.int .i64 0)) ?_
 refine AOps.p rfl (rfl : _ = (AV.sl 0 true [])) ?_
 refine AOps.nilR ?_
 refine AW.sr ?_
 refine AOps.ldE (v := (AV.agg [(AV.int .i64 c1.Stack), (AV.int .i64 c1.Start), (AV.sl z2 f3 e4), (AV.sl z6 f7 e8), (AV.sl z10 f11 e12), (AV.sl z14 f15 e16)])) rfl rfl rfl rfl rfl rfl ?_
 refine AOps.ldB (i := 1) (v := (AV.int .i64 state18)) hH30 rfl rfl rfl rfl rfl rfl rfl rfl rfl ?_
 refine AOps.ldB (i := 0) (v := (AV.sl z20 f21 e22)) hH30 rfl rfl rfl rfl rfl rfl rfl rfl rfl ?_
 refine AOps.p rfl (rfl : _ = (AV.str w24)) ?_
 refine AOps.p rfl (rfl : _ = (AV.fn 90 [(AV.ptr b25 0), (AV.ptr b28 0)])) ?_
 obtain ⟨y31, h32, h⟩ := obind h
 refine AOps.callF (g := 89) (args := [(AV.agg [(AV.int .i64 c1.Stack), (AV.int .i64 c1.Start), (AV.sl z2 f3 e4), (AV.sl z6 f7 e8), (AV.sl z10 f11 e12), (AV.sl z14 f15 e16)]), (AV.int .i64 state18), (AV.sl z20 f21 e22), (AV.str w24), (AV.fn 90 [(AV.ptr b25 0), (AV.ptr b28 0)])]) rfl rfl rfl (impl_Checker_run_F1_ok h5 h9 h13 h17 h23 h23 (HS.enterP hH30 [1, 0] [b25, b28] rfl (by decide)) h32 (HS.wf' hH30)) ?_
 intro _ o38 s35 h37
 obtain ⟨h33, w39, w40, z41, f42, e43, h34, h44⟩ := h37
 have hH36 := HS.callP hH30 [1, 0] h34 rfl rfl
 change HS [] false s s35 [⟨some b28, [(AV.sl z41 f42 e43)], w40⟩, ⟨some b25, [(AV.int .i64 y31.2.1)], w39⟩] at hH36
 cases h33
 refine AOps.nilR ?_
 refine AW.sr ?_
 refine AOps.ldB (i := 1) (v := (AV.int .i64 y31.2.1)) hH36 rfl rfl rfl rfl rfl rfl rfl rfl rfl ?_
 refine AOps.ldB (i := 0) (v := (AV.sl z41 f42 e43)) hH36 rfl rfl rfl rfl rfl rfl rfl rfl rfl ?_
 refine AOps.assignR rfl rfl rfl (rfl : _ = (AV.int .i64 y31.2.1)) rfl ?_
 refine AOps.assignR rfl rfl rfl (rfl : _ = (AV.sl z41 f42 e43)) rfl ?_
 refine AOps.nilR ?_
 cases h
 exact AW.ret ⟨⟨_, hH36⟩, _, _, rfl, (Fin.T (.cons (Fin.of (p := (rI .i64) y31.2.1) .I rfl) (.cons (Fin.of (p := (rL (rI .i64) 1) y31.2.2) (.L fun _ => .I) (⟨_, _, _, rfl, h44⟩)) .nil))).2⟩
theorem impl_Checker_takes_ok {c1 : Checker} {w18 : List UInt8} {z2 : Nat} {f3 : Bool} {e4 : List AV} {z6 : Nat} {f7 : Bool} {e8 : List AV} {z10 : Nat} {f11 : Bool} {e12 : List AV} {z14 : Nat} {f15 : Bool} {e16 : List AV} {s : St} (h5 : LR rB 1 c1.Accept z2 e4) (h9 : LR (rL rPush 2) 1 c1.Call z6 e8) (h13 : LR (rL (rL (rI .i64) 1) 1) 1 c1.Return z10 e12) (h17 : LR (rL (rI .i64) 1) 1 c1.Inner z14 e16) {r : Bool} (h : impl_Checker_takes c1 w18 = some r) (hs : WF s) : ACall Cf 83 [(AV.agg [(AV.int .i64 c1.Stack), (AV.int .i64 c1.Start), (AV.sl z2 f3 e4), (AV.sl z6 f7 e8), (AV.sl z10 f11 e12), (AV.sl z14 f15 e16)]), (AV.str w18)] s fun v _ s' => (rB) r v ∧ s' = s := by
 refine ACall.pure rfl rfl rfl .B ?_
 have hWF := hs.lo'
 unfold impl_Checker_takes at h
 refine AW.sr ?_
 refine AOps.makeR rfl rfl rfl rfl rfl rfl (rfl : _ = (AV.eptr [(AV.int .i64 c1.Stack), (AV.int .i64 c1.Start), (AV.sl z2 f3 e4), (AV.sl z6 f7 e8), (AV.sl z10 f11 e12), (AV.sl z14 f15 e16)] 0)) ?_
 refine AOps.p rfl (rfl : _ = (AV.bool false)) ?_
 refine AOps.nilR ?_
 refine AW.sr ?_
 refine AOps.ldE (v := (AV.agg [(AV.int .i64 c1.Stack), (AV.int .i64 c1.Start), (AV.sl z2 f3 e4), (AV.sl z6 f7 e8), (AV.sl z10 f11 e12), (AV.sl z14 f15 e16)])) rfl rfl rfl rfl rfl rfl ?_
 refine AOps.p rfl (rfl : _ = (AV.eptr [(AV.int .i64 c1.Stack), (AV.int .i64 c1.Start), (AV.sl z2 f3 e4), (AV.sl z6 f7 e8), (AV.sl z10 f11 e12), (AV.sl z14 f15 e16)] 1)) ?_
 refine AOps.ldE (v := (AV.int .i64 c1.Start)) rfl rfl rfl rfl rfl rfl ?_
 refine AOps.p rfl (rfl : _ = (AV.str w18)) ?_
 obtain ⟨y19, h20, h⟩ := obind h
 refine AOps.callP (g := 87) (args := [(AV.agg [(AV.int .i64 c1.Stack), (AV.int .i64 c1.Start), (AV.sl z2 f3 e4), (AV.sl z6 f7 e8), (AV.sl z10 f11 e12), (AV.sl z14 f15 e16)]), (AV.int .i64 c1.Start), (AV.sl 0 true []), (AV.str w18)]) (p := (fun x => rT [(rI .i64) x.1, (rL (rI .i64) 1) x.2]) y19) rfl rfl rfl (impl_Checker_end_ok h5 h9 h13 h17 (⟨.inr ⟨rfl, rfl⟩, .nil⟩) h20 hWF) ?_
 intro _ o31 h21
 obtain ⟨_, rfl, h22⟩ := h21
 obtain ⟨_, _, rfl, h23, h24⟩ := Cs_cons h22
 cases h23
 obtain ⟨_, _, rfl, h25, h26⟩ := Cs_cons h24
 obtain ⟨z27, f28, e29, rfl, h30⟩ := h25
 cases Cs_nil h26
 refine AOps.p rfl (rfl : _ = (AV.tup [(AV.int .i64 y19.1), (AV.sl z27 f28 e29)])) ?_
 refine AOps.p rfl (rfl : _ = (AV.int .i64 y19.1)) ?_
 refine AOps.p rfl (rfl : _ = (AV.sl z27 f28 e29)) ?_
 refine AOps.assignR rfl rfl rfl (rfl : _ = (AV.int .i64 y19.1)) rfl ?_
 refine AOps.assignR rfl rfl rfl (rfl : _ = (AV.sl z27 f28 e29)) rfl ?_
 refine AOps.nilR ?_
 refine AW.sr ?_
 refine AOps.p rfl (rfl : _ = (AV.eptr [(AV.int .i64 c1.Stack), (AV.int .i64 c1.Start), (AV.sl z2 f3 e4), (AV.sl z6 f7 e8), (AV.sl z10 f11 e12), (AV.sl z14 f15 e16)] 2)) ?_
 refine AOps.ldE (v := (AV.sl z2 f3 e4)) rfl rfl rfl rfl rfl rfl ?_
 refine AOps.p rfl (rfl : _ = (AV.int .i64 y19.1)) ?_
 obtain ⟨x32, h33, h⟩ := obind h
 obtain ⟨v36, h34, h35⟩ := idx_sl h5 h33
 cases h34
 refine AOps.pureR rfl rfl rfl h35 rfl (rfl : _ = (AV.eptr [(AV.bool x32)] 0)) ?_
 refine AOps.ldE (v := (AV.bool x32)) rfl rfl rfl rfl rfl rfl ?_
 refine AOps.assignR rfl rfl rfl (rfl : _ = (AV.bool x32)) rfl ?_
 refine AOps.nilR ?_
 cases h
 exact AW.ret ⟨rfl, _, _, rfl, rfl⟩
theorem impl_asker_takes_F1_ok {a14 : Int} {a15 : Int} {a16 : List Bool} {a111 : List (List Push)} {a116 : List (List (List Int))} {a121 : List (List Int)} {a126 : Bool} {w27 : List UInt8} {b2 : Nat} {w3 : Nat → Bool} {z7 : Nat} {f8 : Bool} {e9 : List AV} {z12 : Nat} {f13 : Bool} {e14 : List AV} {z17 : Nat} {f18 : Bool} {e19 : List AV} {z22 : Nat} {f23 : Bool} {e24 : List AV} {s : St} (h10 : LR rB 1 a16 z7 e9) (h15 : LR (rL rPush 2) 1 a111 z12 e14) (h20 : LR (rL (rL (rI .i64) 1) 1) 1 a116 z17 e19) (h25 : LR (rL (rI .i64) 1) 1 a121 z22 e24) (hE : HS [b2] false s { s with lo := s.n } [⟨some b2, [(AV.int .i64 a14), (AV.int .i64 a15), (AV.sl z7 f8 e9), (AV.sl z12 f13 e14), (AV.sl z17 f18 e19), (AV.sl z22 f23 e24), (AV.bool a126)], w3⟩]) {r : Bool × Bool} (h : impl_asker_takes_F1 a14 a15 a16 a111 a116 a121 a126 w27 = some r) (hs : WF s) : ACall Cf 68 [(AV.ptr b2 0), (AV.str w27)] s fun v _ s' => (rB) r.1 v ∧ ∃ (w0' : Nat → Bool), Fx [b2] s s' [⟨some b2, [(AV.int .i64 a14), (AV.int .i64 a15), (AV.sl z7 f8 e9), (AV.sl z12 f13 e14), (AV.sl z17 f18 e19), (AV.sl z22 f23 e24), (AV.bool r.2)], w0'⟩] := by
 refine ACall.foreign rfl rfl rfl ?_
 unfold impl_asker_takes_F1 at h
 refine AW.sr ?_
 refine AOps.p rfl (rfl : _ = (AV.bool false)) ?_
 refine AOps.nilR ?_
 refine AW.seq ?_
 refine AW.sr ?_
 refine AOps.p rfl (rfl : _ = (AV.str w27)) ?_
 refine AOps.p rfl (rfl : _ = (AV.int .i64 (w27.length : Int))) ?_
 refine AOps.p rfl (rfl : _ = (AV.bool (decide (((w27.length : Int) : Int) > 60)))) ?_
 refine AOps.nilR ?_
 rcases oite h with ⟨hc28, h⟩ | ⟨hc28, h⟩
 ·refine AW.condT (congrArg AV.bool hc28) ?_
  refine AW.sr ?_
  refine AOps.p rfl (rfl : _ = (AV.ptr b2 0)) ?_
  refine AOps.p rfl (rfl : _ = (AV.ptr b2 0)) ?_
  refine AOps.p rfl (rfl : _ = (AV.ptr b2 6)) ?_
  refine AOps.stX (i := 0) (v := (AV.bool true)) hE rfl rfl rfl rfl rfl rfl rfl rfl rfl (lt_b rfl) (le_b rfl) rfl rfl ?_
  intro w29 s30 h31 h32 hH33
  change HS [b2] false s s30 [⟨some b2, [(AV.int .i64 a14), (AV.int .i64 a15), (AV.sl z7 f8 e9), (AV.sl z12 f13 e14), (AV.sl z17 f18 e19), (AV.sl z22 f23 e24), (AV.bool true)], w29⟩] at hH33
  refine AOps.nilR ?_
  refine AW.sr ?_
  refine AOps.p rfl (rfl : _ = (AV.bool false)) ?_
  refine AOps.nilR ?_
  cases h
  exact AW.ret ⟨_, _, rfl, finF (p := (rB) false) (Fin.of (p := (rB) false) .B rfl) ⟨w29, HS.leaveP hH33 [0] rfl⟩⟩
 refine AW.condF (congrArg AV.bool hc28) ?_
 refine AW.skip ?_
 refine AW.sr ?_
 refine AOps.p rfl (rfl : _ = (AV.ptr b2 0)) ?_
 refine AOps.p rfl (rfl : _ = (AV.ptr b2 0)) ?_
 refine AOps.p rfl (rfl : _ = (AV.ptr b2 0)) ?_
 refine AOps.ldB (i := 0) (v := (AV.agg [(AV.int .i64 a14), (AV.int .i64 a15), (AV.sl z7 f8 e9), (AV.sl z12 f13 e14), (AV.sl z17 f18 e19), (AV.sl z22 f23 e24)])) hE rfl rfl rfl rfl rfl rfl rfl rfl rfl ?_
 refine AOps.p rfl (rfl : _ = (AV.str w27)) ?_
 obtain ⟨y34, h35, h⟩ := obind h
 refine AOps.callP (g := 83) (args := [(AV.agg [(AV.int .i64 a14), (AV.int .i64 a15), (AV.sl z7 f8 e9), (AV.sl z12 f13 e14), (AV.sl z17 f18 e19), (AV.sl z22 f23 e24)]), (AV.str w27)]) (p := (rB) y34) rfl rfl rfl (impl_Checker_takes_ok h10 h15 h20 h25 h35 (HS.wf' hE)) ?_
 intro _ o37 h36
 cases h36
 refine AOps.assignR rfl rfl rfl (rfl : _ = (AV.bool y34)) rfl ?_
 refine AOps.nilR ?_
 cases h
 exact AW.ret ⟨_, _, rfl, finF (p := (rB) y34) (Fin.of (p := (rB) y34) .B rfl) ⟨w3, HS.leaveP hE [0] rfl⟩⟩
theorem impl_asker_row_K100_ok {a3 : Int} {a4 : Int} {a5 : List Bool} {a10 : List (List Push)} {a15 : List (List (List Int))} {a20 : List (List Int)} {a25 : Bool} {u26 : List UInt8} {list27 : List Context} {b1 : Nat} {w2 : Nat → Bool} {z6 : Nat} {f7 : Bool} {e8 : List AV} {z11 : Nat} {f12 : Bool} {e13 : List AV} {z16 : Nat} {f17 : Bool} {e18 : List AV} {z21 : Nat} {f22 : Bool} {e23 : List AV} {z28 : Nat} {f29 : Bool} {e30 : List AV} {s : St} (h9 : LR rB 1 a5 z6 e8) (h14 : LR (rL rPush 2) 1 a10 z11 e13) (h19 : LR (rL (rL (rI .i64) 1) 1) 1 a15 z16 e18) (h24 : LR (rL (rI .i64) 1) 1 a20 z21 e23) (h31 : LR rContext 2 list27 z28 e30) {ex : List Nat} {Ls0 : List (List BX)} (hH0 : HS ex true s s (([⟨some b1, [(AV.int .i64 a3), (AV.int .i64 a4), (AV.sl z6 f7 e8), (AV.sl z11 f12 e13), (AV.sl z16 f17 e18), (AV.sl z21 f22 e23), (AV.bool a25)], w2⟩] : List BX) ++ List.flatten Ls0)) (hG0 : AllG [] Ls0) (hl : LoOK ex true s) {r : (List Bool) × Bool} (h : impl_asker_row_K100 a3 a4 a5 a10 a15 a20 a25 u26 list27 = some r) (hs : WF s) : ACall Cf 36 [(AV.ptr b1 0), (AV.str u26), (AV.sl z28 f29 e30)] s (fun v _ s' => ∃ (w1' : Nat → Bool) (h2' : AV) (k3' : KT) (Ls' : List (List BX)), v = h2' ∧ HS ex true s s' (([⟨some b1, [(AV.int .i64 a3), (AV.int .i64 a4), (AV.sl z6 f7 e8), (AV.sl z11 f12 e13), (AV.sl z16 f17 e18), (AV.sl z21 f22 e23), (AV.bool r.2)], w1'⟩] : List BX) ++ List.flatten Ls') ∧ AllG [OS oE4 h2' k3' r.1] Ls' ∧ h2'.one = true) true := by
 refine ACall.keepR rfl rfl rfl ?_
 unfold impl_asker_row_K100 at h
 refine AW.sr ?_
 refine AOps.p rfl (rfl : _ = (AV.sl 0 true [])) ?_
 refine AOps.nilR ?_
 refine AW.sr ?_
 refine AOps.makeR rfl rfl rfl rfl rfl rfl (rfl : _ = (AV.sl 1 true [])) ?_
 refine AOps.assignR rfl rfl rfl (rfl : _ = (AV.sl 1 true [])) rfl ?_
 refine AOps.nilR ?_
 refine AW.seq ?_
 refine AW.sr ?_
 refine AOps.p rfl (rfl : _ = (AV.sl z28 f29 e30)) ?_
 refine AOps.p rfl (len_eq h31) ?_
 refine AOps.p rfl (rfl : _ = (AV.int .i64 0)) ?_
 refine AOps.nilR ?_
 refine AW.meet (σ := Bool × (List Bool) × (Nat → Bool) × AV × KT × St × (List (List BX))) (fun (m33, out34, w32, h35, k36, s38, Ls39) tm os => ⟨updL tm [(7, h35)], updL os [], s38⟩) (fun (m33, out34, w32, h35, k36, s38, Ls39) => (h35.one = true) ∧ (HS ex true s s38 (([⟨some b1, [(AV.int .i64 a3), (AV.int .i64 a4), (AV.sl z6 f7 e8), (AV.sl z11 f12 e13), (AV.sl z16 f17 e18), (AV.sl z21 f22 e23), (AV.bool m33)], w32⟩] : List BX) ++ List.flatten Ls39)) ∧ (AllG [OS oE4 h35 k36 out34] Ls39) ∧ impl_asker_row_K100_J1 m33 out34 = some r) ?_ ?_
 ·rintro ⟨m33, out34, w32, h35, k36, s38, Ls39⟩ tm os ⟨ho37, hH40, hG41, h⟩
  unfold impl_asker_row_K100_J1 at h
  refine AW.sr ?_
  refine AOps.p rfl (rfl : _ = h35) ?_
  refine AOps.assignR rfl rfl rfl (rfl : _ = h35) rfl ?_
  refine AOps.nilR ?_
  cases h
  exact AW.ret ⟨_, _, rfl, ⟨w32, h35, k36, Ls39, rfl, hH40, hG41, ho37⟩⟩
 intro KJ42
 refine AW.block ?_
 obtain ⟨Ls88, hG89, hH90⟩ := HS.selEG hH0 hG0 [some 0] [none]
 change HS ex true s s (([⟨some b1, [(AV.int .i64 a3), (AV.int .i64 a4), (AV.sl z6 f7 e8), (AV.sl z11 f12 e13), (AV.sl z16 f17 e18), (AV.sl z21 f22 e23), (AV.bool a25)], w2⟩] : List BX) ++ List.flatten Ls88) at hH90
 change AllG [Non] Ls88 at hG89
 have hG91 := AllG.imp hG89 0 rfl (P' := OS oE4 (AV.sl 1 true []) (fun _ => AV.undef) []) (fun L hL => by cases hL; exact OS.nil (Or.inl rfl))
 change AllG [OS oE4 (AV.sl 1 true []) (fun _ => AV.undef) ([] : List Bool)] Ls88 at hG91
 refine AW.res [(0, (AV.ptr b1 0)), (1, (AV.str u26)), (7, (AV.sl 1 true [])), (11, (AV.sl z28 f29 e30)), (12, (AV.int .i64 (list27.length : Int))), (13, (AV.int .i64 0))] [] ⟨rfl, rfl, rfl, rfl, rfl, rfl, trivial⟩ trivial ?_
 refine AW.loopF (σ := Bool × (List Bool) × Int) (τ := (Nat → Bool) × AV × KT × St × (List (List BX))) (fun (m44, out45, t49) (w43, h46, k47, s50, Ls51) => (h46.one = true) ∧ (HS ex true s s50 (([⟨some b1, [(AV.int .i64 a3), (AV.int .i64 a4), (AV.sl z6 f7 e8), (AV.sl z11 f12 e13), (AV.sl z16 f17 e18), (AV.sl z21 f22 e23), (AV.bool m44)], w43⟩] : List BX) ++ List.flatten Ls51)) ∧ (AllG [OS oE4 h46 k47 out45] Ls51)) (fun (m44, out45, t49) (w43, h46, k47, s50, Ls51) tm os => ⟨updL tm [(0, (AV.ptr b1 0)), (1, (AV.str u26)), (7, h46), (11, (AV.sl z28 f29 e30)), (12, (AV.int .i64 (list27.length : Int))), (13, (AV.int .i64 t49))], updL os [], s50⟩) ?_ (x := (a25, ([] : List Bool), 0)) (y := (w2, (AV.sl 1 true []), (fun _ => AV.undef), s, Ls88)) h ⟨rfl, hH90, hG91⟩
 clear h
 rintro ⟨m44, out45, t49⟩ ⟨w43, h46, k47, s50, Ls51⟩ tm os ⟨ho48, hH52, hG53⟩ e1 h hL1 hR1
 unfold impl_asker_row_K100_S1 at h
 dsimp only at h
 refine AW.sr ?_
 refine AOps.p rfl (rfl : _ = (AV.bool (decide ((t49 : Int) < (list27.length : Int))))) ?_
 refine AOps.nilR ?_
 refine AW.seq ?_
 rcases oite h with ⟨hc54, h⟩ | ⟨hc54, h⟩
 ·refine AW.condT (congrArg AV.bool hc54) ?_
  refine AW.skip ?_
  refine AW.seq ?_
  refine AW.block ?_
  refine AW.sr ?_
  obtain ⟨x55, h56, h⟩ := obind h
  obtain ⟨v59, h57, h58⟩ := idx_sl h31 h56
  obtain ⟨_, rfl, h60⟩ := h57
  obtain ⟨_, _, rfl, h61, h62⟩ := Cs_cons h60
  cases h61
  obtain ⟨_, _, rfl, h63, h64⟩ := Cs_cons h62
  cases h63
  cases Cs_nil h64
  refine AOps.pureR rfl rfl rfl h58 rfl (rfl : _ = (AV.eptr [(AV.str x55.Front), (AV.str x55.Back)] 0)) ?_
  refine AOps.ldE (v := (AV.agg [(AV.str x55.Front), (AV.str x55.Back)])) rfl rfl rfl rfl rfl rfl ?_
  refine AOps.allocP rfl rfl rfl rfl ⟨rfl, rfl⟩ rfl ?_
  refine AOps.stP (v := (AV.agg [(AV.str x55.Front), (AV.str x55.Back)])) rfl rfl rfl rfl rfl rfl rfl rfl rfl (lt_b rfl) rfl ?_
  refine AOps.nilR ?_
  refine AW.region ?_
  refine AOps.p rfl (rfl : _ = h46) ?_
  refine AOps.p rfl (rfl : _ = (AV.ptr b1 0)) ?_
  refine AOps.ldE (v := (AV.agg [(AV.str x55.Front), (AV.str x55.Back)])) rfl rfl rfl rfl rfl rfl ?_
  refine AOps.p rfl (rfl : _ = (AV.str u26)) ?_
  obtain ⟨y65, h66, h⟩ := obind h
  refine AOps.callP (g := 69) (args := [(AV.agg [(AV.str x55.Front), (AV.str x55.Back)]), (AV.str u26)]) (p := (rS) y65) rfl rfl rfl (impl_Context_around_ok  h66 (HS.wf' hH52)) ?_
  intro _ o68 h67
  cases h67
  obtain ⟨y69, h70, h⟩ := obind h
  refine AOps.callF (g := 68) (args := [(AV.ptr b1 0), (AV.str y65)]) rfl rfl rfl (impl_asker_takes_F1_ok h9 h14 h19 h24 (HS.enterP hH52 [0] [b1] rfl (by decide)) h70 (HS.wf' hH52)) ?_
  intro _ o76 s73 h75
  obtain ⟨h71, w77, h72⟩ := h75
  have hH74 := HS.callP hH52 [0] h72 rfl rfl
  change HS ex true s s73 (([⟨some b1, [(AV.int .i64 a3), (AV.int .i64 a4), (AV.sl z6 f7 e8), (AV.sl z11 f12 e13), (AV.sl z16 f17 e18), (AV.sl z21 f22 e23), (AV.bool y69.2)], w77⟩] : List BX) ++ List.flatten Ls51) at hH74
  cases h71
  refine AOps.makeR rfl rfl rfl rfl rfl rfl (rfl : _ = (AV.sl 1 true [(AV.bool y69.1)])) ?_
  obtain ⟨l78, h79, h⟩ := obind h
  refine AOps.appLf (j := 0) (z' := 1) (f' := true) (e' := [(AV.bool y69.1)]) hH74 hG53 rfl rfl rfl rfl rfl rfl rfl rfl (appSrc_sl (LR.z (LR.lit (r := rB) (sz := 1) (.cons rfl .nil))) rfl) ⟨by decide, by decide, rfl, rfl⟩ ⟨rfl, rfl⟩ rfl rfl h79 rfl (LR.el (LR.lit (r := rB) (sz := 1) (.cons rfl .nil))).len (fun i => OL.leaf (LR.el (LR.lit (r := rB) (sz := 1) (.cons rfl .nil))) i) ?_
  intro h80 k82 Ls83 s84 ho81 hG85 hH86
  change HS ex true s s84 (([⟨some b1, [(AV.int .i64 a3), (AV.int .i64 a4), (AV.sl z6 f7 e8), (AV.sl z11 f12 e13), (AV.sl z16 f17 e18), (AV.sl z21 f22 e23), (AV.bool y69.2)], w77⟩] : List BX) ++ List.flatten Ls83) at hH86
  change AllG [OS oE4 h80 k82 l78] Ls83 at hG85
  refine AOps.assignR rfl rfl rfl (rfl : _ = h80) rfl ?_
  refine AOps.nilR ?_
  refine AW.inBlock ?_
  refine AW.region ?_
  refine AOps.p rfl (rfl : _ = (AV.int .i64 (IntKind.wrap .i64 (t49 + 1)))) ?_
  refine AOps.p rfl (rfl : _ = (AV.int .i64 (IntKind.wrap .i64 (t49 + 1)))) ?_
  refine AOps.nilR ?_
  cases h
  exact AW.res [(0, (AV.ptr b1 0)), (1, (AV.str u26)), (7, h80), (11, (AV.sl z28 f29 e30)), (12, (AV.int .i64 (list27.length : Int))), (13, (AV.int .i64 (IntKind.wrap .i64 (t49 + 1))))] [] ⟨rfl, rfl, rfl, rfl, rfl, rfl, trivial⟩ trivial (hL1 _ rfl (w77, h80, k82, s84, Ls83) _ _ ⟨ho81, hH86, hG85⟩)
 refine AW.condF (congrArg AV.bool hc54) ?_
 refine AW.exit rfl ?_
 obtain ⟨r87, hm, hx⟩ := omap h
 clear h
 subst hx
 have hx := hR1 _ rfl
 rw [hx] at hm
 have h := hm
 exact AW.res [(7, h46)] [] ⟨rfl, trivial⟩ trivial (KJ42 (m44, out45, w43, h46, k47, s50, Ls51) _ _ ⟨ho48, hH52, hG53, h⟩)
theorem impl_RowOf_K000_okN {c1 : Checker} {u18 : List UInt8} {list19 : List Context} {z2 : Nat} {f3 : Bool} {e4 : List AV} {z6 : Nat} {f7 : Bool} {e8 : List AV} {z10 : Nat} {f11 : Bool} {e12 : List AV} {z14 : Nat} {f15 : Bool} {e16 : List AV} {z20 : Nat} {f21 : Bool} {e22 : List AV} {s : St} (h5 : LR rB 1 c1.Accept z2 e4) (h9 : LR (rL rPush 2) 1 c1.Call z6 e8) (h13 : LR (rL (rL (rI .i64) 1) 1) 1 c1.Return z10 e12) (h17 : LR (rL (rI .i64) 1) 1 c1.Inner z14 e16) (h23 : LR rContext 2 list19 z20 e22) {r : (List Bool) × Int} (h : impl_RowOf_K000 c1 u18 list19 = some r) (hs : WF s) : ACallN Cf 9 [(AV.agg [(AV.int .i64 c1.Stack), (AV.int .i64 c1.Start), (AV.sl z2 f3 e4), (AV.sl z6 f7 e8), (AV.sl z10 f11 e12), (AV.sl z14 f15 e16)]), (AV.str u18), (AV.sl z20 f21 e22)] s (fun v _ s' => ∃ (h1' : AV) (k2' : KT) (Ls' : List (List BX)), v = (AV.tup [h1', (AV.int .i64 r.2)]) ∧ HS [] true s s' (([] : List BX) ++ List.flatten Ls') ∧ AllG [OS oE4 h1' k2' r.1] Ls' ∧ h1'.one = true) true := by
 refine ACallN.keepR rfl rfl rfl ?_
 have hH0 := HS.g0 (HS.initK hs)
 have hG0 := AllG.nil
 have hl : LoOK [] true s := LoOK.nil
 unfold impl_RowOf_K000 at h
 refine AW.sr ?_
 refine AOps.makeR rfl rfl rfl rfl rfl rfl (rfl : _ = (AV.eptr [(AV.int .i64 c1.Stack), (AV.int .i64 c1.Start), (AV.sl z2 f3 e4), (AV.sl z6 f7 e8), (AV.sl z10 f11 e12), (AV.sl z14 f15 e16)] 0)) ?_
 refine AOps.p rfl (rfl : _ = (AV.sl 0 true [])) ?_
 refine AOps.p rfl (rfl : _ = (AV.int .i64 0)) ?_
 refine AOps.nilR ?_
 refine AW.seq ?_
 refine AW.block ?_
 refine AW.sr ?_
 refine AOps.ldE (v := (AV.agg [(AV.int .i64 c1.Stack), (AV.int .i64 c1.Start), (AV.sl z2 f3 e4), (AV.sl z6 f7 e8), (AV.sl z10 f11 e12), (AV.sl z14 f15 e16)])) rfl rfl rfl rfl rfl rfl ?_
 obtain ⟨y24, h25, h⟩ := obind h
 refine AOps.callP (g := 31) (args := [(AV.agg [(AV.int .i64 c1.Stack), (AV.int .i64 c1.Start), (AV.sl z2 f3 e4), (AV.sl z6 f7 e8), (AV.sl z10 f11 e12), (AV.sl z14 f15 e16)])]) (p := (rB) y24) rfl rfl rfl (impl_ValidChecker_ok h5 h9 h13 h17 h25 (HS.wf' hH0)) ?_
 intro _ o27 h26
 cases h26
 refine AOps.p rfl (rfl : _ = (AV.bool (!y24))) ?_
 refine AOps.p rfl (rfl : _ = (AV.bool (!y24))) ?_
 obtain ⟨b29, hb, h⟩ := obind h
 refine AOps.split 4 (fun f' => ∃ tm' os', f' = ⟨updL tm' [(1, (AV.str u18)), (2, (AV.sl z20 f21 e22)), (3, (AV.eptr [(AV.int .i64 c1.Stack), (AV.int .i64 c1.Start), (AV.sl z2 f3 e4), (AV.sl z6 f7 e8), (AV.sl z10 f11 e12), (AV.sl z14 f15 e16)] 0)), (18, (AV.bool b29))], updL os' [], s⟩) ?_ ?_
 ·rcases oite hb with ⟨hc28, hb⟩ | ⟨hc28, hb⟩
  ·refine AOps.know (d := 14) rfl hc28 ?_
   refine AOps.skipR rfl rfl ?_
   refine AOps.skipR rfl rfl ?_
   refine AOps.skipR rfl rfl ?_
   refine AOps.p rfl (rfl : _ = (AV.bool true)) ?_
   refine AOps.resR [(1, (AV.str u18)), (2, (AV.sl z20 f21 e22)), (3, (AV.eptr [(AV.int .i64 c1.Stack), (AV.int .i64 c1.Start), (AV.sl z2 f3 e4), (AV.sl z6 f7 e8), (AV.sl z10 f11 e12), (AV.sl z14 f15 e16)] 0)), (18, (AV.bool b29))] [] ?_ ?_ _ ⟨_, _, rfl⟩
   ·exact ⟨rfl, rfl, rfl, congrArg AV.bool (Option.some.inj hb), trivial⟩
   exact trivial
  ·have h := hb
   refine AOps.know (d := 14) rfl hc28 ?_
   refine AOps.p rfl (rfl : _ = (AV.str u18)) ?_
   obtain ⟨y30, h31, h⟩ := obind h
   refine AOps.callP (g := 32) (args := [(AV.str u18)]) (p := (rB) y30) rfl rfl rfl (impl_ValidWord_ok  h31 (HS.wf' hH0)) ?_
   intro _ o33 h32
   cases h32
   refine AOps.p rfl (rfl : _ = (AV.bool (!y30))) ?_
   refine AOps.p rfl (rfl : _ = (AV.bool (!y30))) ?_
   refine AOps.resR [(1, (AV.str u18)), (2, (AV.sl z20 f21 e22)), (3, (AV.eptr [(AV.int .i64 c1.Stack), (AV.int .i64 c1.Start), (AV.sl z2 f3 e4), (AV.sl z6 f7 e8), (AV.sl z10 f11 e12), (AV.sl z14 f15 e16)] 0)), (18, (AV.bool b29))] [] ?_ ?_ _ ⟨_, _, rfl⟩
   ·exact ⟨rfl, rfl, rfl, congrArg AV.bool (Option.some.inj h), trivial⟩
   exact trivial
 rintro _ ⟨tm, os, rfl⟩
 refine AOps.assignR rfl rfl rfl (rfl : _ = (AV.bool b29)) rfl ?_
 refine AOps.nilR ?_
 rcases oite h with ⟨hc34, h⟩ | ⟨hc34, h⟩
 ·refine AW.condT (congrArg AV.bool hc34) ?_
  refine AW.sr ?_
  refine AOps.p rfl (rfl : _ = (AV.sl 0 true [])) ?_
  refine AOps.p rfl (rfl : _ = (AV.int .i64 1)) ?_
  refine AOps.nilR ?_
  cases h
  have hG35 := AllG.cons (OS.nil (e := oE4) (k := fun _ => AV.undef) (z := 0) (Or.inr rfl)) hG0
  have hH36 := HS.addNil hH0
  change HS [] true s s (([] : List BX) ++ List.flatten ([] :: ([] : List (List BX)))) at hH36
  change AllG [OS oE4 (AV.sl 0 true []) (fun _ => AV.undef) ([] : List Bool)] ([] :: ([] : List (List BX))) at hG35
  exact AW.ret ⟨_, _, rfl, ⟨(AV.sl 0 true []), (fun _ => AV.undef), ([] :: ([] : List (List BX))), rfl, hH36, hG35, rfl⟩⟩
 refine AW.condF (congrArg AV.bool hc34) ?_
 refine AW.sr ?_
 refine AOps.p rfl (rfl : _ = (AV.sl z20 f21 e22)) ?_
 refine AOps.p rfl (len_eq h23) ?_
 refine AOps.p rfl (rfl : _ = (AV.bool (decide (((list19.length : Int) : Int) > 40)))) ?_
 refine AOps.p rfl (rfl : _ = (AV.bool (decide (((list19.length : Int) : Int) > 40)))) ?_
 obtain ⟨b38, hb, h⟩ := obind h
 refine AOps.split 3 (fun f' => ∃ tm' os', f' = ⟨updL tm' [(1, (AV.str u18)), (2, (AV.sl z20 f21 e22)), (3, (AV.eptr [(AV.int .i64 c1.Stack), (AV.int .i64 c1.Start), (AV.sl z2 f3 e4), (AV.sl z6 f7 e8), (AV.sl z10 f11 e12), (AV.sl z14 f15 e16)] 0)), (26, (AV.bool b38))], updL os' [], s⟩) ?_ ?_
 ·rcases oite hb with ⟨hc37, hb⟩ | ⟨hc37, hb⟩
  ·refine AOps.know (d := 23) rfl hc37 ?_
   refine AOps.skipR rfl rfl ?_
   refine AOps.skipR rfl rfl ?_
   refine AOps.p rfl (rfl : _ = (AV.bool true)) ?_
   refine AOps.resR [(1, (AV.str u18)), (2, (AV.sl z20 f21 e22)), (3, (AV.eptr [(AV.int .i64 c1.Stack), (AV.int .i64 c1.Start), (AV.sl z2 f3 e4), (AV.sl z6 f7 e8), (AV.sl z10 f11 e12), (AV.sl z14 f15 e16)] 0)), (26, (AV.bool b38))] [] ?_ ?_ _ ⟨_, _, rfl⟩
   ·exact ⟨rfl, rfl, rfl, congrArg AV.bool (Option.some.inj hb), trivial⟩
   exact trivial
  ·have h := hb
   refine AOps.know (d := 23) rfl hc37 ?_
   refine AOps.p rfl (rfl : _ = (AV.sl z20 f21 e22)) ?_
   obtain ⟨y44, h45, h⟩ := obind h
   refine AOps.callP (g := 33) (args := [(AV.sl z20 f21 e22), (AV.fn 34 [])]) (p := (rB) y44) rfl rfl rfl (slices_ContainsFunc_simpl_Context_impl_Context_ok h23 (by intro x vs y hc hx s hs; obtain ⟨_, _, rfl, hv0, hd0⟩ := Cs_cons hc; obtain ⟨_, rfl, h39⟩ := hv0; obtain ⟨_, _, rfl, h40, h41⟩ := Cs_cons h39; cases h40; obtain ⟨_, _, rfl, h42, h43⟩ := Cs_cons h41; cases h42; cases Cs_nil h43; cases Cs_nil hd0; exact impl_RowOf_1_ok  hx hs) h45 (HS.wf' hH0)) ?_
   intro _ o47 h46
   cases h46
   refine AOps.p rfl (rfl : _ = (AV.bool y44)) ?_
   refine AOps.resR [(1, (AV.str u18)), (2, (AV.sl z20 f21 e22)), (3, (AV.eptr [(AV.int .i64 c1.Stack), (AV.int .i64 c1.Start), (AV.sl z2 f3 e4), (AV.sl z6 f7 e8), (AV.sl z10 f11 e12), (AV.sl z14 f15 e16)] 0)), (26, (AV.bool b38))] [] ?_ ?_ _ ⟨_, _, rfl⟩
   ·exact ⟨rfl, rfl, rfl, congrArg AV.bool (Option.some.inj h), trivial⟩
   exact trivial
 rintro _ ⟨tm, os, rfl⟩
 refine AOps.assignR rfl rfl rfl (rfl : _ = (AV.bool b38)) rfl ?_
 refine AOps.nilR ?_
 rcases oite h with ⟨hc48, h⟩ | ⟨hc48, h⟩
 ·refine AW.condT (congrArg AV.bool hc48) ?_
  refine AW.sr ?_
  refine AOps.p rfl (rfl : _ = (AV.sl 0 true [])) ?_
  refine AOps.p rfl (rfl : _ = (AV.int .i64 2)) ?_
  refine AOps.nilR ?_
  cases h
  have hG49 := AllG.cons (OS.nil (e := oE4) (k := fun _ => AV.undef) (z := 0) (Or.inr rfl)) hG0
  have hH50 := HS.addNil hH0
  change HS [] true s s (([] : List BX) ++ List.flatten ([] :: ([] : List (List BX)))) at hH50
  change AllG [OS oE4 (AV.sl 0 true []) (fun _ => AV.undef) ([] : List Bool)] ([] :: ([] : List (List BX))) at hG49
  exact AW.ret ⟨_, _, rfl, ⟨(AV.sl 0 true []), (fun _ => AV.undef), ([] :: ([] : List (List BX))), rfl, hH50, hG49, rfl⟩⟩
 refine AW.condF (congrArg AV.bool hc48) ?_
 refine AW.sr ?_
 refine AOps.p rfl (rfl : _ = (AV.str u18)) ?_
 obtain ⟨y51, h52, h⟩ := obind h
 refine AOps.callP (g := 35) (args := [(AV.str u18)]) (p := (rB) y51) rfl rfl rfl (impl_isMatched_ok  h52 (HS.wf' hH0)) ?_
 intro _ o54 h53
 cases h53
 refine AOps.p rfl (rfl : _ = (AV.bool (!y51))) ?_
 refine AOps.assignR rfl rfl rfl (rfl : _ = (AV.bool (!y51))) rfl ?_
 refine AOps.nilR ?_
 rcases oite h with ⟨hc55, h⟩ | ⟨hc55, h⟩
 ·refine AW.condT (congrArg AV.bool hc55) ?_
  refine AW.sr ?_
  refine AOps.p rfl (rfl : _ = (AV.sl 0 true [])) ?_
  refine AOps.p rfl (rfl : _ = (AV.int .i64 4)) ?_
  refine AOps.nilR ?_
  cases h
  have hG56 := AllG.cons (OS.nil (e := oE4) (k := fun _ => AV.undef) (z := 0) (Or.inr rfl)) hG0
  have hH57 := HS.addNil hH0
  change HS [] true s s (([] : List BX) ++ List.flatten ([] :: ([] : List (List BX)))) at hH57
  change AllG [OS oE4 (AV.sl 0 true []) (fun _ => AV.undef) ([] : List Bool)] ([] :: ([] : List (List BX))) at hG56
  exact AW.ret ⟨_, _, rfl, ⟨(AV.sl 0 true []), (fun _ => AV.undef), ([] :: ([] : List (List BX))), rfl, hH57, hG56, rfl⟩⟩
 refine AW.condF (congrArg AV.bool hc55) ?_
 refine AW.skip ?_
 refine AW.inBlock ?_
 refine AW.sr ?_
 refine AOps.ldE (v := (AV.agg [(AV.int .i64 c1.Stack), (AV.int .i64 c1.Start), (AV.sl z2 f3 e4), (AV.sl z6 f7 e8), (AV.sl z10 f11 e12), (AV.sl z14 f15 e16)])) rfl rfl rfl rfl rfl rfl ?_
 refine AOps.p rfl (rfl : _ = (AV.agg [(AV.int .i64 c1.Stack), (AV.int .i64 c1.Start), (AV.sl z2 f3 e4), (AV.sl z6 f7 e8), (AV.sl z10 f11 e12), (AV.sl z14 f15 e16), (AV.bool false)])) ?_
 refine AOps.box1 (v := (AV.agg [(AV.int .i64 c1.Stack), (AV.int .i64 c1.Start), (AV.sl z2 f3 e4), (AV.sl z6 f7 e8), (AV.sl z10 f11 e12), (AV.sl z14 f15 e16), (AV.bool false)])) hH0 rfl rfl rfl rfl rfl rfl rfl rfl ?_
 intro b58 s59 hH60
 change HS [] true s s59 (([⟨some b58, [(AV.int .i64 c1.Stack), (AV.int .i64 c1.Start), (AV.sl z2 f3 e4), (AV.sl z6 f7 e8), (AV.sl z10 f11 e12), (AV.sl z14 f15 e16), (AV.bool false)], (fun _ => false)⟩] : List BX) ++ List.flatten ([] : List (List BX))) at hH60
 refine AOps.assignR rfl rfl rfl (rfl : _ = (AV.ptr b58 0)) rfl ?_
 refine AOps.nilR ?_
 refine AW.sr ?_
 refine AOps.p rfl (rfl : _ = (AV.ptr b58 0)) ?_
 refine AOps.p rfl (rfl : _ = (AV.str u18)) ?_
 refine AOps.p rfl (rfl : _ = (AV.sl z20 f21 e22)) ?_
 obtain ⟨y61, h62, h⟩ := obind h
 have hP67 := HS.pop0 hH60
 have hP68 := HS.popE hP67 (i := 0) (x := ⟨some b58, [(AV.int .i64 c1.Stack), (AV.int .i64 c1.Start), (AV.sl z2 f3 e4), (AV.sl z6 f7 e8), (AV.sl z10 f11 e12), (AV.sl z14 f15 e16), (AV.bool false)], (fun _ => false)⟩) rfl
 have hF0 : AllG ([] : List (List BX → Prop)) [] := AllG.nil
 refine AOps.callF (al := true) (g := 36) (args := [(AV.ptr b58 0), (AV.str u18), (AV.sl z20 f21 e22)]) rfl rfl rfl (impl_asker_row_K100_ok h5 h9 h13 h17 h23 (HS.enterK hP68) hF0 (HS.enterLo hP68 hl) h62 (HS.wf' hH60)) ?_
 rintro h64 _ s69 ⟨w63, _, k65, Ls71, rfl, hH72, hG73, ho66⟩
 have hJ74 := HS.joinK hP68 hH72
 have hJ75 := HS.pushE hJ74 (i := 0) rfl
 obtain ⟨Ls76, Lf77, hG78, hF79, hP80⟩ := HS.pushN hJ75 hG0 hG73
 cases hF79
 have hH81 := HS.push0 hP80
 change HS [] true s s69 (([⟨some b58, [(AV.int .i64 c1.Stack), (AV.int .i64 c1.Start), (AV.sl z2 f3 e4), (AV.sl z6 f7 e8), (AV.sl z10 f11 e12), (AV.sl z14 f15 e16), (AV.bool y61.2)], w63⟩] : List BX) ++ List.flatten Ls76) at hH81
 change AllG [OS oE4 h64 k65 y61.1] Ls76 at hG78
 refine AOps.assignR rfl rfl rfl (rfl : _ = h64) rfl ?_
 refine AOps.nilR ?_
 refine AW.seq ?_
 refine AW.sr ?_
 refine AOps.p rfl (rfl : _ = (AV.ptr b58 0)) ?_
 refine AOps.p rfl (rfl : _ = (AV.ptr b58 0)) ?_
 refine AOps.p rfl (rfl : _ = (AV.ptr b58 6)) ?_
 refine AOps.ldB (i := 0) (v := (AV.bool y61.2)) hH81 rfl rfl rfl rfl rfl rfl rfl rfl rfl ?_
 refine AOps.nilR ?_
 rcases oite h with ⟨hc82, h⟩ | ⟨hc82, h⟩
 ·refine AW.condT (congrArg AV.bool hc82) ?_
  refine AW.sr ?_
  refine AOps.p rfl (rfl : _ = (AV.sl 0 true [])) ?_
  refine AOps.p rfl (rfl : _ = (AV.int .i64 3)) ?_
  refine AOps.nilR ?_
  cases h
  have hG83 := AllG.cons (OS.nil (e := oE4) (k := fun _ => AV.undef) (z := 0) (Or.inr rfl)) hG78
  have hH84 := HS.addNil hH81
  change HS [] true s s69 (([⟨some b58, [(AV.int .i64 c1.Stack), (AV.int .i64 c1.Start), (AV.sl z2 f3 e4), (AV.sl z6 f7 e8), (AV.sl z10 f11 e12), (AV.sl z14 f15 e16), (AV.bool y61.2)], w63⟩] : List BX) ++ List.flatten ([] :: Ls76)) at hH84
  change AllG [OS oE4 (AV.sl 0 true []) (fun _ => AV.undef) ([] : List Bool), OS oE4 h64 k65 y61.1] ([] :: Ls76) at hG83
  obtain ⟨Ls85, hG86, hH87⟩ := HS.selEG hH84 hG83 [] [some 0]
  exact AW.ret ⟨_, _, rfl, ⟨(AV.sl 0 true []), (fun _ => AV.undef), Ls85, rfl, hH87, hG86, rfl⟩⟩
 refine AW.condF (congrArg AV.bool hc82) ?_
 refine AW.skip ?_
 refine AW.sr ?_
 refine AOps.p rfl (rfl : _ = h64) ?_
 refine AOps.assignR rfl rfl rfl (rfl : _ = h64) rfl ?_
 refine AOps.p rfl (rfl : _ = (AV.int .i64 0)) ?_
 refine AOps.nilR ?_
 cases h
 obtain ⟨Ls88, hG89, hH90⟩ := HS.selEG hH81 hG78 [] [some 0]
 exact AW.ret ⟨_, _, rfl, ⟨h64, k65, Ls88, rfl, hH90, hG89, ho66⟩⟩
theorem laws_eqBoolS_okN {a1 : List Bool} {b6 : List Bool} {z2 : Nat} {f3 : Bool} {e4 : List AV} {z7 : Nat} {f8 : Bool} {e9 : List AV} {s : St} (h5 : LR rB 1 a1 z2 e4) (h10 : LR rB 1 b6 z7 e9) {r : Bool} (h : laws_eqBoolS a1 b6 = some r) (hs : WF s) : ACallN Cf 10 [(AV.sl z2 f3 e4), (AV.sl z7 f8 e9)] s fun v _ s' => (rB) r v ∧ s' = s := by
 refine ACallN.pure rfl rfl rfl .B ?_
 have hWF := hs.lo'
 unfold laws_eqBoolS at h
 refine AW.sr ?_
 refine AOps.p rfl (rfl : _ = (AV.bool false)) ?_
 refine AOps.nilR ?_
 refine AW.seq ?_
 refine AW.sr ?_
 refine AOps.p rfl (rfl : _ = (AV.sl z2 f3 e4)) ?_
 refine AOps.p rfl (len_eq h5) ?_
 refine AOps.p rfl (rfl : _ = (AV.sl z7 f8 e9)) ?_
 refine AOps.p rfl (len_eq h10) ?_
 refine AOps.p rfl (rfl : _ = (AV.bool ((a1.length : Int) != (b6.length : Int)))) ?_
 refine AOps.nilR ?_
 rcases oite h with ⟨hc11, h⟩ | ⟨hc11, h⟩
 ·refine AW.condT (congrArg AV.bool hc11) ?_
  refine AW.sr ?_
  refine AOps.p rfl (rfl : _ = (AV.bool false)) ?_
  refine AOps.nilR ?_
  cases h
  exact AW.ret ⟨rfl, _, _, rfl, rfl⟩
 refine AW.condF (congrArg AV.bool hc11) ?_
 refine AW.skip ?_
 refine AW.seq ?_
 refine AW.sr ?_
 refine AOps.p rfl (rfl : _ = (AV.int .i64 0)) ?_
 refine AOps.nilR ?_
 refine AW.meet (σ := Unit) (fun _ tm os => ⟨updL tm [], updL os [], { s with lo := s.n }⟩) (fun _ => laws_eqBoolS_J1 = some r) ?_ ?_
 ·rintro _ tm os h
  unfold laws_eqBoolS_J1 at h
  refine AW.sr ?_
  refine AOps.p rfl (rfl : _ = (AV.bool true)) ?_
  refine AOps.nilR ?_
  cases h
  exact AW.ret ⟨rfl, _, _, rfl, rfl⟩
 intro KJ12
 refine AW.block ?_
 refine AW.res [(0, (AV.sl z2 f3 e4)), (1, (AV.sl z7 f8 e9)), (5, (AV.int .i64 0))] [] ⟨rfl, rfl, rfl, trivial⟩ trivial ?_
 refine AW.loopF (σ := Int) (τ := Unit) (fun i13 _ => True) (fun i13 _ tm os => ⟨updL tm [(0, (AV.sl z2 f3 e4)), (1, (AV.sl z7 f8 e9)), (5, (AV.int .i64 i13))], updL os [], { s with lo := s.n }⟩) ?_ (x := (0)) (y := ()) h trivial
 clear h
 rintro i13 _ tm os - e1 h hL1 hR1
 unfold laws_eqBoolS_S1 at h
 refine AW.seq ?_
 refine AW.sr ?_
 refine AOps.p rfl (rfl : _ = (AV.int .i64 i13)) ?_
 refine AOps.p rfl (rfl : _ = (AV.sl z2 f3 e4)) ?_
 refine AOps.p rfl (len_eq h5) ?_
 refine AOps.p rfl (rfl : _ = (AV.bool (decide ((i13 : Int) < (a1.length : Int))))) ?_
 refine AOps.nilR ?_
 rcases oite h with ⟨hc14, h⟩ | ⟨hc14, h⟩
 ·refine AW.condT (congrArg AV.bool hc14) ?_
  refine AW.skip ?_
  refine AW.seq ?_
  refine AW.block ?_
  refine AW.sr ?_
  refine AOps.p rfl (rfl : _ = (AV.sl z2 f3 e4)) ?_
  refine AOps.p rfl (rfl : _ = (AV.int .i64 i13)) ?_
  obtain ⟨x15, h16, h⟩ := obind h
  obtain ⟨v19, h17, h18⟩ := idx_sl h5 h16
  cases h17
  refine AOps.pureR rfl rfl rfl h18 rfl (rfl : _ = (AV.eptr [(AV.bool x15)] 0)) ?_
  refine AOps.ldE (v := (AV.bool x15)) rfl rfl rfl rfl rfl rfl ?_
  refine AOps.p rfl (rfl : _ = (AV.sl z7 f8 e9)) ?_
  refine AOps.p rfl (rfl : _ = (AV.int .i64 i13)) ?_
  obtain ⟨x20, h21, h⟩ := obind h
  obtain ⟨v24, h22, h23⟩ := idx_sl h10 h21
  cases h22
  refine AOps.pureR rfl rfl rfl h23 rfl (rfl : _ = (AV.eptr [(AV.bool x20)] 0)) ?_
  refine AOps.ldE (v := (AV.bool x20)) rfl rfl rfl rfl rfl rfl ?_
  refine AOps.p rfl (rfl : _ = (AV.bool (!(x15 == x20)))) ?_
  refine AOps.nilR ?_
  rcases oite h with ⟨hc25, h⟩ | ⟨hc25, h⟩
  ·refine AW.condT (congrArg AV.bool hc25) ?_
   refine AW.sr ?_
   refine AOps.p rfl (rfl : _ = (AV.bool false)) ?_
   refine AOps.nilR ?_
   cases h
   have hr := hR1 _ rfl
   subst hr
   exact AW.ret ⟨rfl, _, _, rfl, rfl⟩
  refine AW.condF (congrArg AV.bool hc25) ?_
  refine AW.skip ?_
  refine AW.inBlock ?_
  refine AW.region ?_
  refine AOps.p rfl (rfl : _ = (AV.int .i64 i13)) ?_
  refine AOps.p rfl (rfl : _ = (AV.int .i64 (IntKind.wrap .i64 (i13 + 1)))) ?_
  refine AOps.assignR rfl rfl rfl (rfl : _ = (AV.int .i64 (IntKind.wrap .i64 (i13 + 1)))) rfl ?_
  refine AOps.nilR ?_
  cases h
  exact AW.res [(0, (AV.sl z2 f3 e4)), (1, (AV.sl z7 f8 e9)), (5, (AV.int .i64 (IntKind.wrap .i64 (i13 + 1))))] [] ⟨rfl, rfl, rfl, trivial⟩ trivial (hL1 _ rfl () _ _ trivial)
 refine AW.condF (congrArg AV.bool hc14) ?_
 refine AW.exit rfl ?_
 obtain ⟨r26, hm, hx⟩ := omap h
 clear h
 subst hx
 have hx := hR1 _ rfl
 rw [hx] at hm
 have h := hm
 exact AW.res [] [] trivial trivial (KJ12 () _ _ h)
theorem laws_eqPush_ok {a1 : Push} {b2 : Push} {s : St} {r : Bool} (h : laws_eqPush a1 b2 = some r) (hs : WF s) : ACall Cf 84 [(AV.agg [(AV.int .i64 a1.To), (AV.int .i64 a1.Put)]), (AV.agg [(AV.int .i64 b2.To), (AV.int .i64 b2.Put)])] s fun v _ s' => (rB) r v ∧ s' = s := by
 refine ACall.pure rfl rfl rfl .B ?_
 have hWF := hs.lo'
 unfold laws_eqPush at h
 refine AW.sr ?_
 refine AOps.makeR rfl rfl rfl rfl rfl rfl (rfl : _ = (AV.eptr [(AV.int .i64 a1.To), (AV.int .i64 a1.Put)] 0)) ?_
 refine AOps.makeR rfl rfl rfl rfl rfl rfl (rfl : _ = (AV.eptr [(AV.int .i64 b2.To), (AV.int .i64 b2.Put)] 0)) ?_
 refine AOps.p rfl (rfl : _ = (AV.bool false)) ?_
 refine AOps.nilR ?_
 refine AW.seq ?_
 refine AW.sr ?_
 refine AOps.p rfl (rfl : _ = (AV.eptr [(AV.int .i64 a1.To), (AV.int .i64 a1.Put)] 0)) ?_
 refine AOps.ldE (v := (AV.int .i64 a1.To)) rfl rfl rfl rfl rfl rfl ?_
 refine AOps.p rfl (rfl : _ = (AV.eptr [(AV.int .i64 b2.To), (AV.int .i64 b2.Put)] 0)) ?_
 refine AOps.ldE (v := (AV.int .i64 b2.To)) rfl rfl rfl rfl rfl rfl ?_
 refine AOps.p rfl (rfl : _ = (AV.bool (a1.To != b2.To))) ?_
 refine AOps.nilR ?_
 rcases oite h with ⟨hc3, h⟩ | ⟨hc3, h⟩
 ·refine AW.condT (congrArg AV.bool hc3) ?_
  refine AW.sr ?_
  refine AOps.p rfl (rfl : _ = (AV.bool false)) ?_
  refine AOps.nilR ?_
  cases h
  exact AW.ret ⟨rfl, _, _, rfl, rfl⟩
 refine AW.condF (congrArg AV.bool hc3) ?_
 refine AW.skip ?_
 refine AW.seq ?_
 refine AW.sr ?_
 refine AOps.p rfl (rfl : _ = (AV.eptr [(AV.int .i64 a1.To), (AV.int .i64 a1.Put)] 1)) ?_
 refine AOps.ldE (v := (AV.int .i64 a1.Put)) rfl rfl rfl rfl rfl rfl ?_
 refine AOps.p rfl (rfl : _ = (AV.eptr [(AV.int .i64 b2.To), (AV.int .i64 b2.Put)] 1)) ?_
 refine AOps.ldE (v := (AV.int .i64 b2.Put)) rfl rfl rfl rfl rfl rfl ?_
 refine AOps.p rfl (rfl : _ = (AV.bool (a1.Put != b2.Put))) ?_
 refine AOps.nilR ?_
 rcases oite h with ⟨hc4, h⟩ | ⟨hc4, h⟩
 ·refine AW.condT (congrArg AV.bool hc4) ?_
  refine AW.sr ?_
  refine AOps.p rfl (rfl : _ = (AV.bool false)) ?_
  refine AOps.nilR ?_
  cases h
  exact AW.ret ⟨rfl, _, _, rfl, rfl⟩
 refine AW.condF (congrArg AV.bool hc4) ?_
 refine AW.skip ?_
 refine AW.sr ?_
 refine AOps.p rfl (rfl : _ = (AV.bool true)) ?_
 refine AOps.nilR ?_
 cases h
 exact AW.ret ⟨rfl, _, _, rfl, rfl⟩
theorem laws_eqPushS_okN {a1 : List Push} {b6 : List Push} {z2 : Nat} {f3 : Bool} {e4 : List AV} {z7 : Nat} {f8 : Bool} {e9 : List AV} {s : St} (h5 : LR rPush 2 a1 z2 e4) (h10 : LR rPush 2 b6 z7 e9) {r : Bool} (h : laws_eqPushS a1 b6 = some r) (hs : WF s) : ACallN Cf 70 [(AV.sl z2 f3 e4), (AV.sl z7 f8 e9)] s fun v _ s' => (rB) r v ∧ s' = s := by
 refine ACallN.pure rfl rfl rfl .B ?_
 have hWF := hs.lo'
 unfold laws_eqPushS at h
 refine AW.sr ?_
 refine AOps.p rfl (rfl : _ = (AV.bool false)) ?_
 refine AOps.nilR ?_
 refine AW.seq ?_
 refine AW.sr ?_
 refine AOps.p rfl (rfl : _ = (AV.sl z2 f3 e4)) ?_
 refine AOps.p rfl (len_eq h5) ?_
 refine AOps.p rfl (rfl : _ = (AV.sl z7 f8 e9)) ?_
 refine AOps.p rfl (len_eq h10) ?_
 refine AOps.p rfl (rfl : _ = (AV.bool ((a1.length : Int) != (b6.length : Int)))) ?_
 refine AOps.nilR ?_
 rcases oite h with ⟨hc11, h⟩ | ⟨hc11, h⟩
 ·refine AW.condT (congrArg AV.bool hc11) ?_
  refine AW.sr ?_
  refine AOps.p rfl (rfl : _ = (AV.bool false)) ?_
  refine AOps.nilR ?_
  cases h
  exact AW.ret ⟨rfl, _, _, rfl, rfl⟩
 refine AW.condF (congrArg AV.bool hc11) ?_
 refine AW.skip ?_
 refine AW.seq ?_
 refine AW.sr ?_
 refine AOps.p rfl (rfl : _ = (AV.int .i64 0)) ?_
 refine AOps.nilR ?_
 refine AW.meet (σ := Unit) (fun _ tm os => ⟨updL tm [], updL os [], { s with lo := s.n }⟩) (fun _ => laws_eqPushS_J1 = some r) ?_ ?_
 ·rintro _ tm os h
  unfold laws_eqPushS_J1 at h
  refine AW.sr ?_
  refine AOps.p rfl (rfl : _ = (AV.bool true)) ?_
  refine AOps.nilR ?_
  cases h
  exact AW.ret ⟨rfl, _, _, rfl, rfl⟩
 intro KJ12
 refine AW.block ?_
 refine AW.res [(0, (AV.sl z2 f3 e4)), (1, (AV.sl z7 f8 e9)), (5, (AV.int .i64 0))] [] ⟨rfl, rfl, rfl, trivial⟩ trivial ?_
 refine AW.loopF (σ := Int) (τ := Unit) (fun i13 _ => True) (fun i13 _ tm os => ⟨updL tm [(0, (AV.sl z2 f3 e4)), (1, (AV.sl z7 f8 e9)), (5, (AV.int .i64 i13))], updL os [], { s with lo := s.n }⟩) ?_ (x := (0)) (y := ()) h trivial
 clear h
 rintro i13 _ tm os - e1 h hL1 hR1
 unfold laws_eqPushS_S1 at h
 refine AW.seq ?_
 refine AW.sr ?_
 refine AOps.p rfl (rfl : _ = (AV.int .i64 i13)) ?_
 refine AOps.p rfl (rfl : _ = (AV.sl z2 f3 e4)) ?_
 refine AOps.p rfl (len_eq h5) ?_
 refine AOps.p rfl (rfl : _ = (AV.bool (decide ((i13 : Int) < (a1.length : Int))))) ?_
 refine AOps.nilR ?_
 rcases oite h with ⟨hc14, h⟩ | ⟨hc14, h⟩
 ·refine AW.condT (congrArg AV.bool hc14) ?_
  refine AW.skip ?_
  refine AW.seq ?_
  refine AW.block ?_
  refine AW.sr ?_
  refine AOps.p rfl (rfl : _ = (AV.sl z2 f3 e4)) ?_
  refine AOps.p rfl (rfl : _ = (AV.int .i64 i13)) ?_
  obtain ⟨x15, h16, h⟩ := obind h
  obtain ⟨v19, h17, h18⟩ := idx_sl h5 h16
  obtain ⟨_, rfl, h20⟩ := h17
  obtain ⟨_, _, rfl, h21, h22⟩ := Cs_cons h20
  cases h21
  obtain ⟨_, _, rfl, h23, h24⟩ := Cs_cons h22
  cases h23
  cases Cs_nil h24
  refine AOps.pureR rfl rfl rfl h18 rfl (rfl : _ = (AV.eptr [(AV.int .i64 x15.To), (AV.int .i64 x15.Put)] 0)) ?_
  refine AOps.ldE (v := (AV.agg [(AV.int .i64 x15.To), (AV.int .i64 x15.Put)])) rfl rfl rfl rfl rfl rfl ?_
  refine AOps.p rfl (rfl : _ = (AV.sl z7 f8 e9)) ?_
  refine AOps.p rfl (rfl : _ = (AV.int .i64 i13)) ?_
  obtain ⟨x25, h26, h⟩ := obind h
  obtain ⟨v29, h27, h28⟩ := idx_sl h10 h26
  obtain ⟨_, rfl, h30⟩ := h27
  obtain ⟨_, _, rfl, h31, h32⟩ := Cs_cons h30
  cases h31
  obtain ⟨_, _, rfl, h33, h34⟩ := Cs_cons h32
  cases h33
  cases Cs_nil h34
  refine AOps.pureR rfl rfl rfl h28 rfl (rfl : _ = (AV.eptr [(AV.int .i64 x25.To), (AV.int .i64 x25.Put)] 0)) ?_
  refine AOps.ldE (v := (AV.agg [(AV.int .i64 x25.To), (AV.int .i64 x25.Put)])) rfl rfl rfl rfl rfl rfl ?_
  obtain ⟨y35, h36, h⟩ := obind h
  refine AOps.callDP (g := 84) (args := [(AV.agg [(AV.int .i64 x15.To), (AV.int .i64 x15.Put)]), (AV.agg [(AV.int .i64 x25.To), (AV.int .i64 x25.Put)])]) (p := (rB) y35) rfl rfl rfl (laws_eqPush_ok  h36 hWF.still) (fun v hv => Nice.pure (k := FINK) (p := (rB) y35) .B _ v hv) ?_
  intro _ o38 h37
  cases h37
  refine AOps.p rfl (rfl : _ = (AV.bool (!y35))) ?_
  refine AOps.nilR ?_
  rcases oite h with ⟨hc39, h⟩ | ⟨hc39, h⟩
  ·refine AW.condT (congrArg AV.bool hc39) ?_
   refine AW.sr ?_
   refine AOps.p rfl (rfl : _ = (AV.bool false)) ?_
   refine AOps.nilR ?_
   cases h
   have hr := hR1 _ rfl
   subst hr
   exact AW.ret ⟨rfl, _, _, rfl, rfl⟩
  refine AW.condF (congrArg AV.bool hc39) ?_
  refine AW.skip ?_
  refine AW.inBlock ?_
  refine AW.region ?_
  refine AOps.p rfl (rfl : _ = (AV.int .i64 i13)) ?_
  refine AOps.p rfl (rfl : _ = (AV.int .i64 (IntKind.wrap .i64 (i13 + 1)))) ?_
  refine AOps.assignR rfl rfl rfl (rfl : _ = (AV.int .i64 (IntKind.wrap .i64 (i13 + 1)))) rfl ?_
  refine AOps.nilR ?_
  cases h
  exact AW.res [(0, (AV.sl z2 f3 e4)), (1, (AV.sl z7 f8 e9)), (5, (AV.int .i64 (IntKind.wrap .i64 (i13 + 1))))] [] ⟨rfl, rfl, rfl, trivial⟩ trivial (hL1 _ rfl () _ _ trivial)
 refine AW.condF (congrArg AV.bool hc14) ?_
 refine AW.exit rfl ?_
 obtain ⟨r40, hm, hx⟩ := omap h
 clear h
 subst hx
 have hx := hR1 _ rfl
 rw [hx] at hm
 have h := hm
 exact AW.res [] [] trivial trivial (KJ12 () _ _ h)
theorem laws_eqPushSS_okN {a1 : List (List Push)} {b6 : List (List Push)} {z2 : Nat} {f3 : Bool} {e4 : List AV} {z7 : Nat} {f8 : Bool} {e9 : List AV} {s : St} (h5 : LR (rL rPush 2) 1 a1 z2 e4) (h10 : LR (rL rPush 2) 1 b6 z7 e9) {r : Bool} (h : laws_eqPushSS a1 b6 = some r) (hs : WF s) : ACallN Cf 37 [(AV.sl z2 f3 e4), (AV.sl z7 f8 e9)] s fun v _ s' => (rB) r v ∧ s' = s := by
 refine ACallN.pure rfl rfl rfl .B ?_
 have hWF := hs.lo'
 unfold laws_eqPushSS at h
 refine AW.sr ?_
 refine AOps.p rfl (rfl : _ = (AV.bool false)) ?_
 refine AOps.nilR ?_
 refine AW.seq ?_
 refine AW.sr ?_
 refine AOps.p rfl (rfl : _ = (AV.sl z2 f3 e4)) ?_
 refine AOps.p rfl (len_eq h5) ?_
 refine AOps.p rfl (rfl : _ = (AV.sl z7 f8 e9)) ?_
 refine AOps.p rfl (len_eq h10) ?_
 refine AOps.p rfl (rfl : _ = (AV.bool ((a1.length : Int) != (b6.length : Int)))) ?_
 refine AOps.nilR ?_
 rcases oite h with ⟨hc11, h⟩ | ⟨hc11, h⟩
 ·refine AW.condT (congrArg AV.bool hc11) ?_
  refine AW.sr ?_
  refine AOps.p rfl (rfl : _ = (AV.bool false)) ?_
  refine AOps.nilR ?_
  cases h
  exact AW.ret ⟨rfl, _, _, rfl, rfl⟩
 refine AW.condF (congrArg AV.bool hc11) ?_
 refine AW.skip ?_
 refine AW.seq ?_
 refine AW.sr ?_
 refine AOps.p rfl (rfl : _ = (AV.int .i64 0)) ?_
 refine AOps.nilR ?_
 refine AW.meet (σ := Unit) (fun _ tm os => ⟨updL tm [], updL os [], { s with lo := s.n }⟩) (fun _ => laws_eqPushSS_J1 = some r) ?_ ?_
 ·rintro _ tm os h
  unfold laws_eqPushSS_J1 at h
  refine AW.sr ?_
  refine AOps.p rfl (rfl : _ = (AV.bool true)) ?_
  refine AOps.nilR ?_
  cases h
  exact AW.ret ⟨rfl, _, _, rfl, rfl⟩
 intro KJ12
 refine AW.block ?_
 refine AW.res [(0, (AV.sl z2 f3 e4)), (1, (AV.sl z7 f8 e9)), (5, (AV.int .i64 0))] [] ⟨rfl, rfl, rfl, trivial⟩ trivial ?_
 refine AW.loopF (σ := Int) (τ := Unit) (fun i13 _ => True) (fun i13 _ tm os => ⟨updL tm [(0, (AV.sl z2 f3 e4)), (1, (AV.sl z7 f8 e9)), (5, (AV.int .i64 i13))], updL os [], { s with lo := s.n }⟩) ?_ (x := (0)) (y := ()) h trivial
 clear h
 rintro i13 _ tm os - e1 h hL1 hR1
 unfold laws_eqPushSS_S1 at h
 refine AW.seq ?_
 refine AW.sr ?_
 refine AOps.p rfl (rfl : _ = (AV.int .i64 i13)) ?_
 refine AOps.p rfl (rfl : _ = (AV.sl z2 f3 e4)) ?_
 refine AOps.p rfl (len_eq h5) ?_
 refine AOps.p rfl (rfl : _ = (AV.bool (decide ((i13 : Int) < (a1.length : Int))))) ?_
 refine AOps.nilR ?_
 rcases oite h with ⟨hc14, h⟩ | ⟨hc14, h⟩
 ·refine AW.condT (congrArg AV.bool hc14) ?_
  refine AW.skip ?_
  refine AW.seq ?_
  refine AW.block ?_
  refine AW.sr ?_
  refine AOps.p rfl (rfl : _ = (AV.sl z2 f3 e4)) ?_
  refine AOps.p rfl (rfl : _ = (AV.int .i64 i13)) ?_
  obtain ⟨x15, h16, h⟩ := obind h
  obtain ⟨v19, h17, h18⟩ := idx_sl h5 h16
  obtain ⟨z20, f21, e22, rfl, h23⟩ := h17
  refine AOps.pureR rfl rfl rfl h18 rfl (rfl : _ = (AV.eptr [(AV.sl z20 f21 e22)] 0)) ?_
  refine AOps.ldE (v := (AV.sl z20 f21 e22)) rfl rfl rfl rfl rfl rfl ?_
  refine AOps.p rfl (rfl : _ = (AV.sl z7 f8 e9)) ?_
  refine AOps.p rfl (rfl : _ = (AV.int .i64 i13)) ?_
  obtain ⟨x24, h25, h⟩ := obind h
  obtain ⟨v28, h26, h27⟩ := idx_sl h10 h25
  obtain ⟨z29, f30, e31, rfl, h32⟩ := h26
  refine AOps.pureR rfl rfl rfl h27 rfl (rfl : _ = (AV.eptr [(AV.sl z29 f30 e31)] 0)) ?_
  refine AOps.ldE (v := (AV.sl z29 f30 e31)) rfl rfl rfl rfl rfl rfl ?_
  obtain ⟨y33, h34, h⟩ := obind h
  refine AOps.lendD (g := 70) (args := [(AV.sl z20 f21 e22), (AV.sl z29 f30 e31)]) (ps := [(rL rPush 2) x15, (rL rPush 2) x24]) (p := (rB) y33) rfl rfl rfl rfl rfl rfl rfl (.cons (Fin.of (p := (rL rPush 2) x15) (.L fun _ => (.A (.cons .I (.cons .I .nil)))) (⟨_, _, _, rfl, h23⟩)) (.cons (Fin.of (p := (rL rPush 2) x24) (.L fun _ => (.A (.cons .I (.cons .I .nil)))) (⟨_, _, _, rfl, h32⟩)) .nil)) (fun args' hc => by obtain ⟨_, _, rfl, hv0, hd0⟩ := Cs_cons hc; obtain ⟨z35, f36, e37, rfl, h38⟩ := hv0; obtain ⟨_, _, rfl, hv1, hd1⟩ := Cs_cons hd0; obtain ⟨z39, f40, e41, rfl, h42⟩ := hv1; cases Cs_nil hd1; exact laws_eqPushS_okN h38 h42 h34 WF.blind) (fun v n hv => by cases hv; rfl) (fun v hv => Nice.pure (k := FINK) (p := (rB) y33) .B _ v hv) ?_
  intro _ h43
  cases h43
  refine AOps.p rfl (rfl : _ = (AV.bool (!y33))) ?_
  refine AOps.nilR ?_
  rcases oite h with ⟨hc44, h⟩ | ⟨hc44, h⟩
  ·refine AW.condT (congrArg AV.bool hc44) ?_
   refine AW.sr ?_
   refine AOps.p rfl (rfl : _ = (AV.bool false)) ?_
   refine AOps.nilR ?_
   cases h
   have hr := hR1 _ rfl
   subst hr
   exact AW.ret ⟨rfl, _, _, rfl, rfl⟩
  refine AW.condF (congrArg AV.bool hc44) ?_
  refine AW.skip ?_
  refine AW.inBlock ?_
  refine AW.region ?_
  refine AOps.p rfl (rfl : _ = (AV.int .i64 i13)) ?_
  refine AOps.p rfl (rfl : _ = (AV.int .i64 (IntKind.wrap .i64 (i13 + 1)))) ?_
  refine AOps.assignR rfl rfl rfl (rfl : _ = (AV.int .i64 (IntKind.wrap .i64 (i13 + 1)))) rfl ?_
  refine AOps.nilR ?_
  cases h
  exact AW.res [(0, (AV.sl z2 f3 e4)), (1, (AV.sl z7 f8 e9)), (5, (AV.int .i64 (IntKind.wrap .i64 (i13 + 1))))] [] ⟨rfl, rfl, rfl, trivial⟩ trivial (hL1 _ rfl () _ _ trivial)
 refine AW.condF (congrArg AV.bool hc14) ?_
 refine AW.exit rfl ?_
 obtain ⟨r45, hm, hx⟩ := omap h
 clear h
 subst hx
 have hx := hR1 _ rfl
 rw [hx] at hm
 have h := hm
 exact AW.res [] [] trivial trivial (KJ12 () _ _ h)
theorem laws_eqInt64S_okN {a1 : List Int} {b6 : List Int} {z2 : Nat} {f3 : Bool} {e4 : List AV} {z7 : Nat} {f8 : Bool} {e9 : List AV} {s : St} (h5 : LR (rI .i64) 1 a1 z2 e4) (h10 : LR (rI .i64) 1 b6 z7 e9) {r : Bool} (h : laws_eqInt64S a1 b6 = some r) (hs : WF s) : ACallN Cf 71 [(AV.sl z2 f3 e4), (AV.sl z7 f8 e9)] s fun v _ s' => (rB) r v ∧ s' = s := by
 refine ACallN.pure rfl rfl rfl .B ?_
 have hWF := hs.lo'
 unfold laws_eqInt64S at h
 refine AW.sr ?_
 refine AOps.p rfl (rfl : _ = (AV.bool false)) ?_
 refine AOps.nilR ?_
 refine AW.seq ?_
 refine AW.sr ?_
 refine AOps.p rfl (rfl : _ = (AV.sl z2 f3 e4)) ?_
 refine AOps.p rfl (len_eq h5) ?_
 refine AOps.p rfl (rfl : _ = (AV.sl z7 f8 e9)) ?_
 refine AOps.p rfl (len_eq h10) ?_
 refine AOps.p rfl (rfl : _ = (AV.bool ((a1.length : Int) != (b6.length : Int)))) ?_
 refine AOps.nilR ?_
 rcases oite h with ⟨hc11, h⟩ | ⟨hc11, h⟩
 ·refine AW.condT (congrArg AV.bool hc11) ?_
  refine AW.sr ?_
  refine AOps.p rfl (rfl : _ = (AV.bool false)) ?_
  refine AOps.nilR ?_
  cases h
  exact AW.ret ⟨rfl, _, _, rfl, rfl⟩
 refine AW.condF (congrArg AV.bool hc11) ?_
 refine AW.skip ?_
 refine AW.seq ?_
 refine AW.sr ?_
 refine AOps.p rfl (rfl : _ = (AV.int .i64 0)) ?_
 refine AOps.nilR ?_
 refine AW.meet (σ := Unit) (fun _ tm os => ⟨updL tm [], updL os [], { s with lo := s.n }⟩) (fun _ => laws_eqInt64S_J1 = some r) ?_ ?_
 ·rintro _ tm os h
  unfold laws_eqInt64S_J1 at h
  refine AW.sr ?_
  refine AOps.p rfl (rfl : _ = (AV.bool true)) ?_
  refine AOps.nilR ?_
  cases h
  exact AW.ret ⟨rfl, _, _, rfl, rfl⟩
 intro KJ12
 refine AW.block ?_
 refine AW.res [(0, (AV.sl z2 f3 e4)), (1, (AV.sl z7 f8 e9)), (5, (AV.int .i64 0))] [] ⟨rfl, rfl, rfl, trivial⟩ trivial ?_
 refine AW.loopF (σ := Int) (τ := Unit) (fun i13 _ => True) (fun i13 _ tm os => ⟨updL tm [(0, (AV.sl z2 f3 e4)), (1, (AV.sl z7 f8 e9)), (5, (AV.int .i64 i13))], updL os [], { s with lo := s.n }⟩) ?_ (x := (0)) (y := ()) h trivial
 clear h
 rintro i13 _ tm os - e1 h hL1 hR1
 unfold laws_eqInt64S_S1 at h
 refine AW.seq ?_
 refine AW.sr ?_
 refine AOps.p rfl (rfl : _ = (AV.int .i64 i13)) ?_
 refine AOps.p rfl (rfl : _ = (AV.sl z2 f3 e4)) ?_
 refine AOps.p rfl (len_eq h5) ?_
 refine AOps.p rfl (rfl : _ = (AV.bool (decide ((i13 : Int) < (a1.length : Int))))) ?_
 refine AOps.nilR ?_
 rcases oite h with ⟨hc14, h⟩ | ⟨hc14, h⟩
 ·refine AW.condT (congrArg AV.bool hc14) ?_
  refine AW.skip ?_
  refine AW.seq ?_
  refine AW.block ?_
  refine AW.sr ?_
  refine AOps.p rfl (rfl : _ = (AV.sl z2 f3 e4)) ?_
  refine AOps.p rfl (rfl : _ = (AV.int .i64 i13)) ?_
  obtain ⟨x15, h16, h⟩ := obind h
  obtain ⟨v19, h17, h18⟩ := idx_sl h5 h16
  cases h17
  refine AOps.pureR rfl rfl rfl h18 rfl (rfl : _ = (AV.eptr [(AV.int .i64 x15)] 0)) ?_
  refine AOps.ldE (v := (AV.int .i64 x15)) rfl rfl rfl rfl rfl rfl ?_
  refine AOps.p rfl (rfl : _ = (AV.sl z7 f8 e9)) ?_
  refine AOps.p rfl (rfl : _ = (AV.int .i64 i13)) ?_
  obtain ⟨x20, h21, h⟩ := obind h
  obtain ⟨v24, h22, h23⟩ := idx_sl h10 h21
  cases h22
  refine AOps.pureR rfl rfl rfl h23 rfl (rfl : _ = (AV.eptr [(AV.int .i64 x20)] 0)) ?_
  refine AOps.ldE (v := (AV.int .i64 x20)) rfl rfl rfl rfl rfl rfl ?_
  refine AOps.p rfl (rfl : _ = (AV.bool (x15 != x20))) ?_
  refine AOps.nilR ?_
  rcases oite h with ⟨hc25, h⟩ | ⟨hc25, h⟩
  ·refine AW.condT (congrArg AV.bool hc25) ?_
   refine AW.sr ?_
   refine AOps.p rfl (rfl : _ = (AV.bool false)) ?_
   refine AOps.nilR ?_
   cases h
   have hr := hR1 _ rfl
   subst hr
   exact AW.ret ⟨rfl, _, _, rfl, rfl⟩
  refine AW.condF (congrArg AV.bool hc25) ?_
  refine AW.skip ?_
  refine AW.inBlock ?_
  refine AW.region ?_
  refine AOps.p rfl (rfl : _ = (AV.int .i64 i13)) ?_
  refine AOps.p rfl (rfl : _ = (AV.int .i64 (IntKind.wrap .i64 (i13 + 1)))) ?_
  refine AOps.assignR rfl rfl rfl (rfl : _ = (AV.int .i64 (IntKind.wrap .i64 (i13 + 1)))) rfl ?_
  refine AOps.nilR ?_
  cases h
  exact AW.res [(0, (AV.sl z2 f3 e4)), (1, (AV.sl z7 f8 e9)), (5, (AV.int .i64 (IntKind.wrap .i64 (i13 + 1))))] [] ⟨rfl, rfl, rfl, trivial⟩ trivial (hL1 _ rfl () _ _ trivial)
 refine AW.condF (congrArg AV.bool hc14) ?_
 refine AW.exit rfl ?_
 obtain ⟨r26, hm, hx⟩ := omap h
 clear h
 subst hx
 have hx := hR1 _ rfl
 rw [hx] at hm
 have h := hm
 exact AW.res [] [] trivial trivial (KJ12 () _ _ h)
theorem laws_eqInt64SS_okN {a1 : List (List Int)} {b6 : List (List Int)} {z2 : Nat} {f3 : Bool} {e4 : List AV} {z7 : Nat} {f8 : Bool} {e9 : List AV} {s : St} (h5 : LR (rL (rI .i64) 1) 1 a1 z2 e4) (h10 : LR (rL (rI .i64) 1) 1 b6 z7 e9) {r : Bool} (h : laws_eqInt64SS a1 b6 = some r) (hs : WF s) : ACallN Cf 39 [(AV.sl z2 f3 e4), (AV.sl z7 f8 e9)] s fun v _ s' => (rB) r v ∧ s' = s := by
 refine ACallN.pure rfl rfl rfl .B ?_
 have hWF := hs.lo'
 unfold laws_eqInt64SS at h
 refine AW.sr ?_
 refine AOps.p rfl (rfl : _ = (AV.bool false)) ?_
 refine AOps.nilR ?_
 refine AW.seq ?_
 refine AW.sr ?_
 refine AOps.p rfl (rfl : _ = (AV.sl z2 f3 e4)) ?_
 refine AOps.p rfl (len_eq h5) ?_
 refine AOps.p rfl (rfl : _ = (AV.sl z7 f8 e9)) ?_
 refine AOps.p rfl (len_eq h10) ?_
 refine AOps.p rfl (rfl : _ = (AV.bool ((a1.length : Int) != (b6.length : Int)))) ?_
 refine AOps.nilR ?_
 rcases oite h with ⟨hc11, h⟩ | ⟨hc11, h⟩
 ·refine AW.condT (congrArg AV.bool hc11) ?_
  refine AW.sr ?_
  refine AOps.p rfl (rfl : _ = (AV.bool false)) ?_
  refine AOps.nilR ?_
  cases h
  exact AW.ret ⟨rfl, _, _, rfl, rfl⟩
 refine AW.condF (congrArg AV.bool hc11) ?_
 refine AW.skip ?_
 refine AW.seq ?_
 refine AW.sr ?_
 refine AOps.p rfl (rfl : _ = (AV.int .i64 0)) ?_
 refine AOps.nilR ?_
 refine AW.meet (σ := Unit) (fun _ tm os => ⟨updL tm [], updL os [], { s with lo := s.n }⟩) (fun _ => laws_eqInt64SS_J1 = some r) ?_ ?_
 ·rintro _ tm os h
  unfold laws_eqInt64SS_J1 at h
  refine AW.sr ?_
  refine AOps.p rfl (rfl : _ = (AV.bool true)) ?_
  refine AOps.nilR ?_
  cases h
  exact AW.ret ⟨rfl, _, _, rfl, rfl⟩
 intro KJ12
 refine AW.block ?_
 refine AW.res [(0, (AV.sl z2 f3 e4)), (1, (AV.sl z7 f8 e9)), (5, (AV.int .i64 0))] [] ⟨rfl, rfl, rfl, trivial⟩ trivial ?_
 refine AW.loopF (σ := Int) (τ := Unit) (fun i13 _ => True) (fun i13 _ tm os => ⟨updL tm [(0, (AV.sl z2 f3 e4)), (1, (AV.sl z7 f8 e9)), (5, (AV.int .i64 i13))], updL os [], { s with lo := s.n }⟩) ?_ (x := (0)) (y := ()) h trivial
 clear h
 rintro i13 _ tm os - e1 h hL1 hR1
 unfold laws_eqInt64SS_S1 at h
 refine AW.seq ?_
 refine AW.sr ?_
 refine AOps.p rfl (rfl : _ = (AV.int .i64 i13)) ?_
 refine AOps.p rfl (rfl : _ = (AV.sl z2 f3 e4)) ?_
 refine AOps.p rfl (len_eq h5) ?_
 refine AOps.p rfl (rfl : _ = (AV.bool (decide ((i13 : Int) < (a1.length : Int))))) ?_
 refine AOps.nilR ?_
 rcases oite h with ⟨hc14, h⟩ | ⟨hc14, h⟩
 ·refine AW.condT (congrArg AV.bool hc14) ?_
  refine AW.skip ?_
  refine AW.seq ?_
  refine AW.block ?_
  refine AW.sr ?_
  refine AOps.p rfl (rfl : _ = (AV.sl z2 f3 e4)) ?_
  refine AOps.p rfl (rfl : _ = (AV.int .i64 i13)) ?_
  obtain ⟨x15, h16, h⟩ := obind h
  obtain ⟨v19, h17, h18⟩ := idx_sl h5 h16
  obtain ⟨z20, f21, e22, rfl, h23⟩ := h17
  refine AOps.pureR rfl rfl rfl h18 rfl (rfl : _ = (AV.eptr [(AV.sl z20 f21 e22)] 0)) ?_
  refine AOps.ldE (v := (AV.sl z20 f21 e22)) rfl rfl rfl rfl rfl rfl ?_
  refine AOps.p rfl (rfl : _ = (AV.sl z7 f8 e9)) ?_
  refine AOps.p rfl (rfl : _ = (AV.int .i64 i13)) ?_
  obtain ⟨x24, h25, h⟩ := obind h
  obtain ⟨v28, h26, h27⟩ := idx_sl h10 h25
  obtain ⟨z29, f30, e31, rfl, h32⟩ := h26
  refine AOps.pureR rfl rfl rfl h27 rfl (rfl : _ = (AV.eptr [(AV.sl z29 f30 e31)] 0)) ?_
  refine AOps.ldE (v := (AV.sl z29 f30 e31)) rfl rfl rfl rfl rfl rfl ?_
  obtain ⟨y33, h34, h⟩ := obind h
  refine AOps.lendD (g := 71) (args := [(AV.sl z20 f21 e22), (AV.sl z29 f30 e31)]) (ps := [(rL (rI .i64) 1) x15, (rL (rI .i64) 1) x24]) (p := (rB) y33) rfl rfl rfl rfl rfl rfl rfl (.cons (Fin.of (p := (rL (rI .i64) 1) x15) (.L fun _ => .I) (⟨_, _, _, rfl, h23⟩)) (.cons (Fin.of (p := (rL (rI .i64) 1) x24) (.L fun _ => .I) (⟨_, _, _, rfl, h32⟩)) .nil)) (fun args' hc => by obtain ⟨_, _, rfl, hv0, hd0⟩ := Cs_cons hc; obtain ⟨z35, f36, e37, rfl, h38⟩ := hv0; obtain ⟨_, _, rfl, hv1, hd1⟩ := Cs_cons hd0; obtain ⟨z39, f40, e41, rfl, h42⟩ := hv1; cases Cs_nil hd1; exact laws_eqInt64S_okN h38 h42 h34 WF.blind) (fun v n hv => by cases hv; rfl) (fun v hv => Nice.pure (k := FINK) (p := (rB) y33) .B _ v hv) ?_
  intro _ h43
  cases h43
  refine AOps.p rfl (rfl : _ = (AV.bool (!y33))) ?_
  refine AOps.nilR ?_
  rcases oite h with ⟨hc44, h⟩ | ⟨hc44, h⟩
  ·refine AW.condT (congrArg AV.bool hc44) ?_
   refine AW.sr ?_
   refine AOps.p rfl (rfl : _ = (AV.bool false)) ?_
   refine AOps.nilR ?_
   cases h
   have hr := hR1 _ rfl
   subst hr
   exact AW.ret ⟨rfl, _, _, rfl, rfl⟩
  refine AW.condF (congrArg AV.bool hc44) ?_
  refine AW.skip ?_
  refine AW.inBlock ?_
  refine AW.region ?_
  refine AOps.p rfl (rfl : _ = (AV.int .i64 i13)) ?_
  refine AOps.p rfl (rfl : _ = (AV.int .i64 (IntKind.wrap .i64 (i13 + 1)))) ?_
  refine AOps.assignR rfl rfl rfl (rfl : _ = (AV.int .i64 (IntKind.wrap .i64 (i13 + 1)))) rfl ?_
  refine AOps.nilR ?_
  cases h
  exact AW.res [(0, (AV.sl z2 f3 e4)), (1, (AV.sl z7 f8 e9)), (5, (AV.int .i64 (IntKind.wrap .i64 (i13 + 1))))] [] ⟨rfl, rfl, rfl, trivial⟩ trivial (hL1 _ rfl () _ _ trivial)
 refine AW.condF (congrArg AV.bool hc14) ?_
 refine AW.exit rfl ?_
 obtain ⟨r45, hm, hx⟩ := omap h
 clear h
 subst hx
 have hx := hR1 _ rfl
 rw [hx] at hm
 have h := hm
 exact AW.res [] [] trivial trivial (KJ12 () _ _ h)
theorem laws_eqInt64SSS_okN {a1 : List (List (List Int))} {b6 : List (List (List Int))} {z2 : Nat} {f3 : Bool} {e4 : List AV} {z7 : Nat} {f8 : Bool} {e9 : List AV} {s : St} (h5 : LR (rL (rL (rI .i64) 1) 1) 1 a1 z2 e4) (h10 : LR (rL (rL (rI .i64) 1) 1) 1 b6 z7 e9) {r : Bool} (h : laws_eqInt64SSS a1 b6 = some r) (hs : WF s) : ACallN Cf 38 [(AV.sl z2 f3 e4), (AV.sl z7 f8 e9)] s fun v _ s' => (rB) r v ∧ s' = s := by
 refine ACallN.pure rfl rfl rfl .B ?_
 have hWF := hs.lo'
 unfold laws_eqInt64SSS at h
 refine AW.sr ?_
 refine AOps.p rfl (rfl : _ = (AV.bool false)) ?_
 refine AOps.nilR ?_
 refine AW.seq ?_
 refine AW.sr ?_
 refine AOps.p rfl (rfl : _ = (AV.sl z2 f3 e4)) ?_
 refine AOps.p rfl (len_eq h5) ?_
 refine AOps.p rfl (rfl : _ = (AV.sl z7 f8 e9)) ?_
 refine AOps.p rfl (len_eq h10) ?_
 refine AOps.p rfl (rfl : _ = (AV.bool ((a1.length : Int) != (b6.length : Int)))) ?_
 refine AOps.nilR ?_
 rcases oite h with ⟨hc11, h⟩ | ⟨hc11, h⟩
 ·refine AW.condT (congrArg AV.bool hc11) ?_
  refine AW.sr ?_
  refine AOps.p rfl (rfl : _ = (AV.bool false)) ?_
  refine AOps.nilR ?_
  cases h
  exact AW.ret ⟨rfl, _, _, rfl, rfl⟩
 refine AW.condF (congrArg AV.bool hc11) ?_
 refine AW.skip ?_
 refine AW.seq ?_
 refine AW.sr ?_
 refine AOps.p rfl (rfl : _ = (AV.int .i64 0)) ?_
 refine AOps.nilR ?_
 refine AW.meet (σ := Unit) (fun _ tm os => ⟨updL tm [], updL os [], { s with lo := s.n }⟩) (fun _ => laws_eqInt64SSS_J1 = some r) ?_ ?_
 ·rintro _ tm os h
  unfold laws_eqInt64SSS_J1 at h
  refine AW.sr ?_
  refine AOps.p rfl (rfl : _ = (AV.bool true)) ?_
  refine AOps.nilR ?_
  cases h
  exact AW.ret ⟨rfl, _, _, rfl, rfl⟩
 intro KJ12
 refine AW.block ?_
 refine AW.res [(0, (AV.sl z2 f3 e4)), (1, (AV.sl z7 f8 e9)), (5, (AV.int .i64 0))] [] ⟨rfl, rfl, rfl, trivial⟩ trivial ?_
 refine AW.loopF (σ := Int) (τ := Unit) (fun i13 _ => True) (fun i13 _ tm os => ⟨updL tm [(0, (AV.sl z2 f3 e4)), (1, (AV.sl z7 f8 e9)), (5, (AV.int .i64 i13))], updL os [], { s with lo := s.n }⟩) ?_ (x := (0)) (y := ()) h trivial
 clear h
 rintro i13 _ tm os - e1 h hL1 hR1
 unfold laws_eqInt64SSS_S1 at h
 refine AW.seq ?_
 refine AW.sr ?_
 refine AOps.p rfl (rfl : _ = (AV.int .i64 i13)) ?_
 refine AOps.p rfl (rfl : _ = (AV.sl z2 f3 e4)) ?_
 refine AOps.p rfl (len_eq h5) ?_
 refine AOps.p rfl (rfl : _ = (AV.bool (decide ((i13 : Int) < (a1.length : Int))))) ?_
 refine AOps.nilR ?_
 rcases oite h with ⟨hc14, h⟩ | ⟨hc14, h⟩
 ·refine AW.condT (congrArg AV.bool hc14) ?_
  refine AW.skip ?_
  refine AW.seq ?_
  refine AW.block ?_
  refine AW.sr ?_
  refine AOps.p rfl (rfl : _ = (AV.sl z2 f3 e4)) ?_
  refine AOps.p rfl (rfl : _ = (AV.int .i64 i13)) ?_
  obtain ⟨x15, h16, h⟩ := obind h
  obtain ⟨v19, h17, h18⟩ := idx_sl h5 h16
  obtain ⟨z20, f21, e22, rfl, h23⟩ := h17
  refine AOps.pureR rfl rfl rfl h18 rfl (rfl : _ = (AV.eptr [(AV.sl z20 f21 e22)] 0)) ?_
  refine AOps.ldE (v := (AV.sl z20 f21 e22)) rfl rfl rfl rfl rfl rfl ?_
  refine AOps.p rfl (rfl : _ = (AV.sl z7 f8 e9)) ?_
  refine AOps.p rfl (rfl : _ = (AV.int .i64 i13)) ?_
  obtain ⟨x24, h25, h⟩ := obind h
  obtain ⟨v28, h26, h27⟩ := idx_sl h10 h25
  obtain ⟨z29, f30, e31, rfl, h32⟩ := h26
  refine AOps.pureR rfl rfl rfl h27 rfl (rfl : _ = (AV.eptr [(AV.sl z29 f30 e31)] 0)) ?_
  refine AOps.ldE (v := (AV.sl z29 f30 e31)) rfl rfl rfl rfl rfl rfl ?_
  obtain ⟨y33, h34, h⟩ := obind h
  refine AOps.lendD (g := 39) (args := [(AV.sl z20 f21 e22), (AV.sl z29 f30 e31)]) (ps := [(rL (rL (rI .i64) 1) 1) x15, (rL (rL (rI .i64) 1) 1) x24]) (p := (rB) y33) rfl rfl rfl rfl rfl rfl rfl (.cons (Fin.of (p := (rL (rL (rI .i64) 1) 1) x15) (.L fun _ => (.L fun _ => .I)) (⟨_, _, _, rfl, h23⟩)) (.cons (Fin.of (p := (rL (rL (rI .i64) 1) 1) x24) (.L fun _ => (.L fun _ => .I)) (⟨_, _, _, rfl, h32⟩)) .nil)) (fun args' hc => by obtain ⟨_, _, rfl, hv0, hd0⟩ := Cs_cons hc; obtain ⟨z35, f36, e37, rfl, h38⟩ := hv0; obtain ⟨_, _, rfl, hv1, hd1⟩ := Cs_cons hd0; obtain ⟨z39, f40, e41, rfl, h42⟩ := hv1; cases Cs_nil hd1; exact laws_eqInt64SS_okN h38 h42 h34 WF.blind) (fun v n hv => by cases hv; rfl) (fun v hv => Nice.pure (k := FINK) (p := (rB) y33) .B _ v hv) ?_
  intro _ h43
  cases h43
  refine AOps.p rfl (rfl : _ = (AV.bool (!y33))) ?_
  refine AOps.nilR ?_
  rcases oite h with ⟨hc44, h⟩ | ⟨hc44, h⟩
  ·refine AW.condT (congrArg AV.bool hc44) ?_
   refine AW.sr ?_
   refine AOps.p rfl (rfl : _ = (AV.bool false)) ?_
   refine AOps.nilR ?_
   cases h
   have hr := hR1 _ rfl
   subst hr
   exact AW.ret ⟨rfl, _, _, rfl, rfl⟩
  refine AW.condF (congrArg AV.bool hc44) ?_
  refine AW.skip ?_
  refine AW.inBlock ?_
  refine AW.region ?_
  refine AOps.p rfl (rfl : _ = (AV.int .i64 i13)) ?_
  refine AOps.p rfl (rfl : _ = (AV.int .i64 (IntKind.wrap .i64 (i13 + 1)))) ?_
  refine AOps.assignR rfl rfl rfl (rfl : _ = (AV.int .i64 (IntKind.wrap .i64 (i13 + 1)))) rfl ?_
  refine AOps.nilR ?_
  cases h
  exact AW.res [(0, (AV.sl z2 f3 e4)), (1, (AV.sl z7 f8 e9)), (5, (AV.int .i64 (IntKind.wrap .i64 (i13 + 1))))] [] ⟨rfl, rfl, rfl, trivial⟩ trivial (hL1 _ rfl () _ _ trivial)
 refine AW.condF (congrArg AV.bool hc14) ?_
 refine AW.exit rfl ?_
 obtain ⟨r45, hm, hx⟩ := omap h
 clear h
 subst hx
 have hx := hR1 _ rfl
 rw [hx] at hm
 have h := hm
 exact AW.res [] [] trivial trivial (KJ12 () _ _ h)
theorem laws_eqChecker_okN {a1 : Checker} {b18 : Checker} {z2 : Nat} {f3 : Bool} {e4 : List AV} {z6 : Nat} {f7 : Bool} {e8 : List AV} {z10 : Nat} {f11 : Bool} {e12 : List AV} {z14 : Nat} {f15 : Bool} {e16 : List AV} {z19 : Nat} {f20 : Bool} {e21 : List AV} {z23 : Nat} {f24 : Bool} {e25 : List AV} {z27 : Nat} {f28 : Bool} {e29 : List AV} {z31 : Nat} {f32 : Bool} {e33 : List AV} {s : St} (h5 : LR rB 1 a1.Accept z2 e4) (h9 : LR (rL rPush 2) 1 a1.Call z6 e8) (h13 : LR (rL (rL (rI .i64) 1) 1) 1 a1.Return z10 e12) (h17 : LR (rL (rI .i64) 1) 1 a1.Inner z14 e16) (h22 : LR rB 1 b18.Accept z19 e21) (h26 : LR (rL rPush 2) 1 b18.Call z23 e25) (h30 : LR (rL (rL (rI .i64) 1) 1) 1 b18.Return z27 e29) (h34 : LR (rL (rI .i64) 1) 1 b18.Inner z31 e33) {r : Bool} (h : laws_eqChecker a1 b18 = some r) (hs : WF s) : ACallN Cf 11 [(AV.agg [(AV.int .i64 a1.Stack), (AV.int .i64 a1.Start), (AV.sl z2 f3 e4), (AV.sl z6 f7 e8), (AV.sl z10 f11 e12), (AV.sl z14 f15 e16)]), (AV.agg [(AV.int .i64 b18.Stack), (AV.int .i64 b18.Start), (AV.sl z19 f20 e21), (AV.sl z23 f24 e25), (AV.sl z27 f28 e29), (AV.sl z31 f32 e33)])] s fun v _ s' => (rB) r v ∧ s' = s := by
 refine ACallN.pure rfl rfl rfl .B ?_
 have hWF := hs.lo'
 unfold laws_eqChecker at h
 refine AW.sr ?_
 refine AOps.makeR rfl rfl rfl rfl rfl rfl (rfl : _ = (AV.eptr [(AV.int .i64 a1.Stack), (AV.int .i64 a1.Start), (AV.sl z2 f3 e4), (AV.sl z6 f7 e8), (AV.sl z10 f11 e12), (AV.sl z14 f15 e16)] 0)) ?_
 refine AOps.makeR rfl rfl rfl rfl rfl rfl (rfl : _ = (AV.eptr [(AV.int .i64 b18.Stack), (AV.int .i64 b18.Start), (AV.sl z19 f20 e21), (AV.sl z23 f24 e25), (AV.sl z27 f28 e29), (AV.sl z31 f32 e33)] 0)) ?_
 refine AOps.p rfl (rfl : _ = (AV.bool false)) ?_
 refine AOps.nilR ?_
 refine AW.seq ?_
 refine AW.sr ?_
 refine AOps.p rfl (rfl : _ = (AV.eptr [(AV.int .i64 a1.Stack), (AV.int .i64 a1.Start), (AV.sl z2 f3 e4), (AV.sl z6 f7 e8), (AV.sl z10 f11 e12), (AV.sl z14 f15 e16)] 0)) ?_
 refine AOps.ldE (v := (AV.int .i64 a1.Stack)) rfl rfl rfl rfl rfl rfl ?_
 refine AOps.p rfl (rfl : _ = (AV.eptr [(AV.int .i64 b18.Stack), (AV.int .i64 b18.Start), (AV.sl z19 f20 e21), (AV.sl z23 f24 e25), (AV.sl z27 f28 e29), (AV.sl z31 f32 e33)] 0)) ?_
 refine AOps.ldE (v := (AV.int .i64 b18.Stack)) rfl rfl rfl rfl rfl rfl ?_
 refine AOps.p rfl (rfl : _ = (AV.bool (a1.Stack != b18.Stack))) ?_
 refine AOps.nilR ?_
 rcases oite h with ⟨hc35, h⟩ | ⟨hc35, h⟩
 ·refine AW.condT (congrArg AV.bool hc35) ?_
  refine AW.sr ?_
  refine AOps.p rfl (rfl : _ = (AV.bool false)) ?_
  refine AOps.nilR ?_
  cases h
  exact AW.ret ⟨rfl, _, _, rfl, rfl⟩
 refine AW.condF (congrArg AV.bool hc35) ?_
 refine AW.skip ?_
 refine AW.seq ?_
 refine AW.sr ?_
 refine AOps.p rfl (rfl : _ = (AV.eptr [(AV.int .i64 a1.Stack), (AV.int .i64 a1.Start), (AV.sl z2 f3 e4), (AV.sl z6 f7 e8), (AV.sl z10 f11 e12), (AV.sl z14 f15 e16)] 1)) ?_
 refine AOps.ldE (v := (AV.int .i64 a1.Start)) rfl rfl rfl rfl rfl rfl ?_
 refine AOps.p rfl (rfl : _ = (AV.eptr [(AV.int .i64 b18.Stack), (AV.int .i64 b18.Start), (AV.sl z19 f20 e21), (AV.sl z23 f24 e25), (AV.sl z27 f28 e29), (AV.sl z31 f32 e33)] 1)) ?_
 refine AOps.ldE (v := (AV.int .i64 b18.Start)) rfl rfl rfl rfl rfl rfl ?_
 refine AOps.p rfl (rfl : _ = (AV.bool (a1.Start != b18.Start))) ?_
 refine AOps.nilR ?_
 rcases oite h with ⟨hc36, h⟩ | ⟨hc36, h⟩
 ·refine AW.condT (congrArg AV.bool hc36) ?_
  refine AW.sr ?_
  refine AOps.p rfl (rfl : _ = (AV.bool false)) ?_
  refine AOps.nilR ?_
  cases h
  exact AW.ret ⟨rfl, _, _, rfl, rfl⟩
 refine AW.condF (congrArg AV.bool hc36) ?_
 refine AW.skip ?_
 refine AW.seq ?_
 refine AW.sr ?_
 refine AOps.p rfl (rfl : _ = (AV.eptr [(AV.int .i64 a1.Stack), (AV.int .i64 a1.Start), (AV.sl z2 f3 e4), (AV.sl z6 f7 e8), (AV.sl z10 f11 e12), (AV.sl z14 f15 e16)] 2)) ?_
 refine AOps.ldE (v := (AV.sl z2 f3 e4)) rfl rfl rfl rfl rfl rfl ?_
 refine AOps.p rfl (rfl : _ = (AV.eptr [(AV.int .i64 b18.Stack), (AV.int .i64 b18.Start), (AV.sl z19 f20 e21), (AV.sl z23 f24 e25), (AV.sl z27 f28 e29), (AV.sl z31 f32 e33)] 2)) ?_
 refine AOps.ldE (v := (AV.sl z19 f20 e21)) rfl rfl rfl rfl rfl rfl ?_
 obtain ⟨y37, h38, h⟩ := obind h
 refine AOps.lendP (g := 10) (args := [(AV.sl z2 f3 e4), (AV.sl z19 f20 e21)]) (ps := [(rL rB 1) a1.Accept, (rL rB 1) b18.Accept]) (p := (rB) y37) rfl rfl rfl rfl rfl rfl rfl (.cons (Fin.of (p := (rL rB 1) a1.Accept) (.L fun _ => .B) (⟨_, _, _, rfl, h5⟩)) (.cons (Fin.of (p := (rL rB 1) b18.Accept) (.L fun _ => .B) (⟨_, _, _, rfl, h22⟩)) .nil)) (fun args' hc => by obtain ⟨_, _, rfl, hv0, hd0⟩ := Cs_cons hc; obtain ⟨z39, f40, e41, rfl, h42⟩ := hv0; obtain ⟨_, _, rfl, hv1, hd1⟩ := Cs_cons hd0; obtain ⟨z43, f44, e45, rfl, h46⟩ := hv1; cases Cs_nil hd1; exact laws_eqBoolS_okN h42 h46 h38 WF.blind) (fun v n hv => by cases hv; rfl) ?_
 intro _ h47
 cases h47
 refine AOps.p rfl (rfl : _ = (AV.bool (!y37))) ?_
 refine AOps.nilR ?_
 rcases oite h with ⟨hc48, h⟩ | ⟨hc48, h⟩
 ·refine AW.condT (congrArg AV.bool hc48) ?_
  refine AW.sr ?_
  refine AOps.p rfl (rfl : _ = (AV.bool false)) ?_
  refine AOps.nilR ?_
  cases h
  exact AW.ret ⟨rfl, _, _, rfl, rfl⟩
 refine AW.condF (congrArg AV.bool hc48) ?_
 refine AW.skip ?_
 refine AW.seq ?_
 refine AW.sr ?_
 refine AOps.p rfl (rfl : _ = (AV.eptr [(AV.int .i64 a1.Stack), (AV.int .i64 a1.Start), (AV.sl z2 f3 e4), (AV.sl z6 f7 e8), (AV.sl z10 f11 e12), (AV.sl z14 f15 e16)] 3)) ?_
 refine AOps.ldE (v := (AV.sl z6 f7 e8)) rfl rfl rfl rfl rfl rfl ?_
 refine AOps.p rfl (rfl : _ = (AV.eptr [(AV.int .i64 b18.Stack), (AV.int .i64 b18.Start), (AV.sl z19 f20 e21), (AV.sl z23 f24 e25), (AV.sl z27 f28 e29), (AV.sl z31 f32 e33)] 3)) ?_
 refine AOps.ldE (v := (AV.sl z23 f24 e25)) rfl rfl rfl rfl rfl rfl ?_
 obtain ⟨y49, h50, h⟩ := obind h
 refine AOps.lendP (g := 37) (args := [(AV.sl z6 f7 e8), (AV.sl z23 f24 e25)]) (ps := [(rL (rL rPush 2) 1) a1.Call, (rL (rL rPush 2) 1) b18.Call]) (p := (rB) y49) rfl rfl rfl rfl rfl rfl rfl (.cons (Fin.of (p := (rL (rL rPush 2) 1) a1.Call) (.L fun _ => (.L fun _ => (.A (.cons .I (.cons .I .nil))))) (⟨_, _, _, rfl, h9⟩)) (.cons (Fin.of (p := (rL (rL rPush 2) 1) b18.Call) (.L fun _ => (.L fun _ => (.A (.cons .I (.cons .I .nil))))) (⟨_, _, _, rfl, h26⟩)) .nil)) (fun args' hc => by obtain ⟨_, _, rfl, hv0, hd0⟩ := Cs_cons hc; obtain ⟨z51, f52, e53, rfl, h54⟩ := hv0; obtain ⟨_, _, rfl, hv1, hd1⟩ := Cs_cons hd0; obtain ⟨z55, f56, e57, rfl, h58⟩ := hv1; cases Cs_nil hd1; exact laws_eqPushSS_okN h54 h58 h50 WF.blind) (fun v n hv => by cases hv; rfl) ?_
 intro _ h59
 cases h59
 refine AOps.p rfl (rfl : _ = (AV.bool (!y49))) ?_
 refine AOps.nilR ?_
 rcases oite h with ⟨hc60, h⟩ | ⟨hc60, h⟩
 ·refine AW.condT (congrArg AV.bool hc60) ?_
  refine AW.sr ?_
  refine AOps.p rfl (rfl : _ = (AV.bool false)) ?_
  refine AOps.nilR ?_
  cases h
  exact AW.ret ⟨rfl, _, _, rfl, rfl⟩
 refine AW.condF (congrArg AV.bool hc60) ?_
 refine AW.skip ?_
 refine AW.seq ?_
 refine AW.sr ?_
 refine AOps.p rfl (rfl : _ = (AV.eptr [(AV.int .i64 a1.Stack), (AV.int .i64 a1.Start), (AV.sl z2 f3 e4), (AV.sl z6 f7 e8), (AV.sl z10 f11 e12), (AV.sl z14 f15 e16)] 4)) ?_
 refine AOps.ldE (v := (AV.sl z10 f11 e12)) rfl rfl rfl rfl rfl rfl ?_
 refine AOps.p rfl (rfl : _ = (AV.eptr [(AV.int .i64 b18.Stack), (AV.int .i64 b18.Start), (AV.sl z19 f20 e21), (AV.sl z23 f24 e25), (AV.sl z27 f28 e29), (AV.sl z31 f32 e33)] 4)) ?_
 refine AOps.ldE (v := (AV.sl z27 f28 e29)) rfl rfl rfl rfl rfl rfl ?_
 obtain ⟨y61, h62, h⟩ := obind h
 refine AOps.lendP (g := 38) (args := [(AV.sl z10 f11 e12), (AV.sl z27 f28 e29)]) (ps := [(rL (rL (rL (rI .i64) 1) 1) 1) a1.Return, (rL (rL (rL (rI .i64) 1) 1) 1) b18.Return]) (p := (rB) y61) rfl rfl rfl rfl rfl rfl rfl (.cons (Fin.of (p := (rL (rL (rL (rI .i64) 1) 1) 1) a1.Return) (.L fun _ => (.L fun _ => (.L fun _ => .I))) (⟨_, _, _, rfl, h13⟩)) (.cons (Fin.of (p := (rL (rL (rL (rI .i64) 1) 1) 1) b18.Return) (.L fun _ => (.L fun _ => (.L fun _ => .I))) (⟨_, _, _, rfl, h30⟩)) .nil)) (fun args' hc => by obtain ⟨_, _, rfl, hv0, hd0⟩ := Cs_cons hc; obtain ⟨z63, f64, e65, rfl, h66⟩ := hv0; obtain ⟨_, _, rfl, hv1, hd1⟩ := Cs_cons hd0; obtain ⟨z67, f68, e69, rfl, h70⟩ := hv1; cases Cs_nil hd1; exact laws_eqInt64SSS_okN h66 h70 h62 WF.blind) (fun v n hv => by cases hv; rfl) ?_
 intro _ h71
 cases h71
 refine AOps.p rfl (rfl : _ = (AV.bool (!y61))) ?_
 refine AOps.nilR ?_
 rcases oite h with ⟨hc72, h⟩ | ⟨hc72, h⟩
 ·refine AW.condT (congrArg AV.bool hc72) ?_
  refine AW.sr ?_
  refine AOps.p rfl (rfl : _ = (AV.bool false)) ?_
  refine AOps.nilR ?_
  cases h
  exact AW.ret ⟨rfl, _, _, rfl, rfl⟩
 refine AW.condF (congrArg AV.bool hc72) ?_
 refine AW.skip ?_
 refine AW.seq ?_
 refine AW.sr ?_
 refine AOps.p rfl (rfl : _ = (AV.eptr [(AV.int .i64 a1.Stack), (AV.int .i64 a1.Start), (AV.sl z2 f3 e4), (AV.sl z6 f7 e8), (AV.sl z10 f11 e12), (AV.sl z14 f15 e16)] 5)) ?_
 refine AOps.ldE (v := (AV.sl z14 f15 e16)) rfl rfl rfl rfl rfl rfl ?_
 refine AOps.p rfl (rfl : _ = (AV.eptr [(AV.int .i64 b18.Stack), (AV.int .i64 b18.Start), (AV.sl z19 f20 e21), (AV.sl z23 f24 e25), (AV.sl z27 f28 e29), (AV.sl z31 f32 e33)] 5)) ?_
 refine AOps.ldE (v := (AV.sl z31 f32 e33)) rfl rfl rfl rfl rfl rfl ?_
 obtain ⟨y73, h74, h⟩ := obind h
 refine AOps.lendP (g := 39) (args := [(AV.sl z14 f15 e16), (AV.sl z31 f32 e33)]) (ps := [(rL (rL (rI .i64) 1) 1) a1.Inner, (rL (rL (rI .i64) 1) 1) b18.Inner]) (p := (rB) y73) rfl rfl rfl rfl rfl rfl rfl (.cons (Fin.of (p := (rL (rL (rI .i64) 1) 1) a1.Inner) (.L fun _ => (.L fun _ => .I)) (⟨_, _, _, rfl, h17⟩)) (.cons (Fin.of (p := (rL (rL (rI .i64) 1) 1) b18.Inner) (.L fun _ => (.L fun _ => .I)) (⟨_, _, _, rfl, h34⟩)) .nil)) (fun args' hc => by obtain ⟨_, _, rfl, hv0, hd0⟩ := Cs_cons hc; obtain ⟨z75, f76, e77, rfl, h78⟩ := hv0; obtain ⟨_, _, rfl, hv1, hd1⟩ := Cs_cons hd0; obtain ⟨z79, f80, e81, rfl, h82⟩ := hv1; cases Cs_nil hd1; exact laws_eqInt64SS_okN h78 h82 h74 WF.blind) (fun v n hv => by cases hv; rfl) ?_
 intro _ h83
 cases h83
 refine AOps.p rfl (rfl : _ = (AV.bool (!y73))) ?_
 refine AOps.nilR ?_
 rcases oite h with ⟨hc84, h⟩ | ⟨hc84, h⟩
 ·refine AW.condT (congrArg AV.bool hc84) ?_
  refine AW.sr ?_
  refine AOps.p rfl (rfl : _ = (AV.bool false)) ?_
  refine AOps.nilR ?_
  cases h
  exact AW.ret ⟨rfl, _, _, rfl, rfl⟩
 refine AW.condF (congrArg AV.bool hc84) ?_
 refine AW.skip ?_
 refine AW.sr ?_
 refine AOps.p rfl (rfl : _ = (AV.bool true)) ?_
 refine AOps.nilR ?_
 cases h
 exact AW.ret ⟨rfl, _, _, rfl, rfl⟩
end Go.Proofs.Ytchahpmelikoaaa.law
