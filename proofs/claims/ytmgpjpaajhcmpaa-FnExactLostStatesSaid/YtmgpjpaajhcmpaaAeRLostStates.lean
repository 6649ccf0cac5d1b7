/- For every checker the program's LostStates returns what the reference's returns. No conditions. -/
import Derived.Test.YtmgpjpaajhcmpaaAe4
import Derived.Shelf.Spec.SlicesGrow
import Derived.Test.YtmgpjpaajhcmpaaAeP
import Derived.Test.YtmgpjpaajhcmpaaAeK2
import Derived.Test.YtmgpjpaajhcmpaaRows
import Derived.Test.YtmgpjpaajhcmpaaAeShelf
import Derived.WalkKit
import Derived.ProofKit
import Derived.OpenShut
import Derived.ShutString
import Derived.ChangeOld
import Derived.Below
import Derived.SizedLaws
import Derived.Lib.SmallJoins
set_option linter.unusedVariables false
set_option linter.unusedSimpArgs false
namespace Go.Proofs.Ytmgpjpaajhcmpaa.law
open Go Go.Proofs Ae Go.ChangeShapes Go.WideShapes Go.ChangeAt Go.RowKit Go.Proofs.Ytmgpjpaajhcmpaa
open Go.ChangeMaps (open_string shut_string)
set_option linter.unusedVariables false
set_option maxRecDepth 100000
theorem own : ownKnob Try.prog.godebug = none := by kernel_rfl
theorem laidOut : laidOutB Try.prog = true := by kernel_rfl
theorem followsOk : Try.prog.follows .mixedOrders = true := by kernel_rfl
theorem cells2 : Try.prog.cellsOf 2 = 1 := by kernel_rfl
theorem cells4 : Try.prog.cellsOf 4 = 1 := by kernel_rfl
theorem cells22 : Try.prog.cellsOf 22 = 1 := by kernel_rfl
theorem cells23 : Try.prog.cellsOf 23 = 1 := by kernel_rfl
theorem cells24 : Try.prog.cellsOf 24 = 1 := by kernel_rfl
theorem cells25 : Try.prog.cellsOf 25 = 1 := by kernel_rfl
theorem cells27 : Try.prog.cellsOf 27 = 6 := by kernel_rfl
theorem cells29 : Try.prog.cellsOf 29 = 1 := by kernel_rfl
theorem cells60 : Try.prog.cellsOf 60 = 1 := by kernel_rfl
theorem cells80 : Try.prog.cellsOf 80 = 2 := by kernel_rfl
theorem RdPush_80 {H : Type} {enc : TypeId × Value → H} {W : World} : Rd enc Try.prog W 80 csPush bPush := by
  intro fuel cs d p h
  obtain ⟨hl, n, hf⟩ := trod_fields Try.underlying80 h
  rw [cells80] at hl
  have k0 : ∃ d p, DataW.trod enc Try.prog W 0 (fun _ => true) true n 2 ((cs.drop 0).take 1) = some (d, p) := cells2 ▸ hf 0 _ rfl
  obtain ⟨_, _, k0⟩ := k0
  obtain ⟨x0, a0, c0, v0, b0⟩ := (Rd.int Try.underlying2) n _ _ _ k0
  have l0 := v0.len hl (by decide)
  have k1 : ∃ d p, DataW.trod enc Try.prog W 0 (fun _ => true) true n 2 ((cs.drop 1).take 1) = some (d, p) := cells2 ▸ hf 1 _ rfl
  obtain ⟨_, _, k1⟩ := k1
  obtain ⟨x1, a1, c1, v1, b1⟩ := (Rd.int Try.underlying2) n _ _ _ k1
  have l1 := v1.len hl (by decide)
  exact ⟨⟨x0, x1⟩, (a0 ++ a1), c0.app (c1), VL.whole (v0.cat v1 l0) hl, ⟨b0, b1⟩⟩
theorem RdChecker_27 {H : Type} {enc : TypeId × Value → H} {W : World} : Rd enc Try.prog W 27 csChecker bChecker := by
  intro fuel cs d p h
  obtain ⟨hl, n, hf⟩ := trod_fields Try.underlying27 h
  rw [cells27] at hl
  have k0 : ∃ d p, DataW.trod enc Try.prog W 0 (fun _ => true) true n 2 ((cs.drop 0).take 1) = some (d, p) := cells2 ▸ hf 0 _ rfl
  obtain ⟨_, _, k0⟩ := k0
  obtain ⟨x0, a0, c0, v0, b0⟩ := (Rd.int Try.underlying2) n _ _ _ k0
  have l0 := v0.len hl (by decide)
  have k1 : ∃ d p, DataW.trod enc Try.prog W 0 (fun _ => true) true n 2 ((cs.drop 1).take 1) = some (d, p) := cells2 ▸ hf 1 _ rfl
  obtain ⟨_, _, k1⟩ := k1
  obtain ⟨x1, a1, c1, v1, b1⟩ := (Rd.int Try.underlying2) n _ _ _ k1
  have l1 := v1.len hl (by decide)
  have k2 : ∃ d p, DataW.trod enc Try.prog W 0 (fun _ => true) true n 22 ((cs.drop 2).take 1) = some (d, p) := cells22 ▸ hf 2 _ rfl
  obtain ⟨_, _, k2⟩ := k2
  obtain ⟨x2, a2, c2, v2, b2⟩ := (Rd.slice (ag := false) Try.underlying22 cells4 (by decide) (by decide) (Rd.bool Try.underlying4) hrf1) n _ _ _ k2
  have l2 := v2.len hl (by decide)
  have k3 : ∃ d p, DataW.trod enc Try.prog W 0 (fun _ => true) true n 23 ((cs.drop 3).take 1) = some (d, p) := cells23 ▸ hf 3 _ rfl
  obtain ⟨_, _, k3⟩ := k3
  obtain ⟨x3, a3, c3, v3, b3⟩ := (Rd.slice (ag := false) Try.underlying23 cells60 (by decide) (by decide) (Rd.slice (ag := true) Try.underlying60 cells80 (by decide) (by decide) RdPush_80 hrfA) hrf1) n _ _ _ k3
  have l3 := v3.len hl (by decide)
  have k4 : ∃ d p, DataW.trod enc Try.prog W 0 (fun _ => true) true n 24 ((cs.drop 4).take 1) = some (d, p) := cells24 ▸ hf 4 _ rfl
  obtain ⟨_, _, k4⟩ := k4
  obtain ⟨x4, a4, c4, v4, b4⟩ := (Rd.slice (ag := false) Try.underlying24 cells25 (by decide) (by decide) (Rd.slice (ag := false) Try.underlying25 cells29 (by decide) (by decide) (Rd.slice (ag := false) Try.underlying29 cells2 (by decide) (by decide) (Rd.int Try.underlying2) hrf1) hrf1) hrf1) n _ _ _ k4
  have l4 := v4.len hl (by decide)
  have k5 : ∃ d p, DataW.trod enc Try.prog W 0 (fun _ => true) true n 25 ((cs.drop 5).take 1) = some (d, p) := cells25 ▸ hf 5 _ rfl
  obtain ⟨_, _, k5⟩ := k5
  obtain ⟨x5, a5, c5, v5, b5⟩ := (Rd.slice (ag := false) Try.underlying25 cells29 (by decide) (by decide) (Rd.slice (ag := false) Try.underlying29 cells2 (by decide) (by decide) (Rd.int Try.underlying2) hrf1) hrf1) n _ _ _ k5
  have l5 := v5.len hl (by decide)
  exact ⟨⟨x0, x1, x2, x3, x4, x5⟩, (a0 ++ (a1 ++ (a2 ++ (a3 ++ (a4 ++ a5))))), c0.app (c1.app (c2.app (c3.app (c4.app (c5))))), VL.whole (v0.cat (v1.cat (v2.cat (v3.cat (v4.cat v5 l4) l3) l2) l1) l0) hl, ⟨b0, b1, b2, b3, b4, b5⟩⟩
theorem φGrowL_ok {P : Program} {ρ : Go.Shelf.Ren} (L : Go.Proofs.Lays8.n4 P ρ) {g te : Nat} (hg : ρ.f 4 = g) (hte : ρ.t 25 = te) {fn : Func} {ti : TI} (hti : TIok P te ti) (hs : ti.size = 1) (hby : ti.bytes ≤ 8) (hzero : ti.zero = .int .i64 0)
    (hf : P.funcs[g]? = some fn) (hname : (fn.name == "runtime.NumGoroutine") = false) (hb : fn.body.isSome = true) :
    ∀ args v ow, φGrow args = some (v, ow) → ∀ (E : Env) (s : St) (vs : Array Value), Core E s → s.lo ≤ s.n → VA E args vs → Ae.Reach P g vs E.w (Ret E s v ow s) := by
  subst hg hte
  obtain ⟨i, hi, his, hib, z, hz, hzV⟩ := hti.i
  refine φGrow_ok (te := ρ.t 25) hf hname hb (fun base w => Go.Proofs.Any8.slices_Grow_room L base 0 0 0 w (by decide) (by decide) (by decide) (by decide)) (fun base n w h0 h1 => ?_)
  refine Calls.mono (Go.Proofs.Any8.slices_Grow_grow L i z hi hz (by omega) base 0 0 n [] w (Nat.le_refl _) (by omega) (by
    rw [hib, Nat.zero_add]
    exact Nat.le_trans (Nat.mul_le_mul h1 hby) (by decide)) (by omega) (by simp) (fun _ => rfl) (fun a ha j v hv => by simp at hv)) ?_
  rintro e w' ⟨rfl, rfl⟩
  refine ⟨_, _, rfl, ?_, rfl⟩
  have hz1 : z.cells.size = 1 := by
    have := hzV (Env.of w)
    rw [hzero] at this
    cases this
    rfl
  have hge : 0 + n ≤ grownCap w (0 + n) 0 (ρ.t 25) := grownCap_ge _ _ _ _
  simp only [Array.size_append, size_zeroCells, hz1, List.size_toArray, List.length_nil]
  omega

theorem CfOk : CfgOk Try.prog Cf drawOk := ⟨fun t ti h => tyB_ok (Tree.all_get tyOk h), fun al g J h => by cases al; exact fnOk.get h; exact fnKOk.get h, fun g φ h => by
  change (bif Nat.beq g 64 then some (pureX φGrow) else bif Nat.beq g 62 then some φSort else none) = some φ at h
  cases h0 : Nat.beq g 64 with
  | true =>
    rw [h0] at h; cases h
    obtain rfl := Nat.eq_of_beq_eq_true h0
    exact ext0 (φGrowL_ok Try.laysGrow rfl rfl (tyB_ok (Tree.all_get tyOk (show Cf.ty 2 = some _ from rfl))) rfl (by decide) rfl Try.func64 (by kernel_rfl) (by kernel_rfl))
  | false =>
    rw [h0] at h
    cases h1 : Nat.beq g 62 with
    | true =>
      rw [h1] at h; cases h
      obtain rfl := Nat.eq_of_beq_eq_true h1
      exact extS0 (φSort_ok Try.func62 (by kernel_rfl) (by kernel_rfl) Try.slices_Sort_int_none Try.slices_Sort_int)
    | false =>
      rw [h1] at h
      cases h⟩
theorem liftedFnExactLostStates (os : Os) (started : os.Started) (H : Type) (enc : TypeId × Value → H) :
    ReturnsInHanded {} Try.checked os 3 .any (Rows.fnExactLostStatesSpec.pre6 enc Try.prog Try.f3 Rows.fnExactLostStatesRow.domain false) (Rows.fnExactLostStatesSpec.post enc Try.prog Try.f3 false true false false) := by
  refine returnsInHanded_of_change (C := Try.checked) own started (by kernel_rfl) Try.func3
    (ChangeSpec.witness6 (enc := enc) (C := Try.checked) false ⟨#[], #[.agg #[.int .i64 0, .int .i64 0, .slice none 0 0, .slice none 0 0, .slice none 0 0, .slice none 0 0]], []⟩ 8 (by kernel_rfl) (by kernel_rfl) (by kernel_rfl) (by kernel_rfl)) ?_
  intro W base args ds gs before hval0 hW _ _
  have hval : ∀ (j : Nat) t v, Try.f3.params[j]? = some t → args[j]? = some v → Value.okWide Try.prog W .any base t v := hval0
  have hW' := hW
  obtain ⟨p, q, hA0, hV, rfl, _, _⟩ := hW
  have hA : DataW.TrodAll enc Try.prog W 0 (fun _ => true) true Try.f3.params.toList args.toList ds p := hA0
  rw [Try.params3] at hA hval
  obtain ⟨v0, d0, rfl, rfl, h0⟩ := trodAll_one hA
  obtain ⟨rfl, rfl⟩ := trodVars_none hV
  simp only [List.append_nil] at hW'
  have hlt := hW'.lt
  have w0 : Value.okWide Try.prog W .any base 27 v0 := hval 0 27 v0 rfl rfl
  obtain ⟨vs0, rfl, _⟩ := okWide_struct Try.underlying27 w0
  have r0 := h0
  obtain ⟨_, r0⟩ := r0
  obtain ⟨x0, as0, hc0, hv0, hb0⟩ := RdChecker_27 _ _ _ _ r0
  have hagg0 := hv0.agg
  obtain ⟨y0_0, t0_0, rfl, g0_0, hc0⟩ := Cs_cons hc0
  obtain ⟨y0_1, t0_1, rfl, g0_1, hc0⟩ := Cs_cons hc0
  obtain ⟨y0_2, t0_2, rfl, g0_2, hc0⟩ := Cs_cons hc0
  obtain ⟨y0_3, t0_3, rfl, g0_3, hc0⟩ := Cs_cons hc0
  obtain ⟨y0_4, t0_4, rfl, g0_4, hc0⟩ := Cs_cons hc0
  obtain ⟨y0_5, t0_5, rfl, g0_5, hc0⟩ := Cs_cons hc0
  obtain rfl := Cs_nil hc0
  cases g0_0
  cases g0_1
  obtain ⟨z0_2, f0_2, e0_2, rfl, g0_2⟩ := g0_2
  obtain ⟨z0_3, f0_3, e0_3, rfl, g0_3⟩ := g0_3
  obtain ⟨z0_4, f0_4, e0_4, rfl, g0_4⟩ := g0_4
  obtain ⟨z0_5, f0_5, e0_5, rfl, g0_5⟩ := g0_5
  refine (law_calls CfOk followsOk W rfl (VA_1 hagg0) ((laws_FnExactLostStates_ok g0_2 g0_3 g0_4 g0_5 (law_LostStates hb0) WF0 ⟨rfl, rfl⟩).mono fun _ _ _ h => h.1)).mono fun e W' ⟨he, bel⟩ => ?_
  subst he
  have hpp := trodAll_mk1 (Below.trod laidOut (by kernel_rfl) (of_decide_eq_true (by kernel_rfl)) h0 bel hlt)
  exact ⟨_, rfl, _, _, _, [], _, [], hW', trodAll_mk1 (shut_bool Try.underlying4 _), hpp, rfl, bel.frame _, fun h => by cases h⟩
theorem mayEnter : Try.prog.mayEnter = true := by kernel_rfl
theorem inPl : Try.prog.inPlace 3 = Rows.fnExactLostStatesRow.inPlace := by kernel_rfl
theorem recs : Try.prog.recurses 3 = Rows.fnExactLostStatesRow.recurses := by kernel_rfl
theorem unfo : Try.prog.unfollowed 3 = Rows.fnExactLostStatesRow.unfollowed := by kernel_rfl
theorem vnam : Try.prog.varsNamed 3 = Rows.fnExactLostStatesRow.named := by kernel_rfl
theorem joined : joinedFacts Try.prog 3 Try.f3 Rows.fnExactLostStatesSpec Rows.fnExactLostStatesRow = true := by
  unfold joinedFacts
  rw [mayEnter, inPl, recs, unfo, vnam, laidOut]
  kernel_rfl
theorem holdsFnExactLostStates : Rows.FnExactLostStatesSaid :=
  OpenClaim.holds_of_wide 3 Try.f3 rfl rfl rfl rfl rfl rfl rfl ⟨rfl, rfl, rfl, rfl, rfl⟩ rfl rfl rfl rfl rfl (by kernel_rfl) Try.func3 joined
    (of_decide_eq_true (by kernel_rfl)) (by unfold Func.isWrapper; first | (rw [if_pos (by decide +kernel)]; kernel_rfl) | (rw [if_neg (by decide +kernel)]; exact ⟨rfl, rfl⟩))
    (fun os started H enc _ => liftedFnExactLostStates os started H enc)
#print axioms holdsFnExactLostStates
end Go.Proofs.Ytmgpjpaajhcmpaa.law
