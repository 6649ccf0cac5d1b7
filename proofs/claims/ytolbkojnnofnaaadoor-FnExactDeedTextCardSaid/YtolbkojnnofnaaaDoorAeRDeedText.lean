/- For every deed the program's DeedText returns what the reference's returns. No conditions. -/
import Derived.Test.YtolbkojnnofnaaaDoorAe4
import Derived.Test.YtolbkojnnofnaaaDoorAeP
import Derived.Test.YtolbkojnnofnaaaDoorAeK1
import Derived.Test.YtolbkojnnofnaaaDoorRows
import Derived.Test.YtolbkojnnofnaaaDoorTie
import Derived.Test.YtolbkojnnofnaaaDoorCards
import Derived.Test.YtolbkojnnofnaaaDoorAeShelf
import Derived.WalkKit
import Derived.ProofKit
import Derived.OpenShut
import Derived.ShutString
import Derived.ChangeOld
import Derived.Below
import Derived.SizedLaws
import Derived.Lib.SmallJoins
import Derived.LaidLaws
import Derived.LaidHandle
import Derived.SevenTiedAt
set_option linter.unusedVariables false
set_option linter.unusedSimpArgs false
namespace Go.Proofs.YtolbkojnnofnaaaDoor.law
open Go Go.Proofs Ae Go.ChangeShapes Go.WideShapes Go.ChangeAt Go.RowKit Go.Proofs.YtolbkojnnofnaaaDoor
open Go.ChangeMaps (open_string shut_string)
set_option linter.unusedVariables false
set_option maxRecDepth 100000
theorem own : ownKnob Tryd.prog.godebug = none := by kernel_rfl
theorem laidOut : laidOutB Tryd.prog = true := by kernel_rfl
theorem followsOk : Tryd.prog.follows .mixedOrders = true := by kernel_rfl
theorem cells2 : Tryd.prog.cellsOf 2 = 1 := by kernel_rfl
theorem cells23 : Tryd.prog.cellsOf 23 = 3 := by kernel_rfl
theorem RdDeed_23 {H : Type} {enc : TypeId × Value → H} {W : World} : Rd enc Tryd.prog W 23 csDeed bDeed := by
  intro fuel cs d p h
  obtain ⟨hl, n, hf⟩ := trod_fields Tryd.underlying23 h
  rw [cells23] at hl
  have k0 : ∃ d p, DataW.trod enc Tryd.prog W 0 (fun _ => true) true n 2 ((cs.drop 0).take 1) = some (d, p) := cells2 ▸ hf 0 _ rfl
  obtain ⟨_, _, k0⟩ := k0
  obtain ⟨x0, a0, c0, v0, b0⟩ := (Rd.int Tryd.underlying2) n _ _ _ k0
  have l0 := v0.len hl (by decide)
  have k1 : ∃ d p, DataW.trod enc Tryd.prog W 0 (fun _ => true) true n 2 ((cs.drop 1).take 1) = some (d, p) := cells2 ▸ hf 1 _ rfl
  obtain ⟨_, _, k1⟩ := k1
  obtain ⟨x1, a1, c1, v1, b1⟩ := (Rd.int Tryd.underlying2) n _ _ _ k1
  have l1 := v1.len hl (by decide)
  have k2 : ∃ d p, DataW.trod enc Tryd.prog W 0 (fun _ => true) true n 2 ((cs.drop 2).take 1) = some (d, p) := cells2 ▸ hf 2 _ rfl
  obtain ⟨_, _, k2⟩ := k2
  obtain ⟨x2, a2, c2, v2, b2⟩ := (Rd.int Tryd.underlying2) n _ _ _ k2
  have l2 := v2.len hl (by decide)
  exact ⟨⟨x0, x1, x2⟩, (a0 ++ (a1 ++ a2)), c0.app (c1.app (c2)), VL.whole (v0.cat (v1.cat v2 l1) l0) hl, ⟨b0, b1, b2⟩⟩
def litCells : DataW Unit → Array Value
  | .agg l => (l.map fun | .lit (.int k z) => Value.int k z | _ => undef).toArray
  | _ => #[]
def lays (cs : Array Value) : Obj → Obj
  | .cells _ t frozen => .cells cs t frozen
  | o => o
/-- The settled world, the listed variables holding what the row lists. -/
noncomputable def laidWorld (os : Os) : World := { World.holding Tryd.prog os ⟨#[], #[], []⟩ with heap := ((((World.holding Tryd.prog os ⟨#[], #[], []⟩).heap.modify 1 (lays (litCells Rows.laid_math_bits_deBruijn32tab))).modify 2 (lays (litCells Rows.laid_math_bits_deBruijn64tab))).modify 0 (lays (litCells Rows.laid_internal_strconv_uint64pow10))) }
theorem laidWorld_met (os : Os) (args : Array Value) : laidMetH Tryd.prog Rows.fnExactDeedTextRow.laid ((laidWorld os).forCall (fun _ _ => 0) ⟨#[], args, []⟩).memory :=
  laidMetH_of_parts (laidMet_of_run' 8 (by kernel_rfl) (by kernel_rfl)) (by kernel_rfl)
theorem powG : Tryd.prog.globalNamed "internal/strconv.uint64pow10" = some 0 := by kernel_rfl
theorem powD : (Rows.laid_internal_strconv_uint64pow10 : DataW Unit) = Lib.tabData .u64 Lib.pow10Tab := by kernel_rfl
theorem powTab {W : World} (h : laidMetH Tryd.prog Rows.fnExactDeedTextRow.laid W) : Lib.TabIs Tryd.prog W "internal/strconv.uint64pow10" .u64 Lib.pow10Tab := by
  have h1 : laidMet Tryd.prog [("math/bits.deBruijn32tab", Rows.laid_math_bits_deBruijn32tab), ("math/bits.deBruijn64tab", Rows.laid_math_bits_deBruijn64tab), ("internal/strconv.uint64pow10", Rows.laid_internal_strconv_uint64pow10)] W := h
  have h1 := laidMet.tail h1
  have h1 := laidMet.tail h1
  rw [powD] at h1
  exact Lib.tabIs_of_head powG (t := 50) (e := 43) (n := 20) (by kernel_rfl) (by kernel_rfl) (by kernel_rfl) (by kernel_rfl) (by kernel_rfl) h1
theorem CfOk : CfgOk Tryd.prog Cf drawOk := ⟨fun t ti h => tyB_ok (Tree.all_get tyOk h), fun al g J h => by cases al; exact fnOk.get h; exact fnKOk.get h, fun g φ h => by
  change (bif Nat.beq g 16 then some φFmt else none) = some φ at h
  cases h0 : Nat.beq g 16 with
  | true =>
    rw [h0] at h; cases h
    obtain rfl := Nat.eq_of_beq_eq_true h0
    exact φFmt_ok Tryd.func16 (by kernel_rfl) (by kernel_rfl) powG Tryd.strconv_FormatInt_10
  | false =>
    rw [h0] at h
    cases h⟩
theorem liftedFnExactDeedText (os : Os) (started : os.Started) (H : Type) (enc : TypeId × Value → H) :
    ReturnsInHanded {} Tryd.checked os 3 .any (fun w args => (Rows.fnExactDeedTextSpec.pre enc Tryd.prog Tryd.f3 Rows.fnExactDeedTextRow.domain false w args ∧ laidMetH Tryd.prog Rows.fnExactDeedTextRow.laid w) ∧ sizedMet enc Tryd.prog Tryd.f3 (OpenSpec.ofChange Rows.fnExactDeedTextSpec) false w args) (Rows.fnExactDeedTextSpec.post enc Tryd.prog Tryd.f3 false true false false) := by
  refine returnsInHanded_of_change_and (C := Tryd.checked) (X := fun w _ => laidMetH Tryd.prog Rows.fnExactDeedTextRow.laid w) (fun _ _ _ hh h => h.of_heap hh) own started (by kernel_rfl) Tryd.func3
    (ChangeSpec.witness_at (enc := enc) (C := Tryd.checked) (os := os) (X := fun w _ => laidMetH Tryd.prog Rows.fnExactDeedTextRow.laid w) false (laidWorld os) #[.agg #[.int .i64 0, .int .i64 0, .int .i64 0]] 8 rfl (by kernel_rfl) (by kernel_rfl) (by kernel_rfl) (by kernel_rfl) (by kernel_rfl) (laidWorld_met os _)) ?_
  intro W base args ds gs before hval0 hW _ _ hL _
  have htab := powTab hL
  have hval : ∀ (j : Nat) t v, Tryd.f3.params[j]? = some t → args[j]? = some v → Value.okWide Tryd.prog W .any base t v := hval0
  have hW' := hW
  obtain ⟨p, q, hA0, hV, rfl, _, _⟩ := hW
  have hA : DataW.TrodAll enc Tryd.prog W 0 (fun _ => true) true Tryd.f3.params.toList args.toList ds p := hA0
  rw [Tryd.params3] at hA hval
  obtain ⟨v0, d0, rfl, rfl, h0⟩ := trodAll_one hA
  obtain ⟨rfl, rfl⟩ := trodVars_none hV
  simp only [List.append_nil] at hW'
  have hlt := hW'.lt
  have w0 : Value.okWide Tryd.prog W .any base 23 v0 := hval 0 23 v0 rfl rfl
  obtain ⟨vs0, rfl, _⟩ := okWide_struct Tryd.underlying23 w0
  have r0 := h0
  obtain ⟨_, r0⟩ := r0
  obtain ⟨x0, as0, hc0, hv0, hb0⟩ := RdDeed_23 _ _ _ _ r0
  have hagg0 := hv0.agg
  obtain ⟨y0_0, t0_0, rfl, g0_0, hc0⟩ := Cs_cons hc0
  obtain ⟨y0_1, t0_1, rfl, g0_1, hc0⟩ := Cs_cons hc0
  obtain ⟨y0_2, t0_2, rfl, g0_2, hc0⟩ := Cs_cons hc0
  obtain rfl := Cs_nil hc0
  cases g0_0
  cases g0_1
  cases g0_2
  refine (law_callsT CfOk followsOk W (TabIs.to htab) rfl (VA_1 hagg0) ((laws_FnExactDeedText_ok  (law_DeedText hb0) WF0).mono fun _ _ _ h => h.1)).mono fun e W' ⟨he, bel⟩ => ?_
  subst he
  have hpp := trodAll_mk1 (Below.trod laidOut (by kernel_rfl) (of_decide_eq_true (by kernel_rfl)) h0 bel hlt)
  exact ⟨_, rfl, _, _, _, [], _, [], hW', trodAll_mk1 (shut_bool Tryd.underlying4 _), hpp, rfl, bel.frame _, fun h => by cases h⟩
theorem mayEnter : Tryd.prog.mayEnter = true := by kernel_rfl
theorem inPl : Tryd.prog.inPlace 3 = Rows.fnExactDeedTextRow.inPlace := by kernel_rfl
theorem recs : Tryd.prog.recurses 3 = Rows.fnExactDeedTextRow.recurses := by kernel_rfl
theorem unfo : Tryd.prog.unfollowed 3 = Rows.fnExactDeedTextRow.unfollowed := by kernel_rfl
theorem vnam : Tryd.prog.varsNamed 3 = Rows.fnExactDeedTextRow.named := by kernel_rfl
theorem joined : joinedFacts Tryd.prog 3 Tryd.f3 Rows.fnExactDeedTextSpec Rows.fnExactDeedTextRow = true := by
  unfold joinedFacts
  rw [mayEnter, inPl, recs, unfo, vnam, laidOut]
  kernel_rfl
theorem holdsFnExactDeedText : Rows.FnExactDeedTextSaid :=
  OpenClaim.holds_of_wide 3 Tryd.f3 rfl rfl rfl rfl rfl rfl rfl ⟨rfl, rfl, rfl, rfl, rfl⟩ rfl rfl rfl rfl rfl (by kernel_rfl) Tryd.func3 joined
    (of_decide_eq_true (by kernel_rfl)) (by unfold Func.isWrapper; first | (rw [if_pos (by decide +kernel)]; kernel_rfl) | (rw [if_neg (by decide +kernel)]; exact ⟨rfl, rfl⟩))
    (fun os started H enc _ => liftedFnExactDeedText os started H enc)
#print axioms holdsFnExactDeedText
theorem cardFnExactDeedText : Rows.FnExactDeedTextCardSaid :=
  Claim7.holds_tied_plain_at .later [] [.data, .data, .data] true (true, "1cd2d25aef9ea4a2fbb69bb86a0467ae5efec630cdd4403b1099b8acec616c7d") false
    holdsFnExactDeedText (fun _ h => by cases h) (by kernel_rfl) (fun _ h => by cases h) fnExactDeedText_row_tie rfl ⟨rfl, rfl⟩ (by kernel_rfl) rfl
    (fun f fn hf hfn => by
      obtain rfl : f = 3 := Option.some.inj ((show Tryd.prog.funcNamed "loop.example/g01145/laws.FnExactDeedText" = some 3 by kernel_rfl).symm.trans hf) |>.symm
      obtain rfl : fn = Tryd.f3 := (Option.some.inj (Tryd.func3.symm.trans hfn)).symm
      exact ⟨by kernel_rfl, fun j t ht => by
        rw [Tryd.params3] at ht
        have hm : t ∈ ([23] : List Nat) := by simpa using Array.mem_of_getElem? ht
        have hall : (([23] : List Nat).all fun u => !Tryd.prog.wantsStandIn u) = true := by kernel_rfl
        exact (show Tryd.prog.wantsStandIn t = false by simpa using List.all_eq_true.1 hall t hm)⟩)
    (by kernel_rfl)
#print axioms cardFnExactDeedText
end Go.Proofs.YtolbkojnnofnaaaDoor.law
