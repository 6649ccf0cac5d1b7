import Derived.Test.YtdjbgfdippdfkaaGreatAeD
import Derived.Test.YtdjbgfdippdfkaaGreatAe4
import Derived.Test.YtdjbgfdippdfkaaGreatAeK2
set_option linter.unusedVariables false
set_option linter.unusedSimpArgs false
namespace Go.Proofs.YtdjbgfdippdfkaaGreat.law
open Go Go.Proofs Ae
open Ae.AV (int sl eptr agg ptr bool str)
set_option maxRecDepth 100000
set_option linter.unusedVariables false
theorem impl_Checker_end_ok {c1 : Checker} {state18 : Int} {stack19 : List Int} {w24 : List UInt8} {z2 z6 z10 z14 z20 : Nat} {f3 f7 f11 f15 f21 : Bool} {e4 e8 e12 e16 e22 : List AV} {s : St} (h5 : LR rB 1 c1.Accept z2 e4) (h9 : LR (rL rPush 2) 1 c1.Call z6 e8) (h13 : LR (rL (rL (rI .i64) 1) 1) 1 c1.Return z10 e12) (h17 : LR (rL (rI .i64) 1) 1 c1.Inner z14 e16) (h23 : LR (rI .i64) 1 stack19 z20 e22) {r : Int × (List Int)} (h : impl_Checker_end c1 state18 stack19 w24 = some r) (hs : WF s) : ACall Cf 72 [(agg [(int .i64 c1.Stack), (int .i64 c1.Start), (sl z2 f3 e4), (sl z6 f7 e8), (sl z10 f11 e12), (sl z14 f15 e16)]), (int .i64 state18), (sl z20 f21 e22), (str w24)] s fun v _ s' => (fun x => rT [(rI .i64) x.1, (rL (rI .i64) 1) x.2]) r v ∧ s' = s := by
 refine ACall.boxes rfl rfl rfl ?_
 have hH0 := HS.init hs
 unfold impl_Checker_end at h
 refine sr ?_
 refine AOps.makeR rfl rfl rfl rfl rfl rfl (rfl : _ = (eptr [(int .i64 c1.Stack), (int .i64 c1.Start), (sl z2 f3 e4), (sl z6 f7 e8), (sl z10 f11 e12), (sl z14 f15 e16)] 0)) ?_
 refine AOps.box1 (v := (int .i64 state18)) hH0 rfl rfl rfl rfl rfl rfl rfl rfl ?_
 intro b25 s26 hH27
 change HS [] false s s26 [⟨some b25, [(int .i64 state18)], (fun _ => false)⟩] at hH27
 refine AOps.box1 (v := (sl z20 f21 e22)) hH27 rfl rfl rfl rfl rfl rfl rfl rfl ?_
 intro b28 s29 hH30
 change HS [] false s s29 [⟨some b28, [(sl z20 f21 e22)], (fun _ => false)⟩, ⟨some b25, [(int .i64 state18)], (fun _ => false)⟩] at hH30
 refine q (int .i64 0) ?_
 refine q (sl 0 true []) ?_
 refine ns ?_
 refine lE (agg [(int .i64 c1.Stack), (int .i64 c1.Start), (sl z2 f3 e4), (sl z6 f7 e8), (sl z10 f11 e12), (sl z14 f15 e16)]) ?_
 refine AOps.ldB (i := 1) (v := (int .i64 state18)) hH30 rfl rfl rfl rfl rfl rfl rfl rfl rfl ?_
 refine AOps.ldB (i := 0) (v := (sl z20 f21 e22)) hH30 rfl rfl rfl rfl rfl rfl rfl rfl rfl ?_
 refine q (str w24) ?_
 refine q (AV.fn 99 [(ptr b25 0), (ptr b28 0)]) ?_
 obtain ⟨y31, h32, h⟩ := obind h
 refine AOps.callF (g := 98) (args := [(agg [(int .i64 c1.Stack), (int .i64 c1.Start), (sl z2 f3 e4), (sl z6 f7 e8), (sl z10 f11 e12), (sl z14 f15 e16)]), (int .i64 state18), (sl z20 f21 e22), (str w24), (AV.fn 99 [(ptr b25 0), (ptr b28 0)])]) rfl rfl rfl (impl_Checker_run_F1_ok h5 h9 h13 h17 h23 h23 (HS.enterP hH30 [1, 0] [b25, b28] rfl (by decide)) h32 (HS.wf' hH30)) ?_
 intro _ o38 s35 h37
 obtain ⟨h33, w39, w40, z41, f42, e43, h34, h44⟩ := h37
 have hH36 := HS.callP hH30 [1, 0] h34 rfl rfl
 change HS [] false s s35 [⟨some b28, [(sl z41 f42 e43)], w40⟩, ⟨some b25, [(int .i64 y31.2.1)], w39⟩] at hH36
 cases h33
 refine ns ?_
 refine AOps.ldB (i := 1) (v := (int .i64 y31.2.1)) hH36 rfl rfl rfl rfl rfl rfl rfl rfl rfl ?_
 refine AOps.ldB (i := 0) (v := (sl z41 f42 e43)) hH36 rfl rfl rfl rfl rfl rfl rfl rfl rfl ?_
 refine aq (int .i64 y31.2.1) ?_
 refine aq (sl z41 f42 e43) ?_
 refine nl ?_
 cases h
 exact AW.ret ⟨⟨_, hH36⟩, _, _, rfl, (Fin.T (.cons (Fin.of (p := (rI .i64) y31.2.1) .I rfl) (.cons (Fin.of (p := (rL (rI .i64) 1) y31.2.2) (.L fun _ => .I) (⟨_, _, _, rfl, h44⟩)) .nil))).2⟩
theorem impl_works_comeIn_K10_ok {p3 p4 p14 p15 p29 p30 : Int} {p5 p13 p16 p24 : List Int} {p28 : List Parcel} {p31 : List Bool} {p36 : List (List Push)} {p41 : List (List (List Int))} {p46 : List (List Int)} {p51 : List (List UInt8)} {p1_56 : Parcel} {b1 z6 z17 z32 z37 z42 z47 z52 z57 : Nat} {w2 : Nat → Bool} {f7 f18 f33 f38 f43 f48 f53 f58 : Bool} {e8 e19 e34 e39 e44 e49 e54 e59 : List AV} {h10 h21 h25 : AV} {k11 k22 k26 : KT} {s : St} (h9 : LR (rI .i64) 1 p5 z6 e8) (ho12 : h10.one = true) (h20 : LR (rI .i64) 1 p16 z17 e19) (ho23 : h21.one = true) (ho27 : h25.one = true) (h35 : LR rB 1 p31 z32 e34) (h40 : LR (rL rPush 2) 1 p36 z37 e39) (h45 : LR (rL (rL (rI .i64) 1) 1) 1 p41 z42 e44) (h50 : LR (rL (rI .i64) 1) 1 p46 z47 e49) (h55 : LR rS 1 p51 z52 e54) (h60 : LR rS 1 p1_56.Texts z57 e59) {ex : List Nat} {Ls0 : List (List BX)} (hH0 : HS ex true s s (([⟨some b1, [(int .i64 p3), (int .i64 p4), (sl z6 f7 e8), h10, (int .i64 p14), (int .i64 p15), (sl z17 f18 e19), h21, h25, (int .i64 p29), (int .i64 p30), (sl z32 f33 e34), (sl z37 f38 e39), (sl z42 f43 e44), (sl z47 f48 e49), (sl z52 f53 e54)], w2⟩] : List BX) ++ List.flatten Ls0)) (hG0 : AllG [OS oE2 h10 k11 p13, OS oE2 h21 k22 p24, OS oE90 h25 k26 p28] Ls0) (hl : LoOK ex true s) {r : Unit × (List Int) × Int × Int × (List Int)} (h : impl_works_comeIn_K10 p3 p4 p5 p13 p14 p15 p16 p24 p28 p29 p30 p31 p36 p41 p46 p51 p1_56 = some r) (hs : WF s) : ACall Cf 45 [(ptr b1 0), (agg [(int .i64 p1_56.First), (sl z57 f58 e59)])] s (fun v _ s' => ∃ (h1' : AV) (k2' : KT) (w4' : Nat → Bool) (z5' : Nat) (f6' : Bool) (e7' : List AV) (Ls' : List (List BX)), v = (AV.tup []) ∧ HS ex true s s' (([⟨some b1, [(int .i64 r.2.2.1), (int .i64 r.2.2.2.1), (sl z5' f6' e7'), h1', (int .i64 p14), (int .i64 p15), (sl z17 f18 e19), h21, h25, (int .i64 p29), (int .i64 p30), (sl z32 f33 e34), (sl z37 f38 e39), (sl z42 f43 e44), (sl z47 f48 e49), (sl z52 f53 e54)], w4'⟩] : List BX) ++ List.flatten Ls') ∧ AllG [OS oE2 h1' k2' r.2.1, OS oE2 h21 k22 p24, OS oE90 h25 k26 p28] Ls' ∧ h1'.one = true ∧ LR (rI .i64) 1 r.2.2.2.2 z5' e7') true := by
 refine ACall.keepR rfl rfl rfl ?_
 unfold impl_works_comeIn_K10 at h
 refine sr ?_
 refine AOps.makeR rfl rfl rfl rfl rfl rfl (rfl : _ = (eptr [(int .i64 p1_56.First), (sl z57 f58 e59)] 0)) ?_
 refine ns ?_
 refine q (ptr b1 0) ?_
 refine q (ptr b1 0) ?_
 refine q (ptr b1 0) ?_
 refine q (ptr b1 0) ?_
 refine aq (ptr b1 0) ?_
 refine nl ?_
 refine AW.seq ?_
 refine sr ?_
 refine q (eptr [(int .i64 p1_56.First), (sl z57 f58 e59)] 1) ?_
 refine lE (sl z57 f58 e59) ?_
 obtain ⟨y61, h62, h⟩ := obind h
 refine AOps.callP (g := 41) (args := [(sl z57 f58 e59)]) (p := (rI .i64) y61) rfl rfl rfl (impl_size_string_ok h60 h62 (HS.wf' hH0)) ?_
 intro _ o64 h63
 cases h63
 refine q (int .i64 0) ?_
 refine nl ?_
 refine AW.meet (σ := (List Int) × (Nat → Bool) × AV × KT × St × (List (List BX))) (fun (m66, w65, h67, k68, s70, Ls71) tm os => ⟨updL tm [(0, (ptr b1 0)), (4, (ptr b1 0))], updL os [], s70⟩) (fun (m66, w65, h67, k68, s70, Ls71) => (h67.one = true) ∧ (HS ex true s s70 (([⟨some b1, [(int .i64 p3), (int .i64 p4), (sl z6 f7 e8), h67, (int .i64 p14), (int .i64 p15), (sl z17 f18 e19), h21, h25, (int .i64 p29), (int .i64 p30), (sl z32 f33 e34), (sl z37 f38 e39), (sl z42 f43 e44), (sl z47 f48 e49), (sl z52 f53 e54)], w65⟩] : List BX) ++ List.flatten Ls71)) ∧ (AllG [OS oE2 h67 k68 m66, OS oE2 h21 k22 p24, OS oE90 h25 k26 p28] Ls71) ∧ impl_works_comeIn_K10_J1 p3 p4 p5 p29 p30 p31 p36 p41 p46 p51 m66 = some r) ?_ ?_
 ·rintro ⟨m66, w65, h67, k68, s70, Ls71⟩ tm os ⟨ho69, hH72, hG73, h⟩
  unfold impl_works_comeIn_K10_J1 at h
  refine sr ?_
  refine q (ptr b1 0) ?_
  refine q (ptr b1 0) ?_
  refine q (ptr b1 3) ?_
  refine AOps.ldB (i := 0) (v := h67) hH72 rfl rfl rfl rfl rfl rfl rfl rfl rfl ?_
  obtain ⟨y75, h76, h⟩ := obind h
  have hP77 := HS.pop0 hH72
  have hF0 : AllG ([] : List (List BX → Prop)) [] := AllG.nil
  obtain ⟨Ls79, Lf80, hG81, hF82, hP78⟩ := HS.popG hP77 hG73 hF0 (j := 0) rfl
  refine AOps.callF (al := false) (g := 71) (args := [h67]) rfl rfl rfl (sortK (e := oE2) own_int rfl rfl rfl (HS.enterK hP78) hF82 (HS.enterLo hP78 hl) h76) ?_
  rintro _ _ s83 ⟨Ls84, rfl, hH85, hG86⟩
  have hJ87 := HS.joinK hP78 hH85
  obtain ⟨Ls88, Lf89, hG90, hF91, hP92⟩ := HS.putG hJ87 hG81 hG86 (j := 0) rfl
  cases hF91
  have hH93 := HS.push0 hP92
  change HS ex true s s83 (([⟨some b1, [(int .i64 p3), (int .i64 p4), (sl z6 f7 e8), h67, (int .i64 p14), (int .i64 p15), (sl z17 f18 e19), h21, h25, (int .i64 p29), (int .i64 p30), (sl z32 f33 e34), (sl z37 f38 e39), (sl z42 f43 e44), (sl z47 f48 e49), (sl z52 f53 e54)], w65⟩] : List BX) ++ List.flatten Ls88) at hH93
  change AllG [OS oE2 h67 k68 y75, OS oE2 h21 k22 p24, OS oE90 h25 k26 p28] Ls88 at hG90
  refine nl ?_
  refine AW.meet (σ := Int × Int × (List Int) × (List Int) × (Nat → Bool) × Nat × Bool × (List AV) × AV × KT × St × (List (List BX))) (fun (m95, m96, m97, m102, w94, z98, f99, e100, h103, k104, s106, Ls107) tm os => ⟨updL tm [], updL os [], s106⟩) (fun (m95, m96, m97, m102, w94, z98, f99, e100, h103, k104, s106, Ls107) => (LR (rI .i64) 1 m97 z98 e100) ∧ (h103.one = true) ∧ (HS ex true s s106 (([⟨some b1, [(int .i64 m95), (int .i64 m96), (sl z98 f99 e100), h103, (int .i64 p14), (int .i64 p15), (sl z17 f18 e19), h21, h25, (int .i64 p29), (int .i64 p30), (sl z32 f33 e34), (sl z37 f38 e39), (sl z42 f43 e44), (sl z47 f48 e49), (sl z52 f53 e54)], w94⟩] : List BX) ++ List.flatten Ls107)) ∧ (AllG [OS oE2 h103 k104 m102, OS oE2 h21 k22 p24, OS oE90 h25 k26 p28] Ls107) ∧ impl_works_comeIn_K10_J2 m95 m96 m97 m102 = some r) ?_ ?_
  ·rintro ⟨m95, m96, m97, m102, w94, z98, f99, e100, h103, k104, s106, Ls107⟩ tm os ⟨h101, ho105, hH108, hG109, h⟩
   unfold impl_works_comeIn_K10_J2 at h
   cases h
   exact AW.nil ⟨_, _, rfl, ⟨h103, k104, w94, z98, f99, e100, Ls107, rfl, hH108, hG109, ho105, h101⟩⟩
  intro KJ110
  refine AW.block ?_
  refine AW.res [(0, (ptr b1 0)), (4, (ptr b1 0))] [] ⟨rfl, rfl, trivial⟩ trivial ?_
  refine AW.loopF (σ := Int × Int × (List Int) × (List Int)) (τ := (Nat → Bool) × Nat × Bool × (List AV) × AV × KT × St × (List (List BX))) (fun (m112, m113, m114, m119) (w111, z115, f116, e117, h120, k121, s123, Ls124) => (LR (rI .i64) 1 m114 z115 e117) ∧ (h120.one = true) ∧ (HS ex true s s123 (([⟨some b1, [(int .i64 m112), (int .i64 m113), (sl z115 f116 e117), h120, (int .i64 p14), (int .i64 p15), (sl z17 f18 e19), h21, h25, (int .i64 p29), (int .i64 p30), (sl z32 f33 e34), (sl z37 f38 e39), (sl z42 f43 e44), (sl z47 f48 e49), (sl z52 f53 e54)], w111⟩] : List BX) ++ List.flatten Ls124)) ∧ (AllG [OS oE2 h120 k121 m119, OS oE2 h21 k22 p24, OS oE90 h25 k26 p28] Ls124)) (fun (m112, m113, m114, m119) (w111, z115, f116, e117, h120, k121, s123, Ls124) tm os => ⟨updL tm [(0, (ptr b1 0)), (4, (ptr b1 0))], updL os [], s123⟩) ?_ (x := (p3, p4, p5, y75)) (y := (w65, z6, f7, e8, h67, k68, s83, Ls88)) h ⟨h9, ho69, hH93, hG90⟩
  clear h
  rintro ⟨m112, m113, m114, m119⟩ ⟨w111, z115, f116, e117, h120, k121, s123, Ls124⟩ tm os ⟨h118, ho122, hH125, hG126⟩ ee1 h hL1 hR1
  unfold impl_works_comeIn_K10_S1 at h
  dsimp only at h
  refine AW.seq ?_
  refine sr ?_
  refine q (ptr b1 0) ?_
  refine q (ptr b1 0) ?_
  refine q (ptr b1 3) ?_
  refine AOps.ldB (i := 0) (v := h120) hH125 rfl rfl rfl rfl rfl rfl rfl rfl rfl ?_
  refine AOps.lenO (j := 0) hG126 rfl Sub.here rfl rfl rfl rfl rfl ?_
  refine q (bool (decide (((m119.length : Int) : Int) > 0))) ?_
  refine q (bool (decide (((m119.length : Int) : Int) > 0))) ?_
  obtain ⟨b128, hb, h⟩ := obind h
  refine AOps.split 12 (fun f' => ∃ tm' os', f' = ⟨updL tm' [(0, (ptr b1 0)), (4, (ptr b1 0)), (70, (bool b128))], updL os' [], s123⟩) ?_ ?_
  ·rcases oite hb with ⟨hc127, hb⟩ | ⟨hc127, hb⟩
   ·have h := hb
    refine AOps.know (d := 58) rfl hc127 ?_
    refine q (ptr b1 0) ?_
    refine q (ptr b1 0) ?_
    refine q (ptr b1 3) ?_
    refine AOps.ldB (i := 0) (v := h120) hH125 rfl rfl rfl rfl rfl rfl rfl rfl rfl ?_
    obtain ⟨x131, h132, h⟩ := obind h
    refine AOps.idxO (j := 0) hG126 rfl Sub.here h132 rfl rfl rfl rfl rfl rfl rfl rfl rfl ?_
    intro b129 hb130
    refine AOps.ldO (j := 0) (q := 0) hH125 hG126 rfl Sub.here h132 hb130 rfl rfl rfl rfl rfl (lt_b rfl) (le_b rfl) rfl rfl ?_ (fun c B hc => by obtain ⟨⟨_, hr, rfl⟩, rfl⟩ := hc; cases hr; exact ⟨_, rfl⟩)
    intro c133 B134 v135 h136 h137
    obtain ⟨⟨_, h138, rfl⟩, rfl⟩ := h136
    cases h138
    cases h137
    refine q (ptr b1 0) ?_
    refine q (ptr b1 0) ?_
    refine q (ptr b1 0) ?_
    refine AOps.ldB (i := 0) (v := (int .i64 m112)) hH125 rfl rfl rfl rfl rfl rfl rfl rfl rfl ?_
    refine q (bool (x131 == m112)) ?_
    refine q (bool (x131 == m112)) ?_
    refine AOps.resR [(0, (ptr b1 0)), (4, (ptr b1 0)), (70, (bool b128))] [] ?_ ?_ _ ⟨_, _, rfl⟩
    ·exact ⟨rfl, rfl, congrArg bool (Option.some.inj h), trivial⟩
    exact trivial
   ·refine AOps.know (d := 58) rfl hc127 ?_
    refine sk ?_
    refine sk ?_
    refine sk ?_
    refine sk ?_
    refine sk ?_
    refine sk ?_
    refine sk ?_
    refine sk ?_
    refine sk ?_
    refine sk ?_
    refine sk ?_
    refine q (bool false) ?_
    refine AOps.resR [(0, (ptr b1 0)), (4, (ptr b1 0)), (70, (bool b128))] [] ?_ ?_ _ ⟨_, _, rfl⟩
    ·exact ⟨rfl, rfl, congrArg bool (Option.some.inj hb), trivial⟩
    exact trivial
  rintro _ ⟨tm, os, rfl⟩
  refine nl ?_
  rcases oite h with ⟨hc139, h⟩ | ⟨hc139, h⟩
  ·refine AW.condT (congrArg bool hc139) ?_
   refine AW.skip ?_
   refine AW.block ?_
   refine sr ?_
   refine q (ptr b1 0) ?_
   refine q (ptr b1 0) ?_
   refine q (ptr b1 0) ?_
   refine q (ptr b1 0) ?_
   refine q (ptr b1 9) ?_
   refine q (ptr b1 9) ?_
   refine AOps.ldB (i := 0) (v := (agg [(int .i64 p29), (int .i64 p30), (sl z32 f33 e34), (sl z37 f38 e39), (sl z42 f43 e44), (sl z47 f48 e49)])) hH125 rfl rfl rfl rfl rfl rfl rfl rfl rfl ?_
   refine q (ptr b1 0) ?_
   refine q (ptr b1 0) ?_
   refine q (ptr b1 1) ?_
   refine AOps.ldB (i := 0) (v := (int .i64 m113)) hH125 rfl rfl rfl rfl rfl rfl rfl rfl rfl ?_
   refine q (ptr b1 0) ?_
   refine q (ptr b1 0) ?_
   refine q (ptr b1 2) ?_
   refine AOps.ldB (i := 0) (v := (sl z115 f116 e117)) hH125 rfl rfl rfl rfl rfl rfl rfl rfl rfl ?_
   refine q (ptr b1 0) ?_
   refine q (ptr b1 0) ?_
   refine q (ptr b1 9) ?_
   refine q (ptr b1 15) ?_
   refine AOps.ldB (i := 0) (v := (sl z52 f53 e54)) hH125 rfl rfl rfl rfl rfl rfl rfl rfl rfl ?_
   refine q (ptr b1 0) ?_
   refine q (ptr b1 0) ?_
   refine q (ptr b1 0) ?_
   refine AOps.ldB (i := 0) (v := (int .i64 m112)) hH125 rfl rfl rfl rfl rfl rfl rfl rfl rfl ?_
   obtain ⟨x140, h141, h⟩ := obind h
   obtain ⟨v144, h142, h143⟩ := idx_sl h55 h141
   cases h142
   refine AOps.pureR rfl rfl rfl h143 rfl (rfl : _ = (eptr [(str x140)] 0)) ?_
   refine lE (str x140) ?_
   obtain ⟨y145, h146, h⟩ := obind h
   refine AOps.callDP (g := 72) (args := [(agg [(int .i64 p29), (int .i64 p30), (sl z32 f33 e34), (sl z37 f38 e39), (sl z42 f43 e44), (sl z47 f48 e49)]), (int .i64 m113), (sl z115 f116 e117), (str x140)]) (p := (fun x => rT [(rI .i64) x.1, (rL (rI .i64) 1) x.2]) y145) rfl rfl rfl (impl_Checker_end_ok h35 h40 h45 h50 h118 h146 ((HS.wf' hH125).still)) (fun v hv => Nice.pure (k := FINK) (p := (fun x => rT [(rI .i64) x.1, (rL (rI .i64) 1) x.2]) y145) (.T (.cons .I (.cons (.L fun _ => .I) .nil))) _ v hv) ?_
   intro _ o157 h147
   obtain ⟨_, rfl, h148⟩ := h147
   obtain ⟨_, _, rfl, h149, h150⟩ := Cs_cons h148
   cases h149
   obtain ⟨_, _, rfl, h151, h152⟩ := Cs_cons h150
   obtain ⟨z153, f154, e155, rfl, h156⟩ := h151
   cases Cs_nil h152
   refine q (AV.tup [(int .i64 y145.1), (sl z153 f154 e155)]) ?_
   refine q (int .i64 y145.1) ?_
   refine q (sl z153 f154 e155) ?_
   refine q (ptr b1 0) ?_
   refine q (ptr b1 1) ?_
   refine AOps.stE (i := 0) (v := (int .i64 y145.1)) hH125 hl rfl rfl rfl rfl rfl rfl rfl rfl rfl (lt_b rfl) (le_b rfl) rfl ?_
   intro w158 s159 h160 h161 hH162
   change HS ex true s s159 (([⟨some b1, [(int .i64 m112), (int .i64 y145.1), (sl z115 f116 e117), h120, (int .i64 p14), (int .i64 p15), (sl z17 f18 e19), h21, h25, (int .i64 p29), (int .i64 p30), (sl z32 f33 e34), (sl z37 f38 e39), (sl z42 f43 e44), (sl z47 f48 e49), (sl z52 f53 e54)], w158⟩] : List BX) ++ List.flatten Ls124) at hH162
   refine q (ptr b1 0) ?_
   refine q (ptr b1 2) ?_
   refine AOps.stE (i := 0) (v := (sl z153 f154 e155)) hH162 hl rfl rfl rfl rfl rfl rfl rfl rfl rfl (lt_b rfl) (le_b rfl) rfl ?_
   intro w163 s164 h165 h166 hH167
   change HS ex true s s164 (([⟨some b1, [(int .i64 m112), (int .i64 y145.1), (sl z153 f154 e155), h120, (int .i64 p14), (int .i64 p15), (sl z17 f18 e19), h21, h25, (int .i64 p29), (int .i64 p30), (sl z32 f33 e34), (sl z37 f38 e39), (sl z42 f43 e44), (sl z47 f48 e49), (sl z52 f53 e54)], w163⟩] : List BX) ++ List.flatten Ls124) at hH167
   refine ns ?_
   refine q (ptr b1 0) ?_
   refine q (ptr b1 0) ?_
   refine q (ptr b1 0) ?_
   refine q (ptr b1 3) ?_
   refine AOps.ldB (i := 0) (v := h120) hH167 rfl rfl rfl rfl rfl rfl rfl rfl rfl ?_
   obtain ⟨l168, h169, h⟩ := obind h
   refine AOps.cutO (j := 0) hH167 hG126 hl rfl rfl rfl rfl rfl rfl rfl ⟨_, rfl⟩ rfl h169 rfl rfl rfl rfl ?_
   intro h170 k172 Ls173 s174 ho171 hG175 hH176
   change HS ex true s s174 (([⟨some b1, [(int .i64 m112), (int .i64 y145.1), (sl z153 f154 e155), h120, (int .i64 p14), (int .i64 p15), (sl z17 f18 e19), h21, h25, (int .i64 p29), (int .i64 p30), (sl z32 f33 e34), (sl z37 f38 e39), (sl z42 f43 e44), (sl z47 f48 e49), (sl z52 f53 e54)], w163⟩] : List BX) ++ List.flatten Ls173) at hH176
   change AllG [OS oE2 h170 k172 l168, OS oE2 h21 k22 p24, OS oE90 h25 k26 p28] Ls173 at hG175
   refine q (ptr b1 0) ?_
   refine q (ptr b1 3) ?_
   refine AOps.stE (i := 0) (v := h170) hH176 hl rfl rfl rfl rfl rfl rfl rfl (one_lay ho171) (one_len ho171) (lt_b rfl) (le_b rfl) rfl ?_
   intro w177 s178 h179 h180 hH181
   rw [AV.cells_one ho171] at hH181
   change HS ex true s s178 (([⟨some b1, [(int .i64 m112), (int .i64 y145.1), (sl z153 f154 e155), h170, (int .i64 p14), (int .i64 p15), (sl z17 f18 e19), h21, h25, (int .i64 p29), (int .i64 p30), (sl z32 f33 e34), (sl z37 f38 e39), (sl z42 f43 e44), (sl z47 f48 e49), (sl z52 f53 e54)], w177⟩] : List BX) ++ List.flatten Ls173) at hH181
   refine nl ?_
   refine AW.region ?_
   refine q (ptr b1 0) ?_
   refine q (ptr b1 0) ?_
   refine q (ptr b1 0) ?_
   refine AOps.ldB (i := 0) (v := (int .i64 m112)) hH181 rfl rfl rfl rfl rfl rfl rfl rfl rfl ?_
   refine q (int .i64 (IntKind.wrap .i64 (m112 + 1))) ?_
   refine q (ptr b1 0) ?_
   refine q (ptr b1 0) ?_
   refine AOps.stE (i := 0) (v := (int .i64 (IntKind.wrap .i64 (m112 + 1)))) hH181 hl rfl rfl rfl rfl rfl rfl rfl rfl rfl (lt_b rfl) (le_b rfl) rfl ?_
   intro w182 s183 h184 h185 hH186
   change HS ex true s s183 (([⟨some b1, [(int .i64 (IntKind.wrap .i64 (m112 + 1))), (int .i64 y145.1), (sl z153 f154 e155), h170, (int .i64 p14), (int .i64 p15), (sl z17 f18 e19), h21, h25, (int .i64 p29), (int .i64 p30), (sl z32 f33 e34), (sl z37 f38 e39), (sl z42 f43 e44), (sl z47 f48 e49), (sl z52 f53 e54)], w182⟩] : List BX) ++ List.flatten Ls173) at hH186
   refine nl ?_
   refine AW.inBlock ?_
   cases h
   exact AW.res [(0, (ptr b1 0)), (4, (ptr b1 0))] [] ⟨rfl, rfl, trivial⟩ trivial (hL1 _ rfl (w182, z153, f154, e155, h170, k172, s183, Ls173) _ _ ⟨h156, ho171, hH186, hG175⟩)
  refine AW.condF (congrArg bool hc139) ?_
  refine AW.exit rfl ?_
  obtain ⟨r187, hm, hx⟩ := omap h
  clear h
  subst hx
  have hx := hR1 _ rfl
  rw [hx] at hm
  have h := hm
  exact AW.res [] [] trivial trivial (KJ110 (m112, m113, m114, m119, w111, z115, f116, e117, h120, k121, s123, Ls124) _ _ ⟨h118, ho122, hH125, hG126, h⟩)
 intro KJ74
 refine AW.block ?_
 refine AW.res [(0, (ptr b1 0)), (3, (eptr [(int .i64 p1_56.First), (sl z57 f58 e59)] 0)), (4, (ptr b1 0)), (13, (int .i64 y61)), (14, (int .i64 0))] [] ⟨rfl, rfl, rfl, rfl, rfl, trivial⟩ trivial ?_
 refine AW.loopF (σ := (List Int) × Int) (τ := (Nat → Bool) × AV × KT × St × (List (List BX))) (fun (m189, t193) (w188, h190, k191, s194, Ls195) => (h190.one = true) ∧ (HS ex true s s194 (([⟨some b1, [(int .i64 p3), (int .i64 p4), (sl z6 f7 e8), h190, (int .i64 p14), (int .i64 p15), (sl z17 f18 e19), h21, h25, (int .i64 p29), (int .i64 p30), (sl z32 f33 e34), (sl z37 f38 e39), (sl z42 f43 e44), (sl z47 f48 e49), (sl z52 f53 e54)], w188⟩] : List BX) ++ List.flatten Ls195)) ∧ (AllG [OS oE2 h190 k191 m189, OS oE2 h21 k22 p24, OS oE90 h25 k26 p28] Ls195)) (fun (m189, t193) (w188, h190, k191, s194, Ls195) tm os => ⟨updL tm [(0, (ptr b1 0)), (3, (eptr [(int .i64 p1_56.First), (sl z57 f58 e59)] 0)), (4, (ptr b1 0)), (13, (int .i64 y61)), (14, (int .i64 t193))], updL os [], s194⟩) ?_ (x := (p13, 0)) (y := (w2, h10, k11, s, Ls0)) h ⟨ho12, hH0, hG0⟩
 clear h
 rintro ⟨m189, t193⟩ ⟨w188, h190, k191, s194, Ls195⟩ tm os ⟨ho192, hH196, hG197⟩ ee1 h hL1 hR1
 unfold impl_works_comeIn_K10_S2 at h
 dsimp only at h
 refine sr ?_
 refine q (bool (decide ((t193 : Int) < y61))) ?_
 refine nl ?_
 refine AW.seq ?_
 rcases oite h with ⟨hc198, h⟩ | ⟨hc198, h⟩
 ·refine AW.condT (congrArg bool hc198) ?_
  refine AW.skip ?_
  refine AW.seq ?_
  refine AW.block ?_
  refine sr ?_
  refine q (int .i64 t193) ?_
  refine aq (int .i64 t193) ?_
  refine ns ?_
  refine q (eptr [(int .i64 p1_56.First), (sl z57 f58 e59)] 0) ?_
  refine lE (int .i64 p1_56.First) ?_
  refine q (int .i64 t193) ?_
  refine q (int .i64 (IntKind.wrap .i64 (p1_56.First + t193))) ?_
  refine aq (int .i64 (IntKind.wrap .i64 (p1_56.First + t193))) ?_
  refine ns ?_
  refine q (int .i64 (IntKind.wrap .i64 (p1_56.First + t193))) ?_
  refine q (ptr b1 0) ?_
  refine q (ptr b1 0) ?_
  refine q (ptr b1 0) ?_
  refine AOps.ldB (i := 0) (v := (int .i64 p3)) hH196 rfl rfl rfl rfl rfl rfl rfl rfl rfl ?_
  refine q (bool (decide ((IntKind.wrap .i64 (p1_56.First + t193) : Int) ≥ p3))) ?_
  refine q (bool (decide ((IntKind.wrap .i64 (p1_56.First + t193) : Int) ≥ p3))) ?_
  obtain ⟨b200, hb, h⟩ := obind h
  refine AOps.split 8 (fun f' => ∃ tm' os', f' = ⟨updL tm' [(0, (ptr b1 0)), (3, (eptr [(int .i64 p1_56.First), (sl z57 f58 e59)] 0)), (4, (ptr b1 0)), (6, (int .i64 (IntKind.wrap .i64 (p1_56.First + t193)))), (13, (int .i64 y61)), (14, (int .i64 t193)), (35, (bool b200))], updL os' [], s194⟩) ?_ ?_
  ·rcases oite hb with ⟨hc199, hb⟩ | ⟨hc199, hb⟩
   ·have h := hb
    refine AOps.know (d := 27) rfl hc199 ?_
    refine q (ptr b1 0) ?_
    refine q (ptr b1 0) ?_
    refine q (ptr b1 3) ?_
    refine AOps.ldB (i := 0) (v := h190) hH196 rfl rfl rfl rfl rfl rfl rfl rfl rfl ?_
    refine q (int .i64 (IntKind.wrap .i64 (p1_56.First + t193))) ?_
    obtain ⟨y201, h202, h⟩ := obind h
    refine AOps.lendP (g := 70) (args := [h190, (int .i64 (IntKind.wrap .i64 (p1_56.First + t193)))]) (ps := [(rL (rI .i64) 1) m189, (rI .i64) (IntKind.wrap .i64 (p1_56.First + t193))]) (p := (rB) y201) rfl rfl rfl rfl rfl rfl rfl (.cons (Fin.up (by decide) (HS.finS hH196 hG197 (j := 0) rfl Sub.here (Or.inl rfl))) (.cons (Fin.of (p := (rI .i64) (IntKind.wrap .i64 (p1_56.First + t193))) .I rfl) .nil)) (fun args' hc => by obtain ⟨_, _, rfl, hv0, hd0⟩ := Cs_cons hc; obtain ⟨z203, f204, e205, rfl, h206⟩ := hv0; obtain ⟨_, _, rfl, hv1, hd1⟩ := Cs_cons hd0; cases hv1; cases Cs_nil hd1; exact slices_Contains_sint64_int64_okN h206 h202 WF.blind) (fun v n hv => by cases hv; rfl) ?_
    intro _ h207
    cases h207
    refine q (bool (!y201)) ?_
    refine q (bool (!y201)) ?_
    refine AOps.resR [(0, (ptr b1 0)), (3, (eptr [(int .i64 p1_56.First), (sl z57 f58 e59)] 0)), (4, (ptr b1 0)), (6, (int .i64 (IntKind.wrap .i64 (p1_56.First + t193)))), (13, (int .i64 y61)), (14, (int .i64 t193)), (35, (bool b200))] [] ?_ ?_ _ ⟨_, _, rfl⟩
    ·exact ⟨rfl, rfl, rfl, rfl, rfl, rfl, congrArg bool (Option.some.inj h), trivial⟩
    exact trivial
   ·refine AOps.know (d := 27) rfl hc199 ?_
    refine sk ?_
    refine sk ?_
    refine sk ?_
    refine sk ?_
    refine sk ?_
    refine sk ?_
    refine sk ?_
    refine q (bool false) ?_
    refine AOps.resR [(0, (ptr b1 0)), (3, (eptr [(int .i64 p1_56.First), (sl z57 f58 e59)] 0)), (4, (ptr b1 0)), (6, (int .i64 (IntKind.wrap .i64 (p1_56.First + t193)))), (13, (int .i64 y61)), (14, (int .i64 t193)), (35, (bool b200))] [] ?_ ?_ _ ⟨_, _, rfl⟩
    ·exact ⟨rfl, rfl, rfl, rfl, rfl, rfl, congrArg bool (Option.some.inj hb), trivial⟩
    exact trivial
  rintro _ ⟨tm, os, rfl⟩
  refine nl ?_
  refine AW.meet (σ := (List Int) × (Nat → Bool) × AV × KT × St × (List (List BX))) (fun (m209, w208, h210, k211, s213, Ls214) tm os => ⟨updL tm [(0, (ptr b1 0)), (3, (eptr [(int .i64 p1_56.First), (sl z57 f58 e59)] 0)), (4, (ptr b1 0)), (13, (int .i64 y61)), (14, (int .i64 t193))], updL os [], s213⟩) (fun (m209, w208, h210, k211, s213, Ls214) => (h210.one = true) ∧ (HS ex true s s213 (([⟨some b1, [(int .i64 p3), (int .i64 p4), (sl z6 f7 e8), h210, (int .i64 p14), (int .i64 p15), (sl z17 f18 e19), h21, h25, (int .i64 p29), (int .i64 p30), (sl z32 f33 e34), (sl z37 f38 e39), (sl z42 f43 e44), (sl z47 f48 e49), (sl z52 f53 e54)], w208⟩] : List BX) ++ List.flatten Ls214)) ∧ (AllG [OS oE2 h210 k211 m209, OS oE2 h21 k22 p24, OS oE90 h25 k26 p28] Ls214) ∧ impl_works_comeIn_K10_J3 t193 m209 = some ee1) ?_ ?_
  ·rintro ⟨m209, w208, h210, k211, s213, Ls214⟩ tm os ⟨ho212, hH215, hG216, h⟩
   unfold impl_works_comeIn_K10_J3 at h
   refine AW.inBlock ?_
   refine AW.region ?_
   refine q (int .i64 (IntKind.wrap .i64 (t193 + 1))) ?_
   refine q (int .i64 (IntKind.wrap .i64 (t193 + 1))) ?_
   refine nl ?_
   cases h
   exact AW.res [(0, (ptr b1 0)), (3, (eptr [(int .i64 p1_56.First), (sl z57 f58 e59)] 0)), (4, (ptr b1 0)), (13, (int .i64 y61)), (14, (int .i64 (IntKind.wrap .i64 (t193 + 1))))] [] ⟨rfl, rfl, rfl, rfl, rfl, trivial⟩ trivial (hL1 _ rfl (w208, h210, k211, s213, Ls214) _ _ ⟨ho212, hH215, hG216⟩)
  intro KJ217
  rcases oite h with ⟨hc218, h⟩ | ⟨hc218, h⟩
  ·refine AW.condT (congrArg bool hc218) ?_
   refine AW.region ?_
   refine q (ptr b1 0) ?_
   refine q (ptr b1 0) ?_
   refine q (ptr b1 0) ?_
   refine q (ptr b1 3) ?_
   refine AOps.ldB (i := 0) (v := h190) hH196 rfl rfl rfl rfl rfl rfl rfl rfl rfl ?_
   refine q (int .i64 (IntKind.wrap .i64 (p1_56.First + t193))) ?_
   refine AOps.makeR rfl rfl rfl rfl rfl rfl (rfl : _ = (sl 1 true [(int .i64 (IntKind.wrap .i64 (p1_56.First + t193)))])) ?_
   obtain ⟨l219, h220, h⟩ := obind h
   refine AOps.appLf (j := 0) (z' := 1) (f' := true) (e' := [(int .i64 (IntKind.wrap .i64 (p1_56.First + t193)))]) hH196 hG197 rfl rfl rfl rfl rfl rfl rfl rfl (appSrc_sl (LR.z (LR.lit (r := rI .i64) (sz := 1) (.cons rfl .nil))) rfl) ⟨by decide, by decide, rfl, rfl⟩ ⟨rfl, rfl⟩ rfl rfl h220 (LR.el (LR.lit (r := rI .i64) (sz := 1) (.cons rfl .nil))).len (fun i => OL.leaf (LR.el (LR.lit (r := rI .i64) (sz := 1) (.cons rfl .nil))) i) ?_
   intro h221 k223 Ls224 s225 ho222 hG226 hH227
   change HS ex true s s225 (([⟨some b1, [(int .i64 p3), (int .i64 p4), (sl z6 f7 e8), h190, (int .i64 p14), (int .i64 p15), (sl z17 f18 e19), h21, h25, (int .i64 p29), (int .i64 p30), (sl z32 f33 e34), (sl z37 f38 e39), (sl z42 f43 e44), (sl z47 f48 e49), (sl z52 f53 e54)], w188⟩] : List BX) ++ List.flatten Ls224) at hH227
   change AllG [OS oE2 h221 k223 l219, OS oE2 h21 k22 p24, OS oE90 h25 k26 p28] Ls224 at hG226
   refine q (ptr b1 0) ?_
   refine q (ptr b1 3) ?_
   refine AOps.stE (i := 0) (v := h221) hH227 hl rfl rfl rfl rfl rfl rfl rfl (one_lay ho222) (one_len ho222) (lt_b rfl) (le_b rfl) rfl ?_
   intro w228 s229 h230 h231 hH232
   rw [AV.cells_one ho222] at hH232
   change HS ex true s s229 (([⟨some b1, [(int .i64 p3), (int .i64 p4), (sl z6 f7 e8), h221, (int .i64 p14), (int .i64 p15), (sl z17 f18 e19), h21, h25, (int .i64 p29), (int .i64 p30), (sl z32 f33 e34), (sl z37 f38 e39), (sl z42 f43 e44), (sl z47 f48 e49), (sl z52 f53 e54)], w228⟩] : List BX) ++ List.flatten Ls224) at hH232
   refine nl ?_
   exact AW.res [(0, (ptr b1 0)), (3, (eptr [(int .i64 p1_56.First), (sl z57 f58 e59)] 0)), (4, (ptr b1 0)), (13, (int .i64 y61)), (14, (int .i64 t193))] [] ⟨rfl, rfl, rfl, rfl, rfl, trivial⟩ trivial (KJ217 (l219, w228, h221, k223, s229, Ls224) _ _ ⟨ho222, hH232, hG226, h⟩)
  refine AW.condF (congrArg bool hc218) ?_
  refine AW.skip ?_
  exact AW.res [(0, (ptr b1 0)), (3, (eptr [(int .i64 p1_56.First), (sl z57 f58 e59)] 0)), (4, (ptr b1 0)), (13, (int .i64 y61)), (14, (int .i64 t193))] [] ⟨rfl, rfl, rfl, rfl, rfl, trivial⟩ trivial (KJ217 (m189, w188, h190, k191, s194, Ls195) _ _ ⟨ho192, hH196, hG197, h⟩)
 refine AW.condF (congrArg bool hc198) ?_
 refine AW.exit rfl ?_
 obtain ⟨r233, hm, hx⟩ := omap h
 clear h
 subst hx
 have hx := hR1 _ rfl
 rw [hx] at hm
 have h := hm
 exact AW.res [(0, (ptr b1 0)), (4, (ptr b1 0))] [] ⟨rfl, rfl, trivial⟩ trivial (KJ74 (m189, w188, h190, k191, s194, Ls195) _ _ ⟨ho192, hH196, hG197, h⟩)
theorem impl_works_do_K10_ok {p3 p4 p14 p15 p29 p30 : Int} {p5 p13 p16 p24 : List Int} {p28 : List Parcel} {p31 : List Bool} {p36 : List (List Push)} {p41 : List (List (List Int))} {p46 : List (List Int)} {p51 : List (List UInt8)} {p1_56 : Deed} {b1 z6 z17 z32 z37 z42 z47 z52 : Nat} {w2 : Nat → Bool} {f7 f18 f33 f38 f43 f48 f53 : Bool} {e8 e19 e34 e39 e44 e49 e54 : List AV} {h10 h21 h25 : AV} {k11 k22 k26 : KT} {s : St} (h9 : LR (rI .i64) 1 p5 z6 e8) (ho12 : h10.one = true) (h20 : LR (rI .i64) 1 p16 z17 e19) (ho23 : h21.one = true) (ho27 : h25.one = true) (h35 : LR rB 1 p31 z32 e34) (h40 : LR (rL rPush 2) 1 p36 z37 e39) (h45 : LR (rL (rL (rI .i64) 1) 1) 1 p41 z42 e44) (h50 : LR (rL (rI .i64) 1) 1 p46 z47 e49) (h55 : LR rS 1 p51 z52 e54) {ex : List Nat} {Ls0 : List (List BX)} (hH0 : HS ex true s s (([⟨some b1, [(int .i64 p3), (int .i64 p4), (sl z6 f7 e8), h10, (int .i64 p14), (int .i64 p15), (sl z17 f18 e19), h21, h25, (int .i64 p29), (int .i64 p30), (sl z32 f33 e34), (sl z37 f38 e39), (sl z42 f43 e44), (sl z47 f48 e49), (sl z52 f53 e54)], w2⟩] : List BX) ++ List.flatten Ls0)) (hG0 : AllG [OS oE2 h10 k11 p13, OS oE2 h21 k22 p24, OS oE90 h25 k26 p28] Ls0) (hl : LoOK ex true s) {r : Int × (List Int) × (List Int) × (List Parcel) × Int × Int × (List Int) × Int × Int × (List Int)} (h : impl_works_do_K10 p3 p4 p5 p13 p14 p15 p16 p24 p28 p29 p30 p31 p36 p41 p46 p51 p1_56 = some r) (hs : WF s) : ACall Cf 21 [(ptr b1 0), (agg [(int .i64 p1_56.Kind), (int .i64 p1_56.A), (int .i64 p1_56.B)])] s (fun v _ s' => ∃ (h1' : AV) (k2' : KT) (h4' : AV) (k5' : KT) (h7' : AV) (k8' : KT) (w10' : Nat → Bool) (z11' : Nat) (f12' : Bool) (e13' : List AV) (z15' : Nat) (f16' : Bool) (e17' : List AV) (Ls' : List (List BX)), v = (int .i64 r.1) ∧ HS ex true s s' (([⟨some b1, [(int .i64 r.2.2.2.2.1), (int .i64 r.2.2.2.2.2.1), (sl z11' f12' e13'), h1', (int .i64 r.2.2.2.2.2.2.2.1), (int .i64 r.2.2.2.2.2.2.2.2.1), (sl z15' f16' e17'), h4', h7', (int .i64 p29), (int .i64 p30), (sl z32 f33 e34), (sl z37 f38 e39), (sl z42 f43 e44), (sl z47 f48 e49), (sl z52 f53 e54)], w10'⟩] : List BX) ++ List.flatten Ls') ∧ AllG [OS oE2 h1' k2' r.2.1, OS oE2 h4' k5' r.2.2.1, OS oE90 h7' k8' r.2.2.2.1] Ls' ∧ h1'.one = true ∧ h4'.one = true ∧ h7'.one = true ∧ LR (rI .i64) 1 r.2.2.2.2.2.2.1 z11' e13' ∧ LR (rI .i64) 1 r.2.2.2.2.2.2.2.2.2 z15' e17') true := by
 refine ACall.keepR rfl rfl rfl ?_
 unfold impl_works_do_K10 at h
 refine sr ?_
 refine AOps.makeR rfl rfl rfl rfl rfl rfl (rfl : _ = (eptr [(int .i64 p1_56.Kind), (int .i64 p1_56.A), (int .i64 p1_56.B)] 0)) ?_
 refine q (int .i64 0) ?_
 refine nl ?_
 refine AW.seq ?_
 refine sr ?_
 refine q (eptr [(int .i64 p1_56.Kind), (int .i64 p1_56.A), (int .i64 p1_56.B)] 0) ?_
 refine lE (int .i64 p1_56.Kind) ?_
 refine nl ?_
 refine AW.block ?_
 refine sr ?_
 refine q (bool (p1_56.Kind == 1)) ?_
 refine aq (bool (p1_56.Kind == 1)) ?_
 refine nl ?_
 refine AW.meet (σ := Int × Int × (List Int) × (List Int) × Int × Int × (List Int) × (List Int) × (List Parcel) × (Nat → Bool) × Nat × Bool × (List AV) × AV × KT × Nat × Bool × (List AV) × AV × KT × AV × KT × St × (List (List BX))) (fun (m58, m59, m60, m65, m69, m70, m71, m76, m80, w57, z61, f62, e63, h66, k67, z72, f73, e74, h77, k78, h81, k82, s84, Ls85) tm os => ⟨updL tm [], updL os [], s84⟩) (fun (m58, m59, m60, m65, m69, m70, m71, m76, m80, w57, z61, f62, e63, h66, k67, z72, f73, e74, h77, k78, h81, k82, s84, Ls85) => (LR (rI .i64) 1 m60 z61 e63) ∧ (h66.one = true) ∧ (LR (rI .i64) 1 m71 z72 e74) ∧ (h77.one = true) ∧ (h81.one = true) ∧ (HS ex true s s84 (([⟨some b1, [(int .i64 m58), (int .i64 m59), (sl z61 f62 e63), h66, (int .i64 m69), (int .i64 m70), (sl z72 f73 e74), h77, h81, (int .i64 p29), (int .i64 p30), (sl z32 f33 e34), (sl z37 f38 e39), (sl z42 f43 e44), (sl z47 f48 e49), (sl z52 f53 e54)], w57⟩] : List BX) ++ List.flatten Ls85)) ∧ (AllG [OS oE2 h66 k67 m65, OS oE2 h77 k78 m76, OS oE90 h81 k82 m80] Ls85) ∧ impl_works_do_K10_J1 m58 m59 m60 m65 m69 m70 m71 m76 m80 = some r) ?_ ?_
 ·rintro ⟨m58, m59, m60, m65, m69, m70, m71, m76, m80, w57, z61, f62, e63, h66, k67, z72, f73, e74, h77, k78, h81, k82, s84, Ls85⟩ tm os ⟨h64, ho68, h75, ho79, ho83, hH86, hG87, h⟩
  unfold impl_works_do_K10_J1 at h
  refine AW.inBlock ?_
  refine sr ?_
  refine q (int .i64 0) ?_
  refine nl ?_
  cases h
  exact AW.ret ⟨_, _, rfl, ⟨h66, k67, h77, k78, h81, k82, w57, z61, f62, e63, z72, f73, e74, Ls85, rfl, hH86, hG87, ho68, ho79, ho83, h64, h75⟩⟩
 intro KJ88
 rcases oite h with ⟨hc89, h⟩ | ⟨hc89, h⟩
 ·refine AW.condT (congrArg bool hc89) ?_
  refine AW.seq ?_
  refine AW.block ?_
  refine sr ?_
  refine q (eptr [(int .i64 p1_56.Kind), (int .i64 p1_56.A), (int .i64 p1_56.B)] 1) ?_
  refine lE (int .i64 p1_56.A) ?_
  refine q (eptr [(int .i64 p1_56.Kind), (int .i64 p1_56.A), (int .i64 p1_56.B)] 2) ?_
  refine lE (int .i64 p1_56.B) ?_
  refine q (bool (decide ((p1_56.A : Int) > p1_56.B))) ?_
  refine q (bool (decide ((p1_56.A : Int) > p1_56.B))) ?_
  obtain ⟨b91, hb, h⟩ := obind h
  refine AOps.split 10 (fun f' => ∃ tm' os', f' = ⟨updL tm' [(0, (ptr b1 0)), (3, (eptr [(int .i64 p1_56.Kind), (int .i64 p1_56.A), (int .i64 p1_56.B)] 0)), (68, (bool b91))], updL os' [], s⟩) ?_ ?_
  ·rcases oite hb with ⟨hc90, hb⟩ | ⟨hc90, hb⟩
   ·refine AOps.know (d := 58) rfl hc90 ?_
    refine sk ?_
    refine sk ?_
    refine sk ?_
    refine sk ?_
    refine sk ?_
    refine sk ?_
    refine sk ?_
    refine sk ?_
    refine sk ?_
    refine q (bool true) ?_
    refine AOps.resR [(0, (ptr b1 0)), (3, (eptr [(int .i64 p1_56.Kind), (int .i64 p1_56.A), (int .i64 p1_56.B)] 0)), (68, (bool b91))] [] ?_ ?_ _ ⟨_, _, rfl⟩
    ·exact ⟨rfl, rfl, congrArg bool (Option.some.inj hb), trivial⟩
    exact trivial
   ·have h := hb
    refine AOps.know (d := 58) rfl hc90 ?_
    refine q (eptr [(int .i64 p1_56.Kind), (int .i64 p1_56.A), (int .i64 p1_56.B)] 2) ?_
    refine lE (int .i64 p1_56.B) ?_
    refine q (ptr b1 0) ?_
    refine q (ptr b1 0) ?_
    refine q (ptr b1 9) ?_
    refine q (ptr b1 15) ?_
    refine AOps.ldB (i := 0) (v := (sl z52 f53 e54)) hH0 rfl rfl rfl rfl rfl rfl rfl rfl rfl ?_
    obtain ⟨y92, h93, h⟩ := obind h
    refine AOps.callDP (g := 41) (args := [(sl z52 f53 e54)]) (p := (rI .i64) y92) rfl rfl rfl (impl_size_string_ok h55 h93 ((HS.wf' hH0).still)) (fun v hv => Nice.pure (k := FINK) (p := (rI .i64) y92) .I _ v hv) ?_
    intro _ o95 h94
    cases h94
    refine q (bool (decide ((p1_56.B : Int) ≥ y92))) ?_
    refine q (bool (decide ((p1_56.B : Int) ≥ y92))) ?_
    refine AOps.resR [(0, (ptr b1 0)), (3, (eptr [(int .i64 p1_56.Kind), (int .i64 p1_56.A), (int .i64 p1_56.B)] 0)), (68, (bool b91))] [] ?_ ?_ _ ⟨_, _, rfl⟩
    ·exact ⟨rfl, rfl, congrArg bool (Option.some.inj h), trivial⟩
    exact trivial
  rintro _ ⟨tm, os, rfl⟩
  refine aq (bool b91) ?_
  refine nl ?_
  rcases oite h with ⟨hc96, h⟩ | ⟨hc96, h⟩
  ·refine AW.condT (congrArg bool hc96) ?_
   refine sr ?_
   refine q (int .i64 2) ?_
   refine nl ?_
   cases h
   exact AW.ret ⟨_, _, rfl, ⟨h10, k11, h21, k22, h25, k26, w2, z6, f7, e8, z17, f18, e19, Ls0, rfl, hH0, hG0, ho12, ho23, ho27, h9, h20⟩⟩
  refine AW.condF (congrArg bool hc96) ?_
  refine sr ?_
  refine q (ptr b1 0) ?_
  refine q (ptr b1 0) ?_
  refine q (ptr b1 0) ?_
  refine q (ptr b1 8) ?_
  refine AOps.ldB (i := 0) (v := h25) hH0 rfl rfl rfl rfl rfl rfl rfl rfl rfl ?_
  refine AOps.lenO (j := 2) hG0 rfl Sub.here rfl rfl rfl rfl rfl ?_
  refine q (bool ((p28.length : Int) == 12)) ?_
  refine aq (bool ((p28.length : Int) == 12)) ?_
  refine nl ?_
  rcases oite h with ⟨hc97, h⟩ | ⟨hc97, h⟩
  ·refine AW.condT (congrArg bool hc97) ?_
   refine sr ?_
   refine q (int .i64 3) ?_
   refine nl ?_
   cases h
   exact AW.ret ⟨_, _, rfl, ⟨h10, k11, h21, k22, h25, k26, w2, z6, f7, e8, z17, f18, e19, Ls0, rfl, hH0, hG0, ho12, ho23, ho27, h9, h20⟩⟩
  refine AW.condF (congrArg bool hc97) ?_
  refine AW.skip ?_
  refine AW.inBlock ?_
  refine AW.region ?_
  refine q (ptr b1 0) ?_
  refine q (ptr b1 0) ?_
  refine q (ptr b1 0) ?_
  refine q (ptr b1 0) ?_
  refine q (ptr b1 8) ?_
  refine AOps.ldB (i := 0) (v := h25) hH0 rfl rfl rfl rfl rfl rfl rfl rfl rfl ?_
  refine q (eptr [(int .i64 p1_56.Kind), (int .i64 p1_56.A), (int .i64 p1_56.B)] 1) ?_
  refine lE (int .i64 p1_56.A) ?_
  refine q (ptr b1 0) ?_
  refine q (ptr b1 0) ?_
  refine q (ptr b1 9) ?_
  refine q (ptr b1 15) ?_
  refine AOps.ldB (i := 0) (v := (sl z52 f53 e54)) hH0 rfl rfl rfl rfl rfl rfl rfl rfl rfl ?_
  refine q (eptr [(int .i64 p1_56.Kind), (int .i64 p1_56.A), (int .i64 p1_56.B)] 1) ?_
  refine lE (int .i64 p1_56.A) ?_
  refine q (eptr [(int .i64 p1_56.Kind), (int .i64 p1_56.A), (int .i64 p1_56.B)] 2) ?_
  refine lE (int .i64 p1_56.B) ?_
  refine q (int .i64 (IntKind.wrap .i64 (p1_56.B + 1))) ?_
  obtain ⟨l98, h99, h⟩ := obind h
  obtain ⟨f100, e101, h102, h103⟩ := cut_slLH f53 h55 h99
  refine AOps.pureR rfl rfl rfl h103 rfl (rfl : _ = (sl z52 f100 e101)) ?_
  refine q (agg [(int .i64 p1_56.A), (sl z52 f100 e101)]) ?_
  refine AOps.makeR rfl rfl rfl rfl rfl rfl (rfl : _ = (sl 2 true [(agg [(int .i64 p1_56.A), (sl z52 f100 e101)])])) ?_
  obtain ⟨l104, h105, h⟩ := obind h
  refine AOps.appLf (j := 2) (z' := 2) (f' := true) (e' := [(agg [(int .i64 p1_56.A), (sl z52 f100 e101)])]) hH0 hG0 rfl rfl rfl rfl rfl rfl rfl rfl (appSrc_sl (LR.z (show LR rParcel 2 (([(⟨p1_56.A, l98⟩ : Parcel)] : List Parcel) : List Parcel) 2 [(agg [(int .i64 p1_56.A), (sl z52 f100 e101)])] from LR.lit (r := rParcel) (sz := 2) (.cons ⟨_, rfl, (.cons rfl (.cons ⟨_, _, _, rfl, h102⟩ .nil))⟩ .nil))) rfl) ⟨by decide, by decide, rfl, rfl⟩ ⟨rfl, rfl⟩ rfl rfl h105 (LR.el (show LR rParcel 2 (([(⟨p1_56.A, l98⟩ : Parcel)] : List Parcel) : List Parcel) 2 [(agg [(int .i64 p1_56.A), (sl z52 f100 e101)])] from LR.lit (r := rParcel) (sz := 2) (.cons ⟨_, rfl, (.cons rfl (.cons ⟨_, _, _, rfl, h102⟩ .nil))⟩ .nil))).len (fun i => OL.leaf (LR.el (show LR rParcel 2 (([(⟨p1_56.A, l98⟩ : Parcel)] : List Parcel) : List Parcel) 2 [(agg [(int .i64 p1_56.A), (sl z52 f100 e101)])] from LR.lit (r := rParcel) (sz := 2) (.cons ⟨_, rfl, (.cons rfl (.cons ⟨_, _, _, rfl, h102⟩ .nil))⟩ .nil))) i) ?_
  intro h106 k108 Ls109 s110 ho107 hG111 hH112
  change HS ex true s s110 (([⟨some b1, [(int .i64 p3), (int .i64 p4), (sl z6 f7 e8), h10, (int .i64 p14), (int .i64 p15), (sl z17 f18 e19), h21, h25, (int .i64 p29), (int .i64 p30), (sl z32 f33 e34), (sl z37 f38 e39), (sl z42 f43 e44), (sl z47 f48 e49), (sl z52 f53 e54)], w2⟩] : List BX) ++ List.flatten Ls109) at hH112
  change AllG [OS oE2 h10 k11 p13, OS oE2 h21 k22 p24, OS oE90 h106 k108 l104] Ls109 at hG111
  refine q (ptr b1 0) ?_
  refine q (ptr b1 0) ?_
  refine q (ptr b1 8) ?_
  refine AOps.stE (i := 0) (v := h106) hH112 hl rfl rfl rfl rfl rfl rfl rfl (one_lay ho107) (one_len ho107) (lt_b rfl) (le_b rfl) rfl ?_
  intro w113 s114 h115 h116 hH117
  rw [AV.cells_one ho107] at hH117
  change HS ex true s s114 (([⟨some b1, [(int .i64 p3), (int .i64 p4), (sl z6 f7 e8), h10, (int .i64 p14), (int .i64 p15), (sl z17 f18 e19), h21, h106, (int .i64 p29), (int .i64 p30), (sl z32 f33 e34), (sl z37 f38 e39), (sl z42 f43 e44), (sl z47 f48 e49), (sl z52 f53 e54)], w113⟩] : List BX) ++ List.flatten Ls109) at hH117
  refine nl ?_
  exact AW.res [] [] trivial trivial (KJ88 (p3, p4, p5, p13, p14, p15, p16, p24, l104, w113, z6, f7, e8, h10, k11, z17, f18, e19, h21, k22, h106, k108, s114, Ls109) _ _ ⟨h9, ho12, h20, ho23, ho107, hH117, hG111, h⟩)
 refine AW.condF (congrArg bool hc89) ?_
 refine sr ?_
 refine q (bool (p1_56.Kind == 5)) ?_
 refine aq (bool (p1_56.Kind == 5)) ?_
 refine nl ?_
 rcases oite h with ⟨hc118, h⟩ | ⟨hc118, h⟩
 ·refine AW.condT (congrArg bool hc118) ?_
  refine AW.region ?_
  refine q (ptr b1 0) ?_
  refine q (ptr b1 0) ?_
  refine q (ptr b1 0) ?_
  refine q (ptr b1 0) ?_
  refine q (ptr b1 0) ?_
  refine AOps.ldB (i := 0) (v := (agg [(int .i64 p3), (int .i64 p4), (sl z6 f7 e8), h10])) hH0 rfl rfl rfl rfl rfl rfl rfl rfl rfl ?_
  obtain ⟨y119, h120, h⟩ := obind h
  have hP128 := HS.pop0 hH0
  have hF0 : AllG ([] : List (List BX → Prop)) [] := AllG.nil
  obtain ⟨Ls129, Lf130, hG131, hF132, hP133⟩ := HS.popG hP128 hG0 hF0 (j := 0) rfl
  refine AOps.callF (al := true) (g := 42) (args := [(agg [(int .i64 p3), (int .i64 p4), (sl z6 f7 e8), h10])]) rfl rfl rfl (impl_Desk_copied_K1_ok (d1 := (⟨p3, p4, p5, p13⟩ : Desk)) h9 ho12 (HS.enterK hP133) hF132 (HS.enterLo hP133 hl) h120 (HS.wf' hH0)) ?_
  rintro _ _ s134 ⟨z121, f122, e123, h125, k126, Ls136, rfl, hH137, hG138, hl124, ho127⟩
  have hJ139 := HS.joinK hP133 hH137
  obtain ⟨Ls140, Lf141, hG142, hF143, hP144⟩ := HS.putG hJ139 hG131 hG138 (j := 0) rfl
  obtain ⟨Ls145, Lf146, hG147, hF148, hP149⟩ := HS.pushN hP144 hG142 hF143
  cases hF148
  have hH150 := HS.push0 hP149
  change HS ex true s s134 (([⟨some b1, [(int .i64 p3), (int .i64 p4), (sl z6 f7 e8), h10, (int .i64 p14), (int .i64 p15), (sl z17 f18 e19), h21, h25, (int .i64 p29), (int .i64 p30), (sl z32 f33 e34), (sl z37 f38 e39), (sl z42 f43 e44), (sl z47 f48 e49), (sl z52 f53 e54)], w2⟩] : List BX) ++ List.flatten Ls145) at hH150
  change AllG [OS oE2 h125 k126 y119.Waiting, OS oE2 h10 k11 p13, OS oE2 h21 k22 p24, OS oE90 h25 k26 p28] Ls145 at hG147
  refine q (ptr b1 0) ?_
  refine q (ptr b1 0) ?_
  refine q (ptr b1 4) ?_
  refine AOps.stE (i := 0) (v := (agg [(int .i64 y119.Read), (int .i64 y119.State), (sl z121 f122 e123), h125])) hH150 hl rfl rfl rfl rfl rfl rfl rfl (lay_cons rfl (lay_cons rfl (lay_cons rfl (lay_cons ho127 lay_nil)))) rfl (lt_b rfl) (le_b rfl) rfl ?_
  intro w151 s152 h153 h154 hH155
  change HS ex true s s152 (([⟨some b1, [(int .i64 p3), (int .i64 p4), (sl z6 f7 e8), h10, (int .i64 y119.Read), (int .i64 y119.State), (sl z121 f122 e123), h125, h25, (int .i64 p29), (int .i64 p30), (sl z32 f33 e34), (sl z37 f38 e39), (sl z42 f43 e44), (sl z47 f48 e49), (sl z52 f53 e54)], w151⟩] : List BX) ++ List.flatten Ls145) at hH155
  refine nl ?_
  obtain ⟨Ls156, hG157, hH158⟩ := HS.selEG hH155 hG147 [some 0] [some 1, some 0, some 3]
  change HS ex true s s152 (([⟨some b1, [(int .i64 p3), (int .i64 p4), (sl z6 f7 e8), h10, (int .i64 y119.Read), (int .i64 y119.State), (sl z121 f122 e123), h125, h25, (int .i64 p29), (int .i64 p30), (sl z32 f33 e34), (sl z37 f38 e39), (sl z42 f43 e44), (sl z47 f48 e49), (sl z52 f53 e54)], w151⟩] : List BX) ++ List.flatten Ls156) at hH158
  change AllG [OS oE2 h10 k11 p13, OS oE2 h125 k126 y119.Waiting, OS oE90 h25 k26 p28] Ls156 at hG157
  exact AW.res [] [] trivial trivial (KJ88 (p3, p4, p5, p13, y119.Read, y119.State, y119.Stack, y119.Waiting, p28, w151, z6, f7, e8, h10, k11, z121, f122, e123, h125, k126, h25, k26, s152, Ls156) _ _ ⟨h9, ho12, hl124, ho127, ho27, hH158, hG157, h⟩)
 refine AW.condF (congrArg bool hc118) ?_
 refine sr ?_
 refine q (bool (p1_56.Kind == 6)) ?_
 refine aq (bool (p1_56.Kind == 6)) ?_
 refine nl ?_
 rcases oite h with ⟨hc159, h⟩ | ⟨hc159, h⟩
 ·refine AW.condT (congrArg bool hc159) ?_
  refine AW.region ?_
  refine q (ptr b1 0) ?_
  refine q (ptr b1 0) ?_
  refine q (ptr b1 0) ?_
  refine q (ptr b1 0) ?_
  refine q (ptr b1 4) ?_
  refine AOps.ldB (i := 0) (v := (agg [(int .i64 p14), (int .i64 p15), (sl z17 f18 e19), h21])) hH0 rfl rfl rfl rfl rfl rfl rfl rfl rfl ?_
  obtain ⟨y160, h161, h⟩ := obind h
  have hP169 := HS.pop0 hH0
  have hF0 : AllG ([] : List (List BX → Prop)) [] := AllG.nil
  obtain ⟨Ls170, Lf171, hG172, hF173, hP174⟩ := HS.popG hP169 hG0 hF0 (j := 1) rfl
  refine AOps.callF (al := true) (g := 42) (args := [(agg [(int .i64 p14), (int .i64 p15), (sl z17 f18 e19), h21])]) rfl rfl rfl (impl_Desk_copied_K1_ok (d1 := (⟨p14, p15, p16, p24⟩ : Desk)) h20 ho23 (HS.enterK hP174) hF173 (HS.enterLo hP174 hl) h161 (HS.wf' hH0)) ?_
  rintro _ _ s175 ⟨z162, f163, e164, h166, k167, Ls177, rfl, hH178, hG179, hl165, ho168⟩
  have hJ180 := HS.joinK hP174 hH178
  obtain ⟨Ls181, Lf182, hG183, hF184, hP185⟩ := HS.putG hJ180 hG172 hG179 (j := 1) rfl
  obtain ⟨Ls186, Lf187, hG188, hF189, hP190⟩ := HS.pushN hP185 hG183 hF184
  cases hF189
  have hH191 := HS.push0 hP190
  change HS ex true s s175 (([⟨some b1, [(int .i64 p3), (int .i64 p4), (sl z6 f7 e8), h10, (int .i64 p14), (int .i64 p15), (sl z17 f18 e19), h21, h25, (int .i64 p29), (int .i64 p30), (sl z32 f33 e34), (sl z37 f38 e39), (sl z42 f43 e44), (sl z47 f48 e49), (sl z52 f53 e54)], w2⟩] : List BX) ++ List.flatten Ls186) at hH191
  change AllG [OS oE2 h166 k167 y160.Waiting, OS oE2 h10 k11 p13, OS oE2 h21 k22 p24, OS oE90 h25 k26 p28] Ls186 at hG188
  refine q (ptr b1 0) ?_
  refine q (ptr b1 0) ?_
  refine q (ptr b1 0) ?_
  refine AOps.stE (i := 0) (v := (agg [(int .i64 y160.Read), (int .i64 y160.State), (sl z162 f163 e164), h166])) hH191 hl rfl rfl rfl rfl rfl rfl rfl (lay_cons rfl (lay_cons rfl (lay_cons rfl (lay_cons ho168 lay_nil)))) rfl (lt_b rfl) (le_b rfl) rfl ?_
  intro w192 s193 h194 h195 hH196
  change HS ex true s s193 (([⟨some b1, [(int .i64 y160.Read), (int .i64 y160.State), (sl z162 f163 e164), h166, (int .i64 p14), (int .i64 p15), (sl z17 f18 e19), h21, h25, (int .i64 p29), (int .i64 p30), (sl z32 f33 e34), (sl z37 f38 e39), (sl z42 f43 e44), (sl z47 f48 e49), (sl z52 f53 e54)], w192⟩] : List BX) ++ List.flatten Ls186) at hH196
  refine nl ?_
  obtain ⟨Ls197, hG198, hH199⟩ := HS.selEG hH196 hG188 [some 0] [some 0, some 2, some 3]
  change HS ex true s s193 (([⟨some b1, [(int .i64 y160.Read), (int .i64 y160.State), (sl z162 f163 e164), h166, (int .i64 p14), (int .i64 p15), (sl z17 f18 e19), h21, h25, (int .i64 p29), (int .i64 p30), (sl z32 f33 e34), (sl z37 f38 e39), (sl z42 f43 e44), (sl z47 f48 e49), (sl z52 f53 e54)], w192⟩] : List BX) ++ List.flatten Ls197) at hH199
  change AllG [OS oE2 h166 k167 y160.Waiting, OS oE2 h21 k22 p24, OS oE90 h25 k26 p28] Ls197 at hG198
  exact AW.res [] [] trivial trivial (KJ88 (y160.Read, y160.State, y160.Stack, y160.Waiting, p14, p15, p16, p24, p28, w192, z162, f163, e164, h166, k167, z17, f18, e19, h21, k22, h25, k26, s193, Ls197) _ _ ⟨hl165, ho168, h20, ho23, ho27, hH199, hG198, h⟩)
 refine AW.condF (congrArg bool hc159) ?_
 refine AW.seq ?_
 refine sr ?_
 refine q (eptr [(int .i64 p1_56.Kind), (int .i64 p1_56.A), (int .i64 p1_56.B)] 1) ?_
 refine lE (int .i64 p1_56.A) ?_
 refine q (ptr b1 0) ?_
 refine q (ptr b1 0) ?_
 refine q (ptr b1 0) ?_
 refine q (ptr b1 8) ?_
 refine AOps.ldB (i := 0) (v := h25) hH0 rfl rfl rfl rfl rfl rfl rfl rfl rfl ?_
 obtain ⟨y200, h201, h⟩ := obind h
 refine AOps.lendD (g := 43) (args := [h25]) (ps := [(rL rParcel 2) p28]) (p := (rI .i64) y200) rfl rfl rfl rfl rfl rfl rfl (.cons (Fin.up (by decide) (HS.finSt hH0 hG0 (j := 2) rfl Sub.here)) .nil) (fun args' hc => by obtain ⟨_, _, rfl, hv0, hd0⟩ := Cs_cons hc; obtain ⟨z202, f203, e204, rfl, h205⟩ := hv0; cases Cs_nil hd0; exact impl_size_impl_Parcel_okN h205 h201 WF.blind) (fun v n hv => by cases hv; rfl) (fun v hv => Nice.pure (k := FINK) (p := (rI .i64) y200) .I _ v hv) ?_
 intro _ h206
 cases h206
 refine q (bool (decide ((p1_56.A : Int) ≥ y200))) ?_
 refine nl ?_
 rcases oite h with ⟨hc207, h⟩ | ⟨hc207, h⟩
 ·refine AW.condT (congrArg bool hc207) ?_
  refine sr ?_
  refine q (int .i64 2) ?_
  refine nl ?_
  cases h
  exact AW.ret ⟨_, _, rfl, ⟨h10, k11, h21, k22, h25, k26, w2, z6, f7, e8, z17, f18, e19, Ls0, rfl, hH0, hG0, ho12, ho23, ho27, h9, h20⟩⟩
 refine AW.condF (congrArg bool hc207) ?_
 refine AW.skip ?_
 refine sr ?_
 refine q (ptr b1 0) ?_
 refine q (ptr b1 0) ?_
 refine q (ptr b1 0) ?_
 refine q (ptr b1 8) ?_
 refine AOps.ldB (i := 0) (v := h25) hH0 rfl rfl rfl rfl rfl rfl rfl rfl rfl ?_
 refine q (eptr [(int .i64 p1_56.Kind), (int .i64 p1_56.A), (int .i64 p1_56.B)] 1) ?_
 refine lE (int .i64 p1_56.A) ?_
 obtain ⟨x210, h211, h⟩ := obind h
 refine AOps.idxO (j := 2) hG0 rfl Sub.here h211 rfl rfl rfl rfl rfl rfl rfl rfl rfl ?_
 intro b208 hb209
 refine AOps.ldO (j := 2) (q := 0) hH0 hG0 rfl Sub.here h211 hb209 rfl rfl rfl rfl rfl (lt_b rfl) (le_b rfl) rfl rfl ?_ (fun c B hc => by obtain ⟨⟨_, hr, rfl⟩, rfl⟩ := hc; obtain ⟨_, rfl, h227⟩ := hr; obtain ⟨_, _, rfl, h228, h229⟩ := Cs_cons h227; cases h228; obtain ⟨_, _, rfl, h230, h231⟩ := Cs_cons h229; obtain ⟨z232, f233, e234, rfl, h235⟩ := h230; cases Cs_nil h231; exact ⟨_, rfl⟩)
 intro c212 B213 v214 h215 h216
 obtain ⟨⟨_, h217, rfl⟩, rfl⟩ := h215
 obtain ⟨_, rfl, h218⟩ := h217
 obtain ⟨_, _, rfl, h219, h220⟩ := Cs_cons h218
 cases h219
 obtain ⟨_, _, rfl, h221, h222⟩ := Cs_cons h220
 obtain ⟨z223, f224, e225, rfl, h226⟩ := h221
 cases Cs_nil h222
 cases h216
 refine AOps.allocP rfl rfl rfl rfl ⟨rfl, rfl⟩ rfl ?_
 refine AOps.stP (v := (agg [(int .i64 x210.First), (sl z223 f224 e225)])) rfl rfl rfl rfl rfl rfl rfl rfl rfl (lt_b rfl) rfl ?_
 refine nl ?_
 refine AW.seq ?_
 refine sr ?_
 refine q (eptr [(int .i64 p1_56.Kind), (int .i64 p1_56.A), (int .i64 p1_56.B)] 0) ?_
 refine lE (int .i64 p1_56.Kind) ?_
 refine q (bool (p1_56.Kind != 3)) ?_
 refine nl ?_
 refine AW.meet (σ := (List Parcel) × (Nat → Bool) × AV × KT × St × (List (List BX))) (fun (m237, w236, h238, k239, s241, Ls242) tm os => ⟨updL tm [(0, (ptr b1 0)), (3, (eptr [(int .i64 p1_56.Kind), (int .i64 p1_56.A), (int .i64 p1_56.B)] 0)), (5, (eptr [(int .i64 x210.First), (sl z223 f224 e225)] 0))], updL os [], s241⟩) (fun (m237, w236, h238, k239, s241, Ls242) => (h238.one = true) ∧ (HS ex true s s241 (([⟨some b1, [(int .i64 p3), (int .i64 p4), (sl z6 f7 e8), h10, (int .i64 p14), (int .i64 p15), (sl z17 f18 e19), h21, h238, (int .i64 p29), (int .i64 p30), (sl z32 f33 e34), (sl z37 f38 e39), (sl z42 f43 e44), (sl z47 f48 e49), (sl z52 f53 e54)], w236⟩] : List BX) ++ List.flatten Ls242)) ∧ (AllG [OS oE2 h10 k11 p13, OS oE2 h21 k22 p24, OS oE90 h238 k239 m237] Ls242) ∧ impl_works_do_K10_J2 p3 p4 p5 p13 p14 p15 p16 p24 p29 p30 p31 p36 p41 p46 p51 p1_56 x210 m237 = some r) ?_ ?_
 ·rintro ⟨m237, w236, h238, k239, s241, Ls242⟩ tm os ⟨ho240, hH243, hG244, h⟩
  unfold impl_works_do_K10_J2 at h
  refine sr ?_
  refine q (eptr [(int .i64 p1_56.Kind), (int .i64 p1_56.A), (int .i64 p1_56.B)] 0) ?_
  refine lE (int .i64 p1_56.Kind) ?_
  refine q (bool (p1_56.Kind != 4)) ?_
  refine nl ?_
  rcases oite h with ⟨hc246, h⟩ | ⟨hc246, h⟩
  ·refine AW.condT (congrArg bool hc246) ?_
   refine AW.region ?_
   refine q (ptr b1 0) ?_
   refine lE (agg [(int .i64 x210.First), (sl z223 f224 e225)]) ?_
   obtain ⟨y247, h248, h⟩ := obind h
   have hP257 := HS.pop0 hH243
   have hP258 := HS.popE hP257 (i := 0) (x := ⟨some b1, [(int .i64 p3), (int .i64 p4), (sl z6 f7 e8), h10, (int .i64 p14), (int .i64 p15), (sl z17 f18 e19), h21, h238, (int .i64 p29), (int .i64 p30), (sl z32 f33 e34), (sl z37 f38 e39), (sl z42 f43 e44), (sl z47 f48 e49), (sl z52 f53 e54)], w236⟩) rfl
   have hF0 : AllG ([] : List (List BX → Prop)) [] := AllG.nil
   obtain ⟨Ls259, Lf260, hG261, hF262, hP263⟩ := HS.popG hP258 hG244 hF0 (j := 0) rfl
   obtain ⟨Ls264, Lf265, hG266, hF267, hP268⟩ := HS.popG hP263 hG261 hF262 (j := 1) rfl
   obtain ⟨Ls269, Lf270, hG271, hF272, hP273⟩ := HS.popG hP268 hG266 hF267 (j := 2) rfl
   refine AOps.callF (al := true) (g := 45) (args := [(ptr b1 0), (agg [(int .i64 x210.First), (sl z223 f224 e225)])]) rfl rfl rfl (impl_works_comeIn_K10_ok h9 ho12 h20 ho23 ho240 h35 h40 h45 h50 h55 h226 (HS.enterK hP273) hF272 (HS.enterLo hP273 hl) h248 (HS.wf' hH243)) ?_
   rintro _ _ s274 ⟨h249, k250, w252, z253, f254, e255, Ls276, rfl, hH277, hG278, ho251, h256⟩
   have hJ279 := HS.joinK hP273 hH277
   have hJ280 := HS.pushE hJ279 (i := 0) rfl
   obtain ⟨Ls281, Lf282, hG283, hF284, hP285⟩ := HS.putG hJ280 hG271 hG278 (j := 0) rfl
   obtain ⟨Ls286, Lf287, hG288, hF289, hP290⟩ := HS.putG hP285 hG283 hF284 (j := 1) rfl
   obtain ⟨Ls291, Lf292, hG293, hF294, hP295⟩ := HS.putG hP290 hG288 hF289 (j := 2) rfl
   cases hF294
   have hH296 := HS.push0 hP295
   change HS ex true s s274 (([⟨some b1, [(int .i64 y247.2.2.1), (int .i64 y247.2.2.2.1), (sl z253 f254 e255), h249, (int .i64 p14), (int .i64 p15), (sl z17 f18 e19), h21, h238, (int .i64 p29), (int .i64 p30), (sl z32 f33 e34), (sl z37 f38 e39), (sl z42 f43 e44), (sl z47 f48 e49), (sl z52 f53 e54)], w252⟩] : List BX) ++ List.flatten Ls291) at hH296
   change AllG [OS oE2 h249 k250 y247.2.1, OS oE2 h21 k22 p24, OS oE90 h238 k239 m237] Ls291 at hG293
   refine nl ?_
   exact AW.res [] [] trivial trivial (KJ88 (y247.2.2.1, y247.2.2.2.1, y247.2.2.2.2, y247.2.1, p14, p15, p16, p24, m237, w252, z253, f254, e255, h249, k250, z17, f18, e19, h21, k22, h238, k239, s274, Ls291) _ _ ⟨h256, ho251, h20, ho23, ho240, hH296, hG293, h⟩)
  refine AW.condF (congrArg bool hc246) ?_
  refine AW.skip ?_
  exact AW.res [] [] trivial trivial (KJ88 (p3, p4, p5, p13, p14, p15, p16, p24, m237, w236, z6, f7, e8, h10, k11, z17, f18, e19, h21, k22, h238, k239, s241, Ls242) _ _ ⟨h9, ho12, h20, ho23, ho240, hH243, hG244, h⟩)
 intro KJ245
 rcases oite h with ⟨hc297, h⟩ | ⟨hc297, h⟩
 ·refine AW.condT (congrArg bool hc297) ?_
  refine AW.region ?_
  refine q (ptr b1 0) ?_
  refine q (ptr b1 0) ?_
  refine q (ptr b1 0) ?_
  refine q (ptr b1 0) ?_
  refine q (ptr b1 8) ?_
  refine AOps.ldB (i := 0) (v := h25) hH0 rfl rfl rfl rfl rfl rfl rfl rfl rfl ?_
  refine q (eptr [(int .i64 p1_56.Kind), (int .i64 p1_56.A), (int .i64 p1_56.B)] 1) ?_
  refine lE (int .i64 p1_56.A) ?_
  refine q (eptr [(int .i64 p1_56.Kind), (int .i64 p1_56.A), (int .i64 p1_56.B)] 1) ?_
  refine lE (int .i64 p1_56.A) ?_
  refine q (int .i64 (IntKind.wrap .i64 (p1_56.A + 1))) ?_
  obtain ⟨l298, h299, h⟩ := obind h
  refine AOps.delOE (j := 2) (g := 44) own_leaf90 rfl rfl hH0 hG0 hl rfl h299 rfl rfl rfl ?_
  intro h300 k302 Ls303 s304 ho301 hG305 hH306
  change HS ex true s s304 (([⟨some b1, [(int .i64 p3), (int .i64 p4), (sl z6 f7 e8), h10, (int .i64 p14), (int .i64 p15), (sl z17 f18 e19), h21, h25, (int .i64 p29), (int .i64 p30), (sl z32 f33 e34), (sl z37 f38 e39), (sl z42 f43 e44), (sl z47 f48 e49), (sl z52 f53 e54)], w2⟩] : List BX) ++ List.flatten Ls303) at hH306
  change AllG [OS oE2 h10 k11 p13, OS oE2 h21 k22 p24, OS oE90 h300 k302 l298] Ls303 at hG305
  refine q (ptr b1 0) ?_
  refine q (ptr b1 0) ?_
  refine q (ptr b1 8) ?_
  refine AOps.stE (i := 0) (v := h300) hH306 hl rfl rfl rfl rfl rfl rfl rfl (one_lay ho301) (one_len ho301) (lt_b rfl) (le_b rfl) rfl ?_
  intro w307 s308 h309 h310 hH311
  rw [AV.cells_one ho301] at hH311
  change HS ex true s s308 (([⟨some b1, [(int .i64 p3), (int .i64 p4), (sl z6 f7 e8), h10, (int .i64 p14), (int .i64 p15), (sl z17 f18 e19), h21, h300, (int .i64 p29), (int .i64 p30), (sl z32 f33 e34), (sl z37 f38 e39), (sl z42 f43 e44), (sl z47 f48 e49), (sl z52 f53 e54)], w307⟩] : List BX) ++ List.flatten Ls303) at hH311
  refine nl ?_
  exact AW.res [(0, (ptr b1 0)), (3, (eptr [(int .i64 p1_56.Kind), (int .i64 p1_56.A), (int .i64 p1_56.B)] 0)), (5, (eptr [(int .i64 x210.First), (sl z223 f224 e225)] 0))] [] ⟨rfl, rfl, rfl, trivial⟩ trivial (KJ245 (l298, w307, h300, k302, s308, Ls303) _ _ ⟨ho301, hH311, hG305, h⟩)
 refine AW.condF (congrArg bool hc297) ?_
 refine AW.skip ?_
 exact AW.res [(0, (ptr b1 0)), (3, (eptr [(int .i64 p1_56.Kind), (int .i64 p1_56.A), (int .i64 p1_56.B)] 0)), (5, (eptr [(int .i64 x210.First), (sl z223 f224 e225)] 0))] [] ⟨rfl, rfl, rfl, trivial⟩ trivial (KJ245 (p28, w2, h25, k26, s, Ls0) _ _ ⟨ho27, hH0, hG0, h⟩)
theorem impl_RefusedDeed_ok {v1 : Stream} {deeds22 : List Deed} {z2 z6 z10 z14 z18 z23 : Nat} {f3 f7 f11 f15 f19 f24 : Bool} {e4 e8 e12 e16 e20 e25 : List AV} {s : St} (h5 : LR rB 1 v1.Checker.Accept z2 e4) (h9 : LR (rL rPush 2) 1 v1.Checker.Call z6 e8) (h13 : LR (rL (rL (rI .i64) 1) 1) 1 v1.Checker.Return z10 e12) (h17 : LR (rL (rI .i64) 1) 1 v1.Checker.Inner z14 e16) (h21 : LR rS 1 v1.Pieces z18 e20) (h26 : LR rDeed 3 deeds22 z23 e25) {r : Int × Int × Int} (h : impl_RefusedDeed v1 deeds22 = some r) (hs : WF s) : ACall Cf 9 [(agg [(int .i64 v1.Checker.Stack), (int .i64 v1.Checker.Start), (sl z2 f3 e4), (sl z6 f7 e8), (sl z10 f11 e12), (sl z14 f15 e16), (sl z18 f19 e20)]), (sl z23 f24 e25)] s fun v _ s' => (fun x => rT [(rI .i64) x.1, (rI .i64) x.2.1, (rI .i64) x.2.2]) r v ∧ s' = s := by
 refine ACall.boxes rfl rfl rfl ?_
 have hH0 := HS.g0 (HS.init hs)
 have hG0 := AllG.nil
 have hl : LoOK [] false s := LoOK.nil
 unfold impl_RefusedDeed at h
 refine sr ?_
 refine AOps.makeR rfl rfl rfl rfl rfl rfl (rfl : _ = (eptr [(int .i64 v1.Checker.Stack), (int .i64 v1.Checker.Start), (sl z2 f3 e4), (sl z6 f7 e8), (sl z10 f11 e12), (sl z14 f15 e16), (sl z18 f19 e20)] 0)) ?_
 refine q (int .i64 0) ?_
 refine q (int .i64 0) ?_
 refine q (int .i64 0) ?_
 refine nl ?_
 refine AW.seq ?_
 refine sr ?_
 refine lE (agg [(int .i64 v1.Checker.Stack), (int .i64 v1.Checker.Start), (sl z2 f3 e4), (sl z6 f7 e8), (sl z10 f11 e12), (sl z14 f15 e16), (sl z18 f19 e20)]) ?_
 refine q (sl z23 f24 e25) ?_
 obtain ⟨y27, h28, h⟩ := obind h
 refine AOps.callP (g := 19) (args := [(agg [(int .i64 v1.Checker.Stack), (int .i64 v1.Checker.Start), (sl z2 f3 e4), (sl z6 f7 e8), (sl z10 f11 e12), (sl z14 f15 e16), (sl z18 f19 e20)]), (sl z23 f24 e25)]) (p := (rI .i64) y27) rfl rfl rfl (impl_deedsCode_ok h5 h9 h13 h17 h21 h26 h28 (HS.wf' hH0)) ?_
 intro _ o30 h29
 cases h29
 refine aq (int .i64 y27) ?_
 refine ns ?_
 refine q (int .i64 y27) ?_
 refine q (bool (y27 != 0)) ?_
 refine nl ?_
 rcases oite h with ⟨hc31, h⟩ | ⟨hc31, h⟩
 ·refine AW.condT (congrArg bool hc31) ?_
  refine sr ?_
  refine q (int .i64 y27) ?_
  refine q (int .i64 0) ?_
  refine q (int .i64 0) ?_
  refine aq (int .i64 y27) ?_
  refine nl ?_
  cases h
  exact AW.ret ⟨⟨_, hH0⟩, _, _, rfl, (Fin.T (.cons (Fin.of (p := (rI .i64) 0) .I rfl) (.cons (Fin.of (p := (rI .i64) 0) .I rfl) (.cons (Fin.of (p := (rI .i64) y27) .I rfl) .nil)))).2⟩
 refine AW.condF (congrArg bool hc31) ?_
 refine AW.skip ?_
 refine sr ?_
 refine lE (agg [(int .i64 v1.Checker.Stack), (int .i64 v1.Checker.Start), (sl z2 f3 e4), (sl z6 f7 e8), (sl z10 f11 e12), (sl z14 f15 e16), (sl z18 f19 e20)]) ?_
 obtain ⟨y32, h33, h⟩ := obind h
 have hP73 := HS.pop0 hH0
 refine AOps.callF (al := true) (g := 20) (args := [(agg [(int .i64 v1.Checker.Stack), (int .i64 v1.Checker.Start), (sl z2 f3 e4), (sl z6 f7 e8), (sl z10 f11 e12), (sl z14 f15 e16), (sl z18 f19 e20)])]) rfl rfl rfl (impl_newWorks_K0_ok h5 h9 h13 h17 h21  h33 (HS.wf' hH0)) ?_
 rintro _ _ s74 ⟨b34, w35, z36, f37, e38, h40, k41, z43, f44, e45, h47, k48, h50, k51, z53, f54, e55, z57, f58, e59, z61, f62, e63, z65, f66, e67, z69, f70, e71, Ls76, rfl, hH77, hG78, hl39, ho42, hl46, ho49, ho52, hl56, hl60, hl64, hl68, hl72⟩
 have hJ79 := HS.joinK1 hP73 hH77
 have hJ80 := HS.pushNE (x := ⟨some b34, [(int .i64 y32.Plant_.Desk_.Read), (int .i64 y32.Plant_.Desk_.State), (sl z36 f37 e38), h40, (int .i64 y32.Plant_.Saved.Read), (int .i64 y32.Plant_.Saved.State), (sl z43 f44 e45), h47, h50, (int .i64 y32.stream.Checker.Stack), (int .i64 y32.stream.Checker.Start), (sl z53 f54 e55), (sl z57 f58 e59), (sl z61 f62 e63), (sl z65 f66 e67), (sl z69 f70 e71)], w35⟩) hJ79
 obtain ⟨Ls81, Lf82, hG83, hF84, hP85⟩ := HS.pushN hJ80 hG0 hG78
 obtain ⟨Ls86, Lf87, hG88, hF89, hP90⟩ := HS.pushN hP85 hG83 hF84
 obtain ⟨Ls91, Lf92, hG93, hF94, hP95⟩ := HS.pushN hP90 hG88 hF89
 cases hF94
 have hH96 := HS.push0 hP95
 change HS [] false s s74 (([⟨some b34, [(int .i64 y32.Plant_.Desk_.Read), (int .i64 y32.Plant_.Desk_.State), (sl z36 f37 e38), h40, (int .i64 y32.Plant_.Saved.Read), (int .i64 y32.Plant_.Saved.State), (sl z43 f44 e45), h47, h50, (int .i64 y32.stream.Checker.Stack), (int .i64 y32.stream.Checker.Start), (sl z53 f54 e55), (sl z57 f58 e59), (sl z61 f62 e63), (sl z65 f66 e67), (sl z69 f70 e71)], w35⟩] : List BX) ++ List.flatten Ls91) at hH96
 change AllG [OS oE90 h50 k51 y32.Plant_.Wire, OS oE2 h47 k48 y32.Plant_.Saved.Waiting, OS oE2 h40 k41 y32.Plant_.Desk_.Waiting] Ls91 at hG93
 refine aq (ptr b34 0) ?_
 refine nl ?_
 refine AW.seq ?_
 refine sr ?_
 refine q (sl z23 f24 e25) ?_
 refine AOps.p rfl (len_eq h26) ?_
 refine q (int .i64 0) ?_
 refine nl ?_
 refine AW.meet (σ := St × (List (List BX))) (fun (s97, Ls98) tm os => ⟨updL tm [], updL os [], s97⟩) (fun (s97, Ls98) => (HS [] false s s97 (([] : List BX) ++ List.flatten Ls98)) ∧ (AllG [] Ls98) ∧ impl_RefusedDeed_J1 = some r) ?_ ?_
 ·rintro ⟨s97, Ls98⟩ tm os ⟨hH99, hG100, h⟩
  unfold impl_RefusedDeed_J1 at h
  refine sr ?_
  refine q (int .i64 0) ?_
  refine q (int .i64 0) ?_
  refine q (int .i64 6) ?_
  refine nl ?_
  cases h
  exact AW.ret ⟨⟨_, hH99⟩, _, _, rfl, (Fin.T (.cons (Fin.of (p := (rI .i64) 0) .I rfl) (.cons (Fin.of (p := (rI .i64) 0) .I rfl) (.cons (Fin.of (p := (rI .i64) 6) .I rfl) .nil)))).2⟩
 intro KJ101
 refine AW.block ?_
 obtain ⟨Ls212, hG213, hH214⟩ := HS.selEG hH96 hG93 [some 0] [some 2, some 1, some 0]
 change HS [] false s s74 (([⟨some b34, [(int .i64 y32.Plant_.Desk_.Read), (int .i64 y32.Plant_.Desk_.State), (sl z36 f37 e38), h40, (int .i64 y32.Plant_.Saved.Read), (int .i64 y32.Plant_.Saved.State), (sl z43 f44 e45), h47, h50, (int .i64 y32.stream.Checker.Stack), (int .i64 y32.stream.Checker.Start), (sl z53 f54 e55), (sl z57 f58 e59), (sl z61 f62 e63), (sl z65 f66 e67), (sl z69 f70 e71)], w35⟩] : List BX) ++ List.flatten Ls212) at hH214
 change AllG [OS oE2 h40 k41 y32.Plant_.Desk_.Waiting, OS oE2 h47 k48 y32.Plant_.Saved.Waiting, OS oE90 h50 k51 y32.Plant_.Wire] Ls212 at hG213
 refine AW.res [(8, (ptr b34 0)), (20, (sl z23 f24 e25)), (21, (int .i64 (deeds22.length : Int))), (22, (int .i64 0))] [] ⟨rfl, rfl, rfl, rfl, trivial⟩ trivial ?_
 refine AW.loopF (σ := Int × Int × (List Int) × (List Int) × Int × Int × (List Int) × (List Int) × (List Parcel) × Int) (τ := (Nat → Bool) × Nat × Bool × (List AV) × AV × KT × Nat × Bool × (List AV) × AV × KT × AV × KT × St × (List (List BX))) (fun (m103, m104, m105, m110, m114, m115, m116, m121, m125, t129) (w102, z106, f107, e108, h111, k112, z117, f118, e119, h122, k123, h126, k127, s130, Ls131) => (LR (rI .i64) 1 m105 z106 e108) ∧ (h111.one = true) ∧ (LR (rI .i64) 1 m116 z117 e119) ∧ (h122.one = true) ∧ (h126.one = true) ∧ (HS [] false s s130 (([⟨some b34, [(int .i64 m103), (int .i64 m104), (sl z106 f107 e108), h111, (int .i64 m114), (int .i64 m115), (sl z117 f118 e119), h122, h126, (int .i64 y32.stream.Checker.Stack), (int .i64 y32.stream.Checker.Start), (sl z53 f54 e55), (sl z57 f58 e59), (sl z61 f62 e63), (sl z65 f66 e67), (sl z69 f70 e71)], w102⟩] : List BX) ++ List.flatten Ls131)) ∧ (AllG [OS oE2 h111 k112 m110, OS oE2 h122 k123 m121, OS oE90 h126 k127 m125] Ls131)) (fun (m103, m104, m105, m110, m114, m115, m116, m121, m125, t129) (w102, z106, f107, e108, h111, k112, z117, f118, e119, h122, k123, h126, k127, s130, Ls131) tm os => ⟨updL tm [(8, (ptr b34 0)), (20, (sl z23 f24 e25)), (21, (int .i64 (deeds22.length : Int))), (22, (int .i64 t129))], updL os [], s130⟩) ?_ (x := (y32.Plant_.Desk_.Read, y32.Plant_.Desk_.State, y32.Plant_.Desk_.Stack, y32.Plant_.Desk_.Waiting, y32.Plant_.Saved.Read, y32.Plant_.Saved.State, y32.Plant_.Saved.Stack, y32.Plant_.Saved.Waiting, y32.Plant_.Wire, 0)) (y := (w35, z36, f37, e38, h40, k41, z43, f44, e45, h47, k48, h50, k51, s74, Ls212)) h ⟨hl39, ho42, hl46, ho49, ho52, hH214, hG213⟩
 clear h
 rintro ⟨m103, m104, m105, m110, m114, m115, m116, m121, m125, t129⟩ ⟨w102, z106, f107, e108, h111, k112, z117, f118, e119, h122, k123, h126, k127, s130, Ls131⟩ tm os ⟨h109, ho113, h120, ho124, ho128, hH132, hG133⟩ ee1 h hL1 hR1
 unfold impl_RefusedDeed_S1 at h
 dsimp only at h
 refine sr ?_
 refine q (bool (decide ((t129 : Int) < (deeds22.length : Int)))) ?_
 refine nl ?_
 refine AW.seq ?_
 rcases oite h with ⟨hc134, h⟩ | ⟨hc134, h⟩
 ·refine AW.condT (congrArg bool hc134) ?_
  refine AW.skip ?_
  refine AW.seq ?_
  refine AW.block ?_
  refine sr ?_
  refine q (int .i64 t129) ?_
  obtain ⟨x135, h136, h⟩ := obind h
  obtain ⟨v139, h137, h138⟩ := idx_sl h26 h136
  obtain ⟨_, rfl, h140⟩ := h137
  obtain ⟨_, _, rfl, h141, h142⟩ := Cs_cons h140
  cases h141
  obtain ⟨_, _, rfl, h143, h144⟩ := Cs_cons h142
  cases h143
  obtain ⟨_, _, rfl, h145, h146⟩ := Cs_cons h144
  cases h145
  cases Cs_nil h146
  refine AOps.pureR rfl rfl rfl h138 rfl (rfl : _ = (eptr [(int .i64 x135.Kind), (int .i64 x135.A), (int .i64 x135.B)] 0)) ?_
  refine lE (agg [(int .i64 x135.Kind), (int .i64 x135.A), (int .i64 x135.B)]) ?_
  refine AOps.allocP rfl rfl rfl rfl ⟨rfl, rfl⟩ rfl ?_
  refine aq (int .i64 t129) ?_
  refine AOps.stP (v := (agg [(int .i64 x135.Kind), (int .i64 x135.A), (int .i64 x135.B)])) rfl rfl rfl rfl rfl rfl rfl rfl rfl (lt_b rfl) rfl ?_
  refine ns ?_
  refine q (ptr b34 0) ?_
  refine lE (agg [(int .i64 x135.Kind), (int .i64 x135.A), (int .i64 x135.B)]) ?_
  obtain ⟨y147, h148, h⟩ := obind h
  have hP167 := HS.pop0 hH132
  have hP168 := HS.popE hP167 (i := 0) (x := ⟨some b34, [(int .i64 m103), (int .i64 m104), (sl z106 f107 e108), h111, (int .i64 m114), (int .i64 m115), (sl z117 f118 e119), h122, h126, (int .i64 y32.stream.Checker.Stack), (int .i64 y32.stream.Checker.Start), (sl z53 f54 e55), (sl z57 f58 e59), (sl z61 f62 e63), (sl z65 f66 e67), (sl z69 f70 e71)], w102⟩) rfl
  have hF0 : AllG ([] : List (List BX → Prop)) [] := AllG.nil
  obtain ⟨Ls169, Lf170, hG171, hF172, hP173⟩ := HS.popG hP168 hG133 hF0 (j := 0) rfl
  obtain ⟨Ls174, Lf175, hG176, hF177, hP178⟩ := HS.popG hP173 hG171 hF172 (j := 1) rfl
  obtain ⟨Ls179, Lf180, hG181, hF182, hP183⟩ := HS.popG hP178 hG176 hF177 (j := 2) rfl
  refine AOps.callF (al := true) (g := 21) (args := [(ptr b34 0), (agg [(int .i64 x135.Kind), (int .i64 x135.A), (int .i64 x135.B)])]) rfl rfl rfl (impl_works_do_K10_ok h109 ho113 h120 ho124 ho128 hl56 hl60 hl64 hl68 hl72 (HS.enterK hP183) hF182 (HS.enterLo hP183 hl) h148 (HS.wf' hH132)) ?_
  rintro _ _ s184 ⟨h149, k150, h152, k153, h155, k156, w158, z159, f160, e161, z163, f164, e165, Ls186, rfl, hH187, hG188, ho151, ho154, ho157, h162, h166⟩
  have hJ189 := HS.joinK hP183 hH187
  have hJ190 := HS.pushE hJ189 (i := 0) rfl
  obtain ⟨Ls191, Lf192, hG193, hF194, hP195⟩ := HS.putG hJ190 hG181 hG188 (j := 0) rfl
  obtain ⟨Ls196, Lf197, hG198, hF199, hP200⟩ := HS.putG hP195 hG193 hF194 (j := 1) rfl
  obtain ⟨Ls201, Lf202, hG203, hF204, hP205⟩ := HS.putG hP200 hG198 hF199 (j := 2) rfl
  cases hF204
  have hH206 := HS.push0 hP205
  change HS [] false s s184 (([⟨some b34, [(int .i64 y147.2.2.2.2.1), (int .i64 y147.2.2.2.2.2.1), (sl z159 f160 e161), h149, (int .i64 y147.2.2.2.2.2.2.2.1), (int .i64 y147.2.2.2.2.2.2.2.2.1), (sl z163 f164 e165), h152, h155, (int .i64 y32.stream.Checker.Stack), (int .i64 y32.stream.Checker.Start), (sl z53 f54 e55), (sl z57 f58 e59), (sl z61 f62 e63), (sl z65 f66 e67), (sl z69 f70 e71)], w158⟩] : List BX) ++ List.flatten Ls201) at hH206
  change AllG [OS oE2 h149 k150 y147.2.1, OS oE2 h152 k153 y147.2.2.1, OS oE90 h155 k156 y147.2.2.2.1] Ls201 at hG203
  refine aq (int .i64 y147.1) ?_
  refine ns ?_
  refine q (int .i64 y147.1) ?_
  refine q (bool (y147.1 != 0)) ?_
  refine nl ?_
  rcases oite h with ⟨hc207, h⟩ | ⟨hc207, h⟩
  ·refine AW.condT (congrArg bool hc207) ?_
   refine sr ?_
   refine q (int .i64 t129) ?_
   refine q (int .i64 y147.1) ?_
   refine aq (int .i64 t129) ?_
   refine aq (int .i64 y147.1) ?_
   refine q (int .i64 0) ?_
   refine nl ?_
   cases h
   have hr := hR1 _ rfl
   subst hr
   exact AW.ret ⟨⟨_, hH206⟩, _, _, rfl, (Fin.T (.cons (Fin.of (p := (rI .i64) t129) .I rfl) (.cons (Fin.of (p := (rI .i64) y147.1) .I rfl) (.cons (Fin.of (p := (rI .i64) 0) .I rfl) .nil)))).2⟩
  refine AW.condF (congrArg bool hc207) ?_
  refine AW.skip ?_
  refine AW.inBlock ?_
  refine AW.region ?_
  refine q (int .i64 (IntKind.wrap .i64 (t129 + 1))) ?_
  refine q (int .i64 (IntKind.wrap .i64 (t129 + 1))) ?_
  refine nl ?_
  cases h
  exact AW.res [(8, (ptr b34 0)), (20, (sl z23 f24 e25)), (21, (int .i64 (deeds22.length : Int))), (22, (int .i64 (IntKind.wrap .i64 (t129 + 1))))] [] ⟨rfl, rfl, rfl, rfl, trivial⟩ trivial (hL1 _ rfl (w158, z159, f160, e161, h149, k150, z163, f164, e165, h152, k153, h155, k156, s184, Ls201) _ _ ⟨h162, ho151, h166, ho154, ho157, hH206, hG203⟩)
 refine AW.condF (congrArg bool hc134) ?_
 refine AW.exit rfl ?_
 obtain ⟨Ls208, hG209, hH210⟩ := HS.selEG hH132 hG133 [] []
 change HS [] false s s130 (([] : List BX) ++ List.flatten Ls208) at hH210
 change AllG [] Ls208 at hG209
 obtain ⟨r211, hm, hx⟩ := omap h
 clear h
 subst hx
 have hx := hR1 _ rfl
 rw [hx] at hm
 have h := hm
 exact AW.res [] [] trivial trivial (KJ101 (s130, Ls208) _ _ ⟨hH210, hG209, h⟩)
theorem laws_eqBoolS_ok {a1 b6 : List Bool} {z2 z7 : Nat} {f3 f8 : Bool} {e4 e9 : List AV} {s : St} (h5 : LR rB 1 a1 z2 e4) (h10 : LR rB 1 b6 z7 e9) {r : Bool} (h : laws_eqBoolS a1 b6 = some r) (hs : WF s) : ACall Cf 46 [(sl z2 f3 e4), (sl z7 f8 e9)] s fun v _ s' => (rB) r v ∧ s' = s := by
 refine ACall.pure rfl rfl rfl .B ?_
 have hWF := hs.lo'
 unfold laws_eqBoolS at h
 refine sr ?_
 refine q (bool false) ?_
 refine nl ?_
 refine AW.seq ?_
 refine sr ?_
 refine q (sl z2 f3 e4) ?_
 refine AOps.p rfl (len_eq h5) ?_
 refine q (sl z7 f8 e9) ?_
 refine AOps.p rfl (len_eq h10) ?_
 refine q (bool ((a1.length : Int) != (b6.length : Int))) ?_
 refine nl ?_
 rcases oite h with ⟨hc11, h⟩ | ⟨hc11, h⟩
 ·refine AW.condT (congrArg bool hc11) ?_
  refine sr ?_
  refine q (bool false) ?_
  refine nl ?_
  cases h
  exact AW.ret ⟨rfl, _, _, rfl, rfl⟩
 refine AW.condF (congrArg bool hc11) ?_
 refine AW.skip ?_
 refine AW.seq ?_
 refine sr ?_
 refine q (int .i64 0) ?_
 refine nl ?_
 refine AW.meet (σ := Unit) (fun _ tm os => ⟨updL tm [], updL os [], { s with lo := s.n }⟩) (fun _ => laws_eqBoolS_J1 = some r) ?_ ?_
 ·rintro _ tm os h
  unfold laws_eqBoolS_J1 at h
  refine sr ?_
  refine q (bool true) ?_
  refine nl ?_
  cases h
  exact AW.ret ⟨rfl, _, _, rfl, rfl⟩
 intro KJ12
 refine AW.block ?_
 refine AW.res [(0, (sl z2 f3 e4)), (1, (sl z7 f8 e9)), (5, (int .i64 0))] [] ⟨rfl, rfl, rfl, trivial⟩ trivial ?_
 refine AW.loopF (σ := Int) (τ := Unit) (fun i13 _ => True) (fun i13 _ tm os => ⟨updL tm [(0, (sl z2 f3 e4)), (1, (sl z7 f8 e9)), (5, (int .i64 i13))], updL os [], { s with lo := s.n }⟩) ?_ (x := (0)) (y := ()) h trivial
 clear h
 rintro i13 _ tm os - ee1 h hL1 hR1
 unfold laws_eqBoolS_S1 at h
 refine AW.seq ?_
 refine sr ?_
 refine q (int .i64 i13) ?_
 refine q (sl z2 f3 e4) ?_
 refine AOps.p rfl (len_eq h5) ?_
 refine q (bool (decide ((i13 : Int) < (a1.length : Int)))) ?_
 refine nl ?_
 rcases oite h with ⟨hc14, h⟩ | ⟨hc14, h⟩
 ·refine AW.condT (congrArg bool hc14) ?_
  refine AW.skip ?_
  refine AW.seq ?_
  refine AW.block ?_
  refine sr ?_
  refine q (sl z2 f3 e4) ?_
  refine q (int .i64 i13) ?_
  obtain ⟨x15, h16, h⟩ := obind h
  obtain ⟨v19, h17, h18⟩ := idx_sl h5 h16
  cases h17
  refine AOps.pureR rfl rfl rfl h18 rfl (rfl : _ = (eptr [(bool x15)] 0)) ?_
  refine lE (bool x15) ?_
  refine q (sl z7 f8 e9) ?_
  refine q (int .i64 i13) ?_
  obtain ⟨x20, h21, h⟩ := obind h
  obtain ⟨v24, h22, h23⟩ := idx_sl h10 h21
  cases h22
  refine AOps.pureR rfl rfl rfl h23 rfl (rfl : _ = (eptr [(bool x20)] 0)) ?_
  refine lE (bool x20) ?_
  refine q (bool (!(x15 == x20))) ?_
  refine nl ?_
  rcases oite h with ⟨hc25, h⟩ | ⟨hc25, h⟩
  ·refine AW.condT (congrArg bool hc25) ?_
   refine sr ?_
   refine q (bool false) ?_
   refine nl ?_
   cases h
   have hr := hR1 _ rfl
   subst hr
   exact AW.ret ⟨rfl, _, _, rfl, rfl⟩
  refine AW.condF (congrArg bool hc25) ?_
  refine AW.skip ?_
  refine AW.inBlock ?_
  refine AW.region ?_
  refine q (int .i64 i13) ?_
  refine q (int .i64 (IntKind.wrap .i64 (i13 + 1))) ?_
  refine aq (int .i64 (IntKind.wrap .i64 (i13 + 1))) ?_
  refine nl ?_
  cases h
  exact AW.res [(0, (sl z2 f3 e4)), (1, (sl z7 f8 e9)), (5, (int .i64 (IntKind.wrap .i64 (i13 + 1))))] [] ⟨rfl, rfl, rfl, trivial⟩ trivial (hL1 _ rfl () _ _ trivial)
 refine AW.condF (congrArg bool hc14) ?_
 refine AW.exit rfl ?_
 obtain ⟨r26, hm, hx⟩ := omap h
 clear h
 subst hx
 have hx := hR1 _ rfl
 rw [hx] at hm
 have h := hm
 exact AW.res [] [] trivial trivial (KJ12 () _ _ h)
theorem laws_eqPush_ok {a1 b2 : Push} {s : St} {r : Bool} (h : laws_eqPush a1 b2 = some r) (hs : WF s) : ACall Cf 100 [(agg [(int .i64 a1.To), (int .i64 a1.Put)]), (agg [(int .i64 b2.To), (int .i64 b2.Put)])] s fun v _ s' => (rB) r v ∧ s' = s := by
 refine ACall.pure rfl rfl rfl .B ?_
 have hWF := hs.lo'
 unfold laws_eqPush at h
 refine sr ?_
 refine AOps.makeR rfl rfl rfl rfl rfl rfl (rfl : _ = (eptr [(int .i64 a1.To), (int .i64 a1.Put)] 0)) ?_
 refine AOps.makeR rfl rfl rfl rfl rfl rfl (rfl : _ = (eptr [(int .i64 b2.To), (int .i64 b2.Put)] 0)) ?_
 refine q (bool false) ?_
 refine nl ?_
 refine AW.seq ?_
 refine sr ?_
 refine q (eptr [(int .i64 a1.To), (int .i64 a1.Put)] 0) ?_
 refine lE (int .i64 a1.To) ?_
 refine q (eptr [(int .i64 b2.To), (int .i64 b2.Put)] 0) ?_
 refine lE (int .i64 b2.To) ?_
 refine q (bool (a1.To != b2.To)) ?_
 refine nl ?_
 rcases oite h with ⟨hc3, h⟩ | ⟨hc3, h⟩
 ·refine AW.condT (congrArg bool hc3) ?_
  refine sr ?_
  refine q (bool false) ?_
  refine nl ?_
  cases h
  exact AW.ret ⟨rfl, _, _, rfl, rfl⟩
 refine AW.condF (congrArg bool hc3) ?_
 refine AW.skip ?_
 refine AW.seq ?_
 refine sr ?_
 refine q (eptr [(int .i64 a1.To), (int .i64 a1.Put)] 1) ?_
 refine lE (int .i64 a1.Put) ?_
 refine q (eptr [(int .i64 b2.To), (int .i64 b2.Put)] 1) ?_
 refine lE (int .i64 b2.Put) ?_
 refine q (bool (a1.Put != b2.Put)) ?_
 refine nl ?_
 rcases oite h with ⟨hc4, h⟩ | ⟨hc4, h⟩
 ·refine AW.condT (congrArg bool hc4) ?_
  refine sr ?_
  refine q (bool false) ?_
  refine nl ?_
  cases h
  exact AW.ret ⟨rfl, _, _, rfl, rfl⟩
 refine AW.condF (congrArg bool hc4) ?_
 refine AW.skip ?_
 refine sr ?_
 refine q (bool true) ?_
 refine nl ?_
 cases h
 exact AW.ret ⟨rfl, _, _, rfl, rfl⟩
theorem laws_eqPushS_ok {a1 b6 : List Push} {z2 z7 : Nat} {f3 f8 : Bool} {e4 e9 : List AV} {s : St} (h5 : LR rPush 2 a1 z2 e4) (h10 : LR rPush 2 b6 z7 e9) {r : Bool} (h : laws_eqPushS a1 b6 = some r) (hs : WF s) : ACall Cf 73 [(sl z2 f3 e4), (sl z7 f8 e9)] s fun v _ s' => (rB) r v ∧ s' = s := by
 refine ACall.pure rfl rfl rfl .B ?_
 have hWF := hs.lo'
 unfold laws_eqPushS at h
 refine sr ?_
 refine q (bool false) ?_
 refine nl ?_
 refine AW.seq ?_
 refine sr ?_
 refine q (sl z2 f3 e4) ?_
 refine AOps.p rfl (len_eq h5) ?_
 refine q (sl z7 f8 e9) ?_
 refine AOps.p rfl (len_eq h10) ?_
 refine q (bool ((a1.length : Int) != (b6.length : Int))) ?_
 refine nl ?_
 rcases oite h with ⟨hc11, h⟩ | ⟨hc11, h⟩
 ·refine AW.condT (congrArg bool hc11) ?_
  refine sr ?_
  refine q (bool false) ?_
  refine nl ?_
  cases h
  exact AW.ret ⟨rfl, _, _, rfl, rfl⟩
 refine AW.condF (congrArg bool hc11) ?_
 refine AW.skip ?_
 refine AW.seq ?_
 refine sr ?_
 refine q (int .i64 0) ?_
 refine nl ?_
 refine AW.meet (σ := Unit) (fun _ tm os => ⟨updL tm [], updL os [], { s with lo := s.n }⟩) (fun _ => laws_eqPushS_J1 = some r) ?_ ?_
 ·rintro _ tm os h
  unfold laws_eqPushS_J1 at h
  refine sr ?_
  refine q (bool true) ?_
  refine nl ?_
  cases h
  exact AW.ret ⟨rfl, _, _, rfl, rfl⟩
 intro KJ12
 refine AW.block ?_
 refine AW.res [(0, (sl z2 f3 e4)), (1, (sl z7 f8 e9)), (5, (int .i64 0))] [] ⟨rfl, rfl, rfl, trivial⟩ trivial ?_
 refine AW.loopF (σ := Int) (τ := Unit) (fun i13 _ => True) (fun i13 _ tm os => ⟨updL tm [(0, (sl z2 f3 e4)), (1, (sl z7 f8 e9)), (5, (int .i64 i13))], updL os [], { s with lo := s.n }⟩) ?_ (x := (0)) (y := ()) h trivial
 clear h
 rintro i13 _ tm os - ee1 h hL1 hR1
 unfold laws_eqPushS_S1 at h
 refine AW.seq ?_
 refine sr ?_
 refine q (int .i64 i13) ?_
 refine q (sl z2 f3 e4) ?_
 refine AOps.p rfl (len_eq h5) ?_
 refine q (bool (decide ((i13 : Int) < (a1.length : Int)))) ?_
 refine nl ?_
 rcases oite h with ⟨hc14, h⟩ | ⟨hc14, h⟩
 ·refine AW.condT (congrArg bool hc14) ?_
  refine AW.skip ?_
  refine AW.seq ?_
  refine AW.block ?_
  refine sr ?_
  refine q (sl z2 f3 e4) ?_
  refine q (int .i64 i13) ?_
  obtain ⟨x15, h16, h⟩ := obind h
  obtain ⟨v19, h17, h18⟩ := idx_sl h5 h16
  obtain ⟨_, rfl, h20⟩ := h17
  obtain ⟨_, _, rfl, h21, h22⟩ := Cs_cons h20
  cases h21
  obtain ⟨_, _, rfl, h23, h24⟩ := Cs_cons h22
  cases h23
  cases Cs_nil h24
  refine AOps.pureR rfl rfl rfl h18 rfl (rfl : _ = (eptr [(int .i64 x15.To), (int .i64 x15.Put)] 0)) ?_
  refine lE (agg [(int .i64 x15.To), (int .i64 x15.Put)]) ?_
  refine q (sl z7 f8 e9) ?_
  refine q (int .i64 i13) ?_
  obtain ⟨x25, h26, h⟩ := obind h
  obtain ⟨v29, h27, h28⟩ := idx_sl h10 h26
  obtain ⟨_, rfl, h30⟩ := h27
  obtain ⟨_, _, rfl, h31, h32⟩ := Cs_cons h30
  cases h31
  obtain ⟨_, _, rfl, h33, h34⟩ := Cs_cons h32
  cases h33
  cases Cs_nil h34
  refine AOps.pureR rfl rfl rfl h28 rfl (rfl : _ = (eptr [(int .i64 x25.To), (int .i64 x25.Put)] 0)) ?_
  refine lE (agg [(int .i64 x25.To), (int .i64 x25.Put)]) ?_
  obtain ⟨y35, h36, h⟩ := obind h
  refine AOps.callDP (g := 100) (args := [(agg [(int .i64 x15.To), (int .i64 x15.Put)]), (agg [(int .i64 x25.To), (int .i64 x25.Put)])]) (p := (rB) y35) rfl rfl rfl (laws_eqPush_ok  h36 hWF.still) (fun v hv => Nice.pure (k := FINK) (p := (rB) y35) .B _ v hv) ?_
  intro _ o38 h37
  cases h37
  refine q (bool (!y35)) ?_
  refine nl ?_
  rcases oite h with ⟨hc39, h⟩ | ⟨hc39, h⟩
  ·refine AW.condT (congrArg bool hc39) ?_
   refine sr ?_
   refine q (bool false) ?_
   refine nl ?_
   cases h
   have hr := hR1 _ rfl
   subst hr
   exact AW.ret ⟨rfl, _, _, rfl, rfl⟩
  refine AW.condF (congrArg bool hc39) ?_
  refine AW.skip ?_
  refine AW.inBlock ?_
  refine AW.region ?_
  refine q (int .i64 i13) ?_
  refine q (int .i64 (IntKind.wrap .i64 (i13 + 1))) ?_
  refine aq (int .i64 (IntKind.wrap .i64 (i13 + 1))) ?_
  refine nl ?_
  cases h
  exact AW.res [(0, (sl z2 f3 e4)), (1, (sl z7 f8 e9)), (5, (int .i64 (IntKind.wrap .i64 (i13 + 1))))] [] ⟨rfl, rfl, rfl, trivial⟩ trivial (hL1 _ rfl () _ _ trivial)
 refine AW.condF (congrArg bool hc14) ?_
 refine AW.exit rfl ?_
 obtain ⟨r40, hm, hx⟩ := omap h
 clear h
 subst hx
 have hx := hR1 _ rfl
 rw [hx] at hm
 have h := hm
 exact AW.res [] [] trivial trivial (KJ12 () _ _ h)
theorem laws_eqPushSS_ok {a1 b6 : List (List Push)} {z2 z7 : Nat} {f3 f8 : Bool} {e4 e9 : List AV} {s : St} (h5 : LR (rL rPush 2) 1 a1 z2 e4) (h10 : LR (rL rPush 2) 1 b6 z7 e9) {r : Bool} (h : laws_eqPushSS a1 b6 = some r) (hs : WF s) : ACall Cf 47 [(sl z2 f3 e4), (sl z7 f8 e9)] s fun v _ s' => (rB) r v ∧ s' = s := by
 refine ACall.pure rfl rfl rfl .B ?_
 have hWF := hs.lo'
 unfold laws_eqPushSS at h
 refine sr ?_
 refine q (bool false) ?_
 refine nl ?_
 refine AW.seq ?_
 refine sr ?_
 refine q (sl z2 f3 e4) ?_
 refine AOps.p rfl (len_eq h5) ?_
 refine q (sl z7 f8 e9) ?_
 refine AOps.p rfl (len_eq h10) ?_
 refine q (bool ((a1.length : Int) != (b6.length : Int))) ?_
 refine nl ?_
 rcases oite h with ⟨hc11, h⟩ | ⟨hc11, h⟩
 ·refine AW.condT (congrArg bool hc11) ?_
  refine sr ?_
  refine q (bool false) ?_
  refine nl ?_
  cases h
  exact AW.ret ⟨rfl, _, _, rfl, rfl⟩
 refine AW.condF (congrArg bool hc11) ?_
 refine AW.skip ?_
 refine AW.seq ?_
 refine sr ?_
 refine q (int .i64 0) ?_
 refine nl ?_
 refine AW.meet (σ := Unit) (fun _ tm os => ⟨updL tm [], updL os [], { s with lo := s.n }⟩) (fun _ => laws_eqPushSS_J1 = some r) ?_ ?_
 ·rintro _ tm os h
  unfold laws_eqPushSS_J1 at h
  refine sr ?_
  refine q (bool true) ?_
  refine nl ?_
  cases h
  exact AW.ret ⟨rfl, _, _, rfl, rfl⟩
 intro KJ12
 refine AW.block ?_
 refine AW.res [(0, (sl z2 f3 e4)), (1, (sl z7 f8 e9)), (5, (int .i64 0))] [] ⟨rfl, rfl, rfl, trivial⟩ trivial ?_
 refine AW.loopF (σ := Int) (τ := Unit) (fun i13 _ => True) (fun i13 _ tm os => ⟨updL tm [(0, (sl z2 f3 e4)), (1, (sl z7 f8 e9)), (5, (int .i64 i13))], updL os [], { s with lo := s.n }⟩) ?_ (x := (0)) (y := ()) h trivial
 clear h
 rintro i13 _ tm os - ee1 h hL1 hR1
 unfold laws_eqPushSS_S1 at h
 refine AW.seq ?_
 refine sr ?_
 refine q (int .i64 i13) ?_
 refine q (sl z2 f3 e4) ?_
 refine AOps.p rfl (len_eq h5) ?_
 refine q (bool (decide ((i13 : Int) < (a1.length : Int)))) ?_
 refine nl ?_
 rcases oite h with ⟨hc14, h⟩ | ⟨hc14, h⟩
 ·refine AW.condT (congrArg bool hc14) ?_
  refine AW.skip ?_
  refine AW.seq ?_
  refine AW.block ?_
  refine sr ?_
  refine q (sl z2 f3 e4) ?_
  refine q (int .i64 i13) ?_
  obtain ⟨x15, h16, h⟩ := obind h
  obtain ⟨v19, h17, h18⟩ := idx_sl h5 h16
  obtain ⟨z20, f21, e22, rfl, h23⟩ := h17
  refine AOps.pureR rfl rfl rfl h18 rfl (rfl : _ = (eptr [(sl z20 f21 e22)] 0)) ?_
  refine lE (sl z20 f21 e22) ?_
  refine q (sl z7 f8 e9) ?_
  refine q (int .i64 i13) ?_
  obtain ⟨x24, h25, h⟩ := obind h
  obtain ⟨v28, h26, h27⟩ := idx_sl h10 h25
  obtain ⟨z29, f30, e31, rfl, h32⟩ := h26
  refine AOps.pureR rfl rfl rfl h27 rfl (rfl : _ = (eptr [(sl z29 f30 e31)] 0)) ?_
  refine lE (sl z29 f30 e31) ?_
  obtain ⟨y33, h34, h⟩ := obind h
  refine AOps.callDP (g := 73) (args := [(sl z20 f21 e22), (sl z29 f30 e31)]) (p := (rB) y33) rfl rfl rfl (laws_eqPushS_ok h23 h32 h34 hWF.still) (fun v hv => Nice.pure (k := FINK) (p := (rB) y33) .B _ v hv) ?_
  intro _ o36 h35
  cases h35
  refine q (bool (!y33)) ?_
  refine nl ?_
  rcases oite h with ⟨hc37, h⟩ | ⟨hc37, h⟩
  ·refine AW.condT (congrArg bool hc37) ?_
   refine sr ?_
   refine q (bool false) ?_
   refine nl ?_
   cases h
   have hr := hR1 _ rfl
   subst hr
   exact AW.ret ⟨rfl, _, _, rfl, rfl⟩
  refine AW.condF (congrArg bool hc37) ?_
  refine AW.skip ?_
  refine AW.inBlock ?_
  refine AW.region ?_
  refine q (int .i64 i13) ?_
  refine q (int .i64 (IntKind.wrap .i64 (i13 + 1))) ?_
  refine aq (int .i64 (IntKind.wrap .i64 (i13 + 1))) ?_
  refine nl ?_
  cases h
  exact AW.res [(0, (sl z2 f3 e4)), (1, (sl z7 f8 e9)), (5, (int .i64 (IntKind.wrap .i64 (i13 + 1))))] [] ⟨rfl, rfl, rfl, trivial⟩ trivial (hL1 _ rfl () _ _ trivial)
 refine AW.condF (congrArg bool hc14) ?_
 refine AW.exit rfl ?_
 obtain ⟨r38, hm, hx⟩ := omap h
 clear h
 subst hx
 have hx := hR1 _ rfl
 rw [hx] at hm
 have h := hm
 exact AW.res [] [] trivial trivial (KJ12 () _ _ h)
theorem laws_eqInt64S_ok {a1 b6 : List Int} {z2 z7 : Nat} {f3 f8 : Bool} {e4 e9 : List AV} {s : St} (h5 : LR (rI .i64) 1 a1 z2 e4) (h10 : LR (rI .i64) 1 b6 z7 e9) {r : Bool} (h : laws_eqInt64S a1 b6 = some r) (hs : WF s) : ACall Cf 74 [(sl z2 f3 e4), (sl z7 f8 e9)] s fun v _ s' => (rB) r v ∧ s' = s := by
 refine ACall.pure rfl rfl rfl .B ?_
 have hWF := hs.lo'
 unfold laws_eqInt64S at h
 refine sr ?_
 refine q (bool false) ?_
 refine nl ?_
 refine AW.seq ?_
 refine sr ?_
 refine q (sl z2 f3 e4) ?_
 refine AOps.p rfl (len_eq h5) ?_
 refine q (sl z7 f8 e9) ?_
 refine AOps.p rfl (len_eq h10) ?_
 refine q (bool ((a1.length : Int) != (b6.length : Int))) ?_
 refine nl ?_
 rcases oite h with ⟨hc11, h⟩ | ⟨hc11, h⟩
 ·refine AW.condT (congrArg bool hc11) ?_
  refine sr ?_
  refine q (bool false) ?_
  refine nl ?_
  cases h
  exact AW.ret ⟨rfl, _, _, rfl, rfl⟩
 refine AW.condF (congrArg bool hc11) ?_
 refine AW.skip ?_
 refine AW.seq ?_
 refine sr ?_
 refine q (int .i64 0) ?_
 refine nl ?_
 refine AW.meet (σ := Unit) (fun _ tm os => ⟨updL tm [], updL os [], { s with lo := s.n }⟩) (fun _ => laws_eqInt64S_J1 = some r) ?_ ?_
 ·rintro _ tm os h
  unfold laws_eqInt64S_J1 at h
  refine sr ?_
  refine q (bool true) ?_
  refine nl ?_
  cases h
  exact AW.ret ⟨rfl, _, _, rfl, rfl⟩
 intro KJ12
 refine AW.block ?_
 refine AW.res [(0, (sl z2 f3 e4)), (1, (sl z7 f8 e9)), (5, (int .i64 0))] [] ⟨rfl, rfl, rfl, trivial⟩ trivial ?_
 refine AW.loopF (σ := Int) (τ := Unit) (fun i13 _ => True) (fun i13 _ tm os => ⟨updL tm [(0, (sl z2 f3 e4)), (1, (sl z7 f8 e9)), (5, (int .i64 i13))], updL os [], { s with lo := s.n }⟩) ?_ (x := (0)) (y := ()) h trivial
 clear h
 rintro i13 _ tm os - ee1 h hL1 hR1
 unfold laws_eqInt64S_S1 at h
 refine AW.seq ?_
 refine sr ?_
 refine q (int .i64 i13) ?_
 refine q (sl z2 f3 e4) ?_
 refine AOps.p rfl (len_eq h5) ?_
 refine q (bool (decide ((i13 : Int) < (a1.length : Int)))) ?_
 refine nl ?_
 rcases oite h with ⟨hc14, h⟩ | ⟨hc14, h⟩
 ·refine AW.condT (congrArg bool hc14) ?_
  refine AW.skip ?_
  refine AW.seq ?_
  refine AW.block ?_
  refine sr ?_
  refine q (sl z2 f3 e4) ?_
  refine q (int .i64 i13) ?_
  obtain ⟨x15, h16, h⟩ := obind h
  obtain ⟨v19, h17, h18⟩ := idx_sl h5 h16
  cases h17
  refine AOps.pureR rfl rfl rfl h18 rfl (rfl : _ = (eptr [(int .i64 x15)] 0)) ?_
  refine lE (int .i64 x15) ?_
  refine q (sl z7 f8 e9) ?_
  refine q (int .i64 i13) ?_
  obtain ⟨x20, h21, h⟩ := obind h
  obtain ⟨v24, h22, h23⟩ := idx_sl h10 h21
  cases h22
  refine AOps.pureR rfl rfl rfl h23 rfl (rfl : _ = (eptr [(int .i64 x20)] 0)) ?_
  refine lE (int .i64 x20) ?_
  refine q (bool (x15 != x20)) ?_
  refine nl ?_
  rcases oite h with ⟨hc25, h⟩ | ⟨hc25, h⟩
  ·refine AW.condT (congrArg bool hc25) ?_
   refine sr ?_
   refine q (bool false) ?_
   refine nl ?_
   cases h
   have hr := hR1 _ rfl
   subst hr
   exact AW.ret ⟨rfl, _, _, rfl, rfl⟩
  refine AW.condF (congrArg bool hc25) ?_
  refine AW.skip ?_
  refine AW.inBlock ?_
  refine AW.region ?_
  refine q (int .i64 i13) ?_
  refine q (int .i64 (IntKind.wrap .i64 (i13 + 1))) ?_
  refine aq (int .i64 (IntKind.wrap .i64 (i13 + 1))) ?_
  refine nl ?_
  cases h
  exact AW.res [(0, (sl z2 f3 e4)), (1, (sl z7 f8 e9)), (5, (int .i64 (IntKind.wrap .i64 (i13 + 1))))] [] ⟨rfl, rfl, rfl, trivial⟩ trivial (hL1 _ rfl () _ _ trivial)
 refine AW.condF (congrArg bool hc14) ?_
 refine AW.exit rfl ?_
 obtain ⟨r26, hm, hx⟩ := omap h
 clear h
 subst hx
 have hx := hR1 _ rfl
 rw [hx] at hm
 have h := hm
 exact AW.res [] [] trivial trivial (KJ12 () _ _ h)
theorem laws_eqInt64SS_ok {a1 b6 : List (List Int)} {z2 z7 : Nat} {f3 f8 : Bool} {e4 e9 : List AV} {s : St} (h5 : LR (rL (rI .i64) 1) 1 a1 z2 e4) (h10 : LR (rL (rI .i64) 1) 1 b6 z7 e9) {r : Bool} (h : laws_eqInt64SS a1 b6 = some r) (hs : WF s) : ACall Cf 49 [(sl z2 f3 e4), (sl z7 f8 e9)] s fun v _ s' => (rB) r v ∧ s' = s := by
 refine ACall.pure rfl rfl rfl .B ?_
 have hWF := hs.lo'
 unfold laws_eqInt64SS at h
 refine sr ?_
 refine q (bool false) ?_
 refine nl ?_
 refine AW.seq ?_
 refine sr ?_
 refine q (sl z2 f3 e4) ?_
 refine AOps.p rfl (len_eq h5) ?_
 refine q (sl z7 f8 e9) ?_
 refine AOps.p rfl (len_eq h10) ?_
 refine q (bool ((a1.length : Int) != (b6.length : Int))) ?_
 refine nl ?_
 rcases oite h with ⟨hc11, h⟩ | ⟨hc11, h⟩
 ·refine AW.condT (congrArg bool hc11) ?_
  refine sr ?_
  refine q (bool false) ?_
  refine nl ?_
  cases h
  exact AW.ret ⟨rfl, _, _, rfl, rfl⟩
 refine AW.condF (congrArg bool hc11) ?_
 refine AW.skip ?_
 refine AW.seq ?_
 refine sr ?_
 refine q (int .i64 0) ?_
 refine nl ?_
 refine AW.meet (σ := Unit) (fun _ tm os => ⟨updL tm [], updL os [], { s with lo := s.n }⟩) (fun _ => laws_eqInt64SS_J1 = some r) ?_ ?_
 ·rintro _ tm os h
  unfold laws_eqInt64SS_J1 at h
  refine sr ?_
  refine q (bool true) ?_
  refine nl ?_
  cases h
  exact AW.ret ⟨rfl, _, _, rfl, rfl⟩
 intro KJ12
 refine AW.block ?_
 refine AW.res [(0, (sl z2 f3 e4)), (1, (sl z7 f8 e9)), (5, (int .i64 0))] [] ⟨rfl, rfl, rfl, trivial⟩ trivial ?_
 refine AW.loopF (σ := Int) (τ := Unit) (fun i13 _ => True) (fun i13 _ tm os => ⟨updL tm [(0, (sl z2 f3 e4)), (1, (sl z7 f8 e9)), (5, (int .i64 i13))], updL os [], { s with lo := s.n }⟩) ?_ (x := (0)) (y := ()) h trivial
 clear h
 rintro i13 _ tm os - ee1 h hL1 hR1
 unfold laws_eqInt64SS_S1 at h
 refine AW.seq ?_
 refine sr ?_
 refine q (int .i64 i13) ?_
 refine q (sl z2 f3 e4) ?_
 refine AOps.p rfl (len_eq h5) ?_
 refine q (bool (decide ((i13 : Int) < (a1.length : Int)))) ?_
 refine nl ?_
 rcases oite h with ⟨hc14, h⟩ | ⟨hc14, h⟩
 ·refine AW.condT (congrArg bool hc14) ?_
  refine AW.skip ?_
  refine AW.seq ?_
  refine AW.block ?_
  refine sr ?_
  refine q (sl z2 f3 e4) ?_
  refine q (int .i64 i13) ?_
  obtain ⟨x15, h16, h⟩ := obind h
  obtain ⟨v19, h17, h18⟩ := idx_sl h5 h16
  obtain ⟨z20, f21, e22, rfl, h23⟩ := h17
  refine AOps.pureR rfl rfl rfl h18 rfl (rfl : _ = (eptr [(sl z20 f21 e22)] 0)) ?_
  refine lE (sl z20 f21 e22) ?_
  refine q (sl z7 f8 e9) ?_
  refine q (int .i64 i13) ?_
  obtain ⟨x24, h25, h⟩ := obind h
  obtain ⟨v28, h26, h27⟩ := idx_sl h10 h25
  obtain ⟨z29, f30, e31, rfl, h32⟩ := h26
  refine AOps.pureR rfl rfl rfl h27 rfl (rfl : _ = (eptr [(sl z29 f30 e31)] 0)) ?_
  refine lE (sl z29 f30 e31) ?_
  obtain ⟨y33, h34, h⟩ := obind h
  refine AOps.callDP (g := 74) (args := [(sl z20 f21 e22), (sl z29 f30 e31)]) (p := (rB) y33) rfl rfl rfl (laws_eqInt64S_ok h23 h32 h34 hWF.still) (fun v hv => Nice.pure (k := FINK) (p := (rB) y33) .B _ v hv) ?_
  intro _ o36 h35
  cases h35
  refine q (bool (!y33)) ?_
  refine nl ?_
  rcases oite h with ⟨hc37, h⟩ | ⟨hc37, h⟩
  ·refine AW.condT (congrArg bool hc37) ?_
   refine sr ?_
   refine q (bool false) ?_
   refine nl ?_
   cases h
   have hr := hR1 _ rfl
   subst hr
   exact AW.ret ⟨rfl, _, _, rfl, rfl⟩
  refine AW.condF (congrArg bool hc37) ?_
  refine AW.skip ?_
  refine AW.inBlock ?_
  refine AW.region ?_
  refine q (int .i64 i13) ?_
  refine q (int .i64 (IntKind.wrap .i64 (i13 + 1))) ?_
  refine aq (int .i64 (IntKind.wrap .i64 (i13 + 1))) ?_
  refine nl ?_
  cases h
  exact AW.res [(0, (sl z2 f3 e4)), (1, (sl z7 f8 e9)), (5, (int .i64 (IntKind.wrap .i64 (i13 + 1))))] [] ⟨rfl, rfl, rfl, trivial⟩ trivial (hL1 _ rfl () _ _ trivial)
 refine AW.condF (congrArg bool hc14) ?_
 refine AW.exit rfl ?_
 obtain ⟨r38, hm, hx⟩ := omap h
 clear h
 subst hx
 have hx := hR1 _ rfl
 rw [hx] at hm
 have h := hm
 exact AW.res [] [] trivial trivial (KJ12 () _ _ h)
theorem laws_eqInt64SSS_ok {a1 b6 : List (List (List Int))} {z2 z7 : Nat} {f3 f8 : Bool} {e4 e9 : List AV} {s : St} (h5 : LR (rL (rL (rI .i64) 1) 1) 1 a1 z2 e4) (h10 : LR (rL (rL (rI .i64) 1) 1) 1 b6 z7 e9) {r : Bool} (h : laws_eqInt64SSS a1 b6 = some r) (hs : WF s) : ACall Cf 48 [(sl z2 f3 e4), (sl z7 f8 e9)] s fun v _ s' => (rB) r v ∧ s' = s := by
 refine ACall.pure rfl rfl rfl .B ?_
 have hWF := hs.lo'
 unfold laws_eqInt64SSS at h
 refine sr ?_
 refine q (bool false) ?_
 refine nl ?_
 refine AW.seq ?_
 refine sr ?_
 refine q (sl z2 f3 e4) ?_
 refine AOps.p rfl (len_eq h5) ?_
 refine q (sl z7 f8 e9) ?_
 refine AOps.p rfl (len_eq h10) ?_
 refine q (bool ((a1.length : Int) != (b6.length : Int))) ?_
 refine nl ?_
 rcases oite h with ⟨hc11, h⟩ | ⟨hc11, h⟩
 ·refine AW.condT (congrArg bool hc11) ?_
  refine sr ?_
  refine q (bool false) ?_
  refine nl ?_
  cases h
  exact AW.ret ⟨rfl, _, _, rfl, rfl⟩
 refine AW.condF (congrArg bool hc11) ?_
 refine AW.skip ?_
 refine AW.seq ?_
 refine sr ?_
 refine q (int .i64 0) ?_
 refine nl ?_
 refine AW.meet (σ := Unit) (fun _ tm os => ⟨updL tm [], updL os [], { s with lo := s.n }⟩) (fun _ => laws_eqInt64SSS_J1 = some r) ?_ ?_
 ·rintro _ tm os h
  unfold laws_eqInt64SSS_J1 at h
  refine sr ?_
  refine q (bool true) ?_
  refine nl ?_
  cases h
  exact AW.ret ⟨rfl, _, _, rfl, rfl⟩
 intro KJ12
 refine AW.block ?_
 refine AW.res [(0, (sl z2 f3 e4)), (1, (sl z7 f8 e9)), (5, (int .i64 0))] [] ⟨rfl, rfl, rfl, trivial⟩ trivial ?_
 refine AW.loopF (σ := Int) (τ := Unit) (fun i13 _ => True) (fun i13 _ tm os => ⟨updL tm [(0, (sl z2 f3 e4)), (1, (sl z7 f8 e9)), (5, (int .i64 i13))], updL os [], { s with lo := s.n }⟩) ?_ (x := (0)) (y := ()) h trivial
 clear h
 rintro i13 _ tm os - ee1 h hL1 hR1
 unfold laws_eqInt64SSS_S1 at h
 refine AW.seq ?_
 refine sr ?_
 refine q (int .i64 i13) ?_
 refine q (sl z2 f3 e4) ?_
 refine AOps.p rfl (len_eq h5) ?_
 refine q (bool (decide ((i13 : Int) < (a1.length : Int)))) ?_
 refine nl ?_
 rcases oite h with ⟨hc14, h⟩ | ⟨hc14, h⟩
 ·refine AW.condT (congrArg bool hc14) ?_
  refine AW.skip ?_
  refine AW.seq ?_
  refine AW.block ?_
  refine sr ?_
  refine q (sl z2 f3 e4) ?_
  refine q (int .i64 i13) ?_
  obtain ⟨x15, h16, h⟩ := obind h
  obtain ⟨v19, h17, h18⟩ := idx_sl h5 h16
  obtain ⟨z20, f21, e22, rfl, h23⟩ := h17
  refine AOps.pureR rfl rfl rfl h18 rfl (rfl : _ = (eptr [(sl z20 f21 e22)] 0)) ?_
  refine lE (sl z20 f21 e22) ?_
  refine q (sl z7 f8 e9) ?_
  refine q (int .i64 i13) ?_
  obtain ⟨x24, h25, h⟩ := obind h
  obtain ⟨v28, h26, h27⟩ := idx_sl h10 h25
  obtain ⟨z29, f30, e31, rfl, h32⟩ := h26
  refine AOps.pureR rfl rfl rfl h27 rfl (rfl : _ = (eptr [(sl z29 f30 e31)] 0)) ?_
  refine lE (sl z29 f30 e31) ?_
  obtain ⟨y33, h34, h⟩ := obind h
  refine AOps.callDP (g := 49) (args := [(sl z20 f21 e22), (sl z29 f30 e31)]) (p := (rB) y33) rfl rfl rfl (laws_eqInt64SS_ok h23 h32 h34 hWF.still) (fun v hv => Nice.pure (k := FINK) (p := (rB) y33) .B _ v hv) ?_
  intro _ o36 h35
  cases h35
  refine q (bool (!y33)) ?_
  refine nl ?_
  rcases oite h with ⟨hc37, h⟩ | ⟨hc37, h⟩
  ·refine AW.condT (congrArg bool hc37) ?_
   refine sr ?_
   refine q (bool false) ?_
   refine nl ?_
   cases h
   have hr := hR1 _ rfl
   subst hr
   exact AW.ret ⟨rfl, _, _, rfl, rfl⟩
  refine AW.condF (congrArg bool hc37) ?_
  refine AW.skip ?_
  refine AW.inBlock ?_
  refine AW.region ?_
  refine q (int .i64 i13) ?_
  refine q (int .i64 (IntKind.wrap .i64 (i13 + 1))) ?_
  refine aq (int .i64 (IntKind.wrap .i64 (i13 + 1))) ?_
  refine nl ?_
  cases h
  exact AW.res [(0, (sl z2 f3 e4)), (1, (sl z7 f8 e9)), (5, (int .i64 (IntKind.wrap .i64 (i13 + 1))))] [] ⟨rfl, rfl, rfl, trivial⟩ trivial (hL1 _ rfl () _ _ trivial)
 refine AW.condF (congrArg bool hc14) ?_
 refine AW.exit rfl ?_
 obtain ⟨r38, hm, hx⟩ := omap h
 clear h
 subst hx
 have hx := hR1 _ rfl
 rw [hx] at hm
 have h := hm
 exact AW.res [] [] trivial trivial (KJ12 () _ _ h)
theorem laws_eqChecker_ok {a1 b18 : Checker} {z2 z6 z10 z14 z19 z23 z27 z31 : Nat} {f3 f7 f11 f15 f20 f24 f28 f32 : Bool} {e4 e8 e12 e16 e21 e25 e29 e33 : List AV} {s : St} (h5 : LR rB 1 a1.Accept z2 e4) (h9 : LR (rL rPush 2) 1 a1.Call z6 e8) (h13 : LR (rL (rL (rI .i64) 1) 1) 1 a1.Return z10 e12) (h17 : LR (rL (rI .i64) 1) 1 a1.Inner z14 e16) (h22 : LR rB 1 b18.Accept z19 e21) (h26 : LR (rL rPush 2) 1 b18.Call z23 e25) (h30 : LR (rL (rL (rI .i64) 1) 1) 1 b18.Return z27 e29) (h34 : LR (rL (rI .i64) 1) 1 b18.Inner z31 e33) {r : Bool} (h : laws_eqChecker a1 b18 = some r) (hs : WF s) : ACall Cf 22 [(agg [(int .i64 a1.Stack), (int .i64 a1.Start), (sl z2 f3 e4), (sl z6 f7 e8), (sl z10 f11 e12), (sl z14 f15 e16)]), (agg [(int .i64 b18.Stack), (int .i64 b18.Start), (sl z19 f20 e21), (sl z23 f24 e25), (sl z27 f28 e29), (sl z31 f32 e33)])] s fun v _ s' => (rB) r v ∧ s' = s := by
 refine ACall.pure rfl rfl rfl .B ?_
 have hWF := hs.lo'
 unfold laws_eqChecker at h
 refine sr ?_
 refine AOps.makeR rfl rfl rfl rfl rfl rfl (rfl : _ = (eptr [(int .i64 a1.Stack), (int .i64 a1.Start), (sl z2 f3 e4), (sl z6 f7 e8), (sl z10 f11 e12), (sl z14 f15 e16)] 0)) ?_
 refine AOps.makeR rfl rfl rfl rfl rfl rfl (rfl : _ = (eptr [(int .i64 b18.Stack), (int .i64 b18.Start), (sl z19 f20 e21), (sl z23 f24 e25), (sl z27 f28 e29), (sl z31 f32 e33)] 0)) ?_
 refine q (bool false) ?_
 refine nl ?_
 refine AW.seq ?_
 refine sr ?_
 refine q (eptr [(int .i64 a1.Stack), (int .i64 a1.Start), (sl z2 f3 e4), (sl z6 f7 e8), (sl z10 f11 e12), (sl z14 f15 e16)] 0) ?_
 refine lE (int .i64 a1.Stack) ?_
 refine q (eptr [(int .i64 b18.Stack), (int .i64 b18.Start), (sl z19 f20 e21), (sl z23 f24 e25), (sl z27 f28 e29), (sl z31 f32 e33)] 0) ?_
 refine lE (int .i64 b18.Stack) ?_
 refine q (bool (a1.Stack != b18.Stack)) ?_
 refine nl ?_
 rcases oite h with ⟨hc35, h⟩ | ⟨hc35, h⟩
 ·refine AW.condT (congrArg bool hc35) ?_
  refine sr ?_
  refine q (bool false) ?_
  refine nl ?_
  cases h
  exact AW.ret ⟨rfl, _, _, rfl, rfl⟩
 refine AW.condF (congrArg bool hc35) ?_
 refine AW.skip ?_
 refine AW.seq ?_
 refine sr ?_
 refine q (eptr [(int .i64 a1.Stack), (int .i64 a1.Start), (sl z2 f3 e4), (sl z6 f7 e8), (sl z10 f11 e12), (sl z14 f15 e16)] 1) ?_
 refine lE (int .i64 a1.Start) ?_
 refine q (eptr [(int .i64 b18.Stack), (int .i64 b18.Start), (sl z19 f20 e21), (sl z23 f24 e25), (sl z27 f28 e29), (sl z31 f32 e33)] 1) ?_
 refine lE (int .i64 b18.Start) ?_
 refine q (bool (a1.Start != b18.Start)) ?_
 refine nl ?_
 rcases oite h with ⟨hc36, h⟩ | ⟨hc36, h⟩
 ·refine AW.condT (congrArg bool hc36) ?_
  refine sr ?_
  refine q (bool false) ?_
  refine nl ?_
  cases h
  exact AW.ret ⟨rfl, _, _, rfl, rfl⟩
 refine AW.condF (congrArg bool hc36) ?_
 refine AW.skip ?_
 refine AW.seq ?_
 refine sr ?_
 refine q (eptr [(int .i64 a1.Stack), (int .i64 a1.Start), (sl z2 f3 e4), (sl z6 f7 e8), (sl z10 f11 e12), (sl z14 f15 e16)] 2) ?_
 refine lE (sl z2 f3 e4) ?_
 refine q (eptr [(int .i64 b18.Stack), (int .i64 b18.Start), (sl z19 f20 e21), (sl z23 f24 e25), (sl z27 f28 e29), (sl z31 f32 e33)] 2) ?_
 refine lE (sl z19 f20 e21) ?_
 obtain ⟨y37, h38, h⟩ := obind h
 refine AOps.callP (g := 46) (args := [(sl z2 f3 e4), (sl z19 f20 e21)]) (p := (rB) y37) rfl rfl rfl (laws_eqBoolS_ok h5 h22 h38 hWF) ?_
 intro _ o40 h39
 cases h39
 refine q (bool (!y37)) ?_
 refine nl ?_
 rcases oite h with ⟨hc41, h⟩ | ⟨hc41, h⟩
 ·refine AW.condT (congrArg bool hc41) ?_
  refine sr ?_
  refine q (bool false) ?_
  refine nl ?_
  cases h
  exact AW.ret ⟨rfl, _, _, rfl, rfl⟩
 refine AW.condF (congrArg bool hc41) ?_
 refine AW.skip ?_
 refine AW.seq ?_
 refine sr ?_
 refine q (eptr [(int .i64 a1.Stack), (int .i64 a1.Start), (sl z2 f3 e4), (sl z6 f7 e8), (sl z10 f11 e12), (sl z14 f15 e16)] 3) ?_
 refine lE (sl z6 f7 e8) ?_
 refine q (eptr [(int .i64 b18.Stack), (int .i64 b18.Start), (sl z19 f20 e21), (sl z23 f24 e25), (sl z27 f28 e29), (sl z31 f32 e33)] 3) ?_
 refine lE (sl z23 f24 e25) ?_
 obtain ⟨y42, h43, h⟩ := obind h
 refine AOps.callP (g := 47) (args := [(sl z6 f7 e8), (sl z23 f24 e25)]) (p := (rB) y42) rfl rfl rfl (laws_eqPushSS_ok h9 h26 h43 hWF) ?_
 intro _ o45 h44
 cases h44
 refine q (bool (!y42)) ?_
 refine nl ?_
 rcases oite h with ⟨hc46, h⟩ | ⟨hc46, h⟩
 ·refine AW.condT (congrArg bool hc46) ?_
  refine sr ?_
  refine q (bool false) ?_
  refine nl ?_
  cases h
  exact AW.ret ⟨rfl, _, _, rfl, rfl⟩
 refine AW.condF (congrArg bool hc46) ?_
 refine AW.skip ?_
 refine AW.seq ?_
 refine sr ?_
 refine q (eptr [(int .i64 a1.Stack), (int .i64 a1.Start), (sl z2 f3 e4), (sl z6 f7 e8), (sl z10 f11 e12), (sl z14 f15 e16)] 4) ?_
 refine lE (sl z10 f11 e12) ?_
 refine q (eptr [(int .i64 b18.Stack), (int .i64 b18.Start), (sl z19 f20 e21), (sl z23 f24 e25), (sl z27 f28 e29), (sl z31 f32 e33)] 4) ?_
 refine lE (sl z27 f28 e29) ?_
 obtain ⟨y47, h48, h⟩ := obind h
 refine AOps.callP (g := 48) (args := [(sl z10 f11 e12), (sl z27 f28 e29)]) (p := (rB) y47) rfl rfl rfl (laws_eqInt64SSS_ok h13 h30 h48 hWF) ?_
 intro _ o50 h49
 cases h49
 refine q (bool (!y47)) ?_
 refine nl ?_
 rcases oite h with ⟨hc51, h⟩ | ⟨hc51, h⟩
 ·refine AW.condT (congrArg bool hc51) ?_
  refine sr ?_
  refine q (bool false) ?_
  refine nl ?_
  cases h
  exact AW.ret ⟨rfl, _, _, rfl, rfl⟩
 refine AW.condF (congrArg bool hc51) ?_
 refine AW.skip ?_
 refine AW.seq ?_
 refine sr ?_
 refine q (eptr [(int .i64 a1.Stack), (int .i64 a1.Start), (sl z2 f3 e4), (sl z6 f7 e8), (sl z10 f11 e12), (sl z14 f15 e16)] 5) ?_
 refine lE (sl z14 f15 e16) ?_
 refine q (eptr [(int .i64 b18.Stack), (int .i64 b18.Start), (sl z19 f20 e21), (sl z23 f24 e25), (sl z27 f28 e29), (sl z31 f32 e33)] 5) ?_
 refine lE (sl z31 f32 e33) ?_
 obtain ⟨y52, h53, h⟩ := obind h
 refine AOps.callP (g := 49) (args := [(sl z14 f15 e16), (sl z31 f32 e33)]) (p := (rB) y52) rfl rfl rfl (laws_eqInt64SS_ok h17 h34 h53 hWF) ?_
 intro _ o55 h54
 cases h54
 refine q (bool (!y52)) ?_
 refine nl ?_
 rcases oite h with ⟨hc56, h⟩ | ⟨hc56, h⟩
 ·refine AW.condT (congrArg bool hc56) ?_
  refine sr ?_
  refine q (bool false) ?_
  refine nl ?_
  cases h
  exact AW.ret ⟨rfl, _, _, rfl, rfl⟩
 refine AW.condF (congrArg bool hc56) ?_
 refine AW.skip ?_
 refine sr ?_
 refine q (bool true) ?_
 refine nl ?_
 cases h
 exact AW.ret ⟨rfl, _, _, rfl, rfl⟩
theorem laws_eqStringS_ok {a1 b6 : List (List UInt8)} {z2 z7 : Nat} {f3 f8 : Bool} {e4 e9 : List AV} {s : St} (h5 : LR rS 1 a1 z2 e4) (h10 : LR rS 1 b6 z7 e9) {r : Bool} (h : laws_eqStringS a1 b6 = some r) (hs : WF s) : ACall Cf 23 [(sl z2 f3 e4), (sl z7 f8 e9)] s fun v _ s' => (rB) r v ∧ s' = s := by
 refine ACall.pure rfl rfl rfl .B ?_
 have hWF := hs.lo'
 unfold laws_eqStringS at h
 refine sr ?_
 refine q (bool false) ?_
 refine nl ?_
 refine AW.seq ?_
 refine sr ?_
 refine q (sl z2 f3 e4) ?_
 refine AOps.p rfl (len_eq h5) ?_
 refine q (sl z7 f8 e9) ?_
 refine AOps.p rfl (len_eq h10) ?_
 refine q (bool ((a1.length : Int) != (b6.length : Int))) ?_
 refine nl ?_
 rcases oite h with ⟨hc11, h⟩ | ⟨hc11, h⟩
 ·refine AW.condT (congrArg bool hc11) ?_
  refine sr ?_
  refine q (bool false) ?_
  refine nl ?_
  cases h
  exact AW.ret ⟨rfl, _, _, rfl, rfl⟩
 refine AW.condF (congrArg bool hc11) ?_
 refine AW.skip ?_
 refine AW.seq ?_
 refine sr ?_
 refine q (int .i64 0) ?_
 refine nl ?_
 refine AW.meet (σ := Unit) (fun _ tm os => ⟨updL tm [], updL os [], { s with lo := s.n }⟩) (fun _ => laws_eqStringS_J1 = some r) ?_ ?_
 ·rintro _ tm os h
  unfold laws_eqStringS_J1 at h
  refine sr ?_
  refine q (bool true) ?_
  refine nl ?_
  cases h
  exact AW.ret ⟨rfl, _, _, rfl, rfl⟩
 intro KJ12
 refine AW.block ?_
 refine AW.res [(0, (sl z2 f3 e4)), (1, (sl z7 f8 e9)), (5, (int .i64 0))] [] ⟨rfl, rfl, rfl, trivial⟩ trivial ?_
 refine AW.loopF (σ := Int) (τ := Unit) (fun i13 _ => True) (fun i13 _ tm os => ⟨updL tm [(0, (sl z2 f3 e4)), (1, (sl z7 f8 e9)), (5, (int .i64 i13))], updL os [], { s with lo := s.n }⟩) ?_ (x := (0)) (y := ()) h trivial
 clear h
 rintro i13 _ tm os - ee1 h hL1 hR1
 unfold laws_eqStringS_S1 at h
 refine AW.seq ?_
 refine sr ?_
 refine q (int .i64 i13) ?_
 refine q (sl z2 f3 e4) ?_
 refine AOps.p rfl (len_eq h5) ?_
 refine q (bool (decide ((i13 : Int) < (a1.length : Int)))) ?_
 refine nl ?_
 rcases oite h with ⟨hc14, h⟩ | ⟨hc14, h⟩
 ·refine AW.condT (congrArg bool hc14) ?_
  refine AW.skip ?_
  refine AW.seq ?_
  refine AW.block ?_
  refine sr ?_
  refine q (sl z2 f3 e4) ?_
  refine q (int .i64 i13) ?_
  obtain ⟨x15, h16, h⟩ := obind h
  obtain ⟨v19, h17, h18⟩ := idx_sl h5 h16
  cases h17
  refine AOps.pureR rfl rfl rfl h18 rfl (rfl : _ = (eptr [(str x15)] 0)) ?_
  refine lE (str x15) ?_
  refine q (sl z7 f8 e9) ?_
  refine q (int .i64 i13) ?_
  obtain ⟨x20, h21, h⟩ := obind h
  obtain ⟨v24, h22, h23⟩ := idx_sl h10 h21
  cases h22
  refine AOps.pureR rfl rfl rfl h23 rfl (rfl : _ = (eptr [(str x20)] 0)) ?_
  refine lE (str x20) ?_
  refine q (bool (!(x15 == x20))) ?_
  refine nl ?_
  rcases oite h with ⟨hc25, h⟩ | ⟨hc25, h⟩
  ·refine AW.condT (congrArg bool hc25) ?_
   refine sr ?_
   refine q (bool false) ?_
   refine nl ?_
   cases h
   have hr := hR1 _ rfl
   subst hr
   exact AW.ret ⟨rfl, _, _, rfl, rfl⟩
  refine AW.condF (congrArg bool hc25) ?_
  refine AW.skip ?_
  refine AW.inBlock ?_
  refine AW.region ?_
  refine q (int .i64 i13) ?_
  refine q (int .i64 (IntKind.wrap .i64 (i13 + 1))) ?_
  refine aq (int .i64 (IntKind.wrap .i64 (i13 + 1))) ?_
  refine nl ?_
  cases h
  exact AW.res [(0, (sl z2 f3 e4)), (1, (sl z7 f8 e9)), (5, (int .i64 (IntKind.wrap .i64 (i13 + 1))))] [] ⟨rfl, rfl, rfl, trivial⟩ trivial (hL1 _ rfl () _ _ trivial)
 refine AW.condF (congrArg bool hc14) ?_
 refine AW.exit rfl ?_
 obtain ⟨r26, hm, hx⟩ := omap h
 clear h
 subst hx
 have hx := hR1 _ rfl
 rw [hx] at hm
 have h := hm
 exact AW.res [] [] trivial trivial (KJ12 () _ _ h)
theorem laws_eqStream_ok {a1 b22 : Stream} {z2 z6 z10 z14 z18 z23 z27 z31 z35 z39 : Nat} {f3 f7 f11 f15 f19 f24 f28 f32 f36 f40 : Bool} {e4 e8 e12 e16 e20 e25 e29 e33 e37 e41 : List AV} {s : St} (h5 : LR rB 1 a1.Checker.Accept z2 e4) (h9 : LR (rL rPush 2) 1 a1.Checker.Call z6 e8) (h13 : LR (rL (rL (rI .i64) 1) 1) 1 a1.Checker.Return z10 e12) (h17 : LR (rL (rI .i64) 1) 1 a1.Checker.Inner z14 e16) (h21 : LR rS 1 a1.Pieces z18 e20) (h26 : LR rB 1 b22.Checker.Accept z23 e25) (h30 : LR (rL rPush 2) 1 b22.Checker.Call z27 e29) (h34 : LR (rL (rL (rI .i64) 1) 1) 1 b22.Checker.Return z31 e33) (h38 : LR (rL (rI .i64) 1) 1 b22.Checker.Inner z35 e37) (h42 : LR rS 1 b22.Pieces z39 e41) {r : Bool} (h : laws_eqStream a1 b22 = some r) (hs : WF s) : ACall Cf 10 [(agg [(int .i64 a1.Checker.Stack), (int .i64 a1.Checker.Start), (sl z2 f3 e4), (sl z6 f7 e8), (sl z10 f11 e12), (sl z14 f15 e16), (sl z18 f19 e20)]), (agg [(int .i64 b22.Checker.Stack), (int .i64 b22.Checker.Start), (sl z23 f24 e25), (sl z27 f28 e29), (sl z31 f32 e33), (sl z35 f36 e37), (sl z39 f40 e41)])] s fun v _ s' => (rB) r v ∧ s' = s := by
 refine ACall.pure rfl rfl rfl .B ?_
 have hWF := hs.lo'
 unfold laws_eqStream at h
 refine sr ?_
 refine AOps.makeR rfl rfl rfl rfl rfl rfl (rfl : _ = (eptr [(int .i64 a1.Checker.Stack), (int .i64 a1.Checker.Start), (sl z2 f3 e4), (sl z6 f7 e8), (sl z10 f11 e12), (sl z14 f15 e16), (sl z18 f19 e20)] 0)) ?_
 refine AOps.makeR rfl rfl rfl rfl rfl rfl (rfl : _ = (eptr [(int .i64 b22.Checker.Stack), (int .i64 b22.Checker.Start), (sl z23 f24 e25), (sl z27 f28 e29), (sl z31 f32 e33), (sl z35 f36 e37), (sl z39 f40 e41)] 0)) ?_
 refine q (bool false) ?_
 refine nl ?_
 refine AW.seq ?_
 refine sr ?_
 refine q (eptr [(int .i64 a1.Checker.Stack), (int .i64 a1.Checker.Start), (sl z2 f3 e4), (sl z6 f7 e8), (sl z10 f11 e12), (sl z14 f15 e16), (sl z18 f19 e20)] 0) ?_
 refine lE (agg [(int .i64 a1.Checker.Stack), (int .i64 a1.Checker.Start), (sl z2 f3 e4), (sl z6 f7 e8), (sl z10 f11 e12), (sl z14 f15 e16)]) ?_
 refine q (eptr [(int .i64 b22.Checker.Stack), (int .i64 b22.Checker.Start), (sl z23 f24 e25), (sl z27 f28 e29), (sl z31 f32 e33), (sl z35 f36 e37), (sl z39 f40 e41)] 0) ?_
 refine lE (agg [(int .i64 b22.Checker.Stack), (int .i64 b22.Checker.Start), (sl z23 f24 e25), (sl z27 f28 e29), (sl z31 f32 e33), (sl z35 f36 e37)]) ?_
 obtain ⟨y43, h44, h⟩ := obind h
 refine AOps.callP (g := 22) (args := [(agg [(int .i64 a1.Checker.Stack), (int .i64 a1.Checker.Start), (sl z2 f3 e4), (sl z6 f7 e8), (sl z10 f11 e12), (sl z14 f15 e16)]), (agg [(int .i64 b22.Checker.Stack), (int .i64 b22.Checker.Start), (sl z23 f24 e25), (sl z27 f28 e29), (sl z31 f32 e33), (sl z35 f36 e37)])]) (p := (rB) y43) rfl rfl rfl (laws_eqChecker_ok h5 h9 h13 h17 h26 h30 h34 h38 h44 hWF) ?_
 intro _ o46 h45
 cases h45
 refine q (bool (!y43)) ?_
 refine nl ?_
 rcases oite h with ⟨hc47, h⟩ | ⟨hc47, h⟩
 ·refine AW.condT (congrArg bool hc47) ?_
  refine sr ?_
  refine q (bool false) ?_
  refine nl ?_
  cases h
  exact AW.ret ⟨rfl, _, _, rfl, rfl⟩
 refine AW.condF (congrArg bool hc47) ?_
 refine AW.skip ?_
 refine AW.seq ?_
 refine sr ?_
 refine q (eptr [(int .i64 a1.Checker.Stack), (int .i64 a1.Checker.Start), (sl z2 f3 e4), (sl z6 f7 e8), (sl z10 f11 e12), (sl z14 f15 e16), (sl z18 f19 e20)] 6) ?_
 refine lE (sl z18 f19 e20) ?_
 refine q (eptr [(int .i64 b22.Checker.Stack), (int .i64 b22.Checker.Start), (sl z23 f24 e25), (sl z27 f28 e29), (sl z31 f32 e33), (sl z35 f36 e37), (sl z39 f40 e41)] 6) ?_
 refine lE (sl z39 f40 e41) ?_
 obtain ⟨y48, h49, h⟩ := obind h
 refine AOps.callP (g := 23) (args := [(sl z18 f19 e20), (sl z39 f40 e41)]) (p := (rB) y48) rfl rfl rfl (laws_eqStringS_ok h21 h42 h49 hWF) ?_
 intro _ o51 h50
 cases h50
 refine q (bool (!y48)) ?_
 refine nl ?_
 rcases oite h with ⟨hc52, h⟩ | ⟨hc52, h⟩
 ·refine AW.condT (congrArg bool hc52) ?_
  refine sr ?_
  refine q (bool false) ?_
  refine nl ?_
  cases h
  exact AW.ret ⟨rfl, _, _, rfl, rfl⟩
 refine AW.condF (congrArg bool hc52) ?_
 refine AW.skip ?_
 refine sr ?_
 refine q (bool true) ?_
 refine nl ?_
 cases h
 exact AW.ret ⟨rfl, _, _, rfl, rfl⟩
theorem laws_eqDeed_ok {a1 b2 : Deed} {s : St} {r : Bool} (h : laws_eqDeed a1 b2 = some r) (hs : WF s) : ACall Cf 24 [(agg [(int .i64 a1.Kind), (int .i64 a1.A), (int .i64 a1.B)]), (agg [(int .i64 b2.Kind), (int .i64 b2.A), (int .i64 b2.B)])] s fun v _ s' => (rB) r v ∧ s' = s := by
 refine ACall.pure rfl rfl rfl .B ?_
 have hWF := hs.lo'
 unfold laws_eqDeed at h
 refine sr ?_
 refine AOps.makeR rfl rfl rfl rfl rfl rfl (rfl : _ = (eptr [(int .i64 a1.Kind), (int .i64 a1.A), (int .i64 a1.B)] 0)) ?_
 refine AOps.makeR rfl rfl rfl rfl rfl rfl (rfl : _ = (eptr [(int .i64 b2.Kind), (int .i64 b2.A), (int .i64 b2.B)] 0)) ?_
 refine q (bool false) ?_
 refine nl ?_
 refine AW.seq ?_
 refine sr ?_
 refine q (eptr [(int .i64 a1.Kind), (int .i64 a1.A), (int .i64 a1.B)] 0) ?_
 refine lE (int .i64 a1.Kind) ?_
 refine q (eptr [(int .i64 b2.Kind), (int .i64 b2.A), (int .i64 b2.B)] 0) ?_
 refine lE (int .i64 b2.Kind) ?_
 refine q (bool (a1.Kind != b2.Kind)) ?_
 refine nl ?_
 rcases oite h with ⟨hc3, h⟩ | ⟨hc3, h⟩
 ·refine AW.condT (congrArg bool hc3) ?_
  refine sr ?_
  refine q (bool false) ?_
  refine nl ?_
  cases h
  exact AW.ret ⟨rfl, _, _, rfl, rfl⟩
 refine AW.condF (congrArg bool hc3) ?_
 refine AW.skip ?_
 refine AW.seq ?_
 refine sr ?_
 refine q (eptr [(int .i64 a1.Kind), (int .i64 a1.A), (int .i64 a1.B)] 1) ?_
 refine lE (int .i64 a1.A) ?_
 refine q (eptr [(int .i64 b2.Kind), (int .i64 b2.A), (int .i64 b2.B)] 1) ?_
 refine lE (int .i64 b2.A) ?_
 refine q (bool (a1.A != b2.A)) ?_
 refine nl ?_
 rcases oite h with ⟨hc4, h⟩ | ⟨hc4, h⟩
 ·refine AW.condT (congrArg bool hc4) ?_
  refine sr ?_
  refine q (bool false) ?_
  refine nl ?_
  cases h
  exact AW.ret ⟨rfl, _, _, rfl, rfl⟩
 refine AW.condF (congrArg bool hc4) ?_
 refine AW.skip ?_
 refine AW.seq ?_
 refine sr ?_
 refine q (eptr [(int .i64 a1.Kind), (int .i64 a1.A), (int .i64 a1.B)] 2) ?_
 refine lE (int .i64 a1.B) ?_
 refine q (eptr [(int .i64 b2.Kind), (int .i64 b2.A), (int .i64 b2.B)] 2) ?_
 refine lE (int .i64 b2.B) ?_
 refine q (bool (a1.B != b2.B)) ?_
 refine nl ?_
 rcases oite h with ⟨hc5, h⟩ | ⟨hc5, h⟩
 ·refine AW.condT (congrArg bool hc5) ?_
  refine sr ?_
  refine q (bool false) ?_
  refine nl ?_
  cases h
  exact AW.ret ⟨rfl, _, _, rfl, rfl⟩
 refine AW.condF (congrArg bool hc5) ?_
 refine AW.skip ?_
 refine sr ?_
 refine q (bool true) ?_
 refine nl ?_
 cases h
 exact AW.ret ⟨rfl, _, _, rfl, rfl⟩
theorem laws_eqDeedS_ok {a1 b6 : List Deed} {z2 z7 : Nat} {f3 f8 : Bool} {e4 e9 : List AV} {s : St} (h5 : LR rDeed 3 a1 z2 e4) (h10 : LR rDeed 3 b6 z7 e9) {r : Bool} (h : laws_eqDeedS a1 b6 = some r) (hs : WF s) : ACall Cf 11 [(sl z2 f3 e4), (sl z7 f8 e9)] s fun v _ s' => (rB) r v ∧ s' = s := by
 refine ACall.pure rfl rfl rfl .B ?_
 have hWF := hs.lo'
 unfold laws_eqDeedS at h
 refine sr ?_
 refine q (bool false) ?_
 refine nl ?_
 refine AW.seq ?_
 refine sr ?_
 refine q (sl z2 f3 e4) ?_
 refine AOps.p rfl (len_eq h5) ?_
 refine q (sl z7 f8 e9) ?_
 refine AOps.p rfl (len_eq h10) ?_
 refine q (bool ((a1.length : Int) != (b6.length : Int))) ?_
 refine nl ?_
 rcases oite h with ⟨hc11, h⟩ | ⟨hc11, h⟩
 ·refine AW.condT (congrArg bool hc11) ?_
  refine sr ?_
  refine q (bool false) ?_
  refine nl ?_
  cases h
  exact AW.ret ⟨rfl, _, _, rfl, rfl⟩
 refine AW.condF (congrArg bool hc11) ?_
 refine AW.skip ?_
 refine AW.seq ?_
 refine sr ?_
 refine q (int .i64 0) ?_
 refine nl ?_
 refine AW.meet (σ := Unit) (fun _ tm os => ⟨updL tm [], updL os [], { s with lo := s.n }⟩) (fun _ => laws_eqDeedS_J1 = some r) ?_ ?_
 ·rintro _ tm os h
  unfold laws_eqDeedS_J1 at h
  refine sr ?_
  refine q (bool true) ?_
  refine nl ?_
  cases h
  exact AW.ret ⟨rfl, _, _, rfl, rfl⟩
 intro KJ12
 refine AW.block ?_
 refine AW.res [(0, (sl z2 f3 e4)), (1, (sl z7 f8 e9)), (5, (int .i64 0))] [] ⟨rfl, rfl, rfl, trivial⟩ trivial ?_
 refine AW.loopF (σ := Int) (τ := Unit) (fun i13 _ => True) (fun i13 _ tm os => ⟨updL tm [(0, (sl z2 f3 e4)), (1, (sl z7 f8 e9)), (5, (int .i64 i13))], updL os [], { s with lo := s.n }⟩) ?_ (x := (0)) (y := ()) h trivial
 clear h
 rintro i13 _ tm os - ee1 h hL1 hR1
 unfold laws_eqDeedS_S1 at h
 refine AW.seq ?_
 refine sr ?_
 refine q (int .i64 i13) ?_
 refine q (sl z2 f3 e4) ?_
 refine AOps.p rfl (len_eq h5) ?_
 refine q (bool (decide ((i13 : Int) < (a1.length : Int)))) ?_
 refine nl ?_
 rcases oite h with ⟨hc14, h⟩ | ⟨hc14, h⟩
 ·refine AW.condT (congrArg bool hc14) ?_
  refine AW.skip ?_
  refine AW.seq ?_
  refine AW.block ?_
  refine sr ?_
  refine q (sl z2 f3 e4) ?_
  refine q (int .i64 i13) ?_
  obtain ⟨x15, h16, h⟩ := obind h
  obtain ⟨v19, h17, h18⟩ := idx_sl h5 h16
  obtain ⟨_, rfl, h20⟩ := h17
  obtain ⟨_, _, rfl, h21, h22⟩ := Cs_cons h20
  cases h21
  obtain ⟨_, _, rfl, h23, h24⟩ := Cs_cons h22
  cases h23
  obtain ⟨_, _, rfl, h25, h26⟩ := Cs_cons h24
  cases h25
  cases Cs_nil h26
  refine AOps.pureR rfl rfl rfl h18 rfl (rfl : _ = (eptr [(int .i64 x15.Kind), (int .i64 x15.A), (int .i64 x15.B)] 0)) ?_
  refine lE (agg [(int .i64 x15.Kind), (int .i64 x15.A), (int .i64 x15.B)]) ?_
  refine q (sl z7 f8 e9) ?_
  refine q (int .i64 i13) ?_
  obtain ⟨x27, h28, h⟩ := obind h
  obtain ⟨v31, h29, h30⟩ := idx_sl h10 h28
  obtain ⟨_, rfl, h32⟩ := h29
  obtain ⟨_, _, rfl, h33, h34⟩ := Cs_cons h32
  cases h33
  obtain ⟨_, _, rfl, h35, h36⟩ := Cs_cons h34
  cases h35
  obtain ⟨_, _, rfl, h37, h38⟩ := Cs_cons h36
  cases h37
  cases Cs_nil h38
  refine AOps.pureR rfl rfl rfl h30 rfl (rfl : _ = (eptr [(int .i64 x27.Kind), (int .i64 x27.A), (int .i64 x27.B)] 0)) ?_
  refine lE (agg [(int .i64 x27.Kind), (int .i64 x27.A), (int .i64 x27.B)]) ?_
  obtain ⟨y39, h40, h⟩ := obind h
  refine AOps.callDP (g := 24) (args := [(agg [(int .i64 x15.Kind), (int .i64 x15.A), (int .i64 x15.B)]), (agg [(int .i64 x27.Kind), (int .i64 x27.A), (int .i64 x27.B)])]) (p := (rB) y39) rfl rfl rfl (laws_eqDeed_ok  h40 hWF.still) (fun v hv => Nice.pure (k := FINK) (p := (rB) y39) .B _ v hv) ?_
  intro _ o42 h41
  cases h41
  refine q (bool (!y39)) ?_
  refine nl ?_
  rcases oite h with ⟨hc43, h⟩ | ⟨hc43, h⟩
  ·refine AW.condT (congrArg bool hc43) ?_
   refine sr ?_
   refine q (bool false) ?_
   refine nl ?_
   cases h
   have hr := hR1 _ rfl
   subst hr
   exact AW.ret ⟨rfl, _, _, rfl, rfl⟩
  refine AW.condF (congrArg bool hc43) ?_
  refine AW.skip ?_
  refine AW.inBlock ?_
  refine AW.region ?_
  refine q (int .i64 i13) ?_
  refine q (int .i64 (IntKind.wrap .i64 (i13 + 1))) ?_
  refine aq (int .i64 (IntKind.wrap .i64 (i13 + 1))) ?_
  refine nl ?_
  cases h
  exact AW.res [(0, (sl z2 f3 e4)), (1, (sl z7 f8 e9)), (5, (int .i64 (IntKind.wrap .i64 (i13 + 1))))] [] ⟨rfl, rfl, rfl, trivial⟩ trivial (hL1 _ rfl () _ _ trivial)
 refine AW.condF (congrArg bool hc14) ?_
 refine AW.exit rfl ?_
 obtain ⟨r44, hm, hx⟩ := omap h
 clear h
 subst hx
 have hx := hR1 _ rfl
 rw [hx] at hm
 have h := hm
 exact AW.res [] [] trivial trivial (KJ12 () _ _ h)
theorem laws_FnExactRefusedDeed_ok {p1 : Stream} {p1_22 : List Deed} {z2 z6 z10 z14 z18 z23 : Nat} {f3 f7 f11 f15 f19 f24 : Bool} {e4 e8 e12 e16 e20 e25 : List AV} {s : St} (h5 : LR rB 1 p1.Checker.Accept z2 e4) (h9 : LR (rL rPush 2) 1 p1.Checker.Call z6 e8) (h13 : LR (rL (rL (rI .i64) 1) 1) 1 p1.Checker.Return z10 e12) (h17 : LR (rL (rI .i64) 1) 1 p1.Checker.Inner z14 e16) (h21 : LR rS 1 p1.Pieces z18 e20) (h26 : LR rDeed 3 p1_22 z23 e25) {r : Bool} (h : laws_FnExactRefusedDeed p1 p1_22 = some r) (hs : WF s) : ACall Cf 3 [(agg [(int .i64 p1.Checker.Stack), (int .i64 p1.Checker.Start), (sl z2 f3 e4), (sl z6 f7 e8), (sl z10 f11 e12), (sl z14 f15 e16), (sl z18 f19 e20)]), (sl z23 f24 e25)] s fun v _ s' => (rB) r v ∧ s' = s := by
 refine ACall.pure rfl rfl rfl .B ?_
 have hWF := hs.lo'
 unfold laws_FnExactRefusedDeed at h
 refine sr ?_
 refine AOps.makeR rfl rfl rfl rfl rfl rfl (rfl : _ = (eptr [(int .i64 p1.Checker.Stack), (int .i64 p1.Checker.Start), (sl z2 f3 e4), (sl z6 f7 e8), (sl z10 f11 e12), (sl z14 f15 e16), (sl z18 f19 e20)] 0)) ?_
 refine q (bool false) ?_
 refine ns ?_
 refine q (int .i64 1048576) ?_
 refine ns ?_
 refine lE (agg [(int .i64 p1.Checker.Stack), (int .i64 p1.Checker.Start), (sl z2 f3 e4), (sl z6 f7 e8), (sl z10 f11 e12), (sl z14 f15 e16), (sl z18 f19 e20)]) ?_
 refine q (int .i64 1048576) ?_
 obtain ⟨y27, h28, h⟩ := obind h
 refine AOps.callP (g := 4) (args := [(agg [(int .i64 p1.Checker.Stack), (int .i64 p1.Checker.Start), (sl z2 f3 e4), (sl z6 f7 e8), (sl z10 f11 e12), (sl z14 f15 e16), (sl z18 f19 e20)]), (int .i64 1048576)]) (p := (rI .i64) y27) rfl rfl rfl (laws_szStream_ok h5 h9 h13 h17 h21 h28 hWF) ?_
 intro _ o30 h29
 cases h29
 refine aq (int .i64 y27) ?_
 refine nl ?_
 refine AW.seq ?_
 refine sr ?_
 refine q (int .i64 y27) ?_
 refine q (bool (decide ((y27 : Int) < 0))) ?_
 refine nl ?_
 rcases oite h with ⟨hc31, h⟩ | ⟨hc31, h⟩
 ·refine AW.condT (congrArg bool hc31) ?_
  refine sr ?_
  refine q (bool true) ?_
  refine nl ?_
  cases h
  exact AW.ret ⟨rfl, _, _, rfl, rfl⟩
 refine AW.condF (congrArg bool hc31) ?_
 refine AW.skip ?_
 refine sr ?_
 refine q (sl z23 f24 e25) ?_
 refine q (int .i64 y27) ?_
 obtain ⟨y32, h33, h⟩ := obind h
 refine AOps.callP (g := 5) (args := [(sl z23 f24 e25), (int .i64 y27)]) (p := (rI .i64) y32) rfl rfl rfl (laws_szDeedS_ok h26 h33 hWF) ?_
 intro _ o35 h34
 cases h34
 refine aq (int .i64 y32) ?_
 refine nl ?_
 refine AW.seq ?_
 refine sr ?_
 refine q (int .i64 y32) ?_
 refine q (bool (decide ((y32 : Int) < 0))) ?_
 refine nl ?_
 rcases oite h with ⟨hc36, h⟩ | ⟨hc36, h⟩
 ·refine AW.condT (congrArg bool hc36) ?_
  refine sr ?_
  refine q (bool true) ?_
  refine nl ?_
  cases h
  exact AW.ret ⟨rfl, _, _, rfl, rfl⟩
 refine AW.condF (congrArg bool hc36) ?_
 refine AW.skip ?_
 refine sr ?_
 refine lE (agg [(int .i64 p1.Checker.Stack), (int .i64 p1.Checker.Start), (sl z2 f3 e4), (sl z6 f7 e8), (sl z10 f11 e12), (sl z14 f15 e16), (sl z18 f19 e20)]) ?_
 obtain ⟨y37, h38, h⟩ := obind h
 refine AOps.callP (g := 7) (args := [(agg [(int .i64 p1.Checker.Stack), (int .i64 p1.Checker.Start), (sl z2 f3 e4), (sl z6 f7 e8), (sl z10 f11 e12), (sl z14 f15 e16), (sl z18 f19 e20)])]) (p := (rStream) y37) rfl rfl rfl (laws_toStream_ok h5 h9 h13 h17 h21 h38 hWF) ?_
 intro _ o75 h39
 obtain ⟨_, rfl, h40⟩ := h39
 obtain ⟨_, _, rfl, h41, h42⟩ := Cs_cons h40
 cases h41
 obtain ⟨_, _, rfl, h43, h44⟩ := Cs_cons h42
 cases h43
 obtain ⟨_, _, rfl, h45, h46⟩ := Cs_cons h44
 obtain ⟨z47, f48, e49, rfl, h50⟩ := h45
 obtain ⟨_, _, rfl, h51, h52⟩ := Cs_cons h46
 obtain ⟨z53, f54, e55, rfl, h56⟩ := h51
 obtain ⟨_, _, rfl, h57, h58⟩ := Cs_cons h52
 obtain ⟨z59, f60, e61, rfl, h62⟩ := h57
 obtain ⟨_, _, rfl, h63, h64⟩ := Cs_cons h58
 obtain ⟨z65, f66, e67, rfl, h68⟩ := h63
 obtain ⟨_, _, rfl, h69, h70⟩ := Cs_cons h64
 obtain ⟨z71, f72, e73, rfl, h74⟩ := h69
 cases Cs_nil h70
 refine q (sl z23 f24 e25) ?_
 obtain ⟨y76, h77, h⟩ := obind h
 refine AOps.callP (g := 8) (args := [(sl z23 f24 e25)]) (p := (rL rDeed 3) y76) rfl rfl rfl (laws_toDeedS_ok h26 h77 hWF) ?_
 intro _ o83 h78
 obtain ⟨z79, f80, e81, rfl, h82⟩ := h78
 obtain ⟨y84, h85, h⟩ := obind h
 refine AOps.callP (g := 6) (args := [(agg [(int .i64 y37.Checker.Stack), (int .i64 y37.Checker.Start), (sl z47 f48 e49), (sl z53 f54 e55), (sl z59 f60 e61), (sl z65 f66 e67), (sl z71 f72 e73)]), (sl z79 f80 e81)]) (p := (fun x => rT [(rI .i64) x.1, (rI .i64) x.2.1, (rI .i64) x.2.2]) y84) rfl rfl rfl (spec_RefusedDeed_ok h50 h56 h62 h68 h74 h82 h85 hWF) ?_
 intro _ o94 h86
 obtain ⟨_, rfl, h87⟩ := h86
 obtain ⟨_, _, rfl, h88, h89⟩ := Cs_cons h87
 cases h88
 obtain ⟨_, _, rfl, h90, h91⟩ := Cs_cons h89
 cases h90
 obtain ⟨_, _, rfl, h92, h93⟩ := Cs_cons h91
 cases h92
 cases Cs_nil h93
 refine q (AV.tup [(int .i64 y84.1), (int .i64 y84.2.1), (int .i64 y84.2.2)]) ?_
 refine q (int .i64 y84.1) ?_
 refine q (int .i64 y84.2.1) ?_
 refine q (int .i64 y84.2.2) ?_
 refine aq (int .i64 y84.1) ?_
 refine aq (int .i64 y84.2.1) ?_
 refine aq (int .i64 y84.2.2) ?_
 refine ns ?_
 refine lE (agg [(int .i64 p1.Checker.Stack), (int .i64 p1.Checker.Start), (sl z2 f3 e4), (sl z6 f7 e8), (sl z10 f11 e12), (sl z14 f15 e16), (sl z18 f19 e20)]) ?_
 obtain ⟨y95, h96, h⟩ := obind h
 refine AOps.callP (g := 7) (args := [(agg [(int .i64 p1.Checker.Stack), (int .i64 p1.Checker.Start), (sl z2 f3 e4), (sl z6 f7 e8), (sl z10 f11 e12), (sl z14 f15 e16), (sl z18 f19 e20)])]) (p := (rStream) y95) rfl rfl rfl (laws_toStream_ok h5 h9 h13 h17 h21 h96 hWF) ?_
 intro _ o133 h97
 obtain ⟨_, rfl, h98⟩ := h97
 obtain ⟨_, _, rfl, h99, h100⟩ := Cs_cons h98
 cases h99
 obtain ⟨_, _, rfl, h101, h102⟩ := Cs_cons h100
 cases h101
 obtain ⟨_, _, rfl, h103, h104⟩ := Cs_cons h102
 obtain ⟨z105, f106, e107, rfl, h108⟩ := h103
 obtain ⟨_, _, rfl, h109, h110⟩ := Cs_cons h104
 obtain ⟨z111, f112, e113, rfl, h114⟩ := h109
 obtain ⟨_, _, rfl, h115, h116⟩ := Cs_cons h110
 obtain ⟨z117, f118, e119, rfl, h120⟩ := h115
 obtain ⟨_, _, rfl, h121, h122⟩ := Cs_cons h116
 obtain ⟨z123, f124, e125, rfl, h126⟩ := h121
 obtain ⟨_, _, rfl, h127, h128⟩ := Cs_cons h122
 obtain ⟨z129, f130, e131, rfl, h132⟩ := h127
 cases Cs_nil h128
 refine AOps.allocP rfl rfl rfl rfl ⟨rfl, rfl⟩ rfl ?_
 refine AOps.stP (v := (agg [(int .i64 y95.Checker.Stack), (int .i64 y95.Checker.Start), (sl z105 f106 e107), (sl z111 f112 e113), (sl z117 f118 e119), (sl z123 f124 e125), (sl z129 f130 e131)])) rfl rfl rfl rfl rfl rfl rfl rfl rfl (lt_b rfl) rfl ?_
 refine ns ?_
 refine q (sl z23 f24 e25) ?_
 obtain ⟨y134, h135, h⟩ := obind h
 refine AOps.callP (g := 8) (args := [(sl z23 f24 e25)]) (p := (rL rDeed 3) y134) rfl rfl rfl (laws_toDeedS_ok h26 h135 hWF) ?_
 intro _ o141 h136
 obtain ⟨z137, f138, e139, rfl, h140⟩ := h136
 refine aq (sl z137 f138 e139) ?_
 refine ns ?_
 refine lE (agg [(int .i64 y95.Checker.Stack), (int .i64 y95.Checker.Start), (sl z105 f106 e107), (sl z111 f112 e113), (sl z117 f118 e119), (sl z123 f124 e125), (sl z129 f130 e131)]) ?_
 refine q (sl z137 f138 e139) ?_
 obtain ⟨y142, h143, h⟩ := obind h
 refine AOps.callP (g := 9) (args := [(agg [(int .i64 y95.Checker.Stack), (int .i64 y95.Checker.Start), (sl z105 f106 e107), (sl z111 f112 e113), (sl z117 f118 e119), (sl z123 f124 e125), (sl z129 f130 e131)]), (sl z137 f138 e139)]) (p := (fun x => rT [(rI .i64) x.1, (rI .i64) x.2.1, (rI .i64) x.2.2]) y142) rfl rfl rfl (impl_RefusedDeed_ok h108 h114 h120 h126 h132 h140 h143 hWF) ?_
 intro _ o152 h144
 obtain ⟨_, rfl, h145⟩ := h144
 obtain ⟨_, _, rfl, h146, h147⟩ := Cs_cons h145
 cases h146
 obtain ⟨_, _, rfl, h148, h149⟩ := Cs_cons h147
 cases h148
 obtain ⟨_, _, rfl, h150, h151⟩ := Cs_cons h149
 cases h150
 cases Cs_nil h151
 refine q (AV.tup [(int .i64 y142.1), (int .i64 y142.2.1), (int .i64 y142.2.2)]) ?_
 refine q (int .i64 y142.1) ?_
 refine q (int .i64 y142.2.1) ?_
 refine q (int .i64 y142.2.2) ?_
 refine aq (int .i64 y142.1) ?_
 refine aq (int .i64 y142.2.1) ?_
 refine aq (int .i64 y142.2.2) ?_
 refine nl ?_
 refine AW.seq ?_
 refine sr ?_
 refine q (int .i64 y142.1) ?_
 refine q (int .i64 y84.1) ?_
 refine q (bool (y142.1 != y84.1)) ?_
 refine q (bool (y142.1 != y84.1)) ?_
 refine AOps.split 4 (fun f' => ∃ tm' os', f' = ⟨updL tm' [(1, (sl z23 f24 e25)), (2, (eptr [(int .i64 p1.Checker.Stack), (int .i64 p1.Checker.Start), (sl z2 f3 e4), (sl z6 f7 e8), (sl z10 f11 e12), (sl z14 f15 e16), (sl z18 f19 e20)] 0)), (8, (int .i64 y84.2.2)), (9, (eptr [(int .i64 y95.Checker.Stack), (int .i64 y95.Checker.Start), (sl z105 f106 e107), (sl z111 f112 e113), (sl z117 f118 e119), (sl z123 f124 e125), (sl z129 f130 e131)] 0)), (10, (sl z137 f138 e139)), (13, (int .i64 y142.2.2)), (51, (bool ((y142.1 != y84.1) || (y142.2.1 != y84.2.1))))], updL os' [], { s with lo := s.n }⟩) ?_ ?_
 ·rcases Bool.eq_false_or_eq_true (y142.1 != y84.1) with hc153 | hc153
  ·refine AOps.know (d := 47) rfl hc153 ?_
   refine sk ?_
   refine sk ?_
   refine sk ?_
   refine q (bool true) ?_
   refine AOps.resR [(1, (sl z23 f24 e25)), (2, (eptr [(int .i64 p1.Checker.Stack), (int .i64 p1.Checker.Start), (sl z2 f3 e4), (sl z6 f7 e8), (sl z10 f11 e12), (sl z14 f15 e16), (sl z18 f19 e20)] 0)), (8, (int .i64 y84.2.2)), (9, (eptr [(int .i64 y95.Checker.Stack), (int .i64 y95.Checker.Start), (sl z105 f106 e107), (sl z111 f112 e113), (sl z117 f118 e119), (sl z123 f124 e125), (sl z129 f130 e131)] 0)), (10, (sl z137 f138 e139)), (13, (int .i64 y142.2.2)), (51, (bool ((y142.1 != y84.1) || (y142.2.1 != y84.2.1))))] [] ?_ ?_ _ ⟨_, _, rfl⟩
   ·exact ⟨rfl, rfl, rfl, rfl, rfl, rfl, congrArg bool (or_t hc153), trivial⟩
   exact trivial
  ·refine AOps.know (d := 47) rfl hc153 ?_
   refine q (int .i64 y142.2.1) ?_
   refine q (int .i64 y84.2.1) ?_
   refine q (bool (y142.2.1 != y84.2.1)) ?_
   refine q (bool (y142.2.1 != y84.2.1)) ?_
   refine AOps.resR [(1, (sl z23 f24 e25)), (2, (eptr [(int .i64 p1.Checker.Stack), (int .i64 p1.Checker.Start), (sl z2 f3 e4), (sl z6 f7 e8), (sl z10 f11 e12), (sl z14 f15 e16), (sl z18 f19 e20)] 0)), (8, (int .i64 y84.2.2)), (9, (eptr [(int .i64 y95.Checker.Stack), (int .i64 y95.Checker.Start), (sl z105 f106 e107), (sl z111 f112 e113), (sl z117 f118 e119), (sl z123 f124 e125), (sl z129 f130 e131)] 0)), (10, (sl z137 f138 e139)), (13, (int .i64 y142.2.2)), (51, (bool ((y142.1 != y84.1) || (y142.2.1 != y84.2.1))))] [] ?_ ?_ _ ⟨_, _, rfl⟩
   ·exact ⟨rfl, rfl, rfl, rfl, rfl, rfl, congrArg bool (or_f hc153), trivial⟩
   exact trivial
 rintro _ ⟨tm, os, rfl⟩
 refine q (bool ((y142.1 != y84.1) || (y142.2.1 != y84.2.1))) ?_
 refine AOps.split 4 (fun f' => ∃ tm' os', f' = ⟨updL tm' [(1, (sl z23 f24 e25)), (2, (eptr [(int .i64 p1.Checker.Stack), (int .i64 p1.Checker.Start), (sl z2 f3 e4), (sl z6 f7 e8), (sl z10 f11 e12), (sl z14 f15 e16), (sl z18 f19 e20)] 0)), (9, (eptr [(int .i64 y95.Checker.Stack), (int .i64 y95.Checker.Start), (sl z105 f106 e107), (sl z111 f112 e113), (sl z117 f118 e119), (sl z123 f124 e125), (sl z129 f130 e131)] 0)), (10, (sl z137 f138 e139)), (56, (bool (((y142.1 != y84.1) || (y142.2.1 != y84.2.1)) || (y142.2.2 != y84.2.2))))], updL os' [], { s with lo := s.n }⟩) ?_ ?_
 ·rcases Bool.eq_false_or_eq_true ((y142.1 != y84.1) || (y142.2.1 != y84.2.1)) with hc154 | hc154
  ·refine AOps.know (d := 52) rfl hc154 ?_
   refine sk ?_
   refine sk ?_
   refine sk ?_
   refine q (bool true) ?_
   refine AOps.resR [(1, (sl z23 f24 e25)), (2, (eptr [(int .i64 p1.Checker.Stack), (int .i64 p1.Checker.Start), (sl z2 f3 e4), (sl z6 f7 e8), (sl z10 f11 e12), (sl z14 f15 e16), (sl z18 f19 e20)] 0)), (9, (eptr [(int .i64 y95.Checker.Stack), (int .i64 y95.Checker.Start), (sl z105 f106 e107), (sl z111 f112 e113), (sl z117 f118 e119), (sl z123 f124 e125), (sl z129 f130 e131)] 0)), (10, (sl z137 f138 e139)), (56, (bool (((y142.1 != y84.1) || (y142.2.1 != y84.2.1)) || (y142.2.2 != y84.2.2))))] [] ?_ ?_ _ ⟨_, _, rfl⟩
   ·exact ⟨rfl, rfl, rfl, rfl, congrArg bool (or_t hc154), trivial⟩
   exact trivial
  ·refine AOps.know (d := 52) rfl hc154 ?_
   refine q (int .i64 y142.2.2) ?_
   refine q (int .i64 y84.2.2) ?_
   refine q (bool (y142.2.2 != y84.2.2)) ?_
   refine q (bool (y142.2.2 != y84.2.2)) ?_
   refine AOps.resR [(1, (sl z23 f24 e25)), (2, (eptr [(int .i64 p1.Checker.Stack), (int .i64 p1.Checker.Start), (sl z2 f3 e4), (sl z6 f7 e8), (sl z10 f11 e12), (sl z14 f15 e16), (sl z18 f19 e20)] 0)), (9, (eptr [(int .i64 y95.Checker.Stack), (int .i64 y95.Checker.Start), (sl z105 f106 e107), (sl z111 f112 e113), (sl z117 f118 e119), (sl z123 f124 e125), (sl z129 f130 e131)] 0)), (10, (sl z137 f138 e139)), (56, (bool (((y142.1 != y84.1) || (y142.2.1 != y84.2.1)) || (y142.2.2 != y84.2.2))))] [] ?_ ?_ _ ⟨_, _, rfl⟩
   ·exact ⟨rfl, rfl, rfl, rfl, congrArg bool (or_f hc154), trivial⟩
   exact trivial
 rintro _ ⟨tm, os, rfl⟩
 refine nl ?_
 rcases oite h with ⟨hc155, h⟩ | ⟨hc155, h⟩
 ·refine AW.condT (congrArg bool hc155) ?_
  refine sr ?_
  refine q (bool false) ?_
  refine nl ?_
  cases h
  exact AW.ret ⟨rfl, _, _, rfl, rfl⟩
 refine AW.condF (congrArg bool hc155) ?_
 refine AW.skip ?_
 refine AW.seq ?_
 refine sr ?_
 refine lE (agg [(int .i64 y95.Checker.Stack), (int .i64 y95.Checker.Start), (sl z105 f106 e107), (sl z111 f112 e113), (sl z117 f118 e119), (sl z123 f124 e125), (sl z129 f130 e131)]) ?_
 refine lE (agg [(int .i64 p1.Checker.Stack), (int .i64 p1.Checker.Start), (sl z2 f3 e4), (sl z6 f7 e8), (sl z10 f11 e12), (sl z14 f15 e16), (sl z18 f19 e20)]) ?_
 obtain ⟨y156, h157, h⟩ := obind h
 refine AOps.callDP (g := 7) (args := [(agg [(int .i64 p1.Checker.Stack), (int .i64 p1.Checker.Start), (sl z2 f3 e4), (sl z6 f7 e8), (sl z10 f11 e12), (sl z14 f15 e16), (sl z18 f19 e20)])]) (p := (rStream) y156) rfl rfl rfl (laws_toStream_ok h5 h9 h13 h17 h21 h157 hWF.still) (fun v hv => Nice.pure (k := FINK) (p := (rStream) y156) (.A (.cons .I (.cons .I (.cons (.L fun _ => .B) (.cons (.L fun _ => (.L fun _ => (.A (.cons .I (.cons .I .nil))))) (.cons (.L fun _ => (.L fun _ => (.L fun _ => .I))) (.cons (.L fun _ => (.L fun _ => .I)) (.cons (.L fun _ => .S) .nil)))))))) _ v hv) ?_
 intro _ o194 h158
 obtain ⟨_, rfl, h159⟩ := h158
 obtain ⟨_, _, rfl, h160, h161⟩ := Cs_cons h159
 cases h160
 obtain ⟨_, _, rfl, h162, h163⟩ := Cs_cons h161
 cases h162
 obtain ⟨_, _, rfl, h164, h165⟩ := Cs_cons h163
 obtain ⟨z166, f167, e168, rfl, h169⟩ := h164
 obtain ⟨_, _, rfl, h170, h171⟩ := Cs_cons h165
 obtain ⟨z172, f173, e174, rfl, h175⟩ := h170
 obtain ⟨_, _, rfl, h176, h177⟩ := Cs_cons h171
 obtain ⟨z178, f179, e180, rfl, h181⟩ := h176
 obtain ⟨_, _, rfl, h182, h183⟩ := Cs_cons h177
 obtain ⟨z184, f185, e186, rfl, h187⟩ := h182
 obtain ⟨_, _, rfl, h188, h189⟩ := Cs_cons h183
 obtain ⟨z190, f191, e192, rfl, h193⟩ := h188
 cases Cs_nil h189
 obtain ⟨y195, h196, h⟩ := obind h
 refine AOps.callDP (g := 10) (args := [(agg [(int .i64 y95.Checker.Stack), (int .i64 y95.Checker.Start), (sl z105 f106 e107), (sl z111 f112 e113), (sl z117 f118 e119), (sl z123 f124 e125), (sl z129 f130 e131)]), (agg [(int .i64 y156.Checker.Stack), (int .i64 y156.Checker.Start), (sl z166 f167 e168), (sl z172 f173 e174), (sl z178 f179 e180), (sl z184 f185 e186), (sl z190 f191 e192)])]) (p := (rB) y195) rfl rfl rfl (laws_eqStream_ok h108 h114 h120 h126 h132 h169 h175 h181 h187 h193 h196 hWF.still) (fun v hv => Nice.pure (k := FINK) (p := (rB) y195) .B _ v hv) ?_
 intro _ o198 h197
 cases h197
 refine q (bool (!y195)) ?_
 refine nl ?_
 rcases oite h with ⟨hc199, h⟩ | ⟨hc199, h⟩
 ·refine AW.condT (congrArg bool hc199) ?_
  refine sr ?_
  refine q (bool false) ?_
  refine nl ?_
  cases h
  exact AW.ret ⟨rfl, _, _, rfl, rfl⟩
 refine AW.condF (congrArg bool hc199) ?_
 refine AW.skip ?_
 refine AW.seq ?_
 refine sr ?_
 refine q (sl z137 f138 e139) ?_
 refine q (sl z23 f24 e25) ?_
 obtain ⟨y200, h201, h⟩ := obind h
 refine AOps.callP (g := 8) (args := [(sl z23 f24 e25)]) (p := (rL rDeed 3) y200) rfl rfl rfl (laws_toDeedS_ok h26 h201 hWF) ?_
 intro _ o207 h202
 obtain ⟨z203, f204, e205, rfl, h206⟩ := h202
 obtain ⟨y208, h209, h⟩ := obind h
 refine AOps.callP (g := 11) (args := [(sl z137 f138 e139), (sl z203 f204 e205)]) (p := (rB) y208) rfl rfl rfl (laws_eqDeedS_ok h140 h206 h209 hWF) ?_
 intro _ o211 h210
 cases h210
 refine q (bool (!y208)) ?_
 refine nl ?_
 rcases oite h with ⟨hc212, h⟩ | ⟨hc212, h⟩
 ·refine AW.condT (congrArg bool hc212) ?_
  refine sr ?_
  refine q (bool false) ?_
  refine nl ?_
  cases h
  exact AW.ret ⟨rfl, _, _, rfl, rfl⟩
 refine AW.condF (congrArg bool hc212) ?_
 refine AW.skip ?_
 refine sr ?_
 refine q (bool true) ?_
 refine nl ?_
 cases h
 exact AW.ret ⟨rfl, _, _, rfl, rfl⟩
end Go.Proofs.YtdjbgfdippdfkaaGreat.law
