import Derived.Test.YtkncjenknfklhaaGreatAeD
import Derived.Test.YtkncjenknfklhaaGreatAe4
import Derived.Test.YtkncjenknfklhaaGreatAeK2
set_option linter.unusedVariables false
set_option linter.unusedSimpArgs false
namespace Go.Proofs.YtkncjenknfklhaaGreat.law
open Go Go.Proofs Ae
open Ae.AV (int sl eptr agg ptr bool str)
set_option maxRecDepth 100000
set_option linter.unusedVariables false
theorem impl_works_comeIn_K10_ok {p3 p4 p14 p15 p29 p30 : Int} {p5 p13 p16 p24 : List Int} {p28 : List Parcel} {p31 : List Bool} {p36 : List (List Push)} {p41 : List (List (List Int))} {p46 : List (List Int)} {p51 : List (List UInt8)} {p1_56 : Parcel} {b1 z6 z17 z32 z37 z42 z47 z52 z57 : Nat} {w2 : Nat → Bool} {f7 f18 f33 f38 f43 f48 f53 f58 : Bool} {e8 e19 e34 e39 e44 e49 e54 e59 : List AV} {h10 h21 h25 : AV} {k11 k22 k26 : KT} {s : St} (h9 : LR (rI .i64) 1 p5 z6 e8) (ho12 : h10.one = true) (h20 : LR (rI .i64) 1 p16 z17 e19) (ho23 : h21.one = true) (ho27 : h25.one = true) (h35 : LR rB 1 p31 z32 e34) (h40 : LR (rL rPush 2) 1 p36 z37 e39) (h45 : LR (rL (rL (rI .i64) 1) 1) 1 p41 z42 e44) (h50 : LR (rL (rI .i64) 1) 1 p46 z47 e49) (h55 : LR rS 1 p51 z52 e54) (h60 : LR rS 1 p1_56.Texts z57 e59) {ex : List Nat} {Ls0 : List (List BX)} (hH0 : HS ex true s s (([⟨some b1, [(int .i64 p3), (int .i64 p4), (sl z6 f7 e8), h10, (int .i64 p14), (int .i64 p15), (sl z17 f18 e19), h21, h25, (int .i64 p29), (int .i64 p30), (sl z32 f33 e34), (sl z37 f38 e39), (sl z42 f43 e44), (sl z47 f48 e49), (sl z52 f53 e54)], w2⟩] : List BX) ++ List.flatten Ls0)) (hG0 : AllG [OS oE2 h10 k11 p13, OS oE2 h21 k22 p24, OS oE109 h25 k26 p28] Ls0) (hl : LoOK ex true s) {r : Unit × (List Int) × Int × Int × (List Int)} (h : impl_works_comeIn_K10 p3 p4 p5 p13 p14 p15 p16 p24 p28 p29 p30 p31 p36 p41 p46 p51 p1_56 = some r) (hs : WF s) : ACall Cf 70 [(ptr b1 0), (agg [(int .i64 p1_56.First), (sl z57 f58 e59)])] s (fun v _ s' => ∃ (h1' : AV) (k2' : KT) (w4' : Nat → Bool) (z5' : Nat) (f6' : Bool) (e7' : List AV) (Ls' : List (List BX)), v = (AV.tup []) ∧ HS ex true s s' (([⟨some b1, [(int .i64 r.2.2.1), (int .i64 r.2.2.2.1), (sl z5' f6' e7'), h1', (int .i64 p14), (int .i64 p15), (sl z17 f18 e19), h21, h25, (int .i64 p29), (int .i64 p30), (sl z32 f33 e34), (sl z37 f38 e39), (sl z42 f43 e44), (sl z47 f48 e49), (sl z52 f53 e54)], w4'⟩] : List BX) ++ List.flatten Ls') ∧ AllG [OS oE2 h1' k2' r.2.1, OS oE2 h21 k22 p24, OS oE109 h25 k26 p28] Ls' ∧ h1'.one = true ∧ LR (rI .i64) 1 r.2.2.2.2 z5' e7') true := by
 refine ACall.keepR rfl rfl rfl ?_
 unfold impl_works_comeIn_K10 at h
 refine sr ?_
 refine AOps.makeR rfl rfl rfl rfl rfl rfl (rfl : _ = (eptr [(int .i64 p1_56.First), (sl z57 f58 e59)] 0)) ?_
 refine ns ?_
 refine q (ptr b1 0) ?_
 refine q (ptr b1 0) ?_
 refine q (ptr b1 0) ?_
 refine q (ptr b1 0) ?_
 refine aq (ptr b1 0) ?_
 refine nl ?_
 refine AW.seq ?_
 refine sr ?_
 refine q (eptr [(int .i64 p1_56.First), (sl z57 f58 e59)] 1) ?_
 refine lE (sl z57 f58 e59) ?_
 obtain ⟨y61, h62, h⟩ := obind h
 refine AOps.callP (g := 60) (args := [(sl z57 f58 e59)]) (p := (rI .i64) y61) rfl rfl rfl (impl_size_string_ok h60 h62 (HS.wf' hH0)) ?_
 intro _ o64 h63
 cases h63
 refine q (int .i64 0) ?_
 refine nl ?_
 refine AW.meet (σ := (List Int) × (Nat → Bool) × AV × KT × St × (List (List BX))) (fun (m66, w65, h67, k68, s70, Ls71) tm os => ⟨updL tm [(0, (ptr b1 0)), (4, (ptr b1 0))], updL os [], s70⟩) (fun (m66, w65, h67, k68, s70, Ls71) => (h67.one = true) ∧ (HS ex true s s70 (([⟨some b1, [(int .i64 p3), (int .i64 p4), (sl z6 f7 e8), h67, (int .i64 p14), (int .i64 p15), (sl z17 f18 e19), h21, h25, (int .i64 p29), (int .i64 p30), (sl z32 f33 e34), (sl z37 f38 e39), (sl z42 f43 e44), (sl z47 f48 e49), (sl z52 f53 e54)], w65⟩] : List BX) ++ List.flatten Ls71)) ∧ (AllG [OS oE2 h67 k68 m66, OS oE2 h21 k22 p24, OS oE109 h25 k26 p28] Ls71) ∧ impl_works_comeIn_K10_J1 p3 p4 p5 p29 p30 p31 p36 p41 p46 p51 m66 = some r) ?_ ?_
 ·rintro ⟨m66, w65, h67, k68, s70, Ls71⟩ tm os ⟨ho69, hH72, hG73, h⟩
  unfold impl_works_comeIn_K10_J1 at h
  refine sr ?_
  refine q (ptr b1 0) ?_
  refine q (ptr b1 0) ?_
  refine q (ptr b1 3) ?_
  refine AOps.ldB (i := 0) (v := h67) hH72 rfl rfl rfl rfl rfl rfl rfl rfl rfl ?_
  obtain ⟨y75, h76, h⟩ := obind h
  have hP77 := HS.pop0 hH72
  have hF0 : AllG ([] : List (List BX → Prop)) [] := AllG.nil
  obtain ⟨Ls79, Lf80, hG81, hF82, hP78⟩ := HS.popG hP77 hG73 hF0 (j := 0) rfl
  refine AOps.callF (al := false) (g := 94) (args := [h67]) rfl rfl rfl (sortK (e := oE2) own_int rfl rfl rfl (HS.enterK hP78) hF82 (HS.enterLo hP78 hl) h76) ?_
  rintro _ _ s83 ⟨Ls84, rfl, hH85, hG86⟩
  have hJ87 := HS.joinK hP78 hH85
  obtain ⟨Ls88, Lf89, hG90, hF91, hP92⟩ := HS.putG hJ87 hG81 hG86 (j := 0) rfl
  cases hF91
  have hH93 := HS.push0 hP92
  change HS ex true s s83 (([⟨some b1, [(int .i64 p3), (int .i64 p4), (sl z6 f7 e8), h67, (int .i64 p14), (int .i64 p15), (sl z17 f18 e19), h21, h25, (int .i64 p29), (int .i64 p30), (sl z32 f33 e34), (sl z37 f38 e39), (sl z42 f43 e44), (sl z47 f48 e49), (sl z52 f53 e54)], w65⟩] : List BX) ++ List.flatten Ls88) at hH93
  change AllG [OS oE2 h67 k68 y75, OS oE2 h21 k22 p24, OS oE109 h25 k26 p28] Ls88 at hG90
  refine nl ?_
  refine AW.meet (σ := Int × Int × (List Int) × (List Int) × (Nat → Bool) × Nat × Bool × (List AV) × AV × KT × St × (List (List BX))) (fun (m95, m96, m97, m102, w94, z98, f99, e100, h103, k104, s106, Ls107) tm os => ⟨updL tm [], updL os [], s106⟩) (fun (m95, m96, m97, m102, w94, z98, f99, e100, h103, k104, s106, Ls107) => (LR (rI .i64) 1 m97 z98 e100) ∧ (h103.one = true) ∧ (HS ex true s s106 (([⟨some b1, [(int .i64 m95), (int .i64 m96), (sl z98 f99 e100), h103, (int .i64 p14), (int .i64 p15), (sl z17 f18 e19), h21, h25, (int .i64 p29), (int .i64 p30), (sl z32 f33 e34), (sl z37 f38 e39), (sl z42 f43 e44), (sl z47 f48 e49), (sl z52 f53 e54)], w94⟩] : List BX) ++ List.flatten Ls107)) ∧ (AllG [OS oE2 h103 k104 m102, OS oE2 h21 k22 p24, OS oE109 h25 k26 p28] Ls107) ∧ impl_works_comeIn_K10_J2 m95 m96 m97 m102 = some r) ?_ ?_
  ·rintro ⟨m95, m96, m97, m102, w94, z98, f99, e100, h103, k104, s106, Ls107⟩ tm os ⟨h101, ho105, hH108, hG109, h⟩
   unfold impl_works_comeIn_K10_J2 at h
   cases h
   exact AW.nil ⟨_, _, rfl, ⟨h103, k104, w94, z98, f99, e100, Ls107, rfl, hH108, hG109, ho105, h101⟩⟩
  intro KJ110
  refine AW.block ?_
  refine AW.res [(0, (ptr b1 0)), (4, (ptr b1 0))] [] ⟨rfl, rfl, trivial⟩ trivial ?_
  refine AW.loopF (σ := Int × Int × (List Int) × (List Int)) (τ := (Nat → Bool) × Nat × Bool × (List AV) × AV × KT × St × (List (List BX))) (fun (m112, m113, m114, m119) (w111, z115, f116, e117, h120, k121, s123, Ls124) => (LR (rI .i64) 1 m114 z115 e117) ∧ (h120.one = true) ∧ (HS ex true s s123 (([⟨some b1, [(int .i64 m112), (int .i64 m113), (sl z115 f116 e117), h120, (int .i64 p14), (int .i64 p15), (sl z17 f18 e19), h21, h25, (int .i64 p29), (int .i64 p30), (sl z32 f33 e34), (sl z37 f38 e39), (sl z42 f43 e44), (sl z47 f48 e49), (sl z52 f53 e54)], w111⟩] : List BX) ++ List.flatten Ls124)) ∧ (AllG [OS oE2 h120 k121 m119, OS oE2 h21 k22 p24, OS oE109 h25 k26 p28] Ls124)) (fun (m112, m113, m114, m119) (w111, z115, f116, e117, h120, k121, s123, Ls124) tm os => ⟨updL tm [(0, (ptr b1 0)), (4, (ptr b1 0))], updL os [], s123⟩) ?_ (x := (p3, p4, p5, y75)) (y := (w65, z6, f7, e8, h67, k68, s83, Ls88)) h ⟨h9, ho69, hH93, hG90⟩
  clear h
  rintro ⟨m112, m113, m114, m119⟩ ⟨w111, z115, f116, e117, h120, k121, s123, Ls124⟩ tm os ⟨h118, ho122, hH125, hG126⟩ ee1 h hL1 hR1
  unfold impl_works_comeIn_K10_S1 at h
  dsimp only at h
  refine AW.seq ?_
  refine sr ?_
  refine q (ptr b1 0) ?_
  refine q (ptr b1 0) ?_
  refine q (ptr b1 3) ?_
  refine AOps.ldB (i := 0) (v := h120) hH125 rfl rfl rfl rfl rfl rfl rfl rfl rfl ?_
  refine AOps.lenO (j := 0) hG126 rfl Sub.here rfl rfl rfl rfl rfl ?_
  refine q (bool (decide (((m119.length : Int) : Int) > 0))) ?_
  refine q (bool (decide (((m119.length : Int) : Int) > 0))) ?_
  obtain ⟨b128, hb, h⟩ := obind h
  refine AOps.split 12 (fun f' => ∃ tm' os', f' = ⟨updL tm' [(0, (ptr b1 0)), (4, (ptr b1 0)), (70, (bool b128))], updL os' [], s123⟩) ?_ ?_
  ·rcases oite hb with ⟨hc127, hb⟩ | ⟨hc127, hb⟩
   ·have h := hb
    refine AOps.know (d := 58) rfl hc127 ?_
    refine q (ptr b1 0) ?_
    refine q (ptr b1 0) ?_
    refine q (ptr b1 3) ?_
    refine AOps.ldB (i := 0) (v := h120) hH125 rfl rfl rfl rfl rfl rfl rfl rfl rfl ?_
    obtain ⟨x131, h132, h⟩ := obind h
    refine AOps.idxO (j := 0) hG126 rfl Sub.here h132 rfl rfl rfl rfl rfl rfl rfl rfl rfl ?_
    intro b129 hb130
    refine AOps.ldO (j := 0) (q := 0) hH125 hG126 rfl Sub.here h132 hb130 rfl rfl rfl rfl rfl (lt_b rfl) (le_b rfl) rfl rfl ?_ (fun c B hc => by obtain ⟨⟨_, hr, rfl⟩, rfl⟩ := hc; cases hr; exact ⟨_, rfl⟩)
    intro c133 B134 v135 h136 h137
    obtain ⟨⟨_, h138, rfl⟩, rfl⟩ := h136
    cases h138
    cases h137
    refine q (ptr b1 0) ?_
    refine q (ptr b1 0) ?_
    refine q (ptr b1 0) ?_
    refine AOps.ldB (i := 0) (v := (int .i64 m112)) hH125 rfl rfl rfl rfl rfl rfl rfl rfl rfl ?_
    refine q (bool (x131 == m112)) ?_
    refine q (bool (x131 == m112)) ?_
    refine AOps.resR [(0, (ptr b1 0)), (4, (ptr b1 0)), (70, (bool b128))] [] ?_ ?_ _ ⟨_, _, rfl⟩
    ·exact ⟨rfl, rfl, congrArg bool (Option.some.inj h), trivial⟩
    exact trivial
   ·refine AOps.know (d := 58) rfl hc127 ?_
    refine sk ?_
    refine sk ?_
    refine sk ?_
    refine sk ?_
    refine sk ?_
    refine sk ?_
    refine sk ?_
    refine sk ?_
    refine sk ?_
    refine sk ?_
    refine sk ?_
    refine q (bool false) ?_
    refine AOps.resR [(0, (ptr b1 0)), (4, (ptr b1 0)), (70, (bool b128))] [] ?_ ?_ _ ⟨_, _, rfl⟩
    ·exact ⟨rfl, rfl, congrArg bool (Option.some.inj hb), trivial⟩
    exact trivial
  rintro _ ⟨tm, os, rfl⟩
  refine nl ?_
  rcases oite h with ⟨hc139, h⟩ | ⟨hc139, h⟩
  ·refine AW.condT (congrArg bool hc139) ?_
   refine AW.skip ?_
   refine AW.block ?_
   refine sr ?_
   refine q (ptr b1 0) ?_
   refine q (ptr b1 0) ?_
   refine q (ptr b1 0) ?_
   refine q (ptr b1 0) ?_
   refine q (ptr b1 9) ?_
   refine q (ptr b1 9) ?_
   refine AOps.ldB (i := 0) (v := (agg [(int .i64 p29), (int .i64 p30), (sl z32 f33 e34), (sl z37 f38 e39), (sl z42 f43 e44), (sl z47 f48 e49)])) hH125 rfl rfl rfl rfl rfl rfl rfl rfl rfl ?_
   refine q (ptr b1 0) ?_
   refine q (ptr b1 0) ?_
   refine q (ptr b1 1) ?_
   refine AOps.ldB (i := 0) (v := (int .i64 m113)) hH125 rfl rfl rfl rfl rfl rfl rfl rfl rfl ?_
   refine q (ptr b1 0) ?_
   refine q (ptr b1 0) ?_
   refine q (ptr b1 2) ?_
   refine AOps.ldB (i := 0) (v := (sl z115 f116 e117)) hH125 rfl rfl rfl rfl rfl rfl rfl rfl rfl ?_
   refine q (ptr b1 0) ?_
   refine q (ptr b1 0) ?_
   refine q (ptr b1 9) ?_
   refine q (ptr b1 15) ?_
   refine AOps.ldB (i := 0) (v := (sl z52 f53 e54)) hH125 rfl rfl rfl rfl rfl rfl rfl rfl rfl ?_
   refine q (ptr b1 0) ?_
   refine q (ptr b1 0) ?_
   refine q (ptr b1 0) ?_
   refine AOps.ldB (i := 0) (v := (int .i64 m112)) hH125 rfl rfl rfl rfl rfl rfl rfl rfl rfl ?_
   obtain ⟨x140, h141, h⟩ := obind h
   obtain ⟨v144, h142, h143⟩ := idx_sl h55 h141
   cases h142
   refine AOps.pureR rfl rfl rfl h143 rfl (rfl : _ = (eptr [(str x140)] 0)) ?_
   refine lE (str x140) ?_
   obtain ⟨y145, h146, h⟩ := obind h
   refine AOps.callDP (g := 95) (args := [(agg [(int .i64 p29), (int .i64 p30), (sl z32 f33 e34), (sl z37 f38 e39), (sl z42 f43 e44), (sl z47 f48 e49)]), (int .i64 m113), (sl z115 f116 e117), (str x140)]) (p := (fun x => rT [(rI .i64) x.1, (rL (rI .i64) 1) x.2]) y145) rfl rfl rfl (impl_Checker_end_ok h35 h40 h45 h50 h118 h146 ((HS.wf' hH125).still)) (fun v hv => Nice.pure (k := FINK) (p := (fun x => rT [(rI .i64) x.1, (rL (rI .i64) 1) x.2]) y145) (.T (.cons .I (.cons (.L fun _ => .I) .nil))) _ v hv) ?_
   intro _ o157 h147
   obtain ⟨_, rfl, h148⟩ := h147
   obtain ⟨_, _, rfl, h149, h150⟩ := Cs_cons h148
   cases h149
   obtain ⟨_, _, rfl, h151, h152⟩ := Cs_cons h150
   obtain ⟨z153, f154, e155, rfl, h156⟩ := h151
   cases Cs_nil h152
   refine q (AV.tup [(int .i64 y145.1), (sl z153 f154 e155)]) ?_
   refine q (int .i64 y145.1) ?_
   refine q (sl z153 f154 e155) ?_
   refine q (ptr b1 0) ?_
   refine q (ptr b1 1) ?_
   refine AOps.stE (i := 0) (v := (int .i64 y145.1)) hH125 hl rfl rfl rfl rfl rfl rfl rfl rfl rfl (lt_b rfl) (le_b rfl) rfl ?_
   intro w158 s159 h160 h161 hH162
   change HS ex true s s159 (([⟨some b1, [(int .i64 m112), (int .i64 y145.1), (sl z115 f116 e117), h120, (int .i64 p14), (int .i64 p15), (sl z17 f18 e19), h21, h25, (int .i64 p29), (int .i64 p30), (sl z32 f33 e34), (sl z37 f38 e39), (sl z42 f43 e44), (sl z47 f48 e49), (sl z52 f53 e54)], w158⟩] : List BX) ++ List.flatten Ls124) at hH162
   refine q (ptr b1 0) ?_
   refine q (ptr b1 2) ?_
   refine AOps.stE (i := 0) (v := (sl z153 f154 e155)) hH162 hl rfl rfl rfl rfl rfl rfl rfl rfl rfl (lt_b rfl) (le_b rfl) rfl ?_
   intro w163 s164 h165 h166 hH167
   change HS ex true s s164 (([⟨some b1, [(int .i64 m112), (int .i64 y145.1), (sl z153 f154 e155), h120, (int .i64 p14), (int .i64 p15), (sl z17 f18 e19), h21, h25, (int .i64 p29), (int .i64 p30), (sl z32 f33 e34), (sl z37 f38 e39), (sl z42 f43 e44), (sl z47 f48 e49), (sl z52 f53 e54)], w163⟩] : List BX) ++ List.flatten Ls124) at hH167
   refine ns ?_
   refine q (ptr b1 0) ?_
   refine q (ptr b1 0) ?_
   refine q (ptr b1 0) ?_
   refine q (ptr b1 3) ?_
   refine AOps.ldB (i := 0) (v := h120) hH167 rfl rfl rfl rfl rfl rfl rfl rfl rfl ?_
   obtain ⟨l168, h169, h⟩ := obind h
   refine AOps.cutO (j := 0) hH167 hG126 hl rfl rfl rfl rfl rfl rfl rfl ⟨_, rfl⟩ rfl h169 rfl rfl rfl rfl ?_
   intro h170 k172 Ls173 s174 ho171 hG175 hH176
   change HS ex true s s174 (([⟨some b1, [(int .i64 m112), (int .i64 y145.1), (sl z153 f154 e155), h120, (int .i64 p14), (int .i64 p15), (sl z17 f18 e19), h21, h25, (int .i64 p29), (int .i64 p30), (sl z32 f33 e34), (sl z37 f38 e39), (sl z42 f43 e44), (sl z47 f48 e49), (sl z52 f53 e54)], w163⟩] : List BX) ++ List.flatten Ls173) at hH176
   change AllG [OS oE2 h170 k172 l168, OS oE2 h21 k22 p24, OS oE109 h25 k26 p28] Ls173 at hG175
   refine q (ptr b1 0) ?_
   refine q (ptr b1 3) ?_
   refine AOps.stE (i := 0) (v := h170) hH176 hl rfl rfl rfl rfl rfl rfl rfl (one_lay ho171) (one_len ho171) (lt_b rfl) (le_b rfl) rfl ?_
   intro w177 s178 h179 h180 hH181
   rw [AV.cells_one ho171] at hH181
   change HS ex true s s178 (([⟨some b1, [(int .i64 m112), (int .i64 y145.1), (sl z153 f154 e155), h170, (int .i64 p14), (int .i64 p15), (sl z17 f18 e19), h21, h25, (int .i64 p29), (int .i64 p30), (sl z32 f33 e34), (sl z37 f38 e39), (sl z42 f43 e44), (sl z47 f48 e49), (sl z52 f53 e54)], w177⟩] : List BX) ++ List.flatten Ls173) at hH181
   refine nl ?_
   refine AW.region ?_
   refine q (ptr b1 0) ?_
   refine q (ptr b1 0) ?_
   refine q (ptr b1 0) ?_
   refine AOps.ldB (i := 0) (v := (int .i64 m112)) hH181 rfl rfl rfl rfl rfl rfl rfl rfl rfl ?_
   refine q (int .i64 (IntKind.wrap .i64 (m112 + 1))) ?_
   refine q (ptr b1 0) ?_
   refine q (ptr b1 0) ?_
   refine AOps.stE (i := 0) (v := (int .i64 (IntKind.wrap .i64 (m112 + 1)))) hH181 hl rfl rfl rfl rfl rfl rfl rfl rfl rfl (lt_b rfl) (le_b rfl) rfl ?_
   intro w182 s183 h184 h185 hH186
   change HS ex true s s183 (([⟨some b1, [(int .i64 (IntKind.wrap .i64 (m112 + 1))), (int .i64 y145.1), (sl z153 f154 e155), h170, (int .i64 p14), (int .i64 p15), (sl z17 f18 e19), h21, h25, (int .i64 p29), (int .i64 p30), (sl z32 f33 e34), (sl z37 f38 e39), (sl z42 f43 e44), (sl z47 f48 e49), (sl z52 f53 e54)], w182⟩] : List BX) ++ List.flatten Ls173) at hH186
   refine nl ?_
   refine AW.inBlock ?_
   cases h
   exact AW.res [(0, (ptr b1 0)), (4, (ptr b1 0))] [] ⟨rfl, rfl, trivial⟩ trivial (hL1 _ rfl (w182, z153, f154, e155, h170, k172, s183, Ls173) _ _ ⟨h156, ho171, hH186, hG175⟩)
  refine AW.condF (congrArg bool hc139) ?_
  refine AW.exit rfl ?_
  obtain ⟨r187, hm, hx⟩ := omap h
  clear h
  subst hx
  have hx := hR1 _ rfl
  rw [hx] at hm
  have h := hm
  exact AW.res [] [] trivial trivial (KJ110 (m112, m113, m114, m119, w111, z115, f116, e117, h120, k121, s123, Ls124) _ _ ⟨h118, ho122, hH125, hG126, h⟩)
 intro KJ74
 refine AW.block ?_
 refine AW.res [(0, (ptr b1 0)), (3, (eptr [(int .i64 p1_56.First), (sl z57 f58 e59)] 0)), (4, (ptr b1 0)), (13, (int .i64 y61)), (14, (int .i64 0))] [] ⟨rfl, rfl, rfl, rfl, rfl, trivial⟩ trivial ?_
 refine AW.loopF (σ := (List Int) × Int) (τ := (Nat → Bool) × AV × KT × St × (List (List BX))) (fun (m189, t193) (w188, h190, k191, s194, Ls195) => (h190.one = true) ∧ (HS ex true s s194 (([⟨some b1, [(int .i64 p3), (int .i64 p4), (sl z6 f7 e8), h190, (int .i64 p14), (int .i64 p15), (sl z17 f18 e19), h21, h25, (int .i64 p29), (int .i64 p30), (sl z32 f33 e34), (sl z37 f38 e39), (sl z42 f43 e44), (sl z47 f48 e49), (sl z52 f53 e54)], w188⟩] : List BX) ++ List.flatten Ls195)) ∧ (AllG [OS oE2 h190 k191 m189, OS oE2 h21 k22 p24, OS oE109 h25 k26 p28] Ls195)) (fun (m189, t193) (w188, h190, k191, s194, Ls195) tm os => ⟨updL tm [(0, (ptr b1 0)), (3, (eptr [(int .i64 p1_56.First), (sl z57 f58 e59)] 0)), (4, (ptr b1 0)), (13, (int .i64 y61)), (14, (int .i64 t193))], updL os [], s194⟩) ?_ (x := (p13, 0)) (y := (w2, h10, k11, s, Ls0)) h ⟨ho12, hH0, hG0⟩
 clear h
 rintro ⟨m189, t193⟩ ⟨w188, h190, k191, s194, Ls195⟩ tm os ⟨ho192, hH196, hG197⟩ ee1 h hL1 hR1
 unfold impl_works_comeIn_K10_S2 at h
 dsimp only at h
 refine sr ?_
 refine q (bool (decide ((t193 : Int) < y61))) ?_
 refine nl ?_
 refine AW.seq ?_
 rcases oite h with ⟨hc198, h⟩ | ⟨hc198, h⟩
 ·refine AW.condT (congrArg bool hc198) ?_
  refine AW.skip ?_
  refine AW.seq ?_
  refine AW.block ?_
  refine sr ?_
  refine q (int .i64 t193) ?_
  refine aq (int .i64 t193) ?_
  refine ns ?_
  refine q (eptr [(int .i64 p1_56.First), (sl z57 f58 e59)] 0) ?_
  refine lE (int .i64 p1_56.First) ?_
  refine q (int .i64 t193) ?_
  refine q (int .i64 (IntKind.wrap .i64 (p1_56.First + t193))) ?_
  refine aq (int .i64 (IntKind.wrap .i64 (p1_56.First + t193))) ?_
  refine ns ?_
  refine q (int .i64 (IntKind.wrap .i64 (p1_56.First + t193))) ?_
  refine q (ptr b1 0) ?_
  refine q (ptr b1 0) ?_
  refine q (ptr b1 0) ?_
  refine AOps.ldB (i := 0) (v := (int .i64 p3)) hH196 rfl rfl rfl rfl rfl rfl rfl rfl rfl ?_
  refine q (bool (decide ((IntKind.wrap .i64 (p1_56.First + t193) : Int) ≥ p3))) ?_
  refine q (bool (decide ((IntKind.wrap .i64 (p1_56.First + t193) : Int) ≥ p3))) ?_
  obtain ⟨b200, hb, h⟩ := obind h
  refine AOps.split 8 (fun f' => ∃ tm' os', f' = ⟨updL tm' [(0, (ptr b1 0)), (3, (eptr [(int .i64 p1_56.First), (sl z57 f58 e59)] 0)), (4, (ptr b1 0)), (6, (int .i64 (IntKind.wrap .i64 (p1_56.First + t193)))), (13, (int .i64 y61)), (14, (int .i64 t193)), (35, (bool b200))], updL os' [], s194⟩) ?_ ?_
  ·rcases oite hb with ⟨hc199, hb⟩ | ⟨hc199, hb⟩
   ·have h := hb
    refine AOps.know (d := 27) rfl hc199 ?_
    refine q (ptr b1 0) ?_
    refine q (ptr b1 0) ?_
    refine q (ptr b1 3) ?_
    refine AOps.ldB (i := 0) (v := h190) hH196 rfl rfl rfl rfl rfl rfl rfl rfl rfl ?_
    refine q (int .i64 (IntKind.wrap .i64 (p1_56.First + t193))) ?_
    obtain ⟨y201, h202, h⟩ := obind h
    refine AOps.lendP (g := 93) (args := [h190, (int .i64 (IntKind.wrap .i64 (p1_56.First + t193)))]) (ps := [(rL (rI .i64) 1) m189, (rI .i64) (IntKind.wrap .i64 (p1_56.First + t193))]) (p := (rB) y201) rfl rfl rfl rfl rfl rfl rfl (.cons (Fin.up (by decide) (HS.finS hH196 hG197 (j := 0) rfl Sub.here (Or.inl rfl))) (.cons (Fin.of (p := (rI .i64) (IntKind.wrap .i64 (p1_56.First + t193))) .I rfl) .nil)) (fun args' hc => by obtain ⟨_, _, rfl, hv0, hd0⟩ := Cs_cons hc; obtain ⟨z203, f204, e205, rfl, h206⟩ := hv0; obtain ⟨_, _, rfl, hv1, hd1⟩ := Cs_cons hd0; cases hv1; cases Cs_nil hd1; exact slices_Contains_sint64_int64_okN h206 h202 WF.blind) (fun v n hv => by cases hv; rfl) ?_
    intro _ h207
    cases h207
    refine q (bool (!y201)) ?_
    refine q (bool (!y201)) ?_
    refine AOps.resR [(0, (ptr b1 0)), (3, (eptr [(int .i64 p1_56.First), (sl z57 f58 e59)] 0)), (4, (ptr b1 0)), (6, (int .i64 (IntKind.wrap .i64 (p1_56.First + t193)))), (13, (int .i64 y61)), (14, (int .i64 t193)), (35, (bool b200))] [] ?_ ?_ _ ⟨_, _, rfl⟩
    ·exact ⟨rfl, rfl, rfl, rfl, rfl, rfl, congrArg bool (Option.some.inj h), trivial⟩
    exact trivial
   ·refine AOps.know (d := 27) rfl hc199 ?_
    refine sk ?_
    refine sk ?_
    refine sk ?_
    refine sk ?_
    refine sk ?_
    refine sk ?_
    refine sk ?_
    refine q (bool false) ?_
    refine AOps.resR [(0, (ptr b1 0)), (3, (eptr [(int .i64 p1_56.First), (sl z57 f58 e59)] 0)), (4, (ptr b1 0)), (6, (int .i64 (IntKind.wrap .i64 (p1_56.First + t193)))), (13, (int .i64 y61)), (14, (int .i64 t193)), (35, (bool b200))] [] ?_ ?_ _ ⟨_, _, rfl⟩
    ·exact ⟨rfl, rfl, rfl, rfl, rfl, rfl, congrArg bool (Option.some.inj hb), trivial⟩
    exact trivial
  rintro _ ⟨tm, os, rfl⟩
  refine nl ?_
  refine AW.meet (σ := (List Int) × (Nat → Bool) × AV × KT × St × (List (List BX))) (fun (m209, w208, h210, k211, s213, Ls214) tm os => ⟨updL tm [(0, (ptr b1 0)), (3, (eptr [(int .i64 p1_56.First), (sl z57 f58 e59)] 0)), (4, (ptr b1 0)), (13, (int .i64 y61)), (14, (int .i64 t193))], updL os [], s213⟩) (fun (m209, w208, h210, k211, s213, Ls214) => (h210.one = true) ∧ (HS ex true s s213 (([⟨some b1, [(int .i64 p3), (int .i64 p4), (sl z6 f7 e8), h210, (int .i64 p14), (int .i64 p15), (sl z17 f18 e19), h21, h25, (int .i64 p29), (int .i64 p30), (sl z32 f33 e34), (sl z37 f38 e39), (sl z42 f43 e44), (sl z47 f48 e49), (sl z52 f53 e54)], w208⟩] : List BX) ++ List.flatten Ls214)) ∧ (AllG [OS oE2 h210 k211 m209, OS oE2 h21 k22 p24, OS oE109 h25 k26 p28] Ls214) ∧ impl_works_comeIn_K10_J3 t193 m209 = some ee1) ?_ ?_
  ·rintro ⟨m209, w208, h210, k211, s213, Ls214⟩ tm os ⟨ho212, hH215, hG216, h⟩
   unfold impl_works_comeIn_K10_J3 at h
   refine AW.inBlock ?_
   refine AW.region ?_
   refine q (int .i64 (IntKind.wrap .i64 (t193 + 1))) ?_
   refine q (int .i64 (IntKind.wrap .i64 (t193 + 1))) ?_
   refine nl ?_
   cases h
   exact AW.res [(0, (ptr b1 0)), (3, (eptr [(int .i64 p1_56.First), (sl z57 f58 e59)] 0)), (4, (ptr b1 0)), (13, (int .i64 y61)), (14, (int .i64 (IntKind.wrap .i64 (t193 + 1))))] [] ⟨rfl, rfl, rfl, rfl, rfl, trivial⟩ trivial (hL1 _ rfl (w208, h210, k211, s213, Ls214) _ _ ⟨ho212, hH215, hG216⟩)
  intro KJ217
  rcases oite h with ⟨hc218, h⟩ | ⟨hc218, h⟩
  ·refine AW.condT (congrArg bool hc218) ?_
   refine AW.region ?_
   refine q (ptr b1 0) ?_
   refine q (ptr b1 0) ?_
   refine q (ptr b1 0) ?_
   refine q (ptr b1 3) ?_
   refine AOps.ldB (i := 0) (v := h190) hH196 rfl rfl rfl rfl rfl rfl rfl rfl rfl ?_
   refine q (int .i64 (IntKind.wrap .i64 (p1_56.First + t193))) ?_
   refine AOps.makeR rfl rfl rfl rfl rfl rfl (rfl : _ = (sl 1 true [(int .i64 (IntKind.wrap .i64 (p1_56.First + t193)))])) ?_
   obtain ⟨l219, h220, h⟩ := obind h
   refine AOps.appLf (j := 0) (z' := 1) (f' := true) (e' := [(int .i64 (IntKind.wrap .i64 (p1_56.First + t193)))]) hH196 hG197 rfl rfl rfl rfl rfl rfl rfl rfl (appSrc_sl (LR.z (LR.lit (r := rI .i64) (sz := 1) (.cons rfl .nil))) rfl) ⟨by decide, by decide, rfl, rfl⟩ ⟨rfl, rfl⟩ rfl rfl h220 (LR.el (LR.lit (r := rI .i64) (sz := 1) (.cons rfl .nil))).len (fun i => OL.leaf (LR.el (LR.lit (r := rI .i64) (sz := 1) (.cons rfl .nil))) i) ?_
   intro h221 k223 Ls224 s225 ho222 hG226 hH227
   change HS ex true s s225 (([⟨some b1, [(int .i64 p3), (int .i64 p4), (sl z6 f7 e8), h190, (int .i64 p14), (int .i64 p15), (sl z17 f18 e19), h21, h25, (int .i64 p29), (int .i64 p30), (sl z32 f33 e34), (sl z37 f38 e39), (sl z42 f43 e44), (sl z47 f48 e49), (sl z52 f53 e54)], w188⟩] : List BX) ++ List.flatten Ls224) at hH227
   change AllG [OS oE2 h221 k223 l219, OS oE2 h21 k22 p24, OS oE109 h25 k26 p28] Ls224 at hG226
   refine q (ptr b1 0) ?_
   refine q (ptr b1 3) ?_
   refine AOps.stE (i := 0) (v := h221) hH227 hl rfl rfl rfl rfl rfl rfl rfl (one_lay ho222) (one_len ho222) (lt_b rfl) (le_b rfl) rfl ?_
   intro w228 s229 h230 h231 hH232
   rw [AV.cells_one ho222] at hH232
   change HS ex true s s229 (([⟨some b1, [(int .i64 p3), (int .i64 p4), (sl z6 f7 e8), h221, (int .i64 p14), (int .i64 p15), (sl z17 f18 e19), h21, h25, (int .i64 p29), (int .i64 p30), (sl z32 f33 e34), (sl z37 f38 e39), (sl z42 f43 e44), (sl z47 f48 e49), (sl z52 f53 e54)], w228⟩] : List BX) ++ List.flatten Ls224) at hH232
   refine nl ?_
   exact AW.res [(0, (ptr b1 0)), (3, (eptr [(int .i64 p1_56.First), (sl z57 f58 e59)] 0)), (4, (ptr b1 0)), (13, (int .i64 y61)), (14, (int .i64 t193))] [] ⟨rfl, rfl, rfl, rfl, rfl, trivial⟩ trivial (KJ217 (l219, w228, h221, k223, s229, Ls224) _ _ ⟨ho222, hH232, hG226, h⟩)
  refine AW.condF (congrArg bool hc218) ?_
  refine AW.skip ?_
  exact AW.res [(0, (ptr b1 0)), (3, (eptr [(int .i64 p1_56.First), (sl z57 f58 e59)] 0)), (4, (ptr b1 0)), (13, (int .i64 y61)), (14, (int .i64 t193))] [] ⟨rfl, rfl, rfl, rfl, rfl, trivial⟩ trivial (KJ217 (m189, w188, h190, k191, s194, Ls195) _ _ ⟨ho192, hH196, hG197, h⟩)
 refine AW.condF (congrArg bool hc198) ?_
 refine AW.exit rfl ?_
 obtain ⟨r233, hm, hx⟩ := omap h
 clear h
 subst hx
 have hx := hR1 _ rfl
 rw [hx] at hm
 have h := hm
 exact AW.res [(0, (ptr b1 0)), (4, (ptr b1 0))] [] ⟨rfl, rfl, trivial⟩ trivial (KJ74 (m189, w188, h190, k191, s194, Ls195) _ _ ⟨ho192, hH196, hG197, h⟩)
theorem impl_works_do_K10_ok {p3 p4 p14 p15 p29 p30 : Int} {p5 p13 p16 p24 : List Int} {p28 : List Parcel} {p31 : List Bool} {p36 : List (List Push)} {p41 : List (List (List Int))} {p46 : List (List Int)} {p51 : List (List UInt8)} {p1_56 : Deed} {b1 z6 z17 z32 z37 z42 z47 z52 : Nat} {w2 : Nat → Bool} {f7 f18 f33 f38 f43 f48 f53 : Bool} {e8 e19 e34 e39 e44 e49 e54 : List AV} {h10 h21 h25 : AV} {k11 k22 k26 : KT} {s : St} (h9 : LR (rI .i64) 1 p5 z6 e8) (ho12 : h10.one = true) (h20 : LR (rI .i64) 1 p16 z17 e19) (ho23 : h21.one = true) (ho27 : h25.one = true) (h35 : LR rB 1 p31 z32 e34) (h40 : LR (rL rPush 2) 1 p36 z37 e39) (h45 : LR (rL (rL (rI .i64) 1) 1) 1 p41 z42 e44) (h50 : LR (rL (rI .i64) 1) 1 p46 z47 e49) (h55 : LR rS 1 p51 z52 e54) {ex : List Nat} {Ls0 : List (List BX)} (hH0 : HS ex true s s (([⟨some b1, [(int .i64 p3), (int .i64 p4), (sl z6 f7 e8), h10, (int .i64 p14), (int .i64 p15), (sl z17 f18 e19), h21, h25, (int .i64 p29), (int .i64 p30), (sl z32 f33 e34), (sl z37 f38 e39), (sl z42 f43 e44), (sl z47 f48 e49), (sl z52 f53 e54)], w2⟩] : List BX) ++ List.flatten Ls0)) (hG0 : AllG [OS oE2 h10 k11 p13, OS oE2 h21 k22 p24, OS oE109 h25 k26 p28] Ls0) (hl : LoOK ex true s) {r : Int × (List Int) × (List Int) × (List Parcel) × Int × Int × (List Int) × Int × Int × (List Int)} (h : impl_works_do_K10 p3 p4 p5 p13 p14 p15 p16 p24 p28 p29 p30 p31 p36 p41 p46 p51 p1_56 = some r) (hs : WF s) : ACall Cf 42 [(ptr b1 0), (agg [(int .i64 p1_56.Kind), (int .i64 p1_56.A), (int .i64 p1_56.B)])] s (fun v _ s' => ∃ (h1' : AV) (k2' : KT) (h4' : AV) (k5' : KT) (h7' : AV) (k8' : KT) (w10' : Nat → Bool) (z11' : Nat) (f12' : Bool) (e13' : List AV) (z15' : Nat) (f16' : Bool) (e17' : List AV) (Ls' : List (List BX)), v = (int .i64 r.1) ∧ HS ex true s s' (([⟨some b1, [(int .i64 r.2.2.2.2.1), (int .i64 r.2.2.2.2.2.1), (sl z11' f12' e13'), h1', (int .i64 r.2.2.2.2.2.2.2.1), (int .i64 r.2.2.2.2.2.2.2.2.1), (sl z15' f16' e17'), h4', h7', (int .i64 p29), (int .i64 p30), (sl z32 f33 e34), (sl z37 f38 e39), (sl z42 f43 e44), (sl z47 f48 e49), (sl z52 f53 e54)], w10'⟩] : List BX) ++ List.flatten Ls') ∧ AllG [OS oE2 h1' k2' r.2.1, OS oE2 h4' k5' r.2.2.1, OS oE109 h7' k8' r.2.2.2.1] Ls' ∧ h1'.one = true ∧ h4'.one = true ∧ h7'.one = true ∧ LR (rI .i64) 1 r.2.2.2.2.2.2.1 z11' e13' ∧ LR (rI .i64) 1 r.2.2.2.2.2.2.2.2.2 z15' e17') true := by
 refine ACall.keepR rfl rfl rfl ?_
 unfold impl_works_do_K10 at h
 refine sr ?_
 refine AOps.makeR rfl rfl rfl rfl rfl rfl (rfl : _ = (eptr [(int .i64 p1_56.Kind), (int .i64 p1_56.A), (int .i64 p1_56.B)] 0)) ?_
 refine q (int .i64 0) ?_
 refine nl ?_
 refine AW.seq ?_
 refine sr ?_
 refine q (eptr [(int .i64 p1_56.Kind), (int .i64 p1_56.A), (int .i64 p1_56.B)] 0) ?_
 refine lE (int .i64 p1_56.Kind) ?_
 refine nl ?_
 refine AW.block ?_
 refine sr ?_
 refine q (bool (p1_56.Kind == 1)) ?_
 refine aq (bool (p1_56.Kind == 1)) ?_
 refine nl ?_
 refine AW.meet (σ := Int × Int × (List Int) × (List Int) × Int × Int × (List Int) × (List Int) × (List Parcel) × (Nat → Bool) × Nat × Bool × (List AV) × AV × KT × Nat × Bool × (List AV) × AV × KT × AV × KT × St × (List (List BX))) (fun (m58, m59, m60, m65, m69, m70, m71, m76, m80, w57, z61, f62, e63, h66, k67, z72, f73, e74, h77, k78, h81, k82, s84, Ls85) tm os => ⟨updL tm [], updL os [], s84⟩) (fun (m58, m59, m60, m65, m69, m70, m71, m76, m80, w57, z61, f62, e63, h66, k67, z72, f73, e74, h77, k78, h81, k82, s84, Ls85) => (LR (rI .i64) 1 m60 z61 e63) ∧ (h66.one = true) ∧ (LR (rI .i64) 1 m71 z72 e74) ∧ (h77.one = true) ∧ (h81.one = true) ∧ (HS ex true s s84 (([⟨some b1, [(int .i64 m58), (int .i64 m59), (sl z61 f62 e63), h66, (int .i64 m69), (int .i64 m70), (sl z72 f73 e74), h77, h81, (int .i64 p29), (int .i64 p30), (sl z32 f33 e34), (sl z37 f38 e39), (sl z42 f43 e44), (sl z47 f48 e49), (sl z52 f53 e54)], w57⟩] : List BX) ++ List.flatten Ls85)) ∧ (AllG [OS oE2 h66 k67 m65, OS oE2 h77 k78 m76, OS oE109 h81 k82 m80] Ls85) ∧ impl_works_do_K10_J1 m58 m59 m60 m65 m69 m70 m71 m76 m80 = some r) ?_ ?_
 ·rintro ⟨m58, m59, m60, m65, m69, m70, m71, m76, m80, w57, z61, f62, e63, h66, k67, z72, f73, e74, h77, k78, h81, k82, s84, Ls85⟩ tm os ⟨h64, ho68, h75, ho79, ho83, hH86, hG87, h⟩
  unfold impl_works_do_K10_J1 at h
  refine AW.inBlock ?_
  refine sr ?_
  refine q (int .i64 0) ?_
  refine nl ?_
  cases h
  exact AW.ret ⟨_, _, rfl, ⟨h66, k67, h77, k78, h81, k82, w57, z61, f62, e63, z72, f73, e74, Ls85, rfl, hH86, hG87, ho68, ho79, ho83, h64, h75⟩⟩
 intro KJ88
 rcases oite h with ⟨hc89, h⟩ | ⟨hc89, h⟩
 ·refine AW.condT (congrArg bool hc89) ?_
  refine AW.seq ?_
  refine AW.block ?_
  refine sr ?_
  refine q (eptr [(int .i64 p1_56.Kind), (int .i64 p1_56.A), (int .i64 p1_56.B)] 1) ?_
  refine lE (int .i64 p1_56.A) ?_
  refine q (eptr [(int .i64 p1_56.Kind), (int .i64 p1_56.A), (int .i64 p1_56.B)] 2) ?_
  refine lE (int .i64 p1_56.B) ?_
  refine q (bool (decide ((p1_56.A : Int) > p1_56.B))) ?_
  refine q (bool (decide ((p1_56.A : Int) > p1_56.B))) ?_
  obtain ⟨b91, hb, h⟩ := obind h
  refine AOps.split 10 (fun f' => ∃ tm' os', f' = ⟨updL tm' [(0, (ptr b1 0)), (3, (eptr [(int .i64 p1_56.Kind), (int .i64 p1_56.A), (int .i64 p1_56.B)] 0)), (68, (bool b91))], updL os' [], s⟩) ?_ ?_
  ·rcases oite hb with ⟨hc90, hb⟩ | ⟨hc90, hb⟩
   ·refine AOps.know (d := 58) rfl hc90 ?_
    refine sk ?_
    refine sk ?_
    refine sk ?_
    refine sk ?_
    refine sk ?_
    refine sk ?_
    refine sk ?_
    refine sk ?_
    refine sk ?_
    refine q (bool true) ?_
    refine AOps.resR [(0, (ptr b1 0)), (3, (eptr [(int .i64 p1_56.Kind), (int .i64 p1_56.A), (int .i64 p1_56.B)] 0)), (68, (bool b91))] [] ?_ ?_ _ ⟨_, _, rfl⟩
    ·exact ⟨rfl, rfl, congrArg bool (Option.some.inj hb), trivial⟩
    exact trivial
   ·have h := hb
    refine AOps.know (d := 58) rfl hc90 ?_
    refine q (eptr [(int .i64 p1_56.Kind), (int .i64 p1_56.A), (int .i64 p1_56.B)] 2) ?_
    refine lE (int .i64 p1_56.B) ?_
    refine q (ptr b1 0) ?_
    refine q (ptr b1 0) ?_
    refine q (ptr b1 9) ?_
    refine q (ptr b1 15) ?_
    refine AOps.ldB (i := 0) (v := (sl z52 f53 e54)) hH0 rfl rfl rfl rfl rfl rfl rfl rfl rfl ?_
    obtain ⟨y92, h93, h⟩ := obind h
    refine AOps.callDP (g := 60) (args := [(sl z52 f53 e54)]) (p := (rI .i64) y92) rfl rfl rfl (impl_size_string_ok h55 h93 ((HS.wf' hH0).still)) (fun v hv => Nice.pure (k := FINK) (p := (rI .i64) y92) .I _ v hv) ?_
    intro _ o95 h94
    cases h94
    refine q (bool (decide ((p1_56.B : Int) ≥ y92))) ?_
    refine q (bool (decide ((p1_56.B : Int) ≥ y92))) ?_
    refine AOps.resR [(0, (ptr b1 0)), (3, (eptr [(int .i64 p1_56.Kind), (int .i64 p1_56.A), (int .i64 p1_56.B)] 0)), (68, (bool b91))] [] ?_ ?_ _ ⟨_, _, rfl⟩
    ·exact ⟨rfl, rfl, congrArg bool (Option.some.inj h), trivial⟩
    exact trivial
  rintro _ ⟨tm, os, rfl⟩
  refine aq (bool b91) ?_
  refine nl ?_
  rcases oite h with ⟨hc96, h⟩ | ⟨hc96, h⟩
  ·refine AW.condT (congrArg bool hc96) ?_
   refine sr ?_
   refine q (int .i64 2) ?_
   refine nl ?_
   cases h
   exact AW.ret ⟨_, _, rfl, ⟨h10, k11, h21, k22, h25, k26, w2, z6, f7, e8, z17, f18, e19, Ls0, rfl, hH0, hG0, ho12, ho23, ho27, h9, h20⟩⟩
  refine AW.condF (congrArg bool hc96) ?_
  refine sr ?_
  refine q (ptr b1 0) ?_
  refine q (ptr b1 0) ?_
  refine q (ptr b1 0) ?_
  refine q (ptr b1 8) ?_
  refine AOps.ldB (i := 0) (v := h25) hH0 rfl rfl rfl rfl rfl rfl rfl rfl rfl ?_
  refine AOps.lenO (j := 2) hG0 rfl Sub.here rfl rfl rfl rfl rfl ?_
  refine q (bool ((p28.length : Int) == 12)) ?_
  refine aq (bool ((p28.length : Int) == 12)) ?_
  refine nl ?_
  rcases oite h with ⟨hc97, h⟩ | ⟨hc97, h⟩
  ·refine AW.condT (congrArg bool hc97) ?_
   refine sr ?_
   refine q (int .i64 3) ?_
   refine nl ?_
   cases h
   exact AW.ret ⟨_, _, rfl, ⟨h10, k11, h21, k22, h25, k26, w2, z6, f7, e8, z17, f18, e19, Ls0, rfl, hH0, hG0, ho12, ho23, ho27, h9, h20⟩⟩
  refine AW.condF (congrArg bool hc97) ?_
  refine AW.skip ?_
  refine AW.inBlock ?_
  refine AW.region ?_
  refine q (ptr b1 0) ?_
  refine q (ptr b1 0) ?_
  refine q (ptr b1 0) ?_
  refine q (ptr b1 0) ?_
  refine q (ptr b1 8) ?_
  refine AOps.ldB (i := 0) (v := h25) hH0 rfl rfl rfl rfl rfl rfl rfl rfl rfl ?_
  refine q (eptr [(int .i64 p1_56.Kind), (int .i64 p1_56.A), (int .i64 p1_56.B)] 1) ?_
  refine lE (int .i64 p1_56.A) ?_
  refine q (ptr b1 0) ?_
  refine q (ptr b1 0) ?_
  refine q (ptr b1 9) ?_
  refine q (ptr b1 15) ?_
  refine AOps.ldB (i := 0) (v := (sl z52 f53 e54)) hH0 rfl rfl rfl rfl rfl rfl rfl rfl rfl ?_
  refine q (eptr [(int .i64 p1_56.Kind), (int .i64 p1_56.A), (int .i64 p1_56.B)] 1) ?_
  refine lE (int .i64 p1_56.A) ?_
  refine q (eptr [(int .i64 p1_56.Kind), (int .i64 p1_56.A), (int .i64 p1_56.B)] 2) ?_
  refine lE (int .i64 p1_56.B) ?_
  refine q (int .i64 (IntKind.wrap .i64 (p1_56.B + 1))) ?_
  obtain ⟨l98, h99, h⟩ := obind h
  obtain ⟨f100, e101, h102, h103⟩ := cut_slLH f53 h55 h99
  refine AOps.pureR rfl rfl rfl h103 rfl (rfl : _ = (sl z52 f100 e101)) ?_
  refine q (agg [(int .i64 p1_56.A), (sl z52 f100 e101)]) ?_
  refine AOps.makeR rfl rfl rfl rfl rfl rfl (rfl : _ = (sl 2 true [(agg [(int .i64 p1_56.A), (sl z52 f100 e101)])])) ?_
  obtain ⟨l104, h105, h⟩ := obind h
  refine AOps.appLf (j := 2) (z' := 2) (f' := true) (e' := [(agg [(int .i64 p1_56.A), (sl z52 f100 e101)])]) hH0 hG0 rfl rfl rfl rfl rfl rfl rfl rfl (appSrc_sl (LR.z (show LR rParcel 2 (([(⟨p1_56.A, l98⟩ : Parcel)] : List Parcel) : List Parcel) 2 [(agg [(int .i64 p1_56.A), (sl z52 f100 e101)])] from LR.lit (r := rParcel) (sz := 2) (.cons ⟨_, rfl, (.cons rfl (.cons ⟨_, _, _, rfl, h102⟩ .nil))⟩ .nil))) rfl) ⟨by decide, by decide, rfl, rfl⟩ ⟨rfl, rfl⟩ rfl rfl h105 (LR.el (show LR rParcel 2 (([(⟨p1_56.A, l98⟩ : Parcel)] : List Parcel) : List Parcel) 2 [(agg [(int .i64 p1_56.A), (sl z52 f100 e101)])] from LR.lit (r := rParcel) (sz := 2) (.cons ⟨_, rfl, (.cons rfl (.cons ⟨_, _, _, rfl, h102⟩ .nil))⟩ .nil))).len (fun i => OL.leaf (LR.el (show LR rParcel 2 (([(⟨p1_56.A, l98⟩ : Parcel)] : List Parcel) : List Parcel) 2 [(agg [(int .i64 p1_56.A), (sl z52 f100 e101)])] from LR.lit (r := rParcel) (sz := 2) (.cons ⟨_, rfl, (.cons rfl (.cons ⟨_, _, _, rfl, h102⟩ .nil))⟩ .nil))) i) ?_
  intro h106 k108 Ls109 s110 ho107 hG111 hH112
  change HS ex true s s110 (([⟨some b1, [(int .i64 p3), (int .i64 p4), (sl z6 f7 e8), h10, (int .i64 p14), (int .i64 p15), (sl z17 f18 e19), h21, h25, (int .i64 p29), (int .i64 p30), (sl z32 f33 e34), (sl z37 f38 e39), (sl z42 f43 e44), (sl z47 f48 e49), (sl z52 f53 e54)], w2⟩] : List BX) ++ List.flatten Ls109) at hH112
  change AllG [OS oE2 h10 k11 p13, OS oE2 h21 k22 p24, OS oE109 h106 k108 l104] Ls109 at hG111
  refine q (ptr b1 0) ?_
  refine q (ptr b1 0) ?_
  refine q (ptr b1 8) ?_
  refine AOps.stE (i := 0) (v := h106) hH112 hl rfl rfl rfl rfl rfl rfl rfl (one_lay ho107) (one_len ho107) (lt_b rfl) (le_b rfl) rfl ?_
  intro w113 s114 h115 h116 hH117
  rw [AV.cells_one ho107] at hH117
  change HS ex true s s114 (([⟨some b1, [(int .i64 p3), (int .i64 p4), (sl z6 f7 e8), h10, (int .i64 p14), (int .i64 p15), (sl z17 f18 e19), h21, h106, (int .i64 p29), (int .i64 p30), (sl z32 f33 e34), (sl z37 f38 e39), (sl z42 f43 e44), (sl z47 f48 e49), (sl z52 f53 e54)], w113⟩] : List BX) ++ List.flatten Ls109) at hH117
  refine nl ?_
  exact AW.res [] [] trivial trivial (KJ88 (p3, p4, p5, p13, p14, p15, p16, p24, l104, w113, z6, f7, e8, h10, k11, z17, f18, e19, h21, k22, h106, k108, s114, Ls109) _ _ ⟨h9, ho12, h20, ho23, ho107, hH117, hG111, h⟩)
 refine AW.condF (congrArg bool hc89) ?_
 refine sr ?_
 refine q (bool (p1_56.Kind == 5)) ?_
 refine aq (bool (p1_56.Kind == 5)) ?_
 refine nl ?_
 rcases oite h with ⟨hc118, h⟩ | ⟨hc118, h⟩
 ·refine AW.condT (congrArg bool hc118) ?_
  refine AW.region ?_
  refine q (ptr b1 0) ?_
  refine q (ptr b1 0) ?_
  refine q (ptr b1 0) ?_
  refine q (ptr b1 0) ?_
  refine q (ptr b1 0) ?_
  refine AOps.ldB (i := 0) (v := (agg [(int .i64 p3), (int .i64 p4), (sl z6 f7 e8), h10])) hH0 rfl rfl rfl rfl rfl rfl rfl rfl rfl ?_
  obtain ⟨y119, h120, h⟩ := obind h
  have hP128 := HS.pop0 hH0
  have hF0 : AllG ([] : List (List BX → Prop)) [] := AllG.nil
  obtain ⟨Ls129, Lf130, hG131, hF132, hP133⟩ := HS.popG hP128 hG0 hF0 (j := 0) rfl
  refine AOps.callF (al := true) (g := 67) (args := [(agg [(int .i64 p3), (int .i64 p4), (sl z6 f7 e8), h10])]) rfl rfl rfl (impl_Desk_copied_K1_ok (d1 := (⟨p3, p4, p5, p13⟩ : Desk)) h9 ho12 (HS.enterK hP133) hF132 (HS.enterLo hP133 hl) h120 (HS.wf' hH0)) ?_
  rintro _ _ s134 ⟨z121, f122, e123, h125, k126, Ls136, rfl, hH137, hG138, hl124, ho127⟩
  have hJ139 := HS.joinK hP133 hH137
  obtain ⟨Ls140, Lf141, hG142, hF143, hP144⟩ := HS.putG hJ139 hG131 hG138 (j := 0) rfl
  obtain ⟨Ls145, Lf146, hG147, hF148, hP149⟩ := HS.pushN hP144 hG142 hF143
  cases hF148
  have hH150 := HS.push0 hP149
  change HS ex true s s134 (([⟨some b1, [(int .i64 p3), (int .i64 p4), (sl z6 f7 e8), h10, (int .i64 p14), (int .i64 p15), (sl z17 f18 e19), h21, h25, (int .i64 p29), (int .i64 p30), (sl z32 f33 e34), (sl z37 f38 e39), (sl z42 f43 e44), (sl z47 f48 e49), (sl z52 f53 e54)], w2⟩] : List BX) ++ List.flatten Ls145) at hH150
  change AllG [OS oE2 h125 k126 y119.Waiting, OS oE2 h10 k11 p13, OS oE2 h21 k22 p24, OS oE109 h25 k26 p28] Ls145 at hG147
  refine q (ptr b1 0) ?_
  refine q (ptr b1 0) ?_
  refine q (ptr b1 4) ?_
  refine AOps.stE (i := 0) (v := (agg [(int .i64 y119.Read), (int .i64 y119.State), (sl z121 f122 e123), h125])) hH150 hl rfl rfl rfl rfl rfl rfl rfl (lay_cons rfl (lay_cons rfl (lay_cons rfl (lay_cons ho127 lay_nil)))) rfl (lt_b rfl) (le_b rfl) rfl ?_
  intro w151 s152 h153 h154 hH155
  change HS ex true s s152 (([⟨some b1, [(int .i64 p3), (int .i64 p4), (sl z6 f7 e8), h10, (int .i64 y119.Read), (int .i64 y119.State), (sl z121 f122 e123), h125, h25, (int .i64 p29), (int .i64 p30), (sl z32 f33 e34), (sl z37 f38 e39), (sl z42 f43 e44), (sl z47 f48 e49), (sl z52 f53 e54)], w151⟩] : List BX) ++ List.flatten Ls145) at hH155
  refine nl ?_
  obtain ⟨Ls156, hG157, hH158⟩ := HS.selEG hH155 hG147 [some 0] [some 1, some 0, some 3]
  change HS ex true s s152 (([⟨some b1, [(int .i64 p3), (int .i64 p4), (sl z6 f7 e8), h10, (int .i64 y119.Read), (int .i64 y119.State), (sl z121 f122 e123), h125, h25, (int .i64 p29), (int .i64 p30), (sl z32 f33 e34), (sl z37 f38 e39), (sl z42 f43 e44), (sl z47 f48 e49), (sl z52 f53 e54)], w151⟩] : List BX) ++ List.flatten Ls156) at hH158
  change AllG [OS oE2 h10 k11 p13, OS oE2 h125 k126 y119.Waiting, OS oE109 h25 k26 p28] Ls156 at hG157
  exact AW.res [] [] trivial trivial (KJ88 (p3, p4, p5, p13, y119.Read, y119.State, y119.Stack, y119.Waiting, p28, w151, z6, f7, e8, h10, k11, z121, f122, e123, h125, k126, h25, k26, s152, Ls156) _ _ ⟨h9, ho12, hl124, ho127, ho27, hH158, hG157, h⟩)
 refine AW.condF (congrArg bool hc118) ?_
 refine sr ?_
 refine q (bool (p1_56.Kind == 6)) ?_
 refine aq (bool (p1_56.Kind == 6)) ?_
 refine nl ?_
 rcases oite h with ⟨hc159, h⟩ | ⟨hc159, h⟩
 ·refine AW.condT (congrArg bool hc159) ?_
  refine AW.region ?_
  refine q (ptr b1 0) ?_
  refine q (ptr b1 0) ?_
  refine q (ptr b1 0) ?_
  refine q (ptr b1 0) ?_
  refine q (ptr b1 4) ?_
  refine AOps.ldB (i := 0) (v := (agg [(int .i64 p14), (int .i64 p15), (sl z17 f18 e19), h21])) hH0 rfl rfl rfl rfl rfl rfl rfl rfl rfl ?_
  obtain ⟨y160, h161, h⟩ := obind h
  have hP169 := HS.pop0 hH0
  have hF0 : AllG ([] : List (List BX → Prop)) [] := AllG.nil
  obtain ⟨Ls170, Lf171, hG172, hF173, hP174⟩ := HS.popG hP169 hG0 hF0 (j := 1) rfl
  refine AOps.callF (al := true) (g := 67) (args := [(agg [(int .i64 p14), (int .i64 p15), (sl z17 f18 e19), h21])]) rfl rfl rfl (impl_Desk_copied_K1_ok (d1 := (⟨p14, p15, p16, p24⟩ : Desk)) h20 ho23 (HS.enterK hP174) hF173 (HS.enterLo hP174 hl) h161 (HS.wf' hH0)) ?_
  rintro _ _ s175 ⟨z162, f163, e164, h166, k167, Ls177, rfl, hH178, hG179, hl165, ho168⟩
  have hJ180 := HS.joinK hP174 hH178
  obtain ⟨Ls181, Lf182, hG183, hF184, hP185⟩ := HS.putG hJ180 hG172 hG179 (j := 1) rfl
  obtain ⟨Ls186, Lf187, hG188, hF189, hP190⟩ := HS.pushN hP185 hG183 hF184
  cases hF189
  have hH191 := HS.push0 hP190
  change HS ex true s s175 (([⟨some b1, [(int .i64 p3), (int .i64 p4), (sl z6 f7 e8), h10, (int .i64 p14), (int .i64 p15), (sl z17 f18 e19), h21, h25, (int .i64 p29), (int .i64 p30), (sl z32 f33 e34), (sl z37 f38 e39), (sl z42 f43 e44), (sl z47 f48 e49), (sl z52 f53 e54)], w2⟩] : List BX) ++ List.flatten Ls186) at hH191
  change AllG [OS oE2 h166 k167 y160.Waiting, OS oE2 h10 k11 p13, OS oE2 h21 k22 p24, OS oE109 h25 k26 p28] Ls186 at hG188
  refine q (ptr b1 0) ?_
  refine q (ptr b1 0) ?_
  refine q (ptr b1 0) ?_
  refine AOps.stE (i := 0) (v := (agg [(int .i64 y160.Read), (int .i64 y160.State), (sl z162 f163 e164), h166])) hH191 hl rfl rfl rfl rfl rfl rfl rfl (lay_cons rfl (lay_cons rfl (lay_cons rfl (lay_cons ho168 lay_nil)))) rfl (lt_b rfl) (le_b rfl) rfl ?_
  intro w192 s193 h194 h195 hH196
  change HS ex true s s193 (([⟨some b1, [(int .i64 y160.Read), (int .i64 y160.State), (sl z162 f163 e164), h166, (int .i64 p14), (int .i64 p15), (sl z17 f18 e19), h21, h25, (int .i64 p29), (int .i64 p30), (sl z32 f33 e34), (sl z37 f38 e39), (sl z42 f43 e44), (sl z47 f48 e49), (sl z52 f53 e54)], w192⟩] : List BX) ++ List.flatten Ls186) at hH196
  refine nl ?_
  obtain ⟨Ls197, hG198, hH199⟩ := HS.selEG hH196 hG188 [some 0] [some 0, some 2, some 3]
  change HS ex true s s193 (([⟨some b1, [(int .i64 y160.Read), (int .i64 y160.State), (sl z162 f163 e164), h166, (int .i64 p14), (int .i64 p15), (sl z17 f18 e19), h21, h25, (int .i64 p29), (int .i64 p30), (sl z32 f33 e34), (sl z37 f38 e39), (sl z42 f43 e44), (sl z47 f48 e49), (sl z52 f53 e54)], w192⟩] : List BX) ++ List.flatten Ls197) at hH199
  change AllG [OS oE2 h166 k167 y160.Waiting, OS oE2 h21 k22 p24, OS oE109 h25 k26 p28] Ls197 at hG198
  exact AW.res [] [] trivial trivial (KJ88 (y160.Read, y160.State, y160.Stack, y160.Waiting, p14, p15, p16, p24, p28, w192, z162, f163, e164, h166, k167, z17, f18, e19, h21, k22, h25, k26, s193, Ls197) _ _ ⟨hl165, ho168, h20, ho23, ho27, hH199, hG198, h⟩)
 refine AW.condF (congrArg bool hc159) ?_
 refine AW.seq ?_
 refine sr ?_
 refine q (eptr [(int .i64 p1_56.Kind), (int .i64 p1_56.A), (int .i64 p1_56.B)] 1) ?_
 refine lE (int .i64 p1_56.A) ?_
 refine q (ptr b1 0) ?_
 refine q (ptr b1 0) ?_
 refine q (ptr b1 0) ?_
 refine q (ptr b1 8) ?_
 refine AOps.ldB (i := 0) (v := h25) hH0 rfl rfl rfl rfl rfl rfl rfl rfl rfl ?_
 obtain ⟨y200, h201, h⟩ := obind h
 refine AOps.lendD (g := 68) (args := [h25]) (ps := [(rL rParcel 2) p28]) (p := (rI .i64) y200) rfl rfl rfl rfl rfl rfl rfl (.cons (Fin.up (by decide) (HS.finSt hH0 hG0 (j := 2) rfl Sub.here)) .nil) (fun args' hc => by obtain ⟨_, _, rfl, hv0, hd0⟩ := Cs_cons hc; obtain ⟨z202, f203, e204, rfl, h205⟩ := hv0; cases Cs_nil hd0; exact impl_size_impl_Parcel_okN h205 h201 WF.blind) (fun v n hv => by cases hv; rfl) (fun v hv => Nice.pure (k := FINK) (p := (rI .i64) y200) .I _ v hv) ?_
 intro _ h206
 cases h206
 refine q (bool (decide ((p1_56.A : Int) ≥ y200))) ?_
 refine nl ?_
 rcases oite h with ⟨hc207, h⟩ | ⟨hc207, h⟩
 ·refine AW.condT (congrArg bool hc207) ?_
  refine sr ?_
  refine q (int .i64 2) ?_
  refine nl ?_
  cases h
  exact AW.ret ⟨_, _, rfl, ⟨h10, k11, h21, k22, h25, k26, w2, z6, f7, e8, z17, f18, e19, Ls0, rfl, hH0, hG0, ho12, ho23, ho27, h9, h20⟩⟩
 refine AW.condF (congrArg bool hc207) ?_
 refine AW.skip ?_
 refine sr ?_
 refine q (ptr b1 0) ?_
 refine q (ptr b1 0) ?_
 refine q (ptr b1 0) ?_
 refine q (ptr b1 8) ?_
 refine AOps.ldB (i := 0) (v := h25) hH0 rfl rfl rfl rfl rfl rfl rfl rfl rfl ?_
 refine q (eptr [(int .i64 p1_56.Kind), (int .i64 p1_56.A), (int .i64 p1_56.B)] 1) ?_
 refine lE (int .i64 p1_56.A) ?_
 obtain ⟨x210, h211, h⟩ := obind h
 refine AOps.idxO (j := 2) hG0 rfl Sub.here h211 rfl rfl rfl rfl rfl rfl rfl rfl rfl ?_
 intro b208 hb209
 refine AOps.ldO (j := 2) (q := 0) hH0 hG0 rfl Sub.here h211 hb209 rfl rfl rfl rfl rfl (lt_b rfl) (le_b rfl) rfl rfl ?_ (fun c B hc => by obtain ⟨⟨_, hr, rfl⟩, rfl⟩ := hc; obtain ⟨_, rfl, h227⟩ := hr; obtain ⟨_, _, rfl, h228, h229⟩ := Cs_cons h227; cases h228; obtain ⟨_, _, rfl, h230, h231⟩ := Cs_cons h229; obtain ⟨z232, f233, e234, rfl, h235⟩ := h230; cases Cs_nil h231; exact ⟨_, rfl⟩)
 intro c212 B213 v214 h215 h216
 obtain ⟨⟨_, h217, rfl⟩, rfl⟩ := h215
 obtain ⟨_, rfl, h218⟩ := h217
 obtain ⟨_, _, rfl, h219, h220⟩ := Cs_cons h218
 cases h219
 obtain ⟨_, _, rfl, h221, h222⟩ := Cs_cons h220
 obtain ⟨z223, f224, e225, rfl, h226⟩ := h221
 cases Cs_nil h222
 cases h216
 refine AOps.allocP rfl rfl rfl rfl ⟨rfl, rfl⟩ rfl ?_
 refine AOps.stP (v := (agg [(int .i64 x210.First), (sl z223 f224 e225)])) rfl rfl rfl rfl rfl rfl rfl rfl rfl (lt_b rfl) rfl ?_
 refine nl ?_
 refine AW.seq ?_
 refine sr ?_
 refine q (eptr [(int .i64 p1_56.Kind), (int .i64 p1_56.A), (int .i64 p1_56.B)] 0) ?_
 refine lE (int .i64 p1_56.Kind) ?_
 refine q (bool (p1_56.Kind != 3)) ?_
 refine nl ?_
 refine AW.meet (σ := (List Parcel) × (Nat → Bool) × AV × KT × St × (List (List BX))) (fun (m237, w236, h238, k239, s241, Ls242) tm os => ⟨updL tm [(0, (ptr b1 0)), (3, (eptr [(int .i64 p1_56.Kind), (int .i64 p1_56.A), (int .i64 p1_56.B)] 0)), (5, (eptr [(int .i64 x210.First), (sl z223 f224 e225)] 0))], updL os [], s241⟩) (fun (m237, w236, h238, k239, s241, Ls242) => (h238.one = true) ∧ (HS ex true s s241 (([⟨some b1, [(int .i64 p3), (int .i64 p4), (sl z6 f7 e8), h10, (int .i64 p14), (int .i64 p15), (sl z17 f18 e19), h21, h238, (int .i64 p29), (int .i64 p30), (sl z32 f33 e34), (sl z37 f38 e39), (sl z42 f43 e44), (sl z47 f48 e49), (sl z52 f53 e54)], w236⟩] : List BX) ++ List.flatten Ls242)) ∧ (AllG [OS oE2 h10 k11 p13, OS oE2 h21 k22 p24, OS oE109 h238 k239 m237] Ls242) ∧ impl_works_do_K10_J2 p3 p4 p5 p13 p14 p15 p16 p24 p29 p30 p31 p36 p41 p46 p51 p1_56 x210 m237 = some r) ?_ ?_
 ·rintro ⟨m237, w236, h238, k239, s241, Ls242⟩ tm os ⟨ho240, hH243, hG244, h⟩
  unfold impl_works_do_K10_J2 at h
  refine sr ?_
  refine q (eptr [(int .i64 p1_56.Kind), (int .i64 p1_56.A), (int .i64 p1_56.B)] 0) ?_
  refine lE (int .i64 p1_56.Kind) ?_
  refine q (bool (p1_56.Kind != 4)) ?_
  refine nl ?_
  rcases oite h with ⟨hc246, h⟩ | ⟨hc246, h⟩
  ·refine AW.condT (congrArg bool hc246) ?_
   refine AW.region ?_
   refine q (ptr b1 0) ?_
   refine lE (agg [(int .i64 x210.First), (sl z223 f224 e225)]) ?_
   obtain ⟨y247, h248, h⟩ := obind h
   have hP257 := HS.pop0 hH243
   have hP258 := HS.popE hP257 (i := 0) (x := ⟨some b1, [(int .i64 p3), (int .i64 p4), (sl z6 f7 e8), h10, (int .i64 p14), (int .i64 p15), (sl z17 f18 e19), h21, h238, (int .i64 p29), (int .i64 p30), (sl z32 f33 e34), (sl z37 f38 e39), (sl z42 f43 e44), (sl z47 f48 e49), (sl z52 f53 e54)], w236⟩) rfl
   have hF0 : AllG ([] : List (List BX → Prop)) [] := AllG.nil
   obtain ⟨Ls259, Lf260, hG261, hF262, hP263⟩ := HS.popG hP258 hG244 hF0 (j := 0) rfl
   obtain ⟨Ls264, Lf265, hG266, hF267, hP268⟩ := HS.popG hP263 hG261 hF262 (j := 1) rfl
   obtain ⟨Ls269, Lf270, hG271, hF272, hP273⟩ := HS.popG hP268 hG266 hF267 (j := 2) rfl
   refine AOps.callF (al := true) (g := 70) (args := [(ptr b1 0), (agg [(int .i64 x210.First), (sl z223 f224 e225)])]) rfl rfl rfl (impl_works_comeIn_K10_ok h9 ho12 h20 ho23 ho240 h35 h40 h45 h50 h55 h226 (HS.enterK hP273) hF272 (HS.enterLo hP273 hl) h248 (HS.wf' hH243)) ?_
   rintro _ _ s274 ⟨h249, k250, w252, z253, f254, e255, Ls276, rfl, hH277, hG278, ho251, h256⟩
   have hJ279 := HS.joinK hP273 hH277
   have hJ280 := HS.pushE hJ279 (i := 0) rfl
   obtain ⟨Ls281, Lf282, hG283, hF284, hP285⟩ := HS.putG hJ280 hG271 hG278 (j := 0) rfl
   obtain ⟨Ls286, Lf287, hG288, hF289, hP290⟩ := HS.putG hP285 hG283 hF284 (j := 1) rfl
   obtain ⟨Ls291, Lf292, hG293, hF294, hP295⟩ := HS.putG hP290 hG288 hF289 (j := 2) rfl
   cases hF294
   have hH296 := HS.push0 hP295
   change HS ex true s s274 (([⟨some b1, [(int .i64 y247.2.2.1), (int .i64 y247.2.2.2.1), (sl z253 f254 e255), h249, (int .i64 p14), (int .i64 p15), (sl z17 f18 e19), h21, h238, (int .i64 p29), (int .i64 p30), (sl z32 f33 e34), (sl z37 f38 e39), (sl z42 f43 e44), (sl z47 f48 e49), (sl z52 f53 e54)], w252⟩] : List BX) ++ List.flatten Ls291) at hH296
   change AllG [OS oE2 h249 k250 y247.2.1, OS oE2 h21 k22 p24, OS oE109 h238 k239 m237] Ls291 at hG293
   refine nl ?_
   exact AW.res [] [] trivial trivial (KJ88 (y247.2.2.1, y247.2.2.2.1, y247.2.2.2.2, y247.2.1, p14, p15, p16, p24, m237, w252, z253, f254, e255, h249, k250, z17, f18, e19, h21, k22, h238, k239, s274, Ls291) _ _ ⟨h256, ho251, h20, ho23, ho240, hH296, hG293, h⟩)
  refine AW.condF (congrArg bool hc246) ?_
  refine AW.skip ?_
  exact AW.res [] [] trivial trivial (KJ88 (p3, p4, p5, p13, p14, p15, p16, p24, m237, w236, z6, f7, e8, h10, k11, z17, f18, e19, h21, k22, h238, k239, s241, Ls242) _ _ ⟨h9, ho12, h20, ho23, ho240, hH243, hG244, h⟩)
 intro KJ245
 rcases oite h with ⟨hc297, h⟩ | ⟨hc297, h⟩
 ·refine AW.condT (congrArg bool hc297) ?_
  refine AW.region ?_
  refine q (ptr b1 0) ?_
  refine q (ptr b1 0) ?_
  refine q (ptr b1 0) ?_
  refine q (ptr b1 0) ?_
  refine q (ptr b1 8) ?_
  refine AOps.ldB (i := 0) (v := h25) hH0 rfl rfl rfl rfl rfl rfl rfl rfl rfl ?_
  refine q (eptr [(int .i64 p1_56.Kind), (int .i64 p1_56.A), (int .i64 p1_56.B)] 1) ?_
  refine lE (int .i64 p1_56.A) ?_
  refine q (eptr [(int .i64 p1_56.Kind), (int .i64 p1_56.A), (int .i64 p1_56.B)] 1) ?_
  refine lE (int .i64 p1_56.A) ?_
  refine q (int .i64 (IntKind.wrap .i64 (p1_56.A + 1))) ?_
  obtain ⟨l298, h299, h⟩ := obind h
  refine AOps.delOE (j := 2) (g := 69) own_leaf109 rfl rfl hH0 hG0 hl rfl h299 rfl rfl rfl ?_
  intro h300 k302 Ls303 s304 ho301 hG305 hH306
  change HS ex true s s304 (([⟨some b1, [(int .i64 p3), (int .i64 p4), (sl z6 f7 e8), h10, (int .i64 p14), (int .i64 p15), (sl z17 f18 e19), h21, h25, (int .i64 p29), (int .i64 p30), (sl z32 f33 e34), (sl z37 f38 e39), (sl z42 f43 e44), (sl z47 f48 e49), (sl z52 f53 e54)], w2⟩] : List BX) ++ List.flatten Ls303) at hH306
  change AllG [OS oE2 h10 k11 p13, OS oE2 h21 k22 p24, OS oE109 h300 k302 l298] Ls303 at hG305
  refine q (ptr b1 0) ?_
  refine q (ptr b1 0) ?_
  refine q (ptr b1 8) ?_
  refine AOps.stE (i := 0) (v := h300) hH306 hl rfl rfl rfl rfl rfl rfl rfl (one_lay ho301) (one_len ho301) (lt_b rfl) (le_b rfl) rfl ?_
  intro w307 s308 h309 h310 hH311
  rw [AV.cells_one ho301] at hH311
  change HS ex true s s308 (([⟨some b1, [(int .i64 p3), (int .i64 p4), (sl z6 f7 e8), h10, (int .i64 p14), (int .i64 p15), (sl z17 f18 e19), h21, h300, (int .i64 p29), (int .i64 p30), (sl z32 f33 e34), (sl z37 f38 e39), (sl z42 f43 e44), (sl z47 f48 e49), (sl z52 f53 e54)], w307⟩] : List BX) ++ List.flatten Ls303) at hH311
  refine nl ?_
  exact AW.res [(0, (ptr b1 0)), (3, (eptr [(int .i64 p1_56.Kind), (int .i64 p1_56.A), (int .i64 p1_56.B)] 0)), (5, (eptr [(int .i64 x210.First), (sl z223 f224 e225)] 0))] [] ⟨rfl, rfl, rfl, trivial⟩ trivial (KJ245 (l298, w307, h300, k302, s308, Ls303) _ _ ⟨ho301, hH311, hG305, h⟩)
 refine AW.condF (congrArg bool hc297) ?_
 refine AW.skip ?_
 exact AW.res [(0, (ptr b1 0)), (3, (eptr [(int .i64 p1_56.Kind), (int .i64 p1_56.A), (int .i64 p1_56.B)] 0)), (5, (eptr [(int .i64 x210.First), (sl z223 f224 e225)] 0))] [] ⟨rfl, rfl, rfl, trivial⟩ trivial (KJ245 (p28, w2, h25, k26, s, Ls0) _ _ ⟨ho27, hH0, hG0, h⟩)
theorem impl_after_K00_ok {v1 : Stream} {deeds22 : List Deed} {z2 z6 z10 z14 z18 z23 : Nat} {f3 f7 f11 f15 f19 f24 : Bool} {e4 e8 e12 e16 e20 e25 : List AV} {s : St} (h5 : LR rB 1 v1.Checker.Accept z2 e4) (h9 : LR (rL rPush 2) 1 v1.Checker.Call z6 e8) (h13 : LR (rL (rL (rI .i64) 1) 1) 1 v1.Checker.Return z10 e12) (h17 : LR (rL (rI .i64) 1) 1 v1.Checker.Inner z14 e16) (h21 : LR rS 1 v1.Pieces z18 e20) (h26 : LR rDeed 3 deeds22 z23 e25) {r : Works × Int} (h : impl_after_K00 v1 deeds22 = some r) (hs : WF s) : ACall Cf 20 [(agg [(int .i64 v1.Checker.Stack), (int .i64 v1.Checker.Start), (sl z2 f3 e4), (sl z6 f7 e8), (sl z10 f11 e12), (sl z14 f15 e16), (sl z18 f19 e20)]), (sl z23 f24 e25)] s (fun v _ s' => ∃ (b1' : Nat) (w2' : Nat → Bool) (z3' : Nat) (f4' : Bool) (e5' : List AV) (h7' : AV) (k8' : KT) (z10' : Nat) (f11' : Bool) (e12' : List AV) (h14' : AV) (k15' : KT) (h17' : AV) (k18' : KT) (z20' : Nat) (f21' : Bool) (e22' : List AV) (z24' : Nat) (f25' : Bool) (e26' : List AV) (z28' : Nat) (f29' : Bool) (e30' : List AV) (z32' : Nat) (f33' : Bool) (e34' : List AV) (z36' : Nat) (f37' : Bool) (e38' : List AV) (Ls' : List (List BX)), v = (AV.tup [(ptr b1' 0), (int .i64 r.2)]) ∧ HS [] true s s' (([⟨some b1', [(int .i64 r.1.Plant_.Desk_.Read), (int .i64 r.1.Plant_.Desk_.State), (sl z3' f4' e5'), h7', (int .i64 r.1.Plant_.Saved.Read), (int .i64 r.1.Plant_.Saved.State), (sl z10' f11' e12'), h14', h17', (int .i64 r.1.stream.Checker.Stack), (int .i64 r.1.stream.Checker.Start), (sl z20' f21' e22'), (sl z24' f25' e26'), (sl z28' f29' e30'), (sl z32' f33' e34'), (sl z36' f37' e38')], w2'⟩] : List BX) ++ List.flatten Ls') ∧ AllG [OS oE2 h7' k8' r.1.Plant_.Desk_.Waiting, OS oE2 h14' k15' r.1.Plant_.Saved.Waiting, OS oE109 h17' k18' r.1.Plant_.Wire] Ls' ∧ LR (rI .i64) 1 r.1.Plant_.Desk_.Stack z3' e5' ∧ h7'.one = true ∧ LR (rI .i64) 1 r.1.Plant_.Saved.Stack z10' e12' ∧ h14'.one = true ∧ h17'.one = true ∧ LR rB 1 r.1.stream.Checker.Accept z20' e22' ∧ LR (rL rPush 2) 1 r.1.stream.Checker.Call z24' e26' ∧ LR (rL (rL (rI .i64) 1) 1) 1 r.1.stream.Checker.Return z28' e30' ∧ LR (rL (rI .i64) 1) 1 r.1.stream.Checker.Inner z32' e34' ∧ LR rS 1 r.1.stream.Pieces z36' e38') true := by
 refine ACall.keepR rfl rfl rfl ?_
 have hH0 := HS.g0 (HS.initK hs)
 have hG0 := AllG.nil
 have hl : LoOK [] true s := LoOK.nil
 unfold impl_after_K00 at h
 refine sr ?_
 refine AOps.makeR rfl rfl rfl rfl rfl rfl (rfl : _ = (eptr [(int .i64 v1.Checker.Stack), (int .i64 v1.Checker.Start), (sl z2 f3 e4), (sl z6 f7 e8), (sl z10 f11 e12), (sl z14 f15 e16), (sl z18 f19 e20)] 0)) ?_
 refine q AV.nilp ?_
 refine q (int .i64 0) ?_
 refine ns ?_
 refine lE (agg [(int .i64 v1.Checker.Stack), (int .i64 v1.Checker.Start), (sl z2 f3 e4), (sl z6 f7 e8), (sl z10 f11 e12), (sl z14 f15 e16), (sl z18 f19 e20)]) ?_
 obtain ⟨y27, h28, h⟩ := obind h
 have hP68 := HS.pop0 hH0
 refine AOps.callF (al := true) (g := 41) (args := [(agg [(int .i64 v1.Checker.Stack), (int .i64 v1.Checker.Start), (sl z2 f3 e4), (sl z6 f7 e8), (sl z10 f11 e12), (sl z14 f15 e16), (sl z18 f19 e20)])]) rfl rfl rfl (impl_newWorks_K0_ok h5 h9 h13 h17 h21  h28 (HS.wf' hH0)) ?_
 rintro _ _ s69 ⟨b29, w30, z31, f32, e33, h35, k36, z38, f39, e40, h42, k43, h45, k46, z48, f49, e50, z52, f53, e54, z56, f57, e58, z60, f61, e62, z64, f65, e66, Ls71, rfl, hH72, hG73, hl34, ho37, hl41, ho44, ho47, hl51, hl55, hl59, hl63, hl67⟩
 have hJ74 := HS.joinK1 hP68 hH72
 have hJ75 := HS.pushNE (x := ⟨some b29, [(int .i64 y27.Plant_.Desk_.Read), (int .i64 y27.Plant_.Desk_.State), (sl z31 f32 e33), h35, (int .i64 y27.Plant_.Saved.Read), (int .i64 y27.Plant_.Saved.State), (sl z38 f39 e40), h42, h45, (int .i64 y27.stream.Checker.Stack), (int .i64 y27.stream.Checker.Start), (sl z48 f49 e50), (sl z52 f53 e54), (sl z56 f57 e58), (sl z60 f61 e62), (sl z64 f65 e66)], w30⟩) hJ74
 obtain ⟨Ls76, Lf77, hG78, hF79, hP80⟩ := HS.pushN hJ75 hG0 hG73
 obtain ⟨Ls81, Lf82, hG83, hF84, hP85⟩ := HS.pushN hP80 hG78 hF79
 obtain ⟨Ls86, Lf87, hG88, hF89, hP90⟩ := HS.pushN hP85 hG83 hF84
 cases hF89
 have hH91 := HS.push0 hP90
 change HS [] true s s69 (([⟨some b29, [(int .i64 y27.Plant_.Desk_.Read), (int .i64 y27.Plant_.Desk_.State), (sl z31 f32 e33), h35, (int .i64 y27.Plant_.Saved.Read), (int .i64 y27.Plant_.Saved.State), (sl z38 f39 e40), h42, h45, (int .i64 y27.stream.Checker.Stack), (int .i64 y27.stream.Checker.Start), (sl z48 f49 e50), (sl z52 f53 e54), (sl z56 f57 e58), (sl z60 f61 e62), (sl z64 f65 e66)], w30⟩] : List BX) ++ List.flatten Ls86) at hH91
 change AllG [OS oE109 h45 k46 y27.Plant_.Wire, OS oE2 h42 k43 y27.Plant_.Saved.Waiting, OS oE2 h35 k36 y27.Plant_.Desk_.Waiting] Ls86 at hG88
 refine aq (ptr b29 0) ?_
 refine q (int .i64 0) ?_
 refine nl ?_
 refine AW.seq ?_
 refine sr ?_
 refine q (sl z23 f24 e25) ?_
 refine AOps.p rfl (len_eq h26) ?_
 refine q (int .i64 0) ?_
 refine nl ?_
 refine AW.meet (σ := Int × Int × (List Int) × (List Int) × Int × Int × (List Int) × (List Int) × (List Parcel) × Int × (Nat → Bool) × Nat × Bool × (List AV) × AV × KT × Nat × Bool × (List AV) × AV × KT × AV × KT × St × (List (List BX))) (fun (m93, m94, m95, m100, m104, m105, m106, m111, m115, done119, w92, z96, f97, e98, h101, k102, z107, f108, e109, h112, k113, h116, k117, s120, Ls121) tm os => ⟨updL tm [(6, (ptr b29 0)), (7, (int .i64 done119))], updL os [], s120⟩) (fun (m93, m94, m95, m100, m104, m105, m106, m111, m115, done119, w92, z96, f97, e98, h101, k102, z107, f108, e109, h112, k113, h116, k117, s120, Ls121) => (LR (rI .i64) 1 m95 z96 e98) ∧ (h101.one = true) ∧ (LR (rI .i64) 1 m106 z107 e109) ∧ (h112.one = true) ∧ (h116.one = true) ∧ (HS [] true s s120 (([⟨some b29, [(int .i64 m93), (int .i64 m94), (sl z96 f97 e98), h101, (int .i64 m104), (int .i64 m105), (sl z107 f108 e109), h112, h116, (int .i64 y27.stream.Checker.Stack), (int .i64 y27.stream.Checker.Start), (sl z48 f49 e50), (sl z52 f53 e54), (sl z56 f57 e58), (sl z60 f61 e62), (sl z64 f65 e66)], w92⟩] : List BX) ++ List.flatten Ls121)) ∧ (AllG [OS oE2 h101 k102 m100, OS oE2 h112 k113 m111, OS oE109 h116 k117 m115] Ls121) ∧ impl_after_K00_J1 y27 m93 m94 m95 m100 m104 m105 m106 m111 m115 done119 = some r) ?_ ?_
 ·rintro ⟨m93, m94, m95, m100, m104, m105, m106, m111, m115, done119, w92, z96, f97, e98, h101, k102, z107, f108, e109, h112, k113, h116, k117, s120, Ls121⟩ tm os ⟨h99, ho103, h110, ho114, ho118, hH122, hG123, h⟩
  unfold impl_after_K00_J1 at h
  refine sr ?_
  refine q (ptr b29 0) ?_
  refine q (int .i64 done119) ?_
  refine aq (ptr b29 0) ?_
  refine aq (int .i64 done119) ?_
  refine nl ?_
  cases h
  exact AW.ret ⟨_, _, rfl, ⟨b29, w92, z96, f97, e98, h101, k102, z107, f108, e109, h112, k113, h116, k117, z48, f49, e50, z52, f53, e54, z56, f57, e58, z60, f61, e62, z64, f65, e66, Ls121, rfl, hH122, hG123, h99, ho103, h110, ho114, ho118, hl51, hl55, hl59, hl63, hl67⟩⟩
 intro KJ124
 refine AW.block ?_
 obtain ⟨Ls239, hG240, hH241⟩ := HS.selEG hH91 hG88 [some 0] [some 2, some 1, some 0]
 change HS [] true s s69 (([⟨some b29, [(int .i64 y27.Plant_.Desk_.Read), (int .i64 y27.Plant_.Desk_.State), (sl z31 f32 e33), h35, (int .i64 y27.Plant_.Saved.Read), (int .i64 y27.Plant_.Saved.State), (sl z38 f39 e40), h42, h45, (int .i64 y27.stream.Checker.Stack), (int .i64 y27.stream.Checker.Start), (sl z48 f49 e50), (sl z52 f53 e54), (sl z56 f57 e58), (sl z60 f61 e62), (sl z64 f65 e66)], w30⟩] : List BX) ++ List.flatten Ls239) at hH241
 change AllG [OS oE2 h35 k36 y27.Plant_.Desk_.Waiting, OS oE2 h42 k43 y27.Plant_.Saved.Waiting, OS oE109 h45 k46 y27.Plant_.Wire] Ls239 at hG240
 refine AW.res [(6, (ptr b29 0)), (7, (int .i64 0)), (12, (sl z23 f24 e25)), (13, (int .i64 (deeds22.length : Int))), (14, (int .i64 0))] [] ⟨rfl, rfl, rfl, rfl, rfl, trivial⟩ trivial ?_
 refine AW.loopF (σ := Int × Int × (List Int) × (List Int) × Int × Int × (List Int) × (List Int) × (List Parcel) × Int × Int) (τ := (Nat → Bool) × Nat × Bool × (List AV) × AV × KT × Nat × Bool × (List AV) × AV × KT × AV × KT × St × (List (List BX))) (fun (m126, m127, m128, m133, m137, m138, m139, m144, m148, done152, t153) (w125, z129, f130, e131, h134, k135, z140, f141, e142, h145, k146, h149, k150, s154, Ls155) => (LR (rI .i64) 1 m128 z129 e131) ∧ (h134.one = true) ∧ (LR (rI .i64) 1 m139 z140 e142) ∧ (h145.one = true) ∧ (h149.one = true) ∧ (HS [] true s s154 (([⟨some b29, [(int .i64 m126), (int .i64 m127), (sl z129 f130 e131), h134, (int .i64 m137), (int .i64 m138), (sl z140 f141 e142), h145, h149, (int .i64 y27.stream.Checker.Stack), (int .i64 y27.stream.Checker.Start), (sl z48 f49 e50), (sl z52 f53 e54), (sl z56 f57 e58), (sl z60 f61 e62), (sl z64 f65 e66)], w125⟩] : List BX) ++ List.flatten Ls155)) ∧ (AllG [OS oE2 h134 k135 m133, OS oE2 h145 k146 m144, OS oE109 h149 k150 m148] Ls155)) (fun (m126, m127, m128, m133, m137, m138, m139, m144, m148, done152, t153) (w125, z129, f130, e131, h134, k135, z140, f141, e142, h145, k146, h149, k150, s154, Ls155) tm os => ⟨updL tm [(6, (ptr b29 0)), (7, (int .i64 done152)), (12, (sl z23 f24 e25)), (13, (int .i64 (deeds22.length : Int))), (14, (int .i64 t153))], updL os [], s154⟩) ?_ (x := (y27.Plant_.Desk_.Read, y27.Plant_.Desk_.State, y27.Plant_.Desk_.Stack, y27.Plant_.Desk_.Waiting, y27.Plant_.Saved.Read, y27.Plant_.Saved.State, y27.Plant_.Saved.Stack, y27.Plant_.Saved.Waiting, y27.Plant_.Wire, 0, 0)) (y := (w30, z31, f32, e33, h35, k36, z38, f39, e40, h42, k43, h45, k46, s69, Ls239)) h ⟨hl34, ho37, hl41, ho44, ho47, hH241, hG240⟩
 clear h
 rintro ⟨m126, m127, m128, m133, m137, m138, m139, m144, m148, done152, t153⟩ ⟨w125, z129, f130, e131, h134, k135, z140, f141, e142, h145, k146, h149, k150, s154, Ls155⟩ tm os ⟨h132, ho136, h143, ho147, ho151, hH156, hG157⟩ ee1 h hL1 hR1
 unfold impl_after_K00_S1 at h
 dsimp only at h
 refine sr ?_
 refine q (bool (decide ((t153 : Int) < (deeds22.length : Int)))) ?_
 refine nl ?_
 refine AW.seq ?_
 rcases oite h with ⟨hc158, h⟩ | ⟨hc158, h⟩
 ·refine AW.condT (congrArg bool hc158) ?_
  refine AW.skip ?_
  refine AW.seq ?_
  refine AW.block ?_
  refine sr ?_
  obtain ⟨x159, h160, h⟩ := obind h
  obtain ⟨v163, h161, h162⟩ := idx_sl h26 h160
  obtain ⟨_, rfl, h164⟩ := h161
  obtain ⟨_, _, rfl, h165, h166⟩ := Cs_cons h164
  cases h165
  obtain ⟨_, _, rfl, h167, h168⟩ := Cs_cons h166
  cases h167
  obtain ⟨_, _, rfl, h169, h170⟩ := Cs_cons h168
  cases h169
  cases Cs_nil h170
  refine AOps.pureR rfl rfl rfl h162 rfl (rfl : _ = (eptr [(int .i64 x159.Kind), (int .i64 x159.A), (int .i64 x159.B)] 0)) ?_
  refine lE (agg [(int .i64 x159.Kind), (int .i64 x159.A), (int .i64 x159.B)]) ?_
  refine AOps.allocP rfl rfl rfl rfl ⟨rfl, rfl⟩ rfl ?_
  refine AOps.stP (v := (agg [(int .i64 x159.Kind), (int .i64 x159.A), (int .i64 x159.B)])) rfl rfl rfl rfl rfl rfl rfl rfl rfl (lt_b rfl) rfl ?_
  refine ns ?_
  refine q (ptr b29 0) ?_
  refine lE (agg [(int .i64 x159.Kind), (int .i64 x159.A), (int .i64 x159.B)]) ?_
  obtain ⟨y171, h172, h⟩ := obind h
  have hP191 := HS.pop0 hH156
  have hP192 := HS.popE hP191 (i := 0) (x := ⟨some b29, [(int .i64 m126), (int .i64 m127), (sl z129 f130 e131), h134, (int .i64 m137), (int .i64 m138), (sl z140 f141 e142), h145, h149, (int .i64 y27.stream.Checker.Stack), (int .i64 y27.stream.Checker.Start), (sl z48 f49 e50), (sl z52 f53 e54), (sl z56 f57 e58), (sl z60 f61 e62), (sl z64 f65 e66)], w125⟩) rfl
  have hF0 : AllG ([] : List (List BX → Prop)) [] := AllG.nil
  obtain ⟨Ls193, Lf194, hG195, hF196, hP197⟩ := HS.popG hP192 hG157 hF0 (j := 0) rfl
  obtain ⟨Ls198, Lf199, hG200, hF201, hP202⟩ := HS.popG hP197 hG195 hF196 (j := 1) rfl
  obtain ⟨Ls203, Lf204, hG205, hF206, hP207⟩ := HS.popG hP202 hG200 hF201 (j := 2) rfl
  refine AOps.callF (al := true) (g := 42) (args := [(ptr b29 0), (agg [(int .i64 x159.Kind), (int .i64 x159.A), (int .i64 x159.B)])]) rfl rfl rfl (impl_works_do_K10_ok h132 ho136 h143 ho147 ho151 hl51 hl55 hl59 hl63 hl67 (HS.enterK hP207) hF206 (HS.enterLo hP207 hl) h172 (HS.wf' hH156)) ?_
  rintro _ _ s208 ⟨h173, k174, h176, k177, h179, k180, w182, z183, f184, e185, z187, f188, e189, Ls210, rfl, hH211, hG212, ho175, ho178, ho181, h186, h190⟩
  have hJ213 := HS.joinK hP207 hH211
  have hJ214 := HS.pushE hJ213 (i := 0) rfl
  obtain ⟨Ls215, Lf216, hG217, hF218, hP219⟩ := HS.putG hJ214 hG205 hG212 (j := 0) rfl
  obtain ⟨Ls220, Lf221, hG222, hF223, hP224⟩ := HS.putG hP219 hG217 hF218 (j := 1) rfl
  obtain ⟨Ls225, Lf226, hG227, hF228, hP229⟩ := HS.putG hP224 hG222 hF223 (j := 2) rfl
  cases hF228
  have hH230 := HS.push0 hP229
  change HS [] true s s208 (([⟨some b29, [(int .i64 y171.2.2.2.2.1), (int .i64 y171.2.2.2.2.2.1), (sl z183 f184 e185), h173, (int .i64 y171.2.2.2.2.2.2.2.1), (int .i64 y171.2.2.2.2.2.2.2.2.1), (sl z187 f188 e189), h176, h179, (int .i64 y27.stream.Checker.Stack), (int .i64 y27.stream.Checker.Start), (sl z48 f49 e50), (sl z52 f53 e54), (sl z56 f57 e58), (sl z60 f61 e62), (sl z64 f65 e66)], w182⟩] : List BX) ++ List.flatten Ls225) at hH230
  change AllG [OS oE2 h173 k174 y171.2.1, OS oE2 h176 k177 y171.2.2.1, OS oE109 h179 k180 y171.2.2.2.1] Ls225 at hG227
  refine q (bool (y171.1 == 0)) ?_
  refine nl ?_
  refine AW.meet (σ := Int × St × (List (List BX))) (fun (done231, s232, Ls233) tm os => ⟨updL tm [(6, (ptr b29 0)), (7, (int .i64 done231)), (12, (sl z23 f24 e25)), (13, (int .i64 (deeds22.length : Int))), (14, (int .i64 t153))], updL os [], s232⟩) (fun (done231, s232, Ls233) => (HS [] true s s232 (([⟨some b29, [(int .i64 y171.2.2.2.2.1), (int .i64 y171.2.2.2.2.2.1), (sl z183 f184 e185), h173, (int .i64 y171.2.2.2.2.2.2.2.1), (int .i64 y171.2.2.2.2.2.2.2.2.1), (sl z187 f188 e189), h176, h179, (int .i64 y27.stream.Checker.Stack), (int .i64 y27.stream.Checker.Start), (sl z48 f49 e50), (sl z52 f53 e54), (sl z56 f57 e58), (sl z60 f61 e62), (sl z64 f65 e66)], w182⟩] : List BX) ++ List.flatten Ls233)) ∧ (AllG [OS oE2 h173 k174 y171.2.1, OS oE2 h176 k177 y171.2.2.1, OS oE109 h179 k180 y171.2.2.2.1] Ls233) ∧ impl_after_K00_J2 t153 y171 done231 = some ee1) ?_ ?_
  ·rintro ⟨done231, s232, Ls233⟩ tm os ⟨hH234, hG235, h⟩
   unfold impl_after_K00_J2 at h
   refine AW.inBlock ?_
   refine AW.region ?_
   refine q (int .i64 (IntKind.wrap .i64 (t153 + 1))) ?_
   refine q (int .i64 (IntKind.wrap .i64 (t153 + 1))) ?_
   refine nl ?_
   cases h
   exact AW.res [(6, (ptr b29 0)), (7, (int .i64 done231)), (12, (sl z23 f24 e25)), (13, (int .i64 (deeds22.length : Int))), (14, (int .i64 (IntKind.wrap .i64 (t153 + 1))))] [] ⟨rfl, rfl, rfl, rfl, rfl, trivial⟩ trivial (hL1 _ rfl (w182, z183, f184, e185, h173, k174, z187, f188, e189, h176, k177, h179, k180, s232, Ls233) _ _ ⟨h186, ho175, h190, ho178, ho181, hH234, hG235⟩)
  intro KJ236
  rcases oite h with ⟨hc237, h⟩ | ⟨hc237, h⟩
  ·refine AW.condT (congrArg bool hc237) ?_
   refine AW.region ?_
   refine q (int .i64 done152) ?_
   refine q (int .i64 (IntKind.wrap .i64 (done152 + 1))) ?_
   refine aq (int .i64 (IntKind.wrap .i64 (done152 + 1))) ?_
   refine nl ?_
   exact AW.res [(6, (ptr b29 0)), (7, (int .i64 (IntKind.wrap .i64 (done152 + 1)))), (12, (sl z23 f24 e25)), (13, (int .i64 (deeds22.length : Int))), (14, (int .i64 t153))] [] ⟨rfl, rfl, rfl, rfl, rfl, trivial⟩ trivial (KJ236 (IntKind.wrap .i64 (done152 + 1), s208, Ls225) _ _ ⟨hH230, hG227, h⟩)
  refine AW.condF (congrArg bool hc237) ?_
  refine AW.skip ?_
  exact AW.res [(6, (ptr b29 0)), (7, (int .i64 done152)), (12, (sl z23 f24 e25)), (13, (int .i64 (deeds22.length : Int))), (14, (int .i64 t153))] [] ⟨rfl, rfl, rfl, rfl, rfl, trivial⟩ trivial (KJ236 (done152, s208, Ls225) _ _ ⟨hH230, hG227, h⟩)
 refine AW.condF (congrArg bool hc158) ?_
 refine AW.exit rfl ?_
 obtain ⟨r238, hm, hx⟩ := omap h
 clear h
 subst hx
 have hx := hR1 _ rfl
 rw [hx] at hm
 have h := hm
 exact AW.res [(6, (ptr b29 0)), (7, (int .i64 done152))] [] ⟨rfl, rfl, trivial⟩ trivial (KJ124 (m126, m127, m128, m133, m137, m138, m139, m144, m148, done152, w125, z129, f130, e131, h134, k135, z140, f141, e142, h145, k146, h149, k150, s154, Ls155) _ _ ⟨h132, ho136, h143, ho147, ho151, hH156, hG157, h⟩)
theorem impl_DepthAfter_ok {v1 : Stream} {deeds22 : List Deed} {z2 z6 z10 z14 z18 z23 : Nat} {f3 f7 f11 f15 f19 f24 : Bool} {e4 e8 e12 e16 e20 e25 : List AV} {s : St} (h5 : LR rB 1 v1.Checker.Accept z2 e4) (h9 : LR (rL rPush 2) 1 v1.Checker.Call z6 e8) (h13 : LR (rL (rL (rI .i64) 1) 1) 1 v1.Checker.Return z10 e12) (h17 : LR (rL (rI .i64) 1) 1 v1.Checker.Inner z14 e16) (h21 : LR rS 1 v1.Pieces z18 e20) (h26 : LR rDeed 3 deeds22 z23 e25) {r : Int × Int} (h : impl_DepthAfter v1 deeds22 = some r) (hs : WF s) : ACall Cf 9 [(agg [(int .i64 v1.Checker.Stack), (int .i64 v1.Checker.Start), (sl z2 f3 e4), (sl z6 f7 e8), (sl z10 f11 e12), (sl z14 f15 e16), (sl z18 f19 e20)]), (sl z23 f24 e25)] s fun v _ s' => (fun x => rT [(rI .i64) x.1, (rI .i64) x.2]) r v ∧ s' = s := by
 refine ACall.boxes rfl rfl rfl ?_
 have hH0 := HS.g0 (HS.init hs)
 have hG0 := AllG.nil
 have hl : LoOK [] false s := LoOK.nil
 unfold impl_DepthAfter at h
 refine sr ?_
 refine AOps.makeR rfl rfl rfl rfl rfl rfl (rfl : _ = (eptr [(int .i64 v1.Checker.Stack), (int .i64 v1.Checker.Start), (sl z2 f3 e4), (sl z6 f7 e8), (sl z10 f11 e12), (sl z14 f15 e16), (sl z18 f19 e20)] 0)) ?_
 refine q (int .i64 0) ?_
 refine q (int .i64 0) ?_
 refine nl ?_
 refine AW.seq ?_
 refine sr ?_
 refine lE (agg [(int .i64 v1.Checker.Stack), (int .i64 v1.Checker.Start), (sl z2 f3 e4), (sl z6 f7 e8), (sl z10 f11 e12), (sl z14 f15 e16), (sl z18 f19 e20)]) ?_
 refine q (sl z23 f24 e25) ?_
 obtain ⟨y27, h28, h⟩ := obind h
 refine AOps.callP (g := 19) (args := [(agg [(int .i64 v1.Checker.Stack), (int .i64 v1.Checker.Start), (sl z2 f3 e4), (sl z6 f7 e8), (sl z10 f11 e12), (sl z14 f15 e16), (sl z18 f19 e20)]), (sl z23 f24 e25)]) (p := (rI .i64) y27) rfl rfl rfl (impl_deedsCode_ok h5 h9 h13 h17 h21 h26 h28 (HS.wf' hH0)) ?_
 intro _ o30 h29
 cases h29
 refine aq (int .i64 y27) ?_
 refine ns ?_
 refine q (int .i64 y27) ?_
 refine q (bool (y27 != 0)) ?_
 refine nl ?_
 rcases oite h with ⟨hc31, h⟩ | ⟨hc31, h⟩
 ·refine AW.condT (congrArg bool hc31) ?_
  refine sr ?_
  refine q (int .i64 y27) ?_
  refine q (int .i64 0) ?_
  refine aq (int .i64 y27) ?_
  refine nl ?_
  cases h
  exact AW.ret ⟨⟨_, hH0⟩, _, _, rfl, (Fin.T (.cons (Fin.of (p := (rI .i64) 0) .I rfl) (.cons (Fin.of (p := (rI .i64) y27) .I rfl) .nil))).2⟩
 refine AW.condF (congrArg bool hc31) ?_
 refine AW.skip ?_
 refine sr ?_
 refine lE (agg [(int .i64 v1.Checker.Stack), (int .i64 v1.Checker.Start), (sl z2 f3 e4), (sl z6 f7 e8), (sl z10 f11 e12), (sl z14 f15 e16), (sl z18 f19 e20)]) ?_
 refine q (sl z23 f24 e25) ?_
 obtain ⟨y32, h33, h⟩ := obind h
 have hP73 := HS.pop0 hH0
 refine AOps.callF (al := true) (g := 20) (args := [(agg [(int .i64 v1.Checker.Stack), (int .i64 v1.Checker.Start), (sl z2 f3 e4), (sl z6 f7 e8), (sl z10 f11 e12), (sl z14 f15 e16), (sl z18 f19 e20)]), (sl z23 f24 e25)]) rfl rfl rfl (impl_after_K00_ok h5 h9 h13 h17 h21 h26  h33 (HS.wf' hH0)) ?_
 rintro _ _ s74 ⟨b34, w35, z36, f37, e38, h40, k41, z43, f44, e45, h47, k48, h50, k51, z53, f54, e55, z57, f58, e59, z61, f62, e63, z65, f66, e67, z69, f70, e71, Ls76, rfl, hH77, hG78, hl39, ho42, hl46, ho49, ho52, hl56, hl60, hl64, hl68, hl72⟩
 have hJ79 := HS.joinK1 hP73 hH77
 have hJ80 := HS.pushNE (x := ⟨some b34, [(int .i64 y32.1.Plant_.Desk_.Read), (int .i64 y32.1.Plant_.Desk_.State), (sl z36 f37 e38), h40, (int .i64 y32.1.Plant_.Saved.Read), (int .i64 y32.1.Plant_.Saved.State), (sl z43 f44 e45), h47, h50, (int .i64 y32.1.stream.Checker.Stack), (int .i64 y32.1.stream.Checker.Start), (sl z53 f54 e55), (sl z57 f58 e59), (sl z61 f62 e63), (sl z65 f66 e67), (sl z69 f70 e71)], w35⟩) hJ79
 obtain ⟨Ls81, Lf82, hG83, hF84, hP85⟩ := HS.pushN hJ80 hG0 hG78
 obtain ⟨Ls86, Lf87, hG88, hF89, hP90⟩ := HS.pushN hP85 hG83 hF84
 obtain ⟨Ls91, Lf92, hG93, hF94, hP95⟩ := HS.pushN hP90 hG88 hF89
 cases hF94
 have hH96 := HS.push0 hP95
 change HS [] false s s74 (([⟨some b34, [(int .i64 y32.1.Plant_.Desk_.Read), (int .i64 y32.1.Plant_.Desk_.State), (sl z36 f37 e38), h40, (int .i64 y32.1.Plant_.Saved.Read), (int .i64 y32.1.Plant_.Saved.State), (sl z43 f44 e45), h47, h50, (int .i64 y32.1.stream.Checker.Stack), (int .i64 y32.1.stream.Checker.Start), (sl z53 f54 e55), (sl z57 f58 e59), (sl z61 f62 e63), (sl z65 f66 e67), (sl z69 f70 e71)], w35⟩] : List BX) ++ List.flatten Ls91) at hH96
 change AllG [OS oE109 h50 k51 y32.1.Plant_.Wire, OS oE2 h47 k48 y32.1.Plant_.Saved.Waiting, OS oE2 h40 k41 y32.1.Plant_.Desk_.Waiting] Ls91 at hG93
 refine q (AV.tup [(ptr b34 0), (int .i64 y32.2)]) ?_
 refine q (ptr b34 0) ?_
 refine q (int .i64 y32.2) ?_
 refine aq (ptr b34 0) ?_
 refine aq (int .i64 y32.2) ?_
 refine ns ?_
 refine q (ptr b34 0) ?_
 refine q (ptr b34 0) ?_
 refine q (ptr b34 0) ?_
 refine q (ptr b34 0) ?_
 refine q (ptr b34 2) ?_
 refine AOps.ldB (i := 0) (v := (sl z36 f37 e38)) hH96 rfl rfl rfl rfl rfl rfl rfl rfl rfl ?_
 obtain ⟨y97, h98, h⟩ := obind h
 refine AOps.lendP (g := 21) (args := [(sl z36 f37 e38)]) (ps := [(rL (rI .i64) 1) y32.1.Plant_.Desk_.Stack]) (p := (rI .i64) y97) rfl rfl rfl rfl rfl rfl rfl (.cons (Fin.of (p := (rL (rI .i64) 1) y32.1.Plant_.Desk_.Stack) (.L fun _ => .I) (⟨_, _, _, rfl, hl39⟩)) .nil) (fun args' hc => by obtain ⟨_, _, rfl, hv0, hd0⟩ := Cs_cons hc; obtain ⟨z99, f100, e101, rfl, h102⟩ := hv0; cases Cs_nil hd0; exact impl_size_int64_okN h102 h98 WF.blind) (fun v n hv => by cases hv; rfl) ?_
 intro _ h103
 cases h103
 refine aq (int .i64 y97) ?_
 refine q (int .i64 0) ?_
 refine nl ?_
 cases h
 exact AW.ret ⟨⟨_, hH96⟩, _, _, rfl, (Fin.T (.cons (Fin.of (p := (rI .i64) y97) .I rfl) (.cons (Fin.of (p := (rI .i64) 0) .I rfl) .nil))).2⟩
theorem laws_eqBoolS_ok {a1 b6 : List Bool} {z2 z7 : Nat} {f3 f8 : Bool} {e4 e9 : List AV} {s : St} (h5 : LR rB 1 a1 z2 e4) (h10 : LR rB 1 b6 z7 e9) {r : Bool} (h : laws_eqBoolS a1 b6 = some r) (hs : WF s) : ACall Cf 43 [(sl z2 f3 e4), (sl z7 f8 e9)] s fun v _ s' => (rB) r v ∧ s' = s := by
 refine ACall.pure rfl rfl rfl .B ?_
 have hWF := hs.lo'
 unfold laws_eqBoolS at h
 refine sr ?_
 refine q (bool false) ?_
 refine nl ?_
 refine AW.seq ?_
 refine sr ?_
 refine q (sl z2 f3 e4) ?_
 refine AOps.p rfl (len_eq h5) ?_
 refine q (sl z7 f8 e9) ?_
 refine AOps.p rfl (len_eq h10) ?_
 refine q (bool ((a1.length : Int) != (b6.length : Int))) ?_
 refine nl ?_
 rcases oite h with ⟨hc11, h⟩ | ⟨hc11, h⟩
 ·refine AW.condT (congrArg bool hc11) ?_
  refine sr ?_
  refine q (bool false) ?_
  refine nl ?_
  cases h
  exact AW.ret ⟨rfl, _, _, rfl, rfl⟩
 refine AW.condF (congrArg bool hc11) ?_
 refine AW.skip ?_
 refine AW.seq ?_
 refine sr ?_
 refine q (int .i64 0) ?_
 refine nl ?_
 refine AW.meet (σ := Unit) (fun _ tm os => ⟨updL tm [], updL os [], { s with lo := s.n }⟩) (fun _ => laws_eqBoolS_J1 = some r) ?_ ?_
 ·rintro _ tm os h
  unfold laws_eqBoolS_J1 at h
  refine sr ?_
  refine q (bool true) ?_
  refine nl ?_
  cases h
  exact AW.ret ⟨rfl, _, _, rfl, rfl⟩
 intro KJ12
 refine AW.block ?_
 refine AW.res [(0, (sl z2 f3 e4)), (1, (sl z7 f8 e9)), (5, (int .i64 0))] [] ⟨rfl, rfl, rfl, trivial⟩ trivial ?_
 refine AW.loopF (σ := Int) (τ := Unit) (fun i13 _ => True) (fun i13 _ tm os => ⟨updL tm [(0, (sl z2 f3 e4)), (1, (sl z7 f8 e9)), (5, (int .i64 i13))], updL os [], { s with lo := s.n }⟩) ?_ (x := (0)) (y := ()) h trivial
 clear h
 rintro i13 _ tm os - ee1 h hL1 hR1
 unfold laws_eqBoolS_S1 at h
 refine AW.seq ?_
 refine sr ?_
 refine q (int .i64 i13) ?_
 refine q (sl z2 f3 e4) ?_
 refine AOps.p rfl (len_eq h5) ?_
 refine q (bool (decide ((i13 : Int) < (a1.length : Int)))) ?_
 refine nl ?_
 rcases oite h with ⟨hc14, h⟩ | ⟨hc14, h⟩
 ·refine AW.condT (congrArg bool hc14) ?_
  refine AW.skip ?_
  refine AW.seq ?_
  refine AW.block ?_
  refine sr ?_
  refine q (sl z2 f3 e4) ?_
  refine q (int .i64 i13) ?_
  obtain ⟨x15, h16, h⟩ := obind h
  obtain ⟨v19, h17, h18⟩ := idx_sl h5 h16
  cases h17
  refine AOps.pureR rfl rfl rfl h18 rfl (rfl : _ = (eptr [(bool x15)] 0)) ?_
  refine lE (bool x15) ?_
  refine q (sl z7 f8 e9) ?_
  refine q (int .i64 i13) ?_
  obtain ⟨x20, h21, h⟩ := obind h
  obtain ⟨v24, h22, h23⟩ := idx_sl h10 h21
  cases h22
  refine AOps.pureR rfl rfl rfl h23 rfl (rfl : _ = (eptr [(bool x20)] 0)) ?_
  refine lE (bool x20) ?_
  refine q (bool (!(x15 == x20))) ?_
  refine nl ?_
  rcases oite h with ⟨hc25, h⟩ | ⟨hc25, h⟩
  ·refine AW.condT (congrArg bool hc25) ?_
   refine sr ?_
   refine q (bool false) ?_
   refine nl ?_
   cases h
   have hr := hR1 _ rfl
   subst hr
   exact AW.ret ⟨rfl, _, _, rfl, rfl⟩
  refine AW.condF (congrArg bool hc25) ?_
  refine AW.skip ?_
  refine AW.inBlock ?_
  refine AW.region ?_
  refine q (int .i64 i13) ?_
  refine q (int .i64 (IntKind.wrap .i64 (i13 + 1))) ?_
  refine aq (int .i64 (IntKind.wrap .i64 (i13 + 1))) ?_
  refine nl ?_
  cases h
  exact AW.res [(0, (sl z2 f3 e4)), (1, (sl z7 f8 e9)), (5, (int .i64 (IntKind.wrap .i64 (i13 + 1))))] [] ⟨rfl, rfl, rfl, trivial⟩ trivial (hL1 _ rfl () _ _ trivial)
 refine AW.condF (congrArg bool hc14) ?_
 refine AW.exit rfl ?_
 obtain ⟨r26, hm, hx⟩ := omap h
 clear h
 subst hx
 have hx := hR1 _ rfl
 rw [hx] at hm
 have h := hm
 exact AW.res [] [] trivial trivial (KJ12 () _ _ h)
theorem laws_eqPush_ok {a1 b2 : Push} {s : St} {r : Bool} (h : laws_eqPush a1 b2 = some r) (hs : WF s) : ACall Cf 96 [(agg [(int .i64 a1.To), (int .i64 a1.Put)]), (agg [(int .i64 b2.To), (int .i64 b2.Put)])] s fun v _ s' => (rB) r v ∧ s' = s := by
 refine ACall.pure rfl rfl rfl .B ?_
 have hWF := hs.lo'
 unfold laws_eqPush at h
 refine sr ?_
 refine AOps.makeR rfl rfl rfl rfl rfl rfl (rfl : _ = (eptr [(int .i64 a1.To), (int .i64 a1.Put)] 0)) ?_
 refine AOps.makeR rfl rfl rfl rfl rfl rfl (rfl : _ = (eptr [(int .i64 b2.To), (int .i64 b2.Put)] 0)) ?_
 refine q (bool false) ?_
 refine nl ?_
 refine AW.seq ?_
 refine sr ?_
 refine q (eptr [(int .i64 a1.To), (int .i64 a1.Put)] 0) ?_
 refine lE (int .i64 a1.To) ?_
 refine q (eptr [(int .i64 b2.To), (int .i64 b2.Put)] 0) ?_
 refine lE (int .i64 b2.To) ?_
 refine q (bool (a1.To != b2.To)) ?_
 refine nl ?_
 rcases oite h with ⟨hc3, h⟩ | ⟨hc3, h⟩
 ·refine AW.condT (congrArg bool hc3) ?_
  refine sr ?_
  refine q (bool false) ?_
  refine nl ?_
  cases h
  exact AW.ret ⟨rfl, _, _, rfl, rfl⟩
 refine AW.condF (congrArg bool hc3) ?_
 refine AW.skip ?_
 refine AW.seq ?_
 refine sr ?_
 refine q (eptr [(int .i64 a1.To), (int .i64 a1.Put)] 1) ?_
 refine lE (int .i64 a1.Put) ?_
 refine q (eptr [(int .i64 b2.To), (int .i64 b2.Put)] 1) ?_
 refine lE (int .i64 b2.Put) ?_
 refine q (bool (a1.Put != b2.Put)) ?_
 refine nl ?_
 rcases oite h with ⟨hc4, h⟩ | ⟨hc4, h⟩
 ·refine AW.condT (congrArg bool hc4) ?_
  refine sr ?_
  refine q (bool false) ?_
  refine nl ?_
  cases h
  exact AW.ret ⟨rfl, _, _, rfl, rfl⟩
 refine AW.condF (congrArg bool hc4) ?_
 refine AW.skip ?_
 refine sr ?_
 refine q (bool true) ?_
 refine nl ?_
 cases h
 exact AW.ret ⟨rfl, _, _, rfl, rfl⟩
theorem laws_eqPushS_ok {a1 b6 : List Push} {z2 z7 : Nat} {f3 f8 : Bool} {e4 e9 : List AV} {s : St} (h5 : LR rPush 2 a1 z2 e4) (h10 : LR rPush 2 b6 z7 e9) {r : Bool} (h : laws_eqPushS a1 b6 = some r) (hs : WF s) : ACall Cf 71 [(sl z2 f3 e4), (sl z7 f8 e9)] s fun v _ s' => (rB) r v ∧ s' = s := by
 refine ACall.pure rfl rfl rfl .B ?_
 have hWF := hs.lo'
 unfold laws_eqPushS at h
 refine sr ?_
 refine q (bool false) ?_
 refine nl ?_
 refine AW.seq ?_
 refine sr ?_
 refine q (sl z2 f3 e4) ?_
 refine AOps.p rfl (len_eq h5) ?_
 refine q (sl z7 f8 e9) ?_
 refine AOps.p rfl (len_eq h10) ?_
 refine q (bool ((a1.length : Int) != (b6.length : Int))) ?_
 refine nl ?_
 rcases oite h with ⟨hc11, h⟩ | ⟨hc11, h⟩
 ·refine AW.condT (congrArg bool hc11) ?_
  refine sr ?_
  refine q (bool false) ?_
  refine nl ?_
  cases h
  exact AW.ret ⟨rfl, _, _, rfl, rfl⟩
 refine AW.condF (congrArg bool hc11) ?_
 refine AW.skip ?_
 refine AW.seq ?_
 refine sr ?_
 refine q (int .i64 0) ?_
 refine nl ?_
 refine AW.meet (σ := Unit) (fun _ tm os => ⟨updL tm [], updL os [], { s with lo := s.n }⟩) (fun _ => laws_eqPushS_J1 = some r) ?_ ?_
 ·rintro _ tm os h
  unfold laws_eqPushS_J1 at h
  refine sr ?_
  refine q (bool true) ?_
  refine nl ?_
  cases h
  exact AW.ret ⟨rfl, _, _, rfl, rfl⟩
 intro KJ12
 refine AW.block ?_
 refine AW.res [(0, (sl z2 f3 e4)), (1, (sl z7 f8 e9)), (5, (int .i64 0))] [] ⟨rfl, rfl, rfl, trivial⟩ trivial ?_
 refine AW.loopF (σ := Int) (τ := Unit) (fun i13 _ => True) (fun i13 _ tm os => ⟨updL tm [(0, (sl z2 f3 e4)), (1, (sl z7 f8 e9)), (5, (int .i64 i13))], updL os [], { s with lo := s.n }⟩) ?_ (x := (0)) (y := ()) h trivial
 clear h
 rintro i13 _ tm os - ee1 h hL1 hR1
 unfold laws_eqPushS_S1 at h
 refine AW.seq ?_
 refine sr ?_
 refine q (int .i64 i13) ?_
 refine q (sl z2 f3 e4) ?_
 refine AOps.p rfl (len_eq h5) ?_
 refine q (bool (decide ((i13 : Int) < (a1.length : Int)))) ?_
 refine nl ?_
 rcases oite h with ⟨hc14, h⟩ | ⟨hc14, h⟩
 ·refine AW.condT (congrArg bool hc14) ?_
  refine AW.skip ?_
  refine AW.seq ?_
  refine AW.block ?_
  refine sr ?_
  refine q (sl z2 f3 e4) ?_
  refine q (int .i64 i13) ?_
  obtain ⟨x15, h16, h⟩ := obind h
  obtain ⟨v19, h17, h18⟩ := idx_sl h5 h16
  obtain ⟨_, rfl, h20⟩ := h17
  obtain ⟨_, _, rfl, h21, h22⟩ := Cs_cons h20
  cases h21
  obtain ⟨_, _, rfl, h23, h24⟩ := Cs_cons h22
  cases h23
  cases Cs_nil h24
  refine AOps.pureR rfl rfl rfl h18 rfl (rfl : _ = (eptr [(int .i64 x15.To), (int .i64 x15.Put)] 0)) ?_
  refine lE (agg [(int .i64 x15.To), (int .i64 x15.Put)]) ?_
  refine q (sl z7 f8 e9) ?_
  refine q (int .i64 i13) ?_
  obtain ⟨x25, h26, h⟩ := obind h
  obtain ⟨v29, h27, h28⟩ := idx_sl h10 h26
  obtain ⟨_, rfl, h30⟩ := h27
  obtain ⟨_, _, rfl, h31, h32⟩ := Cs_cons h30
  cases h31
  obtain ⟨_, _, rfl, h33, h34⟩ := Cs_cons h32
  cases h33
  cases Cs_nil h34
  refine AOps.pureR rfl rfl rfl h28 rfl (rfl : _ = (eptr [(int .i64 x25.To), (int .i64 x25.Put)] 0)) ?_
  refine lE (agg [(int .i64 x25.To), (int .i64 x25.Put)]) ?_
  obtain ⟨y35, h36, h⟩ := obind h
  refine AOps.callDP (g := 96) (args := [(agg [(int .i64 x15.To), (int .i64 x15.Put)]), (agg [(int .i64 x25.To), (int .i64 x25.Put)])]) (p := (rB) y35) rfl rfl rfl (laws_eqPush_ok  h36 hWF.still) (fun v hv => Nice.pure (k := FINK) (p := (rB) y35) .B _ v hv) ?_
  intro _ o38 h37
  cases h37
  refine q (bool (!y35)) ?_
  refine nl ?_
  rcases oite h with ⟨hc39, h⟩ | ⟨hc39, h⟩
  ·refine AW.condT (congrArg bool hc39) ?_
   refine sr ?_
   refine q (bool false) ?_
   refine nl ?_
   cases h
   have hr := hR1 _ rfl
   subst hr
   exact AW.ret ⟨rfl, _, _, rfl, rfl⟩
  refine AW.condF (congrArg bool hc39) ?_
  refine AW.skip ?_
  refine AW.inBlock ?_
  refine AW.region ?_
  refine q (int .i64 i13) ?_
  refine q (int .i64 (IntKind.wrap .i64 (i13 + 1))) ?_
  refine aq (int .i64 (IntKind.wrap .i64 (i13 + 1))) ?_
  refine nl ?_
  cases h
  exact AW.res [(0, (sl z2 f3 e4)), (1, (sl z7 f8 e9)), (5, (int .i64 (IntKind.wrap .i64 (i13 + 1))))] [] ⟨rfl, rfl, rfl, trivial⟩ trivial (hL1 _ rfl () _ _ trivial)
 refine AW.condF (congrArg bool hc14) ?_
 refine AW.exit rfl ?_
 obtain ⟨r40, hm, hx⟩ := omap h
 clear h
 subst hx
 have hx := hR1 _ rfl
 rw [hx] at hm
 have h := hm
 exact AW.res [] [] trivial trivial (KJ12 () _ _ h)
theorem laws_eqPushSS_ok {a1 b6 : List (List Push)} {z2 z7 : Nat} {f3 f8 : Bool} {e4 e9 : List AV} {s : St} (h5 : LR (rL rPush 2) 1 a1 z2 e4) (h10 : LR (rL rPush 2) 1 b6 z7 e9) {r : Bool} (h : laws_eqPushSS a1 b6 = some r) (hs : WF s) : ACall Cf 44 [(sl z2 f3 e4), (sl z7 f8 e9)] s fun v _ s' => (rB) r v ∧ s' = s := by
 refine ACall.pure rfl rfl rfl .B ?_
 have hWF := hs.lo'
 unfold laws_eqPushSS at h
 refine sr ?_
 refine q (bool false) ?_
 refine nl ?_
 refine AW.seq ?_
 refine sr ?_
 refine q (sl z2 f3 e4) ?_
 refine AOps.p rfl (len_eq h5) ?_
 refine q (sl z7 f8 e9) ?_
 refine AOps.p rfl (len_eq h10) ?_
 refine q (bool ((a1.length : Int) != (b6.length : Int))) ?_
 refine nl ?_
 rcases oite h with ⟨hc11, h⟩ | ⟨hc11, h⟩
 ·refine AW.condT (congrArg bool hc11) ?_
  refine sr ?_
  refine q (bool false) ?_
  refine nl ?_
  cases h
  exact AW.ret ⟨rfl, _, _, rfl, rfl⟩
 refine AW.condF (congrArg bool hc11) ?_
 refine AW.skip ?_
 refine AW.seq ?_
 refine sr ?_
 refine q (int .i64 0) ?_
 refine nl ?_
 refine AW.meet (σ := Unit) (fun _ tm os => ⟨updL tm [], updL os [], { s with lo := s.n }⟩) (fun _ => laws_eqPushSS_J1 = some r) ?_ ?_
 ·rintro _ tm os h
  unfold laws_eqPushSS_J1 at h
  refine sr ?_
  refine q (bool true) ?_
  refine nl ?_
  cases h
  exact AW.ret ⟨rfl, _, _, rfl, rfl⟩
 intro KJ12
 refine AW.block ?_
 refine AW.res [(0, (sl z2 f3 e4)), (1, (sl z7 f8 e9)), (5, (int .i64 0))] [] ⟨rfl, rfl, rfl, trivial⟩ trivial ?_
 refine AW.loopF (σ := Int) (τ := Unit) (fun i13 _ => True) (fun i13 _ tm os => ⟨updL tm [(0, (sl z2 f3 e4)), (1, (sl z7 f8 e9)), (5, (int .i64 i13))], updL os [], { s with lo := s.n }⟩) ?_ (x := (0)) (y := ()) h trivial
 clear h
 rintro i13 _ tm os - ee1 h hL1 hR1
 unfold laws_eqPushSS_S1 at h
 refine AW.seq ?_
 refine sr ?_
 refine q (int .i64 i13) ?_
 refine q (sl z2 f3 e4) ?_
 refine AOps.p rfl (len_eq h5) ?_
 refine q (bool (decide ((i13 : Int) < (a1.length : Int)))) ?_
 refine nl ?_
 rcases oite h with ⟨hc14, h⟩ | ⟨hc14, h⟩
 ·refine AW.condT (congrArg bool hc14) ?_
  refine AW.skip ?_
  refine AW.seq ?_
  refine AW.block ?_
  refine sr ?_
  refine q (sl z2 f3 e4) ?_
  refine q (int .i64 i13) ?_
  obtain ⟨x15, h16, h⟩ := obind h
  obtain ⟨v19, h17, h18⟩ := idx_sl h5 h16
  obtain ⟨z20, f21, e22, rfl, h23⟩ := h17
  refine AOps.pureR rfl rfl rfl h18 rfl (rfl : _ = (eptr [(sl z20 f21 e22)] 0)) ?_
  refine lE (sl z20 f21 e22) ?_
  refine q (sl z7 f8 e9) ?_
  refine q (int .i64 i13) ?_
  obtain ⟨x24, h25, h⟩ := obind h
  obtain ⟨v28, h26, h27⟩ := idx_sl h10 h25
  obtain ⟨z29, f30, e31, rfl, h32⟩ := h26
  refine AOps.pureR rfl rfl rfl h27 rfl (rfl : _ = (eptr [(sl z29 f30 e31)] 0)) ?_
  refine lE (sl z29 f30 e31) ?_
  obtain ⟨y33, h34, h⟩ := obind h
  refine AOps.callDP (g := 71) (args := [(sl z20 f21 e22), (sl z29 f30 e31)]) (p := (rB) y33) rfl rfl rfl (laws_eqPushS_ok h23 h32 h34 hWF.still) (fun v hv => Nice.pure (k := FINK) (p := (rB) y33) .B _ v hv) ?_
  intro _ o36 h35
  cases h35
  refine q (bool (!y33)) ?_
  refine nl ?_
  rcases oite h with ⟨hc37, h⟩ | ⟨hc37, h⟩
  ·refine AW.condT (congrArg bool hc37) ?_
   refine sr ?_
   refine q (bool false) ?_
   refine nl ?_
   cases h
   have hr := hR1 _ rfl
   subst hr
   exact AW.ret ⟨rfl, _, _, rfl, rfl⟩
  refine AW.condF (congrArg bool hc37) ?_
  refine AW.skip ?_
  refine AW.inBlock ?_
  refine AW.region ?_
  refine q (int .i64 i13) ?_
  refine q (int .i64 (IntKind.wrap .i64 (i13 + 1))) ?_
  refine aq (int .i64 (IntKind.wrap .i64 (i13 + 1))) ?_
  refine nl ?_
  cases h
  exact AW.res [(0, (sl z2 f3 e4)), (1, (sl z7 f8 e9)), (5, (int .i64 (IntKind.wrap .i64 (i13 + 1))))] [] ⟨rfl, rfl, rfl, trivial⟩ trivial (hL1 _ rfl () _ _ trivial)
 refine AW.condF (congrArg bool hc14) ?_
 refine AW.exit rfl ?_
 obtain ⟨r38, hm, hx⟩ := omap h
 clear h
 subst hx
 have hx := hR1 _ rfl
 rw [hx] at hm
 have h := hm
 exact AW.res [] [] trivial trivial (KJ12 () _ _ h)
theorem laws_eqInt64S_ok {a1 b6 : List Int} {z2 z7 : Nat} {f3 f8 : Bool} {e4 e9 : List AV} {s : St} (h5 : LR (rI .i64) 1 a1 z2 e4) (h10 : LR (rI .i64) 1 b6 z7 e9) {r : Bool} (h : laws_eqInt64S a1 b6 = some r) (hs : WF s) : ACall Cf 72 [(sl z2 f3 e4), (sl z7 f8 e9)] s fun v _ s' => (rB) r v ∧ s' = s := by
 refine ACall.pure rfl rfl rfl .B ?_
 have hWF := hs.lo'
 unfold laws_eqInt64S at h
 refine sr ?_
 refine q (bool false) ?_
 refine nl ?_
 refine AW.seq ?_
 refine sr ?_
 refine q (sl z2 f3 e4) ?_
 refine AOps.p rfl (len_eq h5) ?_
 refine q (sl z7 f8 e9) ?_
 refine AOps.p rfl (len_eq h10) ?_
 refine q (bool ((a1.length : Int) != (b6.length : Int))) ?_
 refine nl ?_
 rcases oite h with ⟨hc11, h⟩ | ⟨hc11, h⟩
 ·refine AW.condT (congrArg bool hc11) ?_
  refine sr ?_
  refine q (bool false) ?_
  refine nl ?_
  cases h
  exact AW.ret ⟨rfl, _, _, rfl, rfl⟩
 refine AW.condF (congrArg bool hc11) ?_
 refine AW.skip ?_
 refine AW.seq ?_
 refine sr ?_
 refine q (int .i64 0) ?_
 refine nl ?_
 refine AW.meet (σ := Unit) (fun _ tm os => ⟨updL tm [], updL os [], { s with lo := s.n }⟩) (fun _ => laws_eqInt64S_J1 = some r) ?_ ?_
 ·rintro _ tm os h
  unfold laws_eqInt64S_J1 at h
  refine sr ?_
  refine q (bool true) ?_
  refine nl ?_
  cases h
  exact AW.ret ⟨rfl, _, _, rfl, rfl⟩
 intro KJ12
 refine AW.block ?_
 refine AW.res [(0, (sl z2 f3 e4)), (1, (sl z7 f8 e9)), (5, (int .i64 0))] [] ⟨rfl, rfl, rfl, trivial⟩ trivial ?_
 refine AW.loopF (σ := Int) (τ := Unit) (fun i13 _ => True) (fun i13 _ tm os => ⟨updL tm [(0, (sl z2 f3 e4)), (1, (sl z7 f8 e9)), (5, (int .i64 i13))], updL os [], { s with lo := s.n }⟩) ?_ (x := (0)) (y := ()) h trivial
 clear h
 rintro i13 _ tm os - ee1 h hL1 hR1
 unfold laws_eqInt64S_S1 at h
 refine AW.seq ?_
 refine sr ?_
 refine q (int .i64 i13) ?_
 refine q (sl z2 f3 e4) ?_
 refine AOps.p rfl (len_eq h5) ?_
 refine q (bool (decide ((i13 : Int) < (a1.length : Int)))) ?_
 refine nl ?_
 rcases oite h with ⟨hc14, h⟩ | ⟨hc14, h⟩
 ·refine AW.condT (congrArg bool hc14) ?_
  refine AW.skip ?_
  refine AW.seq ?_
  refine AW.block ?_
  refine sr ?_
  refine q (sl z2 f3 e4) ?_
  refine q (int .i64 i13) ?_
  obtain ⟨x15, h16, h⟩ := obind h
  obtain ⟨v19, h17, h18⟩ := idx_sl h5 h16
  cases h17
  refine AOps.pureR rfl rfl rfl h18 rfl (rfl : _ = (eptr [(int .i64 x15)] 0)) ?_
  refine lE (int .i64 x15) ?_
  refine q (sl z7 f8 e9) ?_
  refine q (int .i64 i13) ?_
  obtain ⟨x20, h21, h⟩ := obind h
  obtain ⟨v24, h22, h23⟩ := idx_sl h10 h21
  cases h22
  refine AOps.pureR rfl rfl rfl h23 rfl (rfl : _ = (eptr [(int .i64 x20)] 0)) ?_
  refine lE (int .i64 x20) ?_
  refine q (bool (x15 != x20)) ?_
  refine nl ?_
  rcases oite h with ⟨hc25, h⟩ | ⟨hc25, h⟩
  ·refine AW.condT (congrArg bool hc25) ?_
   refine sr ?_
   refine q (bool false) ?_
   refine nl ?_
   cases h
   have hr := hR1 _ rfl
   subst hr
   exact AW.ret ⟨rfl, _, _, rfl, rfl⟩
  refine AW.condF (congrArg bool hc25) ?_
  refine AW.skip ?_
  refine AW.inBlock ?_
  refine AW.region ?_
  refine q (int .i64 i13) ?_
  refine q (int .i64 (IntKind.wrap .i64 (i13 + 1))) ?_
  refine aq (int .i64 (IntKind.wrap .i64 (i13 + 1))) ?_
  refine nl ?_
  cases h
  exact AW.res [(0, (sl z2 f3 e4)), (1, (sl z7 f8 e9)), (5, (int .i64 (IntKind.wrap .i64 (i13 + 1))))] [] ⟨rfl, rfl, rfl, trivial⟩ trivial (hL1 _ rfl () _ _ trivial)
 refine AW.condF (congrArg bool hc14) ?_
 refine AW.exit rfl ?_
 obtain ⟨r26, hm, hx⟩ := omap h
 clear h
 subst hx
 have hx := hR1 _ rfl
 rw [hx] at hm
 have h := hm
 exact AW.res [] [] trivial trivial (KJ12 () _ _ h)
theorem laws_eqInt64SS_ok {a1 b6 : List (List Int)} {z2 z7 : Nat} {f3 f8 : Bool} {e4 e9 : List AV} {s : St} (h5 : LR (rL (rI .i64) 1) 1 a1 z2 e4) (h10 : LR (rL (rI .i64) 1) 1 b6 z7 e9) {r : Bool} (h : laws_eqInt64SS a1 b6 = some r) (hs : WF s) : ACall Cf 46 [(sl z2 f3 e4), (sl z7 f8 e9)] s fun v _ s' => (rB) r v ∧ s' = s := by
 refine ACall.pure rfl rfl rfl .B ?_
 have hWF := hs.lo'
 unfold laws_eqInt64SS at h
 refine sr ?_
 refine q (bool false) ?_
 refine nl ?_
 refine AW.seq ?_
 refine sr ?_
 refine q (sl z2 f3 e4) ?_
 refine AOps.p rfl (len_eq h5) ?_
 refine q (sl z7 f8 e9) ?_
 refine AOps.p rfl (len_eq h10) ?_
 refine q (bool ((a1.length : Int) != (b6.length : Int))) ?_
 refine nl ?_
 rcases oite h with ⟨hc11, h⟩ | ⟨hc11, h⟩
 ·refine AW.condT (congrArg bool hc11) ?_
  refine sr ?_
  refine q (bool false) ?_
  refine nl ?_
  cases h
  exact AW.ret ⟨rfl, _, _, rfl, rfl⟩
 refine AW.condF (congrArg bool hc11) ?_
 refine AW.skip ?_
 refine AW.seq ?_
 refine sr ?_
 refine q (int .i64 0) ?_
 refine nl ?_
 refine AW.meet (σ := Unit) (fun _ tm os => ⟨updL tm [], updL os [], { s with lo := s.n }⟩) (fun _ => laws_eqInt64SS_J1 = some r) ?_ ?_
 ·rintro _ tm os h
  unfold laws_eqInt64SS_J1 at h
  refine sr ?_
  refine q (bool true) ?_
  refine nl ?_
  cases h
  exact AW.ret ⟨rfl, _, _, rfl, rfl⟩
 intro KJ12
 refine AW.block ?_
 refine AW.res [(0, (sl z2 f3 e4)), (1, (sl z7 f8 e9)), (5, (int .i64 0))] [] ⟨rfl, rfl, rfl, trivial⟩ trivial ?_
 refine AW.loopF (σ := Int) (τ := Unit) (fun i13 _ => True) (fun i13 _ tm os => ⟨updL tm [(0, (sl z2 f3 e4)), (1, (sl z7 f8 e9)), (5, (int .i64 i13))], updL os [], { s with lo := s.n }⟩) ?_ (x := (0)) (y := ()) h trivial
 clear h
 rintro i13 _ tm os - ee1 h hL1 hR1
 unfold laws_eqInt64SS_S1 at h
 refine AW.seq ?_
 refine sr ?_
 refine q (int .i64 i13) ?_
 refine q (sl z2 f3 e4) ?_
 refine AOps.p rfl (len_eq h5) ?_
 refine q (bool (decide ((i13 : Int) < (a1.length : Int)))) ?_
 refine nl ?_
 rcases oite h with ⟨hc14, h⟩ | ⟨hc14, h⟩
 ·refine AW.condT (congrArg bool hc14) ?_
  refine AW.skip ?_
  refine AW.seq ?_
  refine AW.block ?_
  refine sr ?_
  refine q (sl z2 f3 e4) ?_
  refine q (int .i64 i13) ?_
  obtain ⟨x15, h16, h⟩ := obind h
  obtain ⟨v19, h17, h18⟩ := idx_sl h5 h16
  obtain ⟨z20, f21, e22, rfl, h23⟩ := h17
  refine AOps.pureR rfl rfl rfl h18 rfl (rfl : _ = (eptr [(sl z20 f21 e22)] 0)) ?_
  refine lE (sl z20 f21 e22) ?_
  refine q (sl z7 f8 e9) ?_
  refine q (int .i64 i13) ?_
  obtain ⟨x24, h25, h⟩ := obind h
  obtain ⟨v28, h26, h27⟩ := idx_sl h10 h25
  obtain ⟨z29, f30, e31, rfl, h32⟩ := h26
  refine AOps.pureR rfl rfl rfl h27 rfl (rfl : _ = (eptr [(sl z29 f30 e31)] 0)) ?_
  refine lE (sl z29 f30 e31) ?_
  obtain ⟨y33, h34, h⟩ := obind h
  refine AOps.callDP (g := 72) (args := [(sl z20 f21 e22), (sl z29 f30 e31)]) (p := (rB) y33) rfl rfl rfl (laws_eqInt64S_ok h23 h32 h34 hWF.still) (fun v hv => Nice.pure (k := FINK) (p := (rB) y33) .B _ v hv) ?_
  intro _ o36 h35
  cases h35
  refine q (bool (!y33)) ?_
  refine nl ?_
  rcases oite h with ⟨hc37, h⟩ | ⟨hc37, h⟩
  ·refine AW.condT (congrArg bool hc37) ?_
   refine sr ?_
   refine q (bool false) ?_
   refine nl ?_
   cases h
   have hr := hR1 _ rfl
   subst hr
   exact AW.ret ⟨rfl, _, _, rfl, rfl⟩
  refine AW.condF (congrArg bool hc37) ?_
  refine AW.skip ?_
  refine AW.inBlock ?_
  refine AW.region ?_
  refine q (int .i64 i13) ?_
  refine q (int .i64 (IntKind.wrap .i64 (i13 + 1))) ?_
  refine aq (int .i64 (IntKind.wrap .i64 (i13 + 1))) ?_
  refine nl ?_
  cases h
  exact AW.res [(0, (sl z2 f3 e4)), (1, (sl z7 f8 e9)), (5, (int .i64 (IntKind.wrap .i64 (i13 + 1))))] [] ⟨rfl, rfl, rfl, trivial⟩ trivial (hL1 _ rfl () _ _ trivial)
 refine AW.condF (congrArg bool hc14) ?_
 refine AW.exit rfl ?_
 obtain ⟨r38, hm, hx⟩ := omap h
 clear h
 subst hx
 have hx := hR1 _ rfl
 rw [hx] at hm
 have h := hm
 exact AW.res [] [] trivial trivial (KJ12 () _ _ h)
theorem laws_eqInt64SSS_ok {a1 b6 : List (List (List Int))} {z2 z7 : Nat} {f3 f8 : Bool} {e4 e9 : List AV} {s : St} (h5 : LR (rL (rL (rI .i64) 1) 1) 1 a1 z2 e4) (h10 : LR (rL (rL (rI .i64) 1) 1) 1 b6 z7 e9) {r : Bool} (h : laws_eqInt64SSS a1 b6 = some r) (hs : WF s) : ACall Cf 45 [(sl z2 f3 e4), (sl z7 f8 e9)] s fun v _ s' => (rB) r v ∧ s' = s := by
 refine ACall.pure rfl rfl rfl .B ?_
 have hWF := hs.lo'
 unfold laws_eqInt64SSS at h
 refine sr ?_
 refine q (bool false) ?_
 refine nl ?_
 refine AW.seq ?_
 refine sr ?_
 refine q (sl z2 f3 e4) ?_
 refine AOps.p rfl (len_eq h5) ?_
 refine q (sl z7 f8 e9) ?_
 refine AOps.p rfl (len_eq h10) ?_
 refine q (bool ((a1.length : Int) != (b6.length : Int))) ?_
 refine nl ?_
 rcases oite h with ⟨hc11, h⟩ | ⟨hc11, h⟩
 ·refine AW.condT (congrArg bool hc11) ?_
  refine sr ?_
  refine q (bool false) ?_
  refine nl ?_
  cases h
  exact AW.ret ⟨rfl, _, _, rfl, rfl⟩
 refine AW.condF (congrArg bool hc11) ?_
 refine AW.skip ?_
 refine AW.seq ?_
 refine sr ?_
 refine q (int .i64 0) ?_
 refine nl ?_
 refine AW.meet (σ := Unit) (fun _ tm os => ⟨updL tm [], updL os [], { s with lo := s.n }⟩) (fun _ => laws_eqInt64SSS_J1 = some r) ?_ ?_
 ·rintro _ tm os h
  unfold laws_eqInt64SSS_J1 at h
  refine sr ?_
  refine q (bool true) ?_
  refine nl ?_
  cases h
  exact AW.ret ⟨rfl, _, _, rfl, rfl⟩
 intro KJ12
 refine AW.block ?_
 refine AW.res [(0, (sl z2 f3 e4)), (1, (sl z7 f8 e9)), (5, (int .i64 0))] [] ⟨rfl, rfl, rfl, trivial⟩ trivial ?_
 refine AW.loopF (σ := Int) (τ := Unit) (fun i13 _ => True) (fun i13 _ tm os => ⟨updL tm [(0, (sl z2 f3 e4)), (1, (sl z7 f8 e9)), (5, (int .i64 i13))], updL os [], { s with lo := s.n }⟩) ?_ (x := (0)) (y := ()) h trivial
 clear h
 rintro i13 _ tm os - ee1 h hL1 hR1
 unfold laws_eqInt64SSS_S1 at h
 refine AW.seq ?_
 refine sr ?_
 refine q (int .i64 i13) ?_
 refine q (sl z2 f3 e4) ?_
 refine AOps.p rfl (len_eq h5) ?_
 refine q (bool (decide ((i13 : Int) < (a1.length : Int)))) ?_
 refine nl ?_
 rcases oite h with ⟨hc14, h⟩ | ⟨hc14, h⟩
 ·refine AW.condT (congrArg bool hc14) ?_
  refine AW.skip ?_
  refine AW.seq ?_
  refine AW.block ?_
  refine sr ?_
  refine q (sl z2 f3 e4) ?_
  refine q (int .i64 i13) ?_
  obtain ⟨x15, h16, h⟩ := obind h
  obtain ⟨v19, h17, h18⟩ := idx_sl h5 h16
  obtain ⟨z20, f21, e22, rfl, h23⟩ := h17
  refine AOps.pureR rfl rfl rfl h18 rfl (rfl : _ = (eptr [(sl z20 f21 e22)] 0)) ?_
  refine lE (sl z20 f21 e22) ?_
  refine q (sl z7 f8 e9) ?_
  refine q (int .i64 i13) ?_
  obtain ⟨x24, h25, h⟩ := obind h
  obtain ⟨v28, h26, h27⟩ := idx_sl h10 h25
  obtain ⟨z29, f30, e31, rfl, h32⟩ := h26
  refine AOps.pureR rfl rfl rfl h27 rfl (rfl : _ = (eptr [(sl z29 f30 e31)] 0)) ?_
  refine lE (sl z29 f30 e31) ?_
  obtain ⟨y33, h34, h⟩ := obind h
  refine AOps.callDP (g := 46) (args := [(sl z20 f21 e22), (sl z29 f30 e31)]) (p := (rB) y33) rfl rfl rfl (laws_eqInt64SS_ok h23 h32 h34 hWF.still) (fun v hv => Nice.pure (k := FINK) (p := (rB) y33) .B _ v hv) ?_
  intro _ o36 h35
  cases h35
  refine q (bool (!y33)) ?_
  refine nl ?_
  rcases oite h with ⟨hc37, h⟩ | ⟨hc37, h⟩
  ·refine AW.condT (congrArg bool hc37) ?_
   refine sr ?_
   refine q (bool false) ?_
   refine nl ?_
   cases h
   have hr := hR1 _ rfl
   subst hr
   exact AW.ret ⟨rfl, _, _, rfl, rfl⟩
  refine AW.condF (congrArg bool hc37) ?_
  refine AW.skip ?_
  refine AW.inBlock ?_
  refine AW.region ?_
  refine q (int .i64 i13) ?_
  refine q (int .i64 (IntKind.wrap .i64 (i13 + 1))) ?_
  refine aq (int .i64 (IntKind.wrap .i64 (i13 + 1))) ?_
  refine nl ?_
  cases h
  exact AW.res [(0, (sl z2 f3 e4)), (1, (sl z7 f8 e9)), (5, (int .i64 (IntKind.wrap .i64 (i13 + 1))))] [] ⟨rfl, rfl, rfl, trivial⟩ trivial (hL1 _ rfl () _ _ trivial)
 refine AW.condF (congrArg bool hc14) ?_
 refine AW.exit rfl ?_
 obtain ⟨r38, hm, hx⟩ := omap h
 clear h
 subst hx
 have hx := hR1 _ rfl
 rw [hx] at hm
 have h := hm
 exact AW.res [] [] trivial trivial (KJ12 () _ _ h)
theorem laws_eqChecker_ok {a1 b18 : Checker} {z2 z6 z10 z14 z19 z23 z27 z31 : Nat} {f3 f7 f11 f15 f20 f24 f28 f32 : Bool} {e4 e8 e12 e16 e21 e25 e29 e33 : List AV} {s : St} (h5 : LR rB 1 a1.Accept z2 e4) (h9 : LR (rL rPush 2) 1 a1.Call z6 e8) (h13 : LR (rL (rL (rI .i64) 1) 1) 1 a1.Return z10 e12) (h17 : LR (rL (rI .i64) 1) 1 a1.Inner z14 e16) (h22 : LR rB 1 b18.Accept z19 e21) (h26 : LR (rL rPush 2) 1 b18.Call z23 e25) (h30 : LR (rL (rL (rI .i64) 1) 1) 1 b18.Return z27 e29) (h34 : LR (rL (rI .i64) 1) 1 b18.Inner z31 e33) {r : Bool} (h : laws_eqChecker a1 b18 = some r) (hs : WF s) : ACall Cf 22 [(agg [(int .i64 a1.Stack), (int .i64 a1.Start), (sl z2 f3 e4), (sl z6 f7 e8), (sl z10 f11 e12), (sl z14 f15 e16)]), (agg [(int .i64 b18.Stack), (int .i64 b18.Start), (sl z19 f20 e21), (sl z23 f24 e25), (sl z27 f28 e29), (sl z31 f32 e33)])] s fun v _ s' => (rB) r v ∧ s' = s := by
 refine ACall.pure rfl rfl rfl .B ?_
 have hWF := hs.lo'
 unfold laws_eqChecker at h
 refine sr ?_
 refine AOps.makeR rfl rfl rfl rfl rfl rfl (rfl : _ = (eptr [(int .i64 a1.Stack), (int .i64 a1.Start), (sl z2 f3 e4), (sl z6 f7 e8), (sl z10 f11 e12), (sl z14 f15 e16)] 0)) ?_
 refine AOps.makeR rfl rfl rfl rfl rfl rfl (rfl : _ = (eptr [(int .i64 b18.Stack), (int .i64 b18.Start), (sl z19 f20 e21), (sl z23 f24 e25), (sl z27 f28 e29), (sl z31 f32 e33)] 0)) ?_
 refine q (bool false) ?_
 refine nl ?_
 refine AW.seq ?_
 refine sr ?_
 refine q (eptr [(int .i64 a1.Stack), (int .i64 a1.Start), (sl z2 f3 e4), (sl z6 f7 e8), (sl z10 f11 e12), (sl z14 f15 e16)] 0) ?_
 refine lE (int .i64 a1.Stack) ?_
 refine q (eptr [(int .i64 b18.Stack), (int .i64 b18.Start), (sl z19 f20 e21), (sl z23 f24 e25), (sl z27 f28 e29), (sl z31 f32 e33)] 0) ?_
 refine lE (int .i64 b18.Stack) ?_
 refine q (bool (a1.Stack != b18.Stack)) ?_
 refine nl ?_
 rcases oite h with ⟨hc35, h⟩ | ⟨hc35, h⟩
 ·refine AW.condT (congrArg bool hc35) ?_
  refine sr ?_
  refine q (bool false) ?_
  refine nl ?_
  cases h
  exact AW.ret ⟨rfl, _, _, rfl, rfl⟩
 refine AW.condF (congrArg bool hc35) ?_
 refine AW.skip ?_
 refine AW.seq ?_
 refine sr ?_
 refine q (eptr [(int .i64 a1.Stack), (int .i64 a1.Start), (sl z2 f3 e4), (sl z6 f7 e8), (sl z10 f11 e12), (sl z14 f15 e16)] 1) ?_
 refine lE (int .i64 a1.Start) ?_
 refine q (eptr [(int .i64 b18.Stack), (int .i64 b18.Start), (sl z19 f20 e21), (sl z23 f24 e25), (sl z27 f28 e29), (sl z31 f32 e33)] 1) ?_
 refine lE (int .i64 b18.Start) ?_
 refine q (bool (a1.Start != b18.Start)) ?_
 refine nl ?_
 rcases oite h with ⟨hc36, h⟩ | ⟨hc36, h⟩
 ·refine AW.condT (congrArg bool hc36) ?_
  refine sr ?_
  refine q (bool false) ?_
  refine nl ?_
  cases h
  exact AW.ret ⟨rfl, _, _, rfl, rfl⟩
 refine AW.condF (congrArg bool hc36) ?_
 refine AW.skip ?_
 refine AW.seq ?_
 refine sr ?_
 refine q (eptr [(int .i64 a1.Stack), (int .i64 a1.Start), (sl z2 f3 e4), (sl z6 f7 e8), (sl z10 f11 e12), (sl z14 f15 e16)] 2) ?_
 refine lE (sl z2 f3 e4) ?_
 refine q (eptr [(int .i64 b18.Stack), (int .i64 b18.Start), (sl z19 f20 e21), (sl z23 f24 e25), (sl z27 f28 e29), (sl z31 f32 e33)] 2) ?_
 refine lE (sl z19 f20 e21) ?_
 obtain ⟨y37, h38, h⟩ := obind h
 refine AOps.callP (g := 43) (args := [(sl z2 f3 e4), (sl z19 f20 e21)]) (p := (rB) y37) rfl rfl rfl (laws_eqBoolS_ok h5 h22 h38 hWF) ?_
 intro _ o40 h39
 cases h39
 refine q (bool (!y37)) ?_
 refine nl ?_
 rcases oite h with ⟨hc41, h⟩ | ⟨hc41, h⟩
 ·refine AW.condT (congrArg bool hc41) ?_
  refine sr ?_
  refine q (bool false) ?_
  refine nl ?_
  cases h
  exact AW.ret ⟨rfl, _, _, rfl, rfl⟩
 refine AW.condF (congrArg bool hc41) ?_
 refine AW.skip ?_
 refine AW.seq ?_
 refine sr ?_
 refine q (eptr [(int .i64 a1.Stack), (int .i64 a1.Start), (sl z2 f3 e4), (sl z6 f7 e8), (sl z10 f11 e12), (sl z14 f15 e16)] 3) ?_
 refine lE (sl z6 f7 e8) ?_
 refine q (eptr [(int .i64 b18.Stack), (int .i64 b18.Start), (sl z19 f20 e21), (sl z23 f24 e25), (sl z27 f28 e29), (sl z31 f32 e33)] 3) ?_
 refine lE (sl z23 f24 e25) ?_
 obtain ⟨y42, h43, h⟩ := obind h
 refine AOps.callP (g := 44) (args := [(sl z6 f7 e8), (sl z23 f24 e25)]) (p := (rB) y42) rfl rfl rfl (laws_eqPushSS_ok h9 h26 h43 hWF) ?_
 intro _ o45 h44
 cases h44
 refine q (bool (!y42)) ?_
 refine nl ?_
 rcases oite h with ⟨hc46, h⟩ | ⟨hc46, h⟩
 ·refine AW.condT (congrArg bool hc46) ?_
  refine sr ?_
  refine q (bool false) ?_
  refine nl ?_
  cases h
  exact AW.ret ⟨rfl, _, _, rfl, rfl⟩
 refine AW.condF (congrArg bool hc46) ?_
 refine AW.skip ?_
 refine AW.seq ?_
 refine sr ?_
 refine q (eptr [(int .i64 a1.Stack), (int .i64 a1.Start), (sl z2 f3 e4), (sl z6 f7 e8), (sl z10 f11 e12), (sl z14 f15 e16)] 4) ?_
 refine lE (sl z10 f11 e12) ?_
 refine q (eptr [(int .i64 b18.Stack), (int .i64 b18.Start), (sl z19 f20 e21), (sl z23 f24 e25), (sl z27 f28 e29), (sl z31 f32 e33)] 4) ?_
 refine lE (sl z27 f28 e29) ?_
 obtain ⟨y47, h48, h⟩ := obind h
 refine AOps.callP (g := 45) (args := [(sl z10 f11 e12), (sl z27 f28 e29)]) (p := (rB) y47) rfl rfl rfl (laws_eqInt64SSS_ok h13 h30 h48 hWF) ?_
 intro _ o50 h49
 cases h49
 refine q (bool (!y47)) ?_
 refine nl ?_
 rcases oite h with ⟨hc51, h⟩ | ⟨hc51, h⟩
 ·refine AW.condT (congrArg bool hc51) ?_
  refine sr ?_
  refine q (bool false) ?_
  refine nl ?_
  cases h
  exact AW.ret ⟨rfl, _, _, rfl, rfl⟩
 refine AW.condF (congrArg bool hc51) ?_
 refine AW.skip ?_
 refine AW.seq ?_
 refine sr ?_
 refine q (eptr [(int .i64 a1.Stack), (int .i64 a1.Start), (sl z2 f3 e4), (sl z6 f7 e8), (sl z10 f11 e12), (sl z14 f15 e16)] 5) ?_
 refine lE (sl z14 f15 e16) ?_
 refine q (eptr [(int .i64 b18.Stack), (int .i64 b18.Start), (sl z19 f20 e21), (sl z23 f24 e25), (sl z27 f28 e29), (sl z31 f32 e33)] 5) ?_
 refine lE (sl z31 f32 e33) ?_
 obtain ⟨y52, h53, h⟩ := obind h
 refine AOps.callP (g := 46) (args := [(sl z14 f15 e16), (sl z31 f32 e33)]) (p := (rB) y52) rfl rfl rfl (laws_eqInt64SS_ok h17 h34 h53 hWF) ?_
 intro _ o55 h54
 cases h54
 refine q (bool (!y52)) ?_
 refine nl ?_
 rcases oite h with ⟨hc56, h⟩ | ⟨hc56, h⟩
 ·refine AW.condT (congrArg bool hc56) ?_
  refine sr ?_
  refine q (bool false) ?_
  refine nl ?_
  cases h
  exact AW.ret ⟨rfl, _, _, rfl, rfl⟩
 refine AW.condF (congrArg bool hc56) ?_
 refine AW.skip ?_
 refine sr ?_
 refine q (bool true) ?_
 refine nl ?_
 cases h
 exact AW.ret ⟨rfl, _, _, rfl, rfl⟩
theorem laws_eqStringS_ok {a1 b6 : List (List UInt8)} {z2 z7 : Nat} {f3 f8 : Bool} {e4 e9 : List AV} {s : St} (h5 : LR rS 1 a1 z2 e4) (h10 : LR rS 1 b6 z7 e9) {r : Bool} (h : laws_eqStringS a1 b6 = some r) (hs : WF s) : ACall Cf 23 [(sl z2 f3 e4), (sl z7 f8 e9)] s fun v _ s' => (rB) r v ∧ s' = s := by
 refine ACall.pure rfl rfl rfl .B ?_
 have hWF := hs.lo'
 unfold laws_eqStringS at h
 refine sr ?_
 refine q (bool false) ?_
 refine nl ?_
 refine AW.seq ?_
 refine sr ?_
 refine q (sl z2 f3 e4) ?_
 refine AOps.p rfl (len_eq h5) ?_
 refine q (sl z7 f8 e9) ?_
 refine AOps.p rfl (len_eq h10) ?_
 refine q (bool ((a1.length : Int) != (b6.length : Int))) ?_
 refine nl ?_
 rcases oite h with ⟨hc11, h⟩ | ⟨hc11, h⟩
 ·refine AW.condT (congrArg bool hc11) ?_
  refine sr ?_
  refine q (bool false) ?_
  refine nl ?_
  cases h
  exact AW.ret ⟨rfl, _, _, rfl, rfl⟩
 refine AW.condF (congrArg bool hc11) ?_
 refine AW.skip ?_
 refine AW.seq ?_
 refine sr ?_
 refine q (int .i64 0) ?_
 refine nl ?_
 refine AW.meet (σ := Unit) (fun _ tm os => ⟨updL tm [], updL os [], { s with lo := s.n }⟩) (fun _ => laws_eqStringS_J1 = some r) ?_ ?_
 ·rintro _ tm os h
  unfold laws_eqStringS_J1 at h
  refine sr ?_
  refine q (bool true) ?_
  refine nl ?_
  cases h
  exact AW.ret ⟨rfl, _, _, rfl, rfl⟩
 intro KJ12
 refine AW.block ?_
 refine AW.res [(0, (sl z2 f3 e4)), (1, (sl z7 f8 e9)), (5, (int .i64 0))] [] ⟨rfl, rfl, rfl, trivial⟩ trivial ?_
 refine AW.loopF (σ := Int) (τ := Unit) (fun i13 _ => True) (fun i13 _ tm os => ⟨updL tm [(0, (sl z2 f3 e4)), (1, (sl z7 f8 e9)), (5, (int .i64 i13))], updL os [], { s with lo := s.n }⟩) ?_ (x := (0)) (y := ()) h trivial
 clear h
 rintro i13 _ tm os - ee1 h hL1 hR1
 unfold laws_eqStringS_S1 at h
 refine AW.seq ?_
 refine sr ?_
 refine q (int .i64 i13) ?_
 refine q (sl z2 f3 e4) ?_
 refine AOps.p rfl (len_eq h5) ?_
 refine q (bool (decide ((i13 : Int) < (a1.length : Int)))) ?_
 refine nl ?_
 rcases oite h with ⟨hc14, h⟩ | ⟨hc14, h⟩
 ·refine AW.condT (congrArg bool hc14) ?_
  refine AW.skip ?_
  refine AW.seq ?_
  refine AW.block ?_
  refine sr ?_
  refine q (sl z2 f3 e4) ?_
  refine q (int .i64 i13) ?_
  obtain ⟨x15, h16, h⟩ := obind h
  obtain ⟨v19, h17, h18⟩ := idx_sl h5 h16
  cases h17
  refine AOps.pureR rfl rfl rfl h18 rfl (rfl : _ = (eptr [(str x15)] 0)) ?_
  refine lE (str x15) ?_
  refine q (sl z7 f8 e9) ?_
  refine q (int .i64 i13) ?_
  obtain ⟨x20, h21, h⟩ := obind h
  obtain ⟨v24, h22, h23⟩ := idx_sl h10 h21
  cases h22
  refine AOps.pureR rfl rfl rfl h23 rfl (rfl : _ = (eptr [(str x20)] 0)) ?_
  refine lE (str x20) ?_
  refine q (bool (!(x15 == x20))) ?_
  refine nl ?_
  rcases oite h with ⟨hc25, h⟩ | ⟨hc25, h⟩
  ·refine AW.condT (congrArg bool hc25) ?_
   refine sr ?_
   refine q (bool false) ?_
   refine nl ?_
   cases h
   have hr := hR1 _ rfl
   subst hr
   exact AW.ret ⟨rfl, _, _, rfl, rfl⟩
  refine AW.condF (congrArg bool hc25) ?_
  refine AW.skip ?_
  refine AW.inBlock ?_
  refine AW.region ?_
  refine q (int .i64 i13) ?_
  refine q (int .i64 (IntKind.wrap .i64 (i13 + 1))) ?_
  refine aq (int .i64 (IntKind.wrap .i64 (i13 + 1))) ?_
  refine nl ?_
  cases h
  exact AW.res [(0, (sl z2 f3 e4)), (1, (sl z7 f8 e9)), (5, (int .i64 (IntKind.wrap .i64 (i13 + 1))))] [] ⟨rfl, rfl, rfl, trivial⟩ trivial (hL1 _ rfl () _ _ trivial)
 refine AW.condF (congrArg bool hc14) ?_
 refine AW.exit rfl ?_
 obtain ⟨r26, hm, hx⟩ := omap h
 clear h
 subst hx
 have hx := hR1 _ rfl
 rw [hx] at hm
 have h := hm
 exact AW.res [] [] trivial trivial (KJ12 () _ _ h)
theorem laws_eqStream_ok {a1 b22 : Stream} {z2 z6 z10 z14 z18 z23 z27 z31 z35 z39 : Nat} {f3 f7 f11 f15 f19 f24 f28 f32 f36 f40 : Bool} {e4 e8 e12 e16 e20 e25 e29 e33 e37 e41 : List AV} {s : St} (h5 : LR rB 1 a1.Checker.Accept z2 e4) (h9 : LR (rL rPush 2) 1 a1.Checker.Call z6 e8) (h13 : LR (rL (rL (rI .i64) 1) 1) 1 a1.Checker.Return z10 e12) (h17 : LR (rL (rI .i64) 1) 1 a1.Checker.Inner z14 e16) (h21 : LR rS 1 a1.Pieces z18 e20) (h26 : LR rB 1 b22.Checker.Accept z23 e25) (h30 : LR (rL rPush 2) 1 b22.Checker.Call z27 e29) (h34 : LR (rL (rL (rI .i64) 1) 1) 1 b22.Checker.Return z31 e33) (h38 : LR (rL (rI .i64) 1) 1 b22.Checker.Inner z35 e37) (h42 : LR rS 1 b22.Pieces z39 e41) {r : Bool} (h : laws_eqStream a1 b22 = some r) (hs : WF s) : ACall Cf 10 [(agg [(int .i64 a1.Checker.Stack), (int .i64 a1.Checker.Start), (sl z2 f3 e4), (sl z6 f7 e8), (sl z10 f11 e12), (sl z14 f15 e16), (sl z18 f19 e20)]), (agg [(int .i64 b22.Checker.Stack), (int .i64 b22.Checker.Start), (sl z23 f24 e25), (sl z27 f28 e29), (sl z31 f32 e33), (sl z35 f36 e37), (sl z39 f40 e41)])] s fun v _ s' => (rB) r v ∧ s' = s := by
 refine ACall.pure rfl rfl rfl .B ?_
 have hWF := hs.lo'
 unfold laws_eqStream at h
 refine sr ?_
 refine AOps.makeR rfl rfl rfl rfl rfl rfl (rfl : _ = (eptr [(int .i64 a1.Checker.Stack), (int .i64 a1.Checker.Start), (sl z2 f3 e4), (sl z6 f7 e8), (sl z10 f11 e12), (sl z14 f15 e16), (sl z18 f19 e20)] 0)) ?_
 refine AOps.makeR rfl rfl rfl rfl rfl rfl (rfl : _ = (eptr [(int .i64 b22.Checker.Stack), (int .i64 b22.Checker.Start), (sl z23 f24 e25), (sl z27 f28 e29), (sl z31 f32 e33), (sl z35 f36 e37), (sl z39 f40 e41)] 0)) ?_
 refine q (bool false) ?_
 refine nl ?_
 refine AW.seq ?_
 refine sr ?_
 refine q (eptr [(int .i64 a1.Checker.Stack), (int .i64 a1.Checker.Start), (sl z2 f3 e4), (sl z6 f7 e8), (sl z10 f11 e12), (sl z14 f15 e16), (sl z18 f19 e20)] 0) ?_
 refine lE (agg [(int .i64 a1.Checker.Stack), (int .i64 a1.Checker.Start), (sl z2 f3 e4), (sl z6 f7 e8), (sl z10 f11 e12), (sl z14 f15 e16)]) ?_
 refine q (eptr [(int .i64 b22.Checker.Stack), (int .i64 b22.Checker.Start), (sl z23 f24 e25), (sl z27 f28 e29), (sl z31 f32 e33), (sl z35 f36 e37), (sl z39 f40 e41)] 0) ?_
 refine lE (agg [(int .i64 b22.Checker.Stack), (int .i64 b22.Checker.Start), (sl z23 f24 e25), (sl z27 f28 e29), (sl z31 f32 e33), (sl z35 f36 e37)]) ?_
 obtain ⟨y43, h44, h⟩ := obind h
 refine AOps.callP (g := 22) (args := [(agg [(int .i64 a1.Checker.Stack), (int .i64 a1.Checker.Start), (sl z2 f3 e4), (sl z6 f7 e8), (sl z10 f11 e12), (sl z14 f15 e16)]), (agg [(int .i64 b22.Checker.Stack), (int .i64 b22.Checker.Start), (sl z23 f24 e25), (sl z27 f28 e29), (sl z31 f32 e33), (sl z35 f36 e37)])]) (p := (rB) y43) rfl rfl rfl (laws_eqChecker_ok h5 h9 h13 h17 h26 h30 h34 h38 h44 hWF) ?_
 intro _ o46 h45
 cases h45
 refine q (bool (!y43)) ?_
 refine nl ?_
 rcases oite h with ⟨hc47, h⟩ | ⟨hc47, h⟩
 ·refine AW.condT (congrArg bool hc47) ?_
  refine sr ?_
  refine q (bool false) ?_
  refine nl ?_
  cases h
  exact AW.ret ⟨rfl, _, _, rfl, rfl⟩
 refine AW.condF (congrArg bool hc47) ?_
 refine AW.skip ?_
 refine AW.seq ?_
 refine sr ?_
 refine q (eptr [(int .i64 a1.Checker.Stack), (int .i64 a1.Checker.Start), (sl z2 f3 e4), (sl z6 f7 e8), (sl z10 f11 e12), (sl z14 f15 e16), (sl z18 f19 e20)] 6) ?_
 refine lE (sl z18 f19 e20) ?_
 refine q (eptr [(int .i64 b22.Checker.Stack), (int .i64 b22.Checker.Start), (sl z23 f24 e25), (sl z27 f28 e29), (sl z31 f32 e33), (sl z35 f36 e37), (sl z39 f40 e41)] 6) ?_
 refine lE (sl z39 f40 e41) ?_
 obtain ⟨y48, h49, h⟩ := obind h
 refine AOps.callP (g := 23) (args := [(sl z18 f19 e20), (sl z39 f40 e41)]) (p := (rB) y48) rfl rfl rfl (laws_eqStringS_ok h21 h42 h49 hWF) ?_
 intro _ o51 h50
 cases h50
 refine q (bool (!y48)) ?_
 refine nl ?_
 rcases oite h with ⟨hc52, h⟩ | ⟨hc52, h⟩
 ·refine AW.condT (congrArg bool hc52) ?_
  refine sr ?_
  refine q (bool false) ?_
  refine nl ?_
  cases h
  exact AW.ret ⟨rfl, _, _, rfl, rfl⟩
 refine AW.condF (congrArg bool hc52) ?_
 refine AW.skip ?_
 refine sr ?_
 refine q (bool true) ?_
 refine nl ?_
 cases h
 exact AW.ret ⟨rfl, _, _, rfl, rfl⟩
theorem laws_eqDeed_ok {a1 b2 : Deed} {s : St} {r : Bool} (h : laws_eqDeed a1 b2 = some r) (hs : WF s) : ACall Cf 24 [(agg [(int .i64 a1.Kind), (int .i64 a1.A), (int .i64 a1.B)]), (agg [(int .i64 b2.Kind), (int .i64 b2.A), (int .i64 b2.B)])] s fun v _ s' => (rB) r v ∧ s' = s := by
 refine ACall.pure rfl rfl rfl .B ?_
 have hWF := hs.lo'
 unfold laws_eqDeed at h
 refine sr ?_
 refine AOps.makeR rfl rfl rfl rfl rfl rfl (rfl : _ = (eptr [(int .i64 a1.Kind), (int .i64 a1.A), (int .i64 a1.B)] 0)) ?_
 refine AOps.makeR rfl rfl rfl rfl rfl rfl (rfl : _ = (eptr [(int .i64 b2.Kind), (int .i64 b2.A), (int .i64 b2.B)] 0)) ?_
 refine q (bool false) ?_
 refine nl ?_
 refine AW.seq ?_
 refine sr ?_
 refine q (eptr [(int .i64 a1.Kind), (int .i64 a1.A), (int .i64 a1.B)] 0) ?_
 refine lE (int .i64 a1.Kind) ?_
 refine q (eptr [(int .i64 b2.Kind), (int .i64 b2.A), (int .i64 b2.B)] 0) ?_
 refine lE (int .i64 b2.Kind) ?_
 refine q (bool (a1.Kind != b2.Kind)) ?_
 refine nl ?_
 rcases oite h with ⟨hc3, h⟩ | ⟨hc3, h⟩
 ·refine AW.condT (congrArg bool hc3) ?_
  refine sr ?_
  refine q (bool false) ?_
  refine nl ?_
  cases h
  exact AW.ret ⟨rfl, _, _, rfl, rfl⟩
 refine AW.condF (congrArg bool hc3) ?_
 refine AW.skip ?_
 refine AW.seq ?_
 refine sr ?_
 refine q (eptr [(int .i64 a1.Kind), (int .i64 a1.A), (int .i64 a1.B)] 1) ?_
 refine lE (int .i64 a1.A) ?_
 refine q (eptr [(int .i64 b2.Kind), (int .i64 b2.A), (int .i64 b2.B)] 1) ?_
 refine lE (int .i64 b2.A) ?_
 refine q (bool (a1.A != b2.A)) ?_
 refine nl ?_
 rcases oite h with ⟨hc4, h⟩ | ⟨hc4, h⟩
 ·refine AW.condT (congrArg bool hc4) ?_
  refine sr ?_
  refine q (bool false) ?_
  refine nl ?_
  cases h
  exact AW.ret ⟨rfl, _, _, rfl, rfl⟩
 refine AW.condF (congrArg bool hc4) ?_
 refine AW.skip ?_
 refine AW.seq ?_
 refine sr ?_
 refine q (eptr [(int .i64 a1.Kind), (int .i64 a1.A), (int .i64 a1.B)] 2) ?_
 refine lE (int .i64 a1.B) ?_
 refine q (eptr [(int .i64 b2.Kind), (int .i64 b2.A), (int .i64 b2.B)] 2) ?_
 refine lE (int .i64 b2.B) ?_
 refine q (bool (a1.B != b2.B)) ?_
 refine nl ?_
 rcases oite h with ⟨hc5, h⟩ | ⟨hc5, h⟩
 ·refine AW.condT (congrArg bool hc5) ?_
  refine sr ?_
  refine q (bool false) ?_
  refine nl ?_
  cases h
  exact AW.ret ⟨rfl, _, _, rfl, rfl⟩
 refine AW.condF (congrArg bool hc5) ?_
 refine AW.skip ?_
 refine sr ?_
 refine q (bool true) ?_
 refine nl ?_
 cases h
 exact AW.ret ⟨rfl, _, _, rfl, rfl⟩
theorem laws_eqDeedS_ok {a1 b6 : List Deed} {z2 z7 : Nat} {f3 f8 : Bool} {e4 e9 : List AV} {s : St} (h5 : LR rDeed 3 a1 z2 e4) (h10 : LR rDeed 3 b6 z7 e9) {r : Bool} (h : laws_eqDeedS a1 b6 = some r) (hs : WF s) : ACall Cf 11 [(sl z2 f3 e4), (sl z7 f8 e9)] s fun v _ s' => (rB) r v ∧ s' = s := by
 refine ACall.pure rfl rfl rfl .B ?_
 have hWF := hs.lo'
 unfold laws_eqDeedS at h
 refine sr ?_
 refine q (bool false) ?_
 refine nl ?_
 refine AW.seq ?_
 refine sr ?_
 refine q (sl z2 f3 e4) ?_
 refine AOps.p rfl (len_eq h5) ?_
 refine q (sl z7 f8 e9) ?_
 refine AOps.p rfl (len_eq h10) ?_
 refine q (bool ((a1.length : Int) != (b6.length : Int))) ?_
 refine nl ?_
 rcases oite h with ⟨hc11, h⟩ | ⟨hc11, h⟩
 ·refine AW.condT (congrArg bool hc11) ?_
  refine sr ?_
  refine q (bool false) ?_
  refine nl ?_
  cases h
  exact AW.ret ⟨rfl, _, _, rfl, rfl⟩
 refine AW.condF (congrArg bool hc11) ?_
 refine AW.skip ?_
 refine AW.seq ?_
 refine sr ?_
 refine q (int .i64 0) ?_
 refine nl ?_
 refine AW.meet (σ := Unit) (fun _ tm os => ⟨updL tm [], updL os [], { s with lo := s.n }⟩) (fun _ => laws_eqDeedS_J1 = some r) ?_ ?_
 ·rintro _ tm os h
  unfold laws_eqDeedS_J1 at h
  refine sr ?_
  refine q (bool true) ?_
  refine nl ?_
  cases h
  exact AW.ret ⟨rfl, _, _, rfl, rfl⟩
 intro KJ12
 refine AW.block ?_
 refine AW.res [(0, (sl z2 f3 e4)), (1, (sl z7 f8 e9)), (5, (int .i64 0))] [] ⟨rfl, rfl, rfl, trivial⟩ trivial ?_
 refine AW.loopF (σ := Int) (τ := Unit) (fun i13 _ => True) (fun i13 _ tm os => ⟨updL tm [(0, (sl z2 f3 e4)), (1, (sl z7 f8 e9)), (5, (int .i64 i13))], updL os [], { s with lo := s.n }⟩) ?_ (x := (0)) (y := ()) h trivial
 clear h
 rintro i13 _ tm os - ee1 h hL1 hR1
 unfold laws_eqDeedS_S1 at h
 refine AW.seq ?_
 refine sr ?_
 refine q (int .i64 i13) ?_
 refine q (sl z2 f3 e4) ?_
 refine AOps.p rfl (len_eq h5) ?_
 refine q (bool (decide ((i13 : Int) < (a1.length : Int)))) ?_
 refine nl ?_
 rcases oite h with ⟨hc14, h⟩ | ⟨hc14, h⟩
 ·refine AW.condT (congrArg bool hc14) ?_
  refine AW.skip ?_
  refine AW.seq ?_
  refine AW.block ?_
  refine sr ?_
  refine q (sl z2 f3 e4) ?_
  refine q (int .i64 i13) ?_
  obtain ⟨x15, h16, h⟩ := obind h
  obtain ⟨v19, h17, h18⟩ := idx_sl h5 h16
  obtain ⟨_, rfl, h20⟩ := h17
  obtain ⟨_, _, rfl, h21, h22⟩ := Cs_cons h20
  cases h21
  obtain ⟨_, _, rfl, h23, h24⟩ := Cs_cons h22
  cases h23
  obtain ⟨_, _, rfl, h25, h26⟩ := Cs_cons h24
  cases h25
  cases Cs_nil h26
  refine AOps.pureR rfl rfl rfl h18 rfl (rfl : _ = (eptr [(int .i64 x15.Kind), (int .i64 x15.A), (int .i64 x15.B)] 0)) ?_
  refine lE (agg [(int .i64 x15.Kind), (int .i64 x15.A), (int .i64 x15.B)]) ?_
  refine q (sl z7 f8 e9) ?_
  refine q (int .i64 i13) ?_
  obtain ⟨x27, h28, h⟩ := obind h
  obtain ⟨v31, h29, h30⟩ := idx_sl h10 h28
  obtain ⟨_, rfl, h32⟩ := h29
  obtain ⟨_, _, rfl, h33, h34⟩ := Cs_cons h32
  cases h33
  obtain ⟨_, _, rfl, h35, h36⟩ := Cs_cons h34
  cases h35
  obtain ⟨_, _, rfl, h37, h38⟩ := Cs_cons h36
  cases h37
  cases Cs_nil h38
  refine AOps.pureR rfl rfl rfl h30 rfl (rfl : _ = (eptr [(int .i64 x27.Kind), (int .i64 x27.A), (int .i64 x27.B)] 0)) ?_
  refine lE (agg [(int .i64 x27.Kind), (int .i64 x27.A), (int .i64 x27.B)]) ?_
  obtain ⟨y39, h40, h⟩ := obind h
  refine AOps.callDP (g := 24) (args := [(agg [(int .i64 x15.Kind), (int .i64 x15.A), (int .i64 x15.B)]), (agg [(int .i64 x27.Kind), (int .i64 x27.A), (int .i64 x27.B)])]) (p := (rB) y39) rfl rfl rfl (laws_eqDeed_ok  h40 hWF.still) (fun v hv => Nice.pure (k := FINK) (p := (rB) y39) .B _ v hv) ?_
  intro _ o42 h41
  cases h41
  refine q (bool (!y39)) ?_
  refine nl ?_
  rcases oite h with ⟨hc43, h⟩ | ⟨hc43, h⟩
  ·refine AW.condT (congrArg bool hc43) ?_
   refine sr ?_
   refine q (bool false) ?_
   refine nl ?_
   cases h
   have hr := hR1 _ rfl
   subst hr
   exact AW.ret ⟨rfl, _, _, rfl, rfl⟩
  refine AW.condF (congrArg bool hc43) ?_
  refine AW.skip ?_
  refine AW.inBlock ?_
  refine AW.region ?_
  refine q (int .i64 i13) ?_
  refine q (int .i64 (IntKind.wrap .i64 (i13 + 1))) ?_
  refine aq (int .i64 (IntKind.wrap .i64 (i13 + 1))) ?_
  refine nl ?_
  cases h
  exact AW.res [(0, (sl z2 f3 e4)), (1, (sl z7 f8 e9)), (5, (int .i64 (IntKind.wrap .i64 (i13 + 1))))] [] ⟨rfl, rfl, rfl, trivial⟩ trivial (hL1 _ rfl () _ _ trivial)
 refine AW.condF (congrArg bool hc14) ?_
 refine AW.exit rfl ?_
 obtain ⟨r44, hm, hx⟩ := omap h
 clear h
 subst hx
 have hx := hR1 _ rfl
 rw [hx] at hm
 have h := hm
 exact AW.res [] [] trivial trivial (KJ12 () _ _ h)
theorem laws_FnExactDepthAfter_ok {aV1 : Stream} {aDeeds22 : List Deed} {z2 z6 z10 z14 z18 z23 : Nat} {f3 f7 f11 f15 f19 f24 : Bool} {e4 e8 e12 e16 e20 e25 : List AV} {s : St} (h5 : LR rB 1 aV1.Checker.Accept z2 e4) (h9 : LR (rL rPush 2) 1 aV1.Checker.Call z6 e8) (h13 : LR (rL (rL (rI .i64) 1) 1) 1 aV1.Checker.Return z10 e12) (h17 : LR (rL (rI .i64) 1) 1 aV1.Checker.Inner z14 e16) (h21 : LR rS 1 aV1.Pieces z18 e20) (h26 : LR rDeed 3 aDeeds22 z23 e25) {r : Bool} (h : laws_FnExactDepthAfter aV1 aDeeds22 = some r) (hs : WF s) : ACall Cf 3 [(agg [(int .i64 aV1.Checker.Stack), (int .i64 aV1.Checker.Start), (sl z2 f3 e4), (sl z6 f7 e8), (sl z10 f11 e12), (sl z14 f15 e16), (sl z18 f19 e20)]), (sl z23 f24 e25)] s fun v _ s' => (rB) r v ∧ s' = s := by
 refine ACall.pure rfl rfl rfl .B ?_
 have hWF := hs.lo'
 unfold laws_FnExactDepthAfter at h
 refine sr ?_
 refine AOps.makeR rfl rfl rfl rfl rfl rfl (rfl : _ = (eptr [(int .i64 aV1.Checker.Stack), (int .i64 aV1.Checker.Start), (sl z2 f3 e4), (sl z6 f7 e8), (sl z10 f11 e12), (sl z14 f15 e16), (sl z18 f19 e20)] 0)) ?_
 refine q (bool false) ?_
 refine ns ?_
 refine q (int .i64 1048576) ?_
 refine ns ?_
 refine lE (agg [(int .i64 aV1.Checker.Stack), (int .i64 aV1.Checker.Start), (sl z2 f3 e4), (sl z6 f7 e8), (sl z10 f11 e12), (sl z14 f15 e16), (sl z18 f19 e20)]) ?_
 refine q (int .i64 1048576) ?_
 obtain ⟨y27, h28, h⟩ := obind h
 refine AOps.callP (g := 4) (args := [(agg [(int .i64 aV1.Checker.Stack), (int .i64 aV1.Checker.Start), (sl z2 f3 e4), (sl z6 f7 e8), (sl z10 f11 e12), (sl z14 f15 e16), (sl z18 f19 e20)]), (int .i64 1048576)]) (p := (rI .i64) y27) rfl rfl rfl (laws_szStream_ok h5 h9 h13 h17 h21 h28 hWF) ?_
 intro _ o30 h29
 cases h29
 refine aq (int .i64 y27) ?_
 refine nl ?_
 refine AW.seq ?_
 refine sr ?_
 refine q (int .i64 y27) ?_
 refine q (bool (decide ((y27 : Int) < 0))) ?_
 refine nl ?_
 rcases oite h with ⟨hc31, h⟩ | ⟨hc31, h⟩
 ·refine AW.condT (congrArg bool hc31) ?_
  refine sr ?_
  refine q (bool true) ?_
  refine nl ?_
  cases h
  exact AW.ret ⟨rfl, _, _, rfl, rfl⟩
 refine AW.condF (congrArg bool hc31) ?_
 refine AW.skip ?_
 refine sr ?_
 refine q (sl z23 f24 e25) ?_
 refine q (int .i64 y27) ?_
 obtain ⟨y32, h33, h⟩ := obind h
 refine AOps.callP (g := 5) (args := [(sl z23 f24 e25), (int .i64 y27)]) (p := (rI .i64) y32) rfl rfl rfl (laws_szDeedS_ok h26 h33 hWF) ?_
 intro _ o35 h34
 cases h34
 refine aq (int .i64 y32) ?_
 refine nl ?_
 refine AW.seq ?_
 refine sr ?_
 refine q (int .i64 y32) ?_
 refine q (bool (decide ((y32 : Int) < 0))) ?_
 refine nl ?_
 rcases oite h with ⟨hc36, h⟩ | ⟨hc36, h⟩
 ·refine AW.condT (congrArg bool hc36) ?_
  refine sr ?_
  refine q (bool true) ?_
  refine nl ?_
  cases h
  exact AW.ret ⟨rfl, _, _, rfl, rfl⟩
 refine AW.condF (congrArg bool hc36) ?_
 refine AW.skip ?_
 refine sr ?_
 refine lE (agg [(int .i64 aV1.Checker.Stack), (int .i64 aV1.Checker.Start), (sl z2 f3 e4), (sl z6 f7 e8), (sl z10 f11 e12), (sl z14 f15 e16), (sl z18 f19 e20)]) ?_
 obtain ⟨y37, h38, h⟩ := obind h
 refine AOps.callP (g := 7) (args := [(agg [(int .i64 aV1.Checker.Stack), (int .i64 aV1.Checker.Start), (sl z2 f3 e4), (sl z6 f7 e8), (sl z10 f11 e12), (sl z14 f15 e16), (sl z18 f19 e20)])]) (p := (rStream) y37) rfl rfl rfl (laws_toStream_ok h5 h9 h13 h17 h21 h38 hWF) ?_
 intro _ o75 h39
 obtain ⟨_, rfl, h40⟩ := h39
 obtain ⟨_, _, rfl, h41, h42⟩ := Cs_cons h40
 cases h41
 obtain ⟨_, _, rfl, h43, h44⟩ := Cs_cons h42
 cases h43
 obtain ⟨_, _, rfl, h45, h46⟩ := Cs_cons h44
 obtain ⟨z47, f48, e49, rfl, h50⟩ := h45
 obtain ⟨_, _, rfl, h51, h52⟩ := Cs_cons h46
 obtain ⟨z53, f54, e55, rfl, h56⟩ := h51
 obtain ⟨_, _, rfl, h57, h58⟩ := Cs_cons h52
 obtain ⟨z59, f60, e61, rfl, h62⟩ := h57
 obtain ⟨_, _, rfl, h63, h64⟩ := Cs_cons h58
 obtain ⟨z65, f66, e67, rfl, h68⟩ := h63
 obtain ⟨_, _, rfl, h69, h70⟩ := Cs_cons h64
 obtain ⟨z71, f72, e73, rfl, h74⟩ := h69
 cases Cs_nil h70
 refine q (sl z23 f24 e25) ?_
 obtain ⟨y76, h77, h⟩ := obind h
 refine AOps.callP (g := 8) (args := [(sl z23 f24 e25)]) (p := (rL rDeed 3) y76) rfl rfl rfl (laws_toDeedS_ok h26 h77 hWF) ?_
 intro _ o83 h78
 obtain ⟨z79, f80, e81, rfl, h82⟩ := h78
 obtain ⟨y84, h85, h⟩ := obind h
 refine AOps.callP (g := 6) (args := [(agg [(int .i64 y37.Checker.Stack), (int .i64 y37.Checker.Start), (sl z47 f48 e49), (sl z53 f54 e55), (sl z59 f60 e61), (sl z65 f66 e67), (sl z71 f72 e73)]), (sl z79 f80 e81)]) (p := (fun x => rT [(rI .i64) x.1, (rI .i64) x.2]) y84) rfl rfl rfl (spec_DepthAfter_ok h50 h56 h62 h68 h74 h82 h85 hWF) ?_
 intro _ o92 h86
 obtain ⟨_, rfl, h87⟩ := h86
 obtain ⟨_, _, rfl, h88, h89⟩ := Cs_cons h87
 cases h88
 obtain ⟨_, _, rfl, h90, h91⟩ := Cs_cons h89
 cases h90
 cases Cs_nil h91
 refine q (AV.tup [(int .i64 y84.1), (int .i64 y84.2)]) ?_
 refine q (int .i64 y84.1) ?_
 refine q (int .i64 y84.2) ?_
 refine aq (int .i64 y84.1) ?_
 refine aq (int .i64 y84.2) ?_
 refine ns ?_
 refine lE (agg [(int .i64 aV1.Checker.Stack), (int .i64 aV1.Checker.Start), (sl z2 f3 e4), (sl z6 f7 e8), (sl z10 f11 e12), (sl z14 f15 e16), (sl z18 f19 e20)]) ?_
 obtain ⟨y93, h94, h⟩ := obind h
 refine AOps.callP (g := 7) (args := [(agg [(int .i64 aV1.Checker.Stack), (int .i64 aV1.Checker.Start), (sl z2 f3 e4), (sl z6 f7 e8), (sl z10 f11 e12), (sl z14 f15 e16), (sl z18 f19 e20)])]) (p := (rStream) y93) rfl rfl rfl (laws_toStream_ok h5 h9 h13 h17 h21 h94 hWF) ?_
 intro _ o131 h95
 obtain ⟨_, rfl, h96⟩ := h95
 obtain ⟨_, _, rfl, h97, h98⟩ := Cs_cons h96
 cases h97
 obtain ⟨_, _, rfl, h99, h100⟩ := Cs_cons h98
 cases h99
 obtain ⟨_, _, rfl, h101, h102⟩ := Cs_cons h100
 obtain ⟨z103, f104, e105, rfl, h106⟩ := h101
 obtain ⟨_, _, rfl, h107, h108⟩ := Cs_cons h102
 obtain ⟨z109, f110, e111, rfl, h112⟩ := h107
 obtain ⟨_, _, rfl, h113, h114⟩ := Cs_cons h108
 obtain ⟨z115, f116, e117, rfl, h118⟩ := h113
 obtain ⟨_, _, rfl, h119, h120⟩ := Cs_cons h114
 obtain ⟨z121, f122, e123, rfl, h124⟩ := h119
 obtain ⟨_, _, rfl, h125, h126⟩ := Cs_cons h120
 obtain ⟨z127, f128, e129, rfl, h130⟩ := h125
 cases Cs_nil h126
 refine AOps.allocP rfl rfl rfl rfl ⟨rfl, rfl⟩ rfl ?_
 refine AOps.stP (v := (agg [(int .i64 y93.Checker.Stack), (int .i64 y93.Checker.Start), (sl z103 f104 e105), (sl z109 f110 e111), (sl z115 f116 e117), (sl z121 f122 e123), (sl z127 f128 e129)])) rfl rfl rfl rfl rfl rfl rfl rfl rfl (lt_b rfl) rfl ?_
 refine ns ?_
 refine q (sl z23 f24 e25) ?_
 obtain ⟨y132, h133, h⟩ := obind h
 refine AOps.callP (g := 8) (args := [(sl z23 f24 e25)]) (p := (rL rDeed 3) y132) rfl rfl rfl (laws_toDeedS_ok h26 h133 hWF) ?_
 intro _ o139 h134
 obtain ⟨z135, f136, e137, rfl, h138⟩ := h134
 refine aq (sl z135 f136 e137) ?_
 refine ns ?_
 refine lE (agg [(int .i64 y93.Checker.Stack), (int .i64 y93.Checker.Start), (sl z103 f104 e105), (sl z109 f110 e111), (sl z115 f116 e117), (sl z121 f122 e123), (sl z127 f128 e129)]) ?_
 refine q (sl z135 f136 e137) ?_
 obtain ⟨y140, h141, h⟩ := obind h
 refine AOps.callP (g := 9) (args := [(agg [(int .i64 y93.Checker.Stack), (int .i64 y93.Checker.Start), (sl z103 f104 e105), (sl z109 f110 e111), (sl z115 f116 e117), (sl z121 f122 e123), (sl z127 f128 e129)]), (sl z135 f136 e137)]) (p := (fun x => rT [(rI .i64) x.1, (rI .i64) x.2]) y140) rfl rfl rfl (impl_DepthAfter_ok h106 h112 h118 h124 h130 h138 h141 hWF) ?_
 intro _ o148 h142
 obtain ⟨_, rfl, h143⟩ := h142
 obtain ⟨_, _, rfl, h144, h145⟩ := Cs_cons h143
 cases h144
 obtain ⟨_, _, rfl, h146, h147⟩ := Cs_cons h145
 cases h146
 cases Cs_nil h147
 refine q (AV.tup [(int .i64 y140.1), (int .i64 y140.2)]) ?_
 refine q (int .i64 y140.1) ?_
 refine q (int .i64 y140.2) ?_
 refine aq (int .i64 y140.1) ?_
 refine aq (int .i64 y140.2) ?_
 refine nl ?_
 refine AW.seq ?_
 refine sr ?_
 refine q (int .i64 y140.1) ?_
 refine q (int .i64 y84.1) ?_
 refine q (bool (y140.1 != y84.1)) ?_
 refine q (bool (y140.1 != y84.1)) ?_
 refine AOps.split 4 (fun f' => ∃ tm' os', f' = ⟨updL tm' [(1, (sl z23 f24 e25)), (2, (eptr [(int .i64 aV1.Checker.Stack), (int .i64 aV1.Checker.Start), (sl z2 f3 e4), (sl z6 f7 e8), (sl z10 f11 e12), (sl z14 f15 e16), (sl z18 f19 e20)] 0)), (8, (eptr [(int .i64 y93.Checker.Stack), (int .i64 y93.Checker.Start), (sl z103 f104 e105), (sl z109 f110 e111), (sl z115 f116 e117), (sl z121 f122 e123), (sl z127 f128 e129)] 0)), (9, (sl z135 f136 e137)), (47, (bool ((y140.1 != y84.1) || (y140.2 != y84.2))))], updL os' [], { s with lo := s.n }⟩) ?_ ?_
 ·rcases Bool.eq_false_or_eq_true (y140.1 != y84.1) with hc149 | hc149
  ·refine AOps.know (d := 43) rfl hc149 ?_
   refine sk ?_
   refine sk ?_
   refine sk ?_
   refine q (bool true) ?_
   refine AOps.resR [(1, (sl z23 f24 e25)), (2, (eptr [(int .i64 aV1.Checker.Stack), (int .i64 aV1.Checker.Start), (sl z2 f3 e4), (sl z6 f7 e8), (sl z10 f11 e12), (sl z14 f15 e16), (sl z18 f19 e20)] 0)), (8, (eptr [(int .i64 y93.Checker.Stack), (int .i64 y93.Checker.Start), (sl z103 f104 e105), (sl z109 f110 e111), (sl z115 f116 e117), (sl z121 f122 e123), (sl z127 f128 e129)] 0)), (9, (sl z135 f136 e137)), (47, (bool ((y140.1 != y84.1) || (y140.2 != y84.2))))] [] ?_ ?_ _ ⟨_, _, rfl⟩
   ·exact ⟨rfl, rfl, rfl, rfl, congrArg bool (or_t hc149), trivial⟩
   exact trivial
  ·refine AOps.know (d := 43) rfl hc149 ?_
   refine q (int .i64 y140.2) ?_
   refine q (int .i64 y84.2) ?_
   refine q (bool (y140.2 != y84.2)) ?_
   refine q (bool (y140.2 != y84.2)) ?_
   refine AOps.resR [(1, (sl z23 f24 e25)), (2, (eptr [(int .i64 aV1.Checker.Stack), (int .i64 aV1.Checker.Start), (sl z2 f3 e4), (sl z6 f7 e8), (sl z10 f11 e12), (sl z14 f15 e16), (sl z18 f19 e20)] 0)), (8, (eptr [(int .i64 y93.Checker.Stack), (int .i64 y93.Checker.Start), (sl z103 f104 e105), (sl z109 f110 e111), (sl z115 f116 e117), (sl z121 f122 e123), (sl z127 f128 e129)] 0)), (9, (sl z135 f136 e137)), (47, (bool ((y140.1 != y84.1) || (y140.2 != y84.2))))] [] ?_ ?_ _ ⟨_, _, rfl⟩
   ·exact ⟨rfl, rfl, rfl, rfl, congrArg bool (or_f hc149), trivial⟩
   exact trivial
 rintro _ ⟨tm, os, rfl⟩
 refine nl ?_
 rcases oite h with ⟨hc150, h⟩ | ⟨hc150, h⟩
 ·refine AW.condT (congrArg bool hc150) ?_
  refine sr ?_
  refine q (bool false) ?_
  refine nl ?_
  cases h
  exact AW.ret ⟨rfl, _, _, rfl, rfl⟩
 refine AW.condF (congrArg bool hc150) ?_
 refine AW.skip ?_
 refine AW.seq ?_
 refine sr ?_
 refine lE (agg [(int .i64 y93.Checker.Stack), (int .i64 y93.Checker.Start), (sl z103 f104 e105), (sl z109 f110 e111), (sl z115 f116 e117), (sl z121 f122 e123), (sl z127 f128 e129)]) ?_
 refine lE (agg [(int .i64 aV1.Checker.Stack), (int .i64 aV1.Checker.Start), (sl z2 f3 e4), (sl z6 f7 e8), (sl z10 f11 e12), (sl z14 f15 e16), (sl z18 f19 e20)]) ?_
 obtain ⟨y151, h152, h⟩ := obind h
 refine AOps.callDP (g := 7) (args := [(agg [(int .i64 aV1.Checker.Stack), (int .i64 aV1.Checker.Start), (sl z2 f3 e4), (sl z6 f7 e8), (sl z10 f11 e12), (sl z14 f15 e16), (sl z18 f19 e20)])]) (p := (rStream) y151) rfl rfl rfl (laws_toStream_ok h5 h9 h13 h17 h21 h152 hWF.still) (fun v hv => Nice.pure (k := FINK) (p := (rStream) y151) (.A (.cons .I (.cons .I (.cons (.L fun _ => .B) (.cons (.L fun _ => (.L fun _ => (.A (.cons .I (.cons .I .nil))))) (.cons (.L fun _ => (.L fun _ => (.L fun _ => .I))) (.cons (.L fun _ => (.L fun _ => .I)) (.cons (.L fun _ => .S) .nil)))))))) _ v hv) ?_
 intro _ o189 h153
 obtain ⟨_, rfl, h154⟩ := h153
 obtain ⟨_, _, rfl, h155, h156⟩ := Cs_cons h154
 cases h155
 obtain ⟨_, _, rfl, h157, h158⟩ := Cs_cons h156
 cases h157
 obtain ⟨_, _, rfl, h159, h160⟩ := Cs_cons h158
 obtain ⟨z161, f162, e163, rfl, h164⟩ := h159
 obtain ⟨_, _, rfl, h165, h166⟩ := Cs_cons h160
 obtain ⟨z167, f168, e169, rfl, h170⟩ := h165
 obtain ⟨_, _, rfl, h171, h172⟩ := Cs_cons h166
 obtain ⟨z173, f174, e175, rfl, h176⟩ := h171
 obtain ⟨_, _, rfl, h177, h178⟩ := Cs_cons h172
 obtain ⟨z179, f180, e181, rfl, h182⟩ := h177
 obtain ⟨_, _, rfl, h183, h184⟩ := Cs_cons h178
 obtain ⟨z185, f186, e187, rfl, h188⟩ := h183
 cases Cs_nil h184
 obtain ⟨y190, h191, h⟩ := obind h
 refine AOps.callDP (g := 10) (args := [(agg [(int .i64 y93.Checker.Stack), (int .i64 y93.Checker.Start), (sl z103 f104 e105), (sl z109 f110 e111), (sl z115 f116 e117), (sl z121 f122 e123), (sl z127 f128 e129)]), (agg [(int .i64 y151.Checker.Stack), (int .i64 y151.Checker.Start), (sl z161 f162 e163), (sl z167 f168 e169), (sl z173 f174 e175), (sl z179 f180 e181), (sl z185 f186 e187)])]) (p := (rB) y190) rfl rfl rfl (laws_eqStream_ok h106 h112 h118 h124 h130 h164 h170 h176 h182 h188 h191 hWF.still) (fun v hv => Nice.pure (k := FINK) (p := (rB) y190) .B _ v hv) ?_
 intro _ o193 h192
 cases h192
 refine q (bool (!y190)) ?_
 refine nl ?_
 rcases oite h with ⟨hc194, h⟩ | ⟨hc194, h⟩
 ·refine AW.condT (congrArg bool hc194) ?_
  refine sr ?_
  refine q (bool false) ?_
  refine nl ?_
  cases h
  exact AW.ret ⟨rfl, _, _, rfl, rfl⟩
 refine AW.condF (congrArg bool hc194) ?_
 refine AW.skip ?_
 refine AW.seq ?_
 refine sr ?_
 refine q (sl z135 f136 e137) ?_
 refine q (sl z23 f24 e25) ?_
 obtain ⟨y195, h196, h⟩ := obind h
 refine AOps.callP (g := 8) (args := [(sl z23 f24 e25)]) (p := (rL rDeed 3) y195) rfl rfl rfl (laws_toDeedS_ok h26 h196 hWF) ?_
 intro _ o202 h197
 obtain ⟨z198, f199, e200, rfl, h201⟩ := h197
 obtain ⟨y203, h204, h⟩ := obind h
 refine AOps.callP (g := 11) (args := [(sl z135 f136 e137), (sl z198 f199 e200)]) (p := (rB) y203) rfl rfl rfl (laws_eqDeedS_ok h138 h201 h204 hWF) ?_
 intro _ o206 h205
 cases h205
 refine q (bool (!y203)) ?_
 refine nl ?_
 rcases oite h with ⟨hc207, h⟩ | ⟨hc207, h⟩
 ·refine AW.condT (congrArg bool hc207) ?_
  refine sr ?_
  refine q (bool false) ?_
  refine nl ?_
  cases h
  exact AW.ret ⟨rfl, _, _, rfl, rfl⟩
 refine AW.condF (congrArg bool hc207) ?_
 refine AW.skip ?_
 refine sr ?_
 refine q (bool true) ?_
 refine nl ?_
 cases h
 exact AW.ret ⟨rfl, _, _, rfl, rfl⟩
end Go.Proofs.YtkncjenknfklhaaGreat.law
