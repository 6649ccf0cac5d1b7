import Derived.Test.YtlcnlckmnjbkhaaGreatAeD
import Derived.Test.YtlcnlckmnjbkhaaGreatAe4
import Derived.Test.YtlcnlckmnjbkhaaGreatAeK3
set_option linter.unusedVariables false
set_option linter.unusedSimpArgs false
namespace Go.Proofs.YtlcnlckmnjbkhaaGreat.law
open Go Go.Proofs Ae
open Ae.AV (int sl eptr agg ptr bool str)
set_option maxRecDepth 100000
set_option linter.unusedVariables false
theorem laws_markPushSS_K10_ok {a4:List (List Push)} {k5:Int} {h1:AV} {k2:KT} {s:St} (ho3:h1.one=true) {ex:List Nat} {Ls0:List (List BX)} (hH0:HS ex true s s (([]:List BX)++Ls0.flatten)) (hG0:AllG [OS oE120 h1 k2 a4] Ls0) (hl:LoOK ex true s) {r:Int × (List (List Push))} (h:laws_markPushSS_K10 a4 k5=some r) (hs:WF s):ACall Cf 59 [h1,(J k5)] s (fun v _ s'=>∃ (Ls':List (List BX)),v=(J r.1)∧HS ex true s s' (([]:List BX)++Ls'.flatten)∧AllG [OS oE120 h1 k2 r.2] Ls') true:=by
 refine ACall.keepR rfl rfl rfl ?_
 unfold laws_markPushSS_K10 at h
 refine sr ?_
 refine q (J 0) ?_
 refine nl ?_
 refine AW.seq ?_
 refine sr ?_
 refine q (J 0) ?_
 refine nl ?_
 refine AW.meet (σ:=(List (List Push)) × Int × St × (List (List BX))) (fun (m6,k7,s8,Ls9) tm os=>⟨updL tm [(1,(J k7))],updL os [],s8⟩) (fun (m6,k7,s8,Ls9)=>(HS ex true s s8 (([]:List BX)++Ls9.flatten))∧(AllG [OS oE120 h1 k2 m6] Ls9)∧laws_markPushSS_K10_J1 m6 k7=some r) ?_ ?_
 ·rintro ⟨m6,k7,s8,Ls9⟩ tm os ⟨hH10,hG11,h⟩
  unfold laws_markPushSS_K10_J1 at h
  refine sr ?_
  refine q (J k7) ?_
  refine aq (J k7) ?_
  refine nl ?_
  cases h
  exact AW.ret ⟨_,_,rfl,⟨Ls9,rfl,hH10,hG11⟩⟩
 intro KJ12
 refine AW.block ?_
 refine AW.res [(0,h1),(1,(J k5)),(5,(J 0))] [] ⟨rfl,rfl,rfl,trivial⟩ trivial ?_
 refine AW.loopF (σ:=(List (List Push)) × Int × Int) (τ:=St × (List (List BX))) (fun (m13,k14,i15) (s16,Ls17)=>(HS ex true s s16 (([]:List BX)++Ls17.flatten))∧(AllG [OS oE120 h1 k2 m13] Ls17)) (fun (m13,k14,i15) (s16,Ls17) tm os=>⟨updL tm [(0,h1),(1,(J k14)),(5,(J i15))],updL os [],s16⟩) ?_ (x:=(a4,k5,0)) (y:=(s,Ls0)) h ⟨hH0,hG0⟩
 clear h
 rintro ⟨m13,k14,i15⟩ ⟨s16,Ls17⟩ tm os ⟨hH18,hG19⟩ ee1 h hL1 hR1
 unfold laws_markPushSS_K10_S1 at h
 dsimp only at h
 refine AW.seq ?_
 refine sr ?_
 refine q (J i15) ?_
 refine q h1 ?_
 refine AOps.lenO (j:=0) hG19 rfl Sub.here rfl rfl rfl rfl rfl ?_
 refine q (bool (decide ((i15:Int)<(m13.length:Int)))) ?_
 refine nl ?_
 rcases oite h with ⟨hc20,h⟩ | ⟨hc20,h⟩
 ·refine AW.condT (congrArg bool hc20) ?_
  refine AW.skip ?_
  refine AW.seq ?_
  refine AW.block ?_
  refine AW.region ?_
  refine q h1 ?_
  refine q (J i15) ?_
  obtain ⟨x23,h24,h⟩:=obind h
  refine AOps.idxO (j:=0) hG19 rfl Sub.here h24 rfl rfl rfl rfl rfl rfl rfl rfl rfl ?_
  intro b21 hb22
  refine AOps.ldO (j:=0) (q:=0) hH18 hG19 rfl Sub.here h24 hb22 rfl rfl rfl rfl rfl (lt_b rfl) (le_b rfl) rfl rfl ?_ (fun c B hc=>by obtain ⟨rfl,_⟩:=hc; exact ⟨_,rfl⟩)
  intro c25 B26 v27 h28 h29
  obtain ⟨rfl,_⟩:=h28
  cases h29
  refine q (J k14) ?_
  obtain ⟨y30,h31,h⟩:=obind h
  have hP32:=HS.pop0 hH18
  have hF0:AllG ([]:List (List BX→Prop)) []:=AllG.nil
  obtain ⟨Ls33,Lf34,hG35,hF36,hP37⟩:=HS.popS hP32 hG19 hF0 (j:=0) rfl (Sub.down Sub.here h24)
  refine AOps.callF (al:=true) (g:=88) (args:=[((KT.at k2 (Int.toNat i15)) []),(J k14)]) rfl rfl rfl (laws_markPushS_K10_ok (Sub.one hG19 (j:=0) rfl (Sub.down Sub.here h24)) (HS.enterK hP37) hF36 (HS.enterLo hP37 hl) h31 (HS.wf' hH18)) ?_
  rintro _ _ s38 ⟨Ls40,rfl,hH41,hG42⟩
  have hJ43:=HS.joinK hP37 hH41
  obtain ⟨Ls44,Lf45,hG46,hF47,hP48⟩:=HS.pushS hJ43 hG35 hG42 (j:=0) rfl
  cases hF47
  have hH49:=HS.push0 hP48
  refine aq (J y30.1) ?_
  refine nl ?_
  refine AW.inBlock ?_
  refine AW.region ?_
  refine q (J i15) ?_
  refine q (J (IntKind.wrap .i64 (i15+1))) ?_
  refine aq (J (IntKind.wrap .i64 (i15+1))) ?_
  refine nl ?_
  cases h
  exact AW.res [(0,h1),(1,(J y30.1)),(5,(J (IntKind.wrap .i64 (i15+1))))] [] ⟨rfl,rfl,rfl,trivial⟩ trivial (hL1 _ rfl (s38,Ls44) _ _ ⟨hH49,hG46⟩)
 refine AW.condF (congrArg bool hc20) ?_
 refine AW.exit rfl ?_
 obtain ⟨r50,hm,hx⟩:=omap h
 clear h
 subst hx
 have hx:=hR1 _ rfl
 rw[hx] at hm
 have h:=hm
 exact AW.res [(1,(J k14))] [] ⟨rfl,trivial⟩ trivial (KJ12 (m13,k14,s16,Ls17) _ _ ⟨hH18,hG19,h⟩)
theorem laws_markInt64S_K10_ok {a4:List Int} {k5:Int} {h1:AV} {k2:KT} {s:St} (ho3:h1.one=true) {ex:List Nat} {Ls0:List (List BX)} (hH0:HS ex true s s (([]:List BX)++Ls0.flatten)) (hG0:AllG [OS oE2 h1 k2 a4] Ls0) (hl:LoOK ex true s) {r:Int × (List Int)} (h:laws_markInt64S_K10 a4 k5=some r) (hs:WF s):ACall Cf 15 [h1,(J k5)] s (fun v _ s'=>∃ (Ls':List (List BX)),v=(J r.1)∧HS ex true s s' (([]:List BX)++Ls'.flatten)∧AllG [OS oE2 h1 k2 r.2] Ls') true:=by
 refine ACall.keepR rfl rfl rfl ?_
 unfold laws_markInt64S_K10 at h
 refine sr ?_
 refine q (J 0) ?_
 refine nl ?_
 refine AW.seq ?_
 refine sr ?_
 refine q (J 0) ?_
 refine nl ?_
 refine AW.meet (σ:=(List Int) × Int × St × (List (List BX))) (fun (m6,k7,s8,Ls9) tm os=>⟨updL tm [(1,(J k7))],updL os [],s8⟩) (fun (m6,k7,s8,Ls9)=>(HS ex true s s8 (([]:List BX)++Ls9.flatten))∧(AllG [OS oE2 h1 k2 m6] Ls9)∧laws_markInt64S_K10_J1 m6 k7=some r) ?_ ?_
 ·rintro ⟨m6,k7,s8,Ls9⟩ tm os ⟨hH10,hG11,h⟩
  unfold laws_markInt64S_K10_J1 at h
  refine sr ?_
  refine q (J k7) ?_
  refine aq (J k7) ?_
  refine nl ?_
  cases h
  exact AW.ret ⟨_,_,rfl,⟨Ls9,rfl,hH10,hG11⟩⟩
 intro KJ12
 refine AW.block ?_
 refine AW.res [(0,h1),(1,(J k5)),(5,(J 0))] [] ⟨rfl,rfl,rfl,trivial⟩ trivial ?_
 refine AW.loopF (σ:=(List Int) × Int × Int) (τ:=St × (List (List BX))) (fun (m13,k14,i15) (s16,Ls17)=>(HS ex true s s16 (([]:List BX)++Ls17.flatten))∧(AllG [OS oE2 h1 k2 m13] Ls17)) (fun (m13,k14,i15) (s16,Ls17) tm os=>⟨updL tm [(0,h1),(1,(J k14)),(5,(J i15))],updL os [],s16⟩) ?_ (x:=(a4,k5,0)) (y:=(s,Ls0)) h ⟨hH0,hG0⟩
 clear h
 rintro ⟨m13,k14,i15⟩ ⟨s16,Ls17⟩ tm os ⟨hH18,hG19⟩ ee1 h hL1 hR1
 unfold laws_markInt64S_K10_S1 at h
 dsimp only at h
 refine AW.seq ?_
 refine sr ?_
 refine q (J i15) ?_
 refine q h1 ?_
 refine AOps.lenO (j:=0) hG19 rfl Sub.here rfl rfl rfl rfl rfl ?_
 refine q (bool (decide ((i15:Int)<(m13.length:Int)))) ?_
 refine nl ?_
 rcases oite h with ⟨hc20,h⟩ | ⟨hc20,h⟩
 ·refine AW.condT (congrArg bool hc20) ?_
  refine AW.skip ?_
  refine AW.seq ?_
  refine AW.block ?_
  refine sr ?_
  refine q h1 ?_
  refine q (J i15) ?_
  refine q (J k14) ?_
  obtain ⟨x23,h24,h⟩:=obind h
  refine AOps.idxO (j:=0) hG19 rfl Sub.here h24 rfl rfl rfl rfl rfl rfl rfl rfl rfl ?_
  intro b21 hb22
  refine AOps.stO (j:=0) (q:=0) (v:=(J k14)) (y':=k14) hH18 hG19 hl rfl Sub.here h24 hb22 rfl rfl rfl rfl rfl rfl rfl rfl (lt_b rfl) (le_b rfl) rfl (fun c B hc=>oLeaf_set hc rfl) ?_
  intro Ls25 s26 hG27 hH28
  refine nl ?_
  refine AW.region ?_
  refine q (J k14) ?_
  refine q (J (IntKind.wrap .i64 (k14+1))) ?_
  refine aq (J (IntKind.wrap .i64 (k14+1))) ?_
  refine nl ?_
  refine AW.inBlock ?_
  refine AW.region ?_
  refine q (J i15) ?_
  refine q (J (IntKind.wrap .i64 (i15+1))) ?_
  refine aq (J (IntKind.wrap .i64 (i15+1))) ?_
  refine nl ?_
  cases h
  exact AW.res [(0,h1),(1,(J (IntKind.wrap .i64 (k14+1)))),(5,(J (IntKind.wrap .i64 (i15+1))))] [] ⟨rfl,rfl,rfl,trivial⟩ trivial (hL1 _ rfl (s26,Ls25) _ _ ⟨hH28,hG27⟩)
 refine AW.condF (congrArg bool hc20) ?_
 refine AW.exit rfl ?_
 obtain ⟨r29,hm,hx⟩:=omap h
 clear h
 subst hx
 have hx:=hR1 _ rfl
 rw[hx] at hm
 have h:=hm
 exact AW.res [(1,(J k14))] [] ⟨rfl,trivial⟩ trivial (KJ12 (m13,k14,s16,Ls17) _ _ ⟨hH18,hG19,h⟩)
theorem laws_markInt64SS_K10_ok {a4:List (List Int)} {k5:Int} {h1:AV} {k2:KT} {s:St} (ho3:h1.one=true) {ex:List Nat} {Ls0:List (List BX)} (hH0:HS ex true s s (([]:List BX)++Ls0.flatten)) (hG0:AllG [OS oE34 h1 k2 a4] Ls0) (hl:LoOK ex true s) {r:Int × (List (List Int))} (h:laws_markInt64SS_K10 a4 k5=some r) (hs:WF s):ACall Cf 61 [h1,(J k5)] s (fun v _ s'=>∃ (Ls':List (List BX)),v=(J r.1)∧HS ex true s s' (([]:List BX)++Ls'.flatten)∧AllG [OS oE34 h1 k2 r.2] Ls') true:=by
 refine ACall.keepR rfl rfl rfl ?_
 unfold laws_markInt64SS_K10 at h
 refine sr ?_
 refine q (J 0) ?_
 refine nl ?_
 refine AW.seq ?_
 refine sr ?_
 refine q (J 0) ?_
 refine nl ?_
 refine AW.meet (σ:=(List (List Int)) × Int × St × (List (List BX))) (fun (m6,k7,s8,Ls9) tm os=>⟨updL tm [(1,(J k7))],updL os [],s8⟩) (fun (m6,k7,s8,Ls9)=>(HS ex true s s8 (([]:List BX)++Ls9.flatten))∧(AllG [OS oE34 h1 k2 m6] Ls9)∧laws_markInt64SS_K10_J1 m6 k7=some r) ?_ ?_
 ·rintro ⟨m6,k7,s8,Ls9⟩ tm os ⟨hH10,hG11,h⟩
  unfold laws_markInt64SS_K10_J1 at h
  refine sr ?_
  refine q (J k7) ?_
  refine aq (J k7) ?_
  refine nl ?_
  cases h
  exact AW.ret ⟨_,_,rfl,⟨Ls9,rfl,hH10,hG11⟩⟩
 intro KJ12
 refine AW.block ?_
 refine AW.res [(0,h1),(1,(J k5)),(5,(J 0))] [] ⟨rfl,rfl,rfl,trivial⟩ trivial ?_
 refine AW.loopF (σ:=(List (List Int)) × Int × Int) (τ:=St × (List (List BX))) (fun (m13,k14,i15) (s16,Ls17)=>(HS ex true s s16 (([]:List BX)++Ls17.flatten))∧(AllG [OS oE34 h1 k2 m13] Ls17)) (fun (m13,k14,i15) (s16,Ls17) tm os=>⟨updL tm [(0,h1),(1,(J k14)),(5,(J i15))],updL os [],s16⟩) ?_ (x:=(a4,k5,0)) (y:=(s,Ls0)) h ⟨hH0,hG0⟩
 clear h
 rintro ⟨m13,k14,i15⟩ ⟨s16,Ls17⟩ tm os ⟨hH18,hG19⟩ ee1 h hL1 hR1
 unfold laws_markInt64SS_K10_S1 at h
 dsimp only at h
 refine AW.seq ?_
 refine sr ?_
 refine q (J i15) ?_
 refine q h1 ?_
 refine AOps.lenO (j:=0) hG19 rfl Sub.here rfl rfl rfl rfl rfl ?_
 refine q (bool (decide ((i15:Int)<(m13.length:Int)))) ?_
 refine nl ?_
 rcases oite h with ⟨hc20,h⟩ | ⟨hc20,h⟩
 ·refine AW.condT (congrArg bool hc20) ?_
  refine AW.skip ?_
  refine AW.seq ?_
  refine AW.block ?_
  refine AW.region ?_
  refine q h1 ?_
  refine q (J i15) ?_
  obtain ⟨x23,h24,h⟩:=obind h
  refine AOps.idxO (j:=0) hG19 rfl Sub.here h24 rfl rfl rfl rfl rfl rfl rfl rfl rfl ?_
  intro b21 hb22
  refine AOps.ldO (j:=0) (q:=0) hH18 hG19 rfl Sub.here h24 hb22 rfl rfl rfl rfl rfl (lt_b rfl) (le_b rfl) rfl rfl ?_ (fun c B hc=>by obtain ⟨rfl,_⟩:=hc; exact ⟨_,rfl⟩)
  intro c25 B26 v27 h28 h29
  obtain ⟨rfl,_⟩:=h28
  cases h29
  refine q (J k14) ?_
  obtain ⟨y30,h31,h⟩:=obind h
  have hP32:=HS.pop0 hH18
  have hF0:AllG ([]:List (List BX→Prop)) []:=AllG.nil
  obtain ⟨Ls33,Lf34,hG35,hF36,hP37⟩:=HS.popS hP32 hG19 hF0 (j:=0) rfl (Sub.down Sub.here h24)
  refine AOps.callF (al:=true) (g:=15) (args:=[((KT.at k2 (Int.toNat i15)) []),(J k14)]) rfl rfl rfl (laws_markInt64S_K10_ok (Sub.one hG19 (j:=0) rfl (Sub.down Sub.here h24)) (HS.enterK hP37) hF36 (HS.enterLo hP37 hl) h31 (HS.wf' hH18)) ?_
  rintro _ _ s38 ⟨Ls40,rfl,hH41,hG42⟩
  have hJ43:=HS.joinK hP37 hH41
  obtain ⟨Ls44,Lf45,hG46,hF47,hP48⟩:=HS.pushS hJ43 hG35 hG42 (j:=0) rfl
  cases hF47
  have hH49:=HS.push0 hP48
  refine aq (J y30.1) ?_
  refine nl ?_
  refine AW.inBlock ?_
  refine AW.region ?_
  refine q (J i15) ?_
  refine q (J (IntKind.wrap .i64 (i15+1))) ?_
  refine aq (J (IntKind.wrap .i64 (i15+1))) ?_
  refine nl ?_
  cases h
  exact AW.res [(0,h1),(1,(J y30.1)),(5,(J (IntKind.wrap .i64 (i15+1))))] [] ⟨rfl,rfl,rfl,trivial⟩ trivial (hL1 _ rfl (s38,Ls44) _ _ ⟨hH49,hG46⟩)
 refine AW.condF (congrArg bool hc20) ?_
 refine AW.exit rfl ?_
 obtain ⟨r50,hm,hx⟩:=omap h
 clear h
 subst hx
 have hx:=hR1 _ rfl
 rw[hx] at hm
 have h:=hm
 exact AW.res [(1,(J k14))] [] ⟨rfl,trivial⟩ trivial (KJ12 (m13,k14,s16,Ls17) _ _ ⟨hH18,hG19,h⟩)
theorem laws_markInt64SSS_K10_ok {a4:List (List (List Int))} {k5:Int} {h1:AV} {k2:KT} {s:St} (ho3:h1.one=true) {ex:List Nat} {Ls0:List (List BX)} (hH0:HS ex true s s (([]:List BX)++Ls0.flatten)) (hG0:AllG [OS oE25 h1 k2 a4] Ls0) (hl:LoOK ex true s) {r:Int × (List (List (List Int)))} (h:laws_markInt64SSS_K10 a4 k5=some r) (hs:WF s):ACall Cf 60 [h1,(J k5)] s (fun v _ s'=>∃ (Ls':List (List BX)),v=(J r.1)∧HS ex true s s' (([]:List BX)++Ls'.flatten)∧AllG [OS oE25 h1 k2 r.2] Ls') true:=by
 refine ACall.keepR rfl rfl rfl ?_
 unfold laws_markInt64SSS_K10 at h
 refine sr ?_
 refine q (J 0) ?_
 refine nl ?_
 refine AW.seq ?_
 refine sr ?_
 refine q (J 0) ?_
 refine nl ?_
 refine AW.meet (σ:=(List (List (List Int))) × Int × St × (List (List BX))) (fun (m6,k7,s8,Ls9) tm os=>⟨updL tm [(1,(J k7))],updL os [],s8⟩) (fun (m6,k7,s8,Ls9)=>(HS ex true s s8 (([]:List BX)++Ls9.flatten))∧(AllG [OS oE25 h1 k2 m6] Ls9)∧laws_markInt64SSS_K10_J1 m6 k7=some r) ?_ ?_
 ·rintro ⟨m6,k7,s8,Ls9⟩ tm os ⟨hH10,hG11,h⟩
  unfold laws_markInt64SSS_K10_J1 at h
  refine sr ?_
  refine q (J k7) ?_
  refine aq (J k7) ?_
  refine nl ?_
  cases h
  exact AW.ret ⟨_,_,rfl,⟨Ls9,rfl,hH10,hG11⟩⟩
 intro KJ12
 refine AW.block ?_
 refine AW.res [(0,h1),(1,(J k5)),(5,(J 0))] [] ⟨rfl,rfl,rfl,trivial⟩ trivial ?_
 refine AW.loopF (σ:=(List (List (List Int))) × Int × Int) (τ:=St × (List (List BX))) (fun (m13,k14,i15) (s16,Ls17)=>(HS ex true s s16 (([]:List BX)++Ls17.flatten))∧(AllG [OS oE25 h1 k2 m13] Ls17)) (fun (m13,k14,i15) (s16,Ls17) tm os=>⟨updL tm [(0,h1),(1,(J k14)),(5,(J i15))],updL os [],s16⟩) ?_ (x:=(a4,k5,0)) (y:=(s,Ls0)) h ⟨hH0,hG0⟩
 clear h
 rintro ⟨m13,k14,i15⟩ ⟨s16,Ls17⟩ tm os ⟨hH18,hG19⟩ ee1 h hL1 hR1
 unfold laws_markInt64SSS_K10_S1 at h
 dsimp only at h
 refine AW.seq ?_
 refine sr ?_
 refine q (J i15) ?_
 refine q h1 ?_
 refine AOps.lenO (j:=0) hG19 rfl Sub.here rfl rfl rfl rfl rfl ?_
 refine q (bool (decide ((i15:Int)<(m13.length:Int)))) ?_
 refine nl ?_
 rcases oite h with ⟨hc20,h⟩ | ⟨hc20,h⟩
 ·refine AW.condT (congrArg bool hc20) ?_
  refine AW.skip ?_
  refine AW.seq ?_
  refine AW.block ?_
  refine AW.region ?_
  refine q h1 ?_
  refine q (J i15) ?_
  obtain ⟨x23,h24,h⟩:=obind h
  refine AOps.idxO (j:=0) hG19 rfl Sub.here h24 rfl rfl rfl rfl rfl rfl rfl rfl rfl ?_
  intro b21 hb22
  refine AOps.ldO (j:=0) (q:=0) hH18 hG19 rfl Sub.here h24 hb22 rfl rfl rfl rfl rfl (lt_b rfl) (le_b rfl) rfl rfl ?_ (fun c B hc=>by obtain ⟨rfl,_⟩:=hc; exact ⟨_,rfl⟩)
  intro c25 B26 v27 h28 h29
  obtain ⟨rfl,_⟩:=h28
  cases h29
  refine q (J k14) ?_
  obtain ⟨y30,h31,h⟩:=obind h
  have hP32:=HS.pop0 hH18
  have hF0:AllG ([]:List (List BX→Prop)) []:=AllG.nil
  obtain ⟨Ls33,Lf34,hG35,hF36,hP37⟩:=HS.popS hP32 hG19 hF0 (j:=0) rfl (Sub.down Sub.here h24)
  refine AOps.callF (al:=true) (g:=61) (args:=[((KT.at k2 (Int.toNat i15)) []),(J k14)]) rfl rfl rfl (laws_markInt64SS_K10_ok (Sub.one hG19 (j:=0) rfl (Sub.down Sub.here h24)) (HS.enterK hP37) hF36 (HS.enterLo hP37 hl) h31 (HS.wf' hH18)) ?_
  rintro _ _ s38 ⟨Ls40,rfl,hH41,hG42⟩
  have hJ43:=HS.joinK hP37 hH41
  obtain ⟨Ls44,Lf45,hG46,hF47,hP48⟩:=HS.pushS hJ43 hG35 hG42 (j:=0) rfl
  cases hF47
  have hH49:=HS.push0 hP48
  refine aq (J y30.1) ?_
  refine nl ?_
  refine AW.inBlock ?_
  refine AW.region ?_
  refine q (J i15) ?_
  refine q (J (IntKind.wrap .i64 (i15+1))) ?_
  refine aq (J (IntKind.wrap .i64 (i15+1))) ?_
  refine nl ?_
  cases h
  exact AW.res [(0,h1),(1,(J y30.1)),(5,(J (IntKind.wrap .i64 (i15+1))))] [] ⟨rfl,rfl,rfl,trivial⟩ trivial (hL1 _ rfl (s38,Ls44) _ _ ⟨hH49,hG46⟩)
 refine AW.condF (congrArg bool hc20) ?_
 refine AW.exit rfl ?_
 obtain ⟨r50,hm,hx⟩:=omap h
 clear h
 subst hx
 have hx:=hR1 _ rfl
 rw[hx] at hm
 have h:=hm
 exact AW.res [(1,(J k14))] [] ⟨rfl,trivial⟩ trivial (KJ12 (m13,k14,s16,Ls17) _ _ ⟨hH18,hG19,h⟩)
theorem laws_markChecker_K10_ok {a1:Checker} {k14:Int} {h2 h5 h8 h11:AV} {k3 k6 k9 k12:KT} {s:St} (ho4:h2.one=true) (ho7:h5.one=true) (ho10:h8.one=true) (ho13:h11.one=true) {ex:List Nat} {Ls0:List (List BX)} (hH0:HS ex true s s (([]:List BX)++Ls0.flatten)) (hG0:AllG [OS oE4 h2 k3 a1.Accept,OS oE120 h5 k6 a1.Call,OS oE25 h8 k9 a1.Return,OS oE34 h11 k12 a1.Inner] Ls0) (hl:LoOK ex true s) {r:Int × (List Bool) × (List (List Push)) × (List (List (List Int))) × (List (List Int))} (h:laws_markChecker_K10 a1 k14=some r) (hs:WF s):ACall Cf 31 [(agg [(J a1.Stack),(J a1.Start),h2,h5,h8,h11]),(J k14)] s (fun v _ s'=>∃ (Ls':List (List BX)),v=(J r.1)∧HS ex true s s' (([]:List BX)++Ls'.flatten)∧AllG [OS oE4 h2 k3 r.2.1,OS oE120 h5 k6 r.2.2.1,OS oE25 h8 k9 r.2.2.2.1,OS oE34 h11 k12 r.2.2.2.2] Ls') true:=by
 refine ACall.keepR rfl rfl rfl ?_
 unfold laws_markChecker_K10 at h
 refine sr ?_
 refine AOps.boxR (v:=(agg [(J a1.Stack),(J a1.Start),h2,h5,h8,h11])) rfl rfl rfl rfl rfl (lay_cons rfl (lay_cons rfl (lay_cons ho4 (lay_cons ho7 (lay_cons ho10 (lay_cons ho13 lay_nil)))))) rfl rfl ?_
 refine q (J 0) ?_
 refine ns ?_
 refine q (eptr [(J a1.Stack),(J a1.Start),h2,h5,h8,h11] 2) ?_
 refine lE h2 ?_
 refine q (J k14) ?_
 obtain ⟨y15,h16,h⟩:=obind h
 have hP17:=HS.pop0 hH0
 have hF0:AllG ([]:List (List BX→Prop)) []:=AllG.nil
 obtain ⟨Ls18,Lf19,hG20,hF21,hP22⟩:=HS.popG hP17 hG0 hF0 (j:=0) rfl
 refine AOps.callF (al:=true) (g:=58) (args:=[h2,(J k14)]) rfl rfl rfl (laws_markBoolS_K10_ok ho4 (HS.enterK hP22) hF21 (HS.enterLo hP22 hl) h16 (HS.wf' hH0)) ?_
 rintro _ _ s23 ⟨Ls25,rfl,hH26,hG27⟩
 have hJ28:=HS.joinK hP22 hH26
 obtain ⟨Ls29,Lf30,hG31,hF32,hP33⟩:=HS.putG hJ28 hG20 hG27 (j:=0) rfl
 cases hF32
 have hH34:=HS.push0 hP33
 refine aq (J y15.1) ?_
 refine ns ?_
 refine q (eptr [(J a1.Stack),(J a1.Start),h2,h5,h8,h11] 3) ?_
 refine lE h5 ?_
 refine q (J y15.1) ?_
 obtain ⟨y35,h36,h⟩:=obind h
 have hP37:=HS.pop0 hH34
 have hF0:AllG ([]:List (List BX→Prop)) []:=AllG.nil
 obtain ⟨Ls38,Lf39,hG40,hF41,hP42⟩:=HS.popG hP37 hG31 hF0 (j:=1) rfl
 refine AOps.callF (al:=true) (g:=59) (args:=[h5,(J y15.1)]) rfl rfl rfl (laws_markPushSS_K10_ok ho7 (HS.enterK hP42) hF41 (HS.enterLo hP42 hl) h36 (HS.wf' hH34)) ?_
 rintro _ _ s43 ⟨Ls45,rfl,hH46,hG47⟩
 have hJ48:=HS.joinK hP42 hH46
 obtain ⟨Ls49,Lf50,hG51,hF52,hP53⟩:=HS.putG hJ48 hG40 hG47 (j:=1) rfl
 cases hF52
 have hH54:=HS.push0 hP53
 refine aq (J y35.1) ?_
 refine ns ?_
 refine q (eptr [(J a1.Stack),(J a1.Start),h2,h5,h8,h11] 4) ?_
 refine lE h8 ?_
 refine q (J y35.1) ?_
 obtain ⟨y55,h56,h⟩:=obind h
 have hP57:=HS.pop0 hH54
 have hF0:AllG ([]:List (List BX→Prop)) []:=AllG.nil
 obtain ⟨Ls58,Lf59,hG60,hF61,hP62⟩:=HS.popG hP57 hG51 hF0 (j:=2) rfl
 refine AOps.callF (al:=true) (g:=60) (args:=[h8,(J y35.1)]) rfl rfl rfl (laws_markInt64SSS_K10_ok ho10 (HS.enterK hP62) hF61 (HS.enterLo hP62 hl) h56 (HS.wf' hH54)) ?_
 rintro _ _ s63 ⟨Ls65,rfl,hH66,hG67⟩
 have hJ68:=HS.joinK hP62 hH66
 obtain ⟨Ls69,Lf70,hG71,hF72,hP73⟩:=HS.putG hJ68 hG60 hG67 (j:=2) rfl
 cases hF72
 have hH74:=HS.push0 hP73
 refine aq (J y55.1) ?_
 refine ns ?_
 refine q (eptr [(J a1.Stack),(J a1.Start),h2,h5,h8,h11] 5) ?_
 refine lE h11 ?_
 refine q (J y55.1) ?_
 obtain ⟨y75,h76,h⟩:=obind h
 have hP77:=HS.pop0 hH74
 have hF0:AllG ([]:List (List BX→Prop)) []:=AllG.nil
 obtain ⟨Ls78,Lf79,hG80,hF81,hP82⟩:=HS.popG hP77 hG71 hF0 (j:=3) rfl
 refine AOps.callF (al:=true) (g:=61) (args:=[h11,(J y55.1)]) rfl rfl rfl (laws_markInt64SS_K10_ok ho13 (HS.enterK hP82) hF81 (HS.enterLo hP82 hl) h76 (HS.wf' hH74)) ?_
 rintro _ _ s83 ⟨Ls85,rfl,hH86,hG87⟩
 have hJ88:=HS.joinK hP82 hH86
 obtain ⟨Ls89,Lf90,hG91,hF92,hP93⟩:=HS.putG hJ88 hG80 hG87 (j:=3) rfl
 cases hF92
 have hH94:=HS.push0 hP93
 refine aq (J y75.1) ?_
 refine ns ?_
 refine q (J y75.1) ?_
 refine aq (J y75.1) ?_
 refine nl ?_
 cases h
 exact AW.ret ⟨_,_,rfl,⟨Ls89,rfl,hH94,hG91⟩⟩
theorem laws_markText_ok {k1:Int} {s:St} {r:(List UInt8)} (h:laws_markText k1=some r) (hs:WF s):ACall Cf 62 [(J k1)] s fun v _ s'=>(rS) r v∧s'=s:=by
 refine ACall.pure rfl rfl rfl .S ?_
 have hWF:=hs.lo'
 unfold laws_markText at h
 refine sr ?_
 refine q (str ([]:List UInt8)) ?_
 refine nl ?_
 refine AW.seq ?_
 refine sr ?_
 refine q (J k1) ?_
 refine q (bool (decide ((k1:Int)≤0))) ?_
 refine nl ?_
 rcases oite h with ⟨hc2,h⟩ | ⟨hc2,h⟩
 ·refine AW.condT (congrArg bool hc2) ?_
  refine sr ?_
  refine q (str ([109,48]:List UInt8)) ?_
  refine nl ?_
  cases h
  exact AW.ret ⟨rfl,_,_,rfl,rfl⟩
 refine AW.condF (congrArg bool hc2) ?_
 refine AW.skip ?_
 refine sr ?_
 refine q (str ([]:List UInt8)) ?_
 refine nl ?_
 refine AW.seq ?_
 refine AW.meet (σ:=(List UInt8)) (fun out3 tm os=>⟨updL tm [(3,(str out3))],updL os [],{ s with lo:=s.n }⟩) (fun out3=>laws_markText_J1 out3=some r) ?_ ?_
 ·rintro out3 tm os h
  unfold laws_markText_J1 at h
  refine sr ?_
  refine q (str out3) ?_
  obtain ⟨w5,h6,h⟩:=obind h
  refine AOps.pureR rfl rfl rfl (add_str h6) rfl (rfl:_=(str w5)) ?_
  refine aq (str w5) ?_
  refine nl ?_
  cases h
  exact AW.ret ⟨rfl,_,_,rfl,rfl⟩
 intro KJ4
 refine AW.block ?_
 refine AW.res [(0,(J k1)),(3,(str ([]:List UInt8)))] [] ⟨rfl,rfl,trivial⟩ trivial ?_
 refine AW.loopF (σ:=Int × (List UInt8)) (τ:=Unit) (fun (k7,out8) _=>True) (fun (k7,out8) _ tm os=>⟨updL tm [(0,(J k7)),(3,(str out8))],updL os [],{ s with lo:=s.n }⟩) ?_ (x:=(k1,([]:List UInt8))) (y:=()) h trivial
 clear h
 rintro ⟨k7,out8⟩ _ tm os - ee1 h hL1 hR1
 unfold laws_markText_S1 at h
 dsimp only at h
 refine AW.seq ?_
 refine sr ?_
 refine q (J k7) ?_
 refine q (bool (decide ((k7:Int)>0))) ?_
 refine nl ?_
 rcases oite h with ⟨hc9,h⟩ | ⟨hc9,h⟩
 ·refine AW.condT (congrArg bool hc9) ?_
  refine AW.skip ?_
  refine AW.block ?_
  refine sr ?_
  refine q (J k7) ?_
  obtain ⟨q10,h11,h⟩:=obind h
  refine AOps.pureR rfl rfl rfl (rem_ok h11) rfl (rfl:_=(J q10)) ?_
  refine q (J (IntKind.wrap .i64 (48+q10))) ?_
  refine q (int .u8 (IntKind.wrap .u8 (IntKind.wrap .i64 (48+q10)))) ?_
  refine AOps.makeR rfl rfl rfl rfl rfl rfl (rfl:_=(sl 1 true [(int .u8 (IntKind.wrap .u8 (IntKind.wrap .i64 (48+q10))))])) ?_
  refine AOps.pureR rfl rfl rfl (bytes_str (l:=([IntKind.wrap .u8 (IntKind.wrap .i64 (48+q10))]:List Int)) (z:=1) (e:=[(int .u8 (IntKind.wrap .u8 (IntKind.wrap .i64 (48+q10))))]) (LR.lit (r:=rI .u8) (sz:=1) (.cons rfl .nil))) rfl (rfl:_=(str (bytesOf ([IntKind.wrap .u8 (IntKind.wrap .i64 (48+q10))]:List Int)))) ?_
  refine q (str out8) ?_
  obtain ⟨w12,h13,h⟩:=obind h
  refine AOps.pureR rfl rfl rfl (add_str h13) rfl (rfl:_=(str w12)) ?_
  refine aq (str w12) ?_
  refine nl ?_
  refine AW.region ?_
  refine q (J k7) ?_
  obtain ⟨q14,h15,h⟩:=obind h
  refine AOps.pureR rfl rfl rfl (quo_ok h15) rfl (rfl:_=(J q14)) ?_
  refine aq (J q14) ?_
  refine nl ?_
  refine AW.inBlock ?_
  cases h
  exact AW.res [(0,(J q14)),(3,(str w12))] [] ⟨rfl,rfl,trivial⟩ trivial (hL1 _ rfl () _ _ trivial)
 refine AW.condF (congrArg bool hc9) ?_
 refine AW.exit rfl ?_
 obtain ⟨r16,hm,hx⟩:=omap h
 clear h
 subst hx
 have hx:=hR1 _ rfl
 rw[hx] at hm
 have h:=hm
 exact AW.res [(3,(str out8))] [] ⟨rfl,trivial⟩ trivial (KJ4 (out8) _ _ h)
theorem laws_markStringS_K10_ok {a4:List (List UInt8)} {k5:Int} {h1:AV} {k2:KT} {s:St} (ho3:h1.one=true) {ex:List Nat} {Ls0:List (List BX)} (hH0:HS ex true s s (([]:List BX)++Ls0.flatten)) (hG0:AllG [OS oE9 h1 k2 a4] Ls0) (hl:LoOK ex true s) {r:Int × (List (List UInt8))} (h:laws_markStringS_K10 a4 k5=some r) (hs:WF s):ACall Cf 32 [h1,(J k5)] s (fun v _ s'=>∃ (Ls':List (List BX)),v=(J r.1)∧HS ex true s s' (([]:List BX)++Ls'.flatten)∧AllG [OS oE9 h1 k2 r.2] Ls') true:=by
 refine ACall.keepR rfl rfl rfl ?_
 unfold laws_markStringS_K10 at h
 refine sr ?_
 refine q (J 0) ?_
 refine nl ?_
 refine AW.seq ?_
 refine sr ?_
 refine q (J 0) ?_
 refine nl ?_
 refine AW.meet (σ:=(List (List UInt8)) × Int × St × (List (List BX))) (fun (m6,k7,s8,Ls9) tm os=>⟨updL tm [(1,(J k7))],updL os [],s8⟩) (fun (m6,k7,s8,Ls9)=>(HS ex true s s8 (([]:List BX)++Ls9.flatten))∧(AllG [OS oE9 h1 k2 m6] Ls9)∧laws_markStringS_K10_J1 m6 k7=some r) ?_ ?_
 ·rintro ⟨m6,k7,s8,Ls9⟩ tm os ⟨hH10,hG11,h⟩
  unfold laws_markStringS_K10_J1 at h
  refine sr ?_
  refine q (J k7) ?_
  refine aq (J k7) ?_
  refine nl ?_
  cases h
  exact AW.ret ⟨_,_,rfl,⟨Ls9,rfl,hH10,hG11⟩⟩
 intro KJ12
 refine AW.block ?_
 refine AW.res [(0,h1),(1,(J k5)),(5,(J 0))] [] ⟨rfl,rfl,rfl,trivial⟩ trivial ?_
 refine AW.loopF (σ:=(List (List UInt8)) × Int × Int) (τ:=St × (List (List BX))) (fun (m13,k14,i15) (s16,Ls17)=>(HS ex true s s16 (([]:List BX)++Ls17.flatten))∧(AllG [OS oE9 h1 k2 m13] Ls17)) (fun (m13,k14,i15) (s16,Ls17) tm os=>⟨updL tm [(0,h1),(1,(J k14)),(5,(J i15))],updL os [],s16⟩) ?_ (x:=(a4,k5,0)) (y:=(s,Ls0)) h ⟨hH0,hG0⟩
 clear h
 rintro ⟨m13,k14,i15⟩ ⟨s16,Ls17⟩ tm os ⟨hH18,hG19⟩ ee1 h hL1 hR1
 unfold laws_markStringS_K10_S1 at h
 dsimp only at h
 refine AW.seq ?_
 refine sr ?_
 refine q (J i15) ?_
 refine q h1 ?_
 refine AOps.lenO (j:=0) hG19 rfl Sub.here rfl rfl rfl rfl rfl ?_
 refine q (bool (decide ((i15:Int)<(m13.length:Int)))) ?_
 refine nl ?_
 rcases oite h with ⟨hc20,h⟩ | ⟨hc20,h⟩
 ·refine AW.condT (congrArg bool hc20) ?_
  refine AW.skip ?_
  refine AW.seq ?_
  refine AW.block ?_
  refine sr ?_
  refine q h1 ?_
  refine q (J i15) ?_
  refine q (J k14) ?_
  obtain ⟨y21,h22,h⟩:=obind h
  refine AOps.callP (g:=62) (args:=[(J k14)]) (p:=(rS) y21) rfl rfl rfl (laws_markText_ok  h22 (HS.wf' hH18)) ?_
  intro _ o24 h23
  cases h23
  obtain ⟨x27,h28,h⟩:=obind h
  refine AOps.idxO (j:=0) hG19 rfl Sub.here h28 rfl rfl rfl rfl rfl rfl rfl rfl rfl ?_
  intro b25 hb26
  refine AOps.stO (j:=0) (q:=0) (v:=(str y21)) (y':=y21) hH18 hG19 hl rfl Sub.here h28 hb26 rfl rfl rfl rfl rfl rfl rfl rfl (lt_b rfl) (le_b rfl) rfl (fun c B hc=>oLeaf_set hc rfl) ?_
  intro Ls29 s30 hG31 hH32
  refine nl ?_
  refine AW.region ?_
  refine q (J k14) ?_
  refine q (J (IntKind.wrap .i64 (k14+1))) ?_
  refine aq (J (IntKind.wrap .i64 (k14+1))) ?_
  refine nl ?_
  refine AW.inBlock ?_
  refine AW.region ?_
  refine q (J i15) ?_
  refine q (J (IntKind.wrap .i64 (i15+1))) ?_
  refine aq (J (IntKind.wrap .i64 (i15+1))) ?_
  refine nl ?_
  cases h
  exact AW.res [(0,h1),(1,(J (IntKind.wrap .i64 (k14+1)))),(5,(J (IntKind.wrap .i64 (i15+1))))] [] ⟨rfl,rfl,rfl,trivial⟩ trivial (hL1 _ rfl (s30,Ls29) _ _ ⟨hH32,hG31⟩)
 refine AW.condF (congrArg bool hc20) ?_
 refine AW.exit rfl ?_
 obtain ⟨r33,hm,hx⟩:=omap h
 clear h
 subst hx
 have hx:=hR1 _ rfl
 rw[hx] at hm
 have h:=hm
 exact AW.res [(1,(J k14))] [] ⟨rfl,trivial⟩ trivial (KJ12 (m13,k14,s16,Ls17) _ _ ⟨hH18,hG19,h⟩)
theorem laws_markStream_K10_ok {a1:Stream} {k17:Int} {h2 h5 h8 h11 h14:AV} {k3 k6 k9 k12 k15:KT} {s:St} (ho4:h2.one=true) (ho7:h5.one=true) (ho10:h8.one=true) (ho13:h11.one=true) (ho16:h14.one=true) {ex:List Nat} {Ls0:List (List BX)} (hH0:HS ex true s s (([]:List BX)++Ls0.flatten)) (hG0:AllG [OS oE4 h2 k3 a1.Checker.Accept,OS oE120 h5 k6 a1.Checker.Call,OS oE25 h8 k9 a1.Checker.Return,OS oE34 h11 k12 a1.Checker.Inner,OS oE9 h14 k15 a1.Pieces] Ls0) (hl:LoOK ex true s) {r:Int × (List Bool) × (List (List Push)) × (List (List (List Int))) × (List (List Int)) × (List (List UInt8))} (h:laws_markStream_K10 a1 k17=some r) (hs:WF s):ACall Cf 13 [(agg [(J a1.Checker.Stack),(J a1.Checker.Start),h2,h5,h8,h11,h14]),(J k17)] s (fun v _ s'=>∃ (Ls':List (List BX)),v=(J r.1)∧HS ex true s s' (([]:List BX)++Ls'.flatten)∧AllG [OS oE4 h2 k3 r.2.1,OS oE120 h5 k6 r.2.2.1,OS oE25 h8 k9 r.2.2.2.1,OS oE34 h11 k12 r.2.2.2.2.1,OS oE9 h14 k15 r.2.2.2.2.2] Ls') true:=by
 refine ACall.keepR rfl rfl rfl ?_
 unfold laws_markStream_K10 at h
 refine sr ?_
 refine AOps.boxR (v:=(agg [(J a1.Checker.Stack),(J a1.Checker.Start),h2,h5,h8,h11,h14])) rfl rfl rfl rfl rfl (lay_cons rfl (lay_cons rfl (lay_cons ho4 (lay_cons ho7 (lay_cons ho10 (lay_cons ho13 (lay_cons ho16 lay_nil))))))) rfl rfl ?_
 refine q (J 0) ?_
 refine ns ?_
 refine q (eptr [(J a1.Checker.Stack),(J a1.Checker.Start),h2,h5,h8,h11,h14] 0) ?_
 refine lE (agg [(J a1.Checker.Stack),(J a1.Checker.Start),h2,h5,h8,h11]) ?_
 refine q (J k17) ?_
 obtain ⟨y18,h19,h⟩:=obind h
 have hP20:=HS.pop0 hH0
 have hF0:AllG ([]:List (List BX→Prop)) []:=AllG.nil
 obtain ⟨Ls21,Lf22,hG23,hF24,hP25⟩:=HS.popG hP20 hG0 hF0 (j:=0) rfl
 obtain ⟨Ls26,Lf27,hG28,hF29,hP30⟩:=HS.popG hP25 hG23 hF24 (j:=1) rfl
 obtain ⟨Ls31,Lf32,hG33,hF34,hP35⟩:=HS.popG hP30 hG28 hF29 (j:=2) rfl
 obtain ⟨Ls36,Lf37,hG38,hF39,hP40⟩:=HS.popG hP35 hG33 hF34 (j:=3) rfl
 refine AOps.callF (al:=true) (g:=31) (args:=[(agg [(J a1.Checker.Stack),(J a1.Checker.Start),h2,h5,h8,h11]),(J k17)]) rfl rfl rfl (laws_markChecker_K10_ok (a1:=a1.Checker) ho4 ho7 ho10 ho13 (HS.enterK hP40) hF39 (HS.enterLo hP40 hl) h19 (HS.wf' hH0)) ?_
 rintro _ _ s41 ⟨Ls43,rfl,hH44,hG45⟩
 have hJ46:=HS.joinK hP40 hH44
 obtain ⟨Ls47,Lf48,hG49,hF50,hP51⟩:=HS.putG hJ46 hG38 hG45 (j:=0) rfl
 obtain ⟨Ls52,Lf53,hG54,hF55,hP56⟩:=HS.putG hP51 hG49 hF50 (j:=1) rfl
 obtain ⟨Ls57,Lf58,hG59,hF60,hP61⟩:=HS.putG hP56 hG54 hF55 (j:=2) rfl
 obtain ⟨Ls62,Lf63,hG64,hF65,hP66⟩:=HS.putG hP61 hG59 hF60 (j:=3) rfl
 cases hF65
 have hH67:=HS.push0 hP66
 refine aq (J y18.1) ?_
 refine ns ?_
 refine q (eptr [(J a1.Checker.Stack),(J a1.Checker.Start),h2,h5,h8,h11,h14] 6) ?_
 refine lE h14 ?_
 refine q (J y18.1) ?_
 obtain ⟨y68,h69,h⟩:=obind h
 have hP70:=HS.pop0 hH67
 have hF0:AllG ([]:List (List BX→Prop)) []:=AllG.nil
 obtain ⟨Ls71,Lf72,hG73,hF74,hP75⟩:=HS.popG hP70 hG64 hF0 (j:=4) rfl
 refine AOps.callF (al:=true) (g:=32) (args:=[h14,(J y18.1)]) rfl rfl rfl (laws_markStringS_K10_ok ho16 (HS.enterK hP75) hF74 (HS.enterLo hP75 hl) h69 (HS.wf' hH67)) ?_
 rintro _ _ s76 ⟨Ls78,rfl,hH79,hG80⟩
 have hJ81:=HS.joinK hP75 hH79
 obtain ⟨Ls82,Lf83,hG84,hF85,hP86⟩:=HS.putG hJ81 hG73 hG80 (j:=4) rfl
 cases hF85
 have hH87:=HS.push0 hP86
 refine aq (J y68.1) ?_
 refine ns ?_
 refine q (J y68.1) ?_
 refine aq (J y68.1) ?_
 refine nl ?_
 cases h
 exact AW.ret ⟨_,_,rfl,⟨Ls82,rfl,hH87,hG84⟩⟩
theorem laws_markDeedS_K10_ok {a4:List Deed} {k5:Int} {h1:AV} {k2:KT} {s:St} (ho3:h1.one=true) {ex:List Nat} {Ls0:List (List BX)} (hH0:HS ex true s s (([]:List BX)++Ls0.flatten)) (hG0:AllG [OS oE63 h1 k2 a4] Ls0) (hl:LoOK ex true s) {r:Int × (List Deed)} (h:laws_markDeedS_K10 a4 k5=some r) (hs:WF s):ACall Cf 14 [h1,(J k5)] s (fun v _ s'=>∃ (Ls':List (List BX)),v=(J r.1)∧HS ex true s s' (([]:List BX)++Ls'.flatten)∧AllG [OS oE63 h1 k2 r.2] Ls') true:=by
 refine ACall.keepR rfl rfl rfl ?_
 unfold laws_markDeedS_K10 at h
 refine sr ?_
 refine q (J 0) ?_
 refine nl ?_
 refine AW.seq ?_
 refine sr ?_
 refine q (J 0) ?_
 refine nl ?_
 refine AW.meet (σ:=(List Deed) × Int × St × (List (List BX))) (fun (m6,k7,s8,Ls9) tm os=>⟨updL tm [(1,(J k7))],updL os [],s8⟩) (fun (m6,k7,s8,Ls9)=>(HS ex true s s8 (([]:List BX)++Ls9.flatten))∧(AllG [OS oE63 h1 k2 m6] Ls9)∧laws_markDeedS_K10_J1 m6 k7=some r) ?_ ?_
 ·rintro ⟨m6,k7,s8,Ls9⟩ tm os ⟨hH10,hG11,h⟩
  unfold laws_markDeedS_K10_J1 at h
  refine sr ?_
  refine q (J k7) ?_
  refine aq (J k7) ?_
  refine nl ?_
  cases h
  exact AW.ret ⟨_,_,rfl,⟨Ls9,rfl,hH10,hG11⟩⟩
 intro KJ12
 refine AW.block ?_
 refine AW.res [(0,h1),(1,(J k5)),(5,(J 0))] [] ⟨rfl,rfl,rfl,trivial⟩ trivial ?_
 refine AW.loopF (σ:=(List Deed) × Int × Int) (τ:=St × (List (List BX))) (fun (m13,k14,i15) (s16,Ls17)=>(HS ex true s s16 (([]:List BX)++Ls17.flatten))∧(AllG [OS oE63 h1 k2 m13] Ls17)) (fun (m13,k14,i15) (s16,Ls17) tm os=>⟨updL tm [(0,h1),(1,(J k14)),(5,(J i15))],updL os [],s16⟩) ?_ (x:=(a4,k5,0)) (y:=(s,Ls0)) h ⟨hH0,hG0⟩
 clear h
 rintro ⟨m13,k14,i15⟩ ⟨s16,Ls17⟩ tm os ⟨hH18,hG19⟩ ee1 h hL1 hR1
 unfold laws_markDeedS_K10_S1 at h
 dsimp only at h
 refine AW.seq ?_
 refine sr ?_
 refine q (J i15) ?_
 refine q h1 ?_
 refine AOps.lenO (j:=0) hG19 rfl Sub.here rfl rfl rfl rfl rfl ?_
 refine q (bool (decide ((i15:Int)<(m13.length:Int)))) ?_
 refine nl ?_
 rcases oite h with ⟨hc20,h⟩ | ⟨hc20,h⟩
 ·refine AW.condT (congrArg bool hc20) ?_
  refine AW.skip ?_
  refine AW.seq ?_
  refine AW.block ?_
  refine sr ?_
  refine q h1 ?_
  refine q (J i15) ?_
  refine q (J k14) ?_
  obtain ⟨x23,h24,h⟩:=obind h
  refine AOps.idxO (j:=0) hG19 rfl Sub.here h24 rfl rfl rfl rfl rfl rfl rfl rfl rfl ?_
  intro b21 hb22
  refine q (ptr b21 (0+Int.toNat i15*3)) ?_
  refine AOps.stO (j:=0) (q:=0) (v:=(J k14)) (y':=({ x23 with Kind:=k14 }:Deed)) hH18 hG19 hl rfl Sub.here h24 hb22 rfl rfl rfl rfl rfl rfl rfl rfl (lt_b rfl) (le_b rfl) rfl (fun c B hc=>by obtain ⟨⟨_,hr,rfl⟩,rfl⟩:=hc; obtain ⟨_,rfl,h29⟩:=hr; obtain ⟨_,_,rfl,h30,h31⟩:=Cs_cons h29; cases h30; obtain ⟨_,_,rfl,h32,h33⟩:=Cs_cons h31; cases h32; obtain ⟨_,_,rfl,h34,h35⟩:=Cs_cons h33; cases h34; cases Cs_nil h35; exact ⟨⟨(agg [(J k14),(J x23.A),(J x23.B)]),⟨_,rfl,(.cons rfl (.cons rfl (.cons rfl .nil)))⟩,rfl⟩,rfl⟩) ?_
  intro Ls25 s26 hG27 hH28
  refine ns ?_
  refine q (J k14) ?_
  refine q (J (IntKind.wrap .i64 (k14+1))) ?_
  refine aq (J (IntKind.wrap .i64 (k14+1))) ?_
  refine ns ?_
  refine q h1 ?_
  refine q (J i15) ?_
  refine q (J (IntKind.wrap .i64 (k14+1))) ?_
  refine AOps.idxO (j:=0) hG27 rfl Sub.here (ix_set h24) rfl rfl rfl rfl rfl rfl rfl rfl rfl ?_
  intro b36 hb37
  refine q (ptr b36 (0+Int.toNat i15*3+1)) ?_
  refine AOps.stO (j:=0) (q:=1) (v:=(J (IntKind.wrap .i64 (k14+1)))) (y':=({ ({ x23 with Kind:=k14 }:Deed) with A:=IntKind.wrap .i64 (k14+1) }:Deed)) hH28 hG27 hl rfl Sub.here (ix_set h24) hb37 rfl rfl rfl rfl rfl rfl rfl rfl (lt_b rfl) (le_b rfl) rfl (fun c B hc=>by obtain ⟨⟨_,hr,rfl⟩,rfl⟩:=hc; obtain ⟨_,rfl,h42⟩:=hr; obtain ⟨_,_,rfl,h43,h44⟩:=Cs_cons h42; cases h43; obtain ⟨_,_,rfl,h45,h46⟩:=Cs_cons h44; cases h45; obtain ⟨_,_,rfl,h47,h48⟩:=Cs_cons h46; cases h47; cases Cs_nil h48; exact ⟨⟨(agg [(J (({ x23 with Kind:=k14 }:Deed).Kind)),(J (IntKind.wrap .i64 (k14+1))),(J (({ x23 with Kind:=k14 }:Deed).B))]),⟨_,rfl,(.cons rfl (.cons rfl (.cons rfl .nil)))⟩,rfl⟩,rfl⟩) ?_
  intro Ls38 s39 hG40 hH41
  refine ns ?_
  refine q (J (IntKind.wrap .i64 (k14+1))) ?_
  refine q (J (IntKind.wrap .i64 ((IntKind.wrap .i64 (k14+1))+1))) ?_
  refine aq (J (IntKind.wrap .i64 ((IntKind.wrap .i64 (k14+1))+1))) ?_
  refine ns ?_
  refine q h1 ?_
  refine q (J i15) ?_
  refine q (J (IntKind.wrap .i64 ((IntKind.wrap .i64 (k14+1))+1))) ?_
  refine AOps.idxO (j:=0) hG40 rfl Sub.here (ix_set (ix_set h24)) rfl rfl rfl rfl rfl rfl rfl rfl rfl ?_
  intro b49 hb50
  refine q (ptr b49 (0+Int.toNat i15*3+2)) ?_
  refine AOps.stO (j:=0) (q:=2) (v:=(J (IntKind.wrap .i64 ((IntKind.wrap .i64 (k14+1))+1)))) (y':=({ ({ ({ x23 with Kind:=k14 }:Deed) with A:=IntKind.wrap .i64 (k14+1) }:Deed) with B:=IntKind.wrap .i64 ((IntKind.wrap .i64 (k14+1))+1) }:Deed)) hH41 hG40 hl rfl Sub.here (ix_set (ix_set h24)) hb50 rfl rfl rfl rfl rfl rfl rfl rfl (lt_b rfl) (le_b rfl) rfl (fun c B hc=>by obtain ⟨⟨_,hr,rfl⟩,rfl⟩:=hc; obtain ⟨_,rfl,h55⟩:=hr; obtain ⟨_,_,rfl,h56,h57⟩:=Cs_cons h55; cases h56; obtain ⟨_,_,rfl,h58,h59⟩:=Cs_cons h57; cases h58; obtain ⟨_,_,rfl,h60,h61⟩:=Cs_cons h59; cases h60; cases Cs_nil h61; exact ⟨⟨(agg [(J (({ ({ x23 with Kind:=k14 }:Deed) with A:=IntKind.wrap .i64 (k14+1) }:Deed).Kind)),(J (({ ({ x23 with Kind:=k14 }:Deed) with A:=IntKind.wrap .i64 (k14+1) }:Deed).A)),(J (IntKind.wrap .i64 ((IntKind.wrap .i64 (k14+1))+1)))]),⟨_,rfl,(.cons rfl (.cons rfl (.cons rfl .nil)))⟩,rfl⟩,rfl⟩) ?_
  intro Ls51 s52 hG53 hH54
  refine nl ?_
  refine AW.region ?_
  refine q (J (IntKind.wrap .i64 ((IntKind.wrap .i64 (k14+1))+1))) ?_
  refine q (J (IntKind.wrap .i64 ((IntKind.wrap .i64 ((IntKind.wrap .i64 (k14+1))+1))+1))) ?_
  refine aq (J (IntKind.wrap .i64 ((IntKind.wrap .i64 ((IntKind.wrap .i64 (k14+1))+1))+1))) ?_
  refine nl ?_
  refine AW.inBlock ?_
  refine AW.region ?_
  refine q (J i15) ?_
  refine q (J (IntKind.wrap .i64 (i15+1))) ?_
  refine aq (J (IntKind.wrap .i64 (i15+1))) ?_
  refine nl ?_
  cases h
  exact AW.res [(0,h1),(1,(J (IntKind.wrap .i64 ((IntKind.wrap .i64 ((IntKind.wrap .i64 (k14+1))+1))+1)))),(5,(J (IntKind.wrap .i64 (i15+1))))] [] ⟨rfl,rfl,rfl,trivial⟩ trivial (hL1 _ rfl (s52,Ls51) _ _ ⟨hH54,hG53⟩)
 refine AW.condF (congrArg bool hc20) ?_
 refine AW.exit rfl ?_
 obtain ⟨r62,hm,hx⟩:=omap h
 clear h
 subst hx
 have hx:=hR1 _ rfl
 rw[hx] at hm
 have h:=hm
 exact AW.res [(1,(J k14))] [] ⟨rfl,trivial⟩ trivial (KJ12 (m13,k14,s16,Ls17) _ _ ⟨hH18,hG19,h⟩)
theorem laws_heldInt64S_okN {a1:List Int} {k6:Int} {z2:Nat} {f3:Bool} {e4:List AV} {s:St} (h5:LR rJ 1 a1 z2 e4) {r:Int} (h:laws_heldInt64S a1 k6=some r) (hs:WF s):ACallN Cf 16 [(sl z2 f3 e4),(J k6)] s fun v _ s'=>rJ r v∧s'=s:=by
 refine ACallN.pure rfl rfl rfl .I ?_
 have hWF:=hs.lo'
 unfold laws_heldInt64S at h
 refine sr ?_
 refine q (J 0) ?_
 refine nl ?_
 refine AW.seq ?_
 refine sr ?_
 refine q (J 0) ?_
 refine nl ?_
 refine AW.meet (σ:=Int) (fun k7 tm os=>⟨updL tm [(1,(J k7))],updL os [],{ s with lo:=s.n }⟩) (fun k7=>laws_heldInt64S_J1 k7=some r) ?_ ?_
 ·rintro k7 tm os h
  unfold laws_heldInt64S_J1 at h
  refine sr ?_
  refine q (J k7) ?_
  refine aq (J k7) ?_
  refine nl ?_
  cases h
  exact AW.ret ⟨rfl,_,_,rfl,rfl⟩
 intro KJ8
 refine AW.block ?_
 refine AW.res [(0,(sl z2 f3 e4)),(1,(J k6)),(5,(J 0))] [] ⟨rfl,rfl,rfl,trivial⟩ trivial ?_
 refine AW.loopF (σ:=Int × Int) (τ:=Unit) (fun (k9,i10) _=>True) (fun (k9,i10) _ tm os=>⟨updL tm [(0,(sl z2 f3 e4)),(1,(J k9)),(5,(J i10))],updL os [],{ s with lo:=s.n }⟩) ?_ (x:=(k6,0)) (y:=()) h trivial
 clear h
 rintro ⟨k9,i10⟩ _ tm os - ee1 h hL1 hR1
 unfold laws_heldInt64S_S1 at h
 dsimp only at h
 refine AW.seq ?_
 refine sr ?_
 refine q (J i10) ?_
 refine q (sl z2 f3 e4) ?_
 refine AOps.p rfl (len_eq h5) ?_
 refine q (bool (decide ((i10:Int)<(a1.length:Int)))) ?_
 refine nl ?_
 rcases oite h with ⟨hc11,h⟩ | ⟨hc11,h⟩
 ·refine AW.condT (congrArg bool hc11) ?_
  refine AW.skip ?_
  refine AW.seq ?_
  refine AW.block ?_
  refine AW.seq ?_
  refine sr ?_
  refine q (sl z2 f3 e4) ?_
  refine q (J i10) ?_
  obtain ⟨x12,h13,h⟩:=obind h
  obtain ⟨v16,h14,h15⟩:=idx_sl h5 h13
  cases h14
  refine AOps.pureR rfl rfl rfl h15 rfl (rfl:_=(eptr [(J x12)] 0)) ?_
  refine lE (J x12) ?_
  refine q (J k9) ?_
  refine q (bool (x12 != k9)) ?_
  refine nl ?_
  rcases oite h with ⟨hc17,h⟩ | ⟨hc17,h⟩
  ·refine AW.condT (congrArg bool hc17) ?_
   refine sr ?_
   refine q (J (-1)) ?_
   refine nl ?_
   cases h
   have hr:=hR1 _ rfl
   subst hr
   exact AW.ret ⟨rfl,_,_,rfl,rfl⟩
  refine AW.condF (congrArg bool hc17) ?_
  refine AW.skip ?_
  refine AW.region ?_
  refine q (J k9) ?_
  refine q (J (IntKind.wrap .i64 (k9+1))) ?_
  refine aq (J (IntKind.wrap .i64 (k9+1))) ?_
  refine nl ?_
  refine AW.inBlock ?_
  refine AW.region ?_
  refine q (J i10) ?_
  refine q (J (IntKind.wrap .i64 (i10+1))) ?_
  refine aq (J (IntKind.wrap .i64 (i10+1))) ?_
  refine nl ?_
  cases h
  exact AW.res [(0,(sl z2 f3 e4)),(1,(J (IntKind.wrap .i64 (k9+1)))),(5,(J (IntKind.wrap .i64 (i10+1))))] [] ⟨rfl,rfl,rfl,trivial⟩ trivial (hL1 _ rfl () _ _ trivial)
 refine AW.condF (congrArg bool hc11) ?_
 refine AW.exit rfl ?_
 obtain ⟨r18,hm,hx⟩:=omap h
 clear h
 subst hx
 have hx:=hR1 _ rfl
 rw[hx] at hm
 have h:=hm
 exact AW.res [(1,(J k9))] [] ⟨rfl,trivial⟩ trivial (KJ8 (k9) _ _ h)
theorem impl_MissingAfter_ok {v1:Stream} {deeds22:List Deed} {z2 z6 z10 z14 z18 z23:Nat} {f3 f7 f11 f15 f19 f24:Bool} {e4 e8 e12 e16 e20 e25:List AV} {s:St} (h5:LR rB 1 v1.Checker.Accept z2 e4) (h9:LR (rL rPush 2) 1 v1.Checker.Call z6 e8) (h13:LR (rL (rL rJ 1) 1) 1 v1.Checker.Return z10 e12) (h17:LR (rL rJ 1) 1 v1.Checker.Inner z14 e16) (h21:LR rS 1 v1.Pieces z18 e20) (h26:LR rDeed 3 deeds22 z23 e25) {r:(List Int) × Int} (h:impl_MissingAfter v1 deeds22=some r) (hs:WF s):ACall Cf 9 [(agg [(J v1.Checker.Stack),(J v1.Checker.Start),(sl z2 f3 e4),(sl z6 f7 e8),(sl z10 f11 e12),(sl z14 f15 e16),(sl z18 f19 e20)]),(sl z23 f24 e25)] s fun v _ s'=>(fun x=>rT [(rL rJ 1) x.1,rJ x.2]) r v∧s'=s:=by
 refine ACall.boxes rfl rfl rfl ?_
 have hH0:=HS.g0 (HS.init hs)
 have hG0:=AllG.nil
 have hl:LoOK [] false s:=LoOK.nil
 unfold impl_MissingAfter at h
 refine sr ?_
 refine AOps.makeR rfl rfl rfl rfl rfl rfl (rfl:_=(eptr [(J v1.Checker.Stack),(J v1.Checker.Start),(sl z2 f3 e4),(sl z6 f7 e8),(sl z10 f11 e12),(sl z14 f15 e16),(sl z18 f19 e20)] 0)) ?_
 refine q (sl 0 true []) ?_
 refine q (J 0) ?_
 refine nl ?_
 refine AW.seq ?_
 refine sr ?_
 refine lE (agg [(J v1.Checker.Stack),(J v1.Checker.Start),(sl z2 f3 e4),(sl z6 f7 e8),(sl z10 f11 e12),(sl z14 f15 e16),(sl z18 f19 e20)]) ?_
 refine q (sl z23 f24 e25) ?_
 obtain ⟨y27,h28,h⟩:=obind h
 refine AOps.callP (g:=25) (args:=[(agg [(J v1.Checker.Stack),(J v1.Checker.Start),(sl z2 f3 e4),(sl z6 f7 e8),(sl z10 f11 e12),(sl z14 f15 e16),(sl z18 f19 e20)]),(sl z23 f24 e25)]) (p:=rJ y27) rfl rfl rfl (impl_deedsCode_ok h5 h9 h13 h17 h21 h26 h28 (HS.wf' hH0)) ?_
 intro _ o30 h29
 cases h29
 refine aq (J y27) ?_
 refine ns ?_
 refine q (J y27) ?_
 refine q (bool (y27 != 0)) ?_
 refine nl ?_
 rcases oite h with ⟨hc31,h⟩ | ⟨hc31,h⟩
 ·refine AW.condT (congrArg bool hc31) ?_
  refine sr ?_
  refine q (J y27) ?_
  refine q (sl 0 true []) ?_
  refine aq (J y27) ?_
  refine nl ?_
  cases h
  exact AW.ret ⟨⟨_,hH0⟩,_,_,rfl,(Fin.T (.cons (Fin.of (p:=(rL rJ 1) ([]:List Int)) (.L fun _=>.I) (⟨_,_,_,rfl,⟨.inr ⟨rfl,rfl⟩,.nil⟩⟩)) (.cons (Fin.of (p:=rJ y27) .I rfl) .nil))).2⟩
 refine AW.condF (congrArg bool hc31) ?_
 refine AW.skip ?_
 refine sr ?_
 refine lE (agg [(J v1.Checker.Stack),(J v1.Checker.Start),(sl z2 f3 e4),(sl z6 f7 e8),(sl z10 f11 e12),(sl z14 f15 e16),(sl z18 f19 e20)]) ?_
 refine q (sl z23 f24 e25) ?_
 obtain ⟨y32,h33,h⟩:=obind h
 have hP73:=HS.pop0 hH0
 refine AOps.callF (al:=true) (g:=26) (args:=[(agg [(J v1.Checker.Stack),(J v1.Checker.Start),(sl z2 f3 e4),(sl z6 f7 e8),(sl z10 f11 e12),(sl z14 f15 e16),(sl z18 f19 e20)]),(sl z23 f24 e25)]) rfl rfl rfl (impl_after_K00_ok h5 h9 h13 h17 h21 h26  h33 (HS.wf' hH0)) ?_
 rintro _ _ s74 ⟨b34,w35,z36,f37,e38,h40,k41,z43,f44,e45,h47,k48,h50,k51,z53,f54,e55,z57,f58,e59,z61,f62,e63,z65,f66,e67,z69,f70,e71,Ls76,rfl,hH77,hG78,hl39,ho42,hl46,ho49,ho52,hl56,hl60,hl64,hl68,hl72⟩
 have hJ79:=HS.joinK1 hP73 hH77
 have hJ80:=HS.pushNE (x:=⟨some b34,[(J y32.1.Plant_.Desk_.Read),(J y32.1.Plant_.Desk_.State),(sl z36 f37 e38),h40,(J y32.1.Plant_.Saved.Read),(J y32.1.Plant_.Saved.State),(sl z43 f44 e45),h47,h50,(J y32.1.stream.Checker.Stack),(J y32.1.stream.Checker.Start),(sl z53 f54 e55),(sl z57 f58 e59),(sl z61 f62 e63),(sl z65 f66 e67),(sl z69 f70 e71)],w35⟩) hJ79
 obtain ⟨Ls81,Lf82,hG83,hF84,hP85⟩:=HS.pushN hJ80 hG0 hG78
 obtain ⟨Ls86,Lf87,hG88,hF89,hP90⟩:=HS.pushN hP85 hG83 hF84
 obtain ⟨Ls91,Lf92,hG93,hF94,hP95⟩:=HS.pushN hP90 hG88 hF89
 cases hF94
 have hH96:=HS.push0 hP95
 refine q (AV.tup [(ptr b34 0),(J y32.2)]) ?_
 refine q (ptr b34 0) ?_
 refine q (J y32.2) ?_
 refine aq (ptr b34 0) ?_
 refine aq (J y32.2) ?_
 refine ns ?_
 refine q (ptr b34 0) ?_
 obtain ⟨y97,h98,h⟩:=obind h
 have hP103:=HS.pop0 hH96
 have hP104:=HS.popE hP103 (i:=0) (x:=⟨some b34,[(J y32.1.Plant_.Desk_.Read),(J y32.1.Plant_.Desk_.State),(sl z36 f37 e38),h40,(J y32.1.Plant_.Saved.Read),(J y32.1.Plant_.Saved.State),(sl z43 f44 e45),h47,h50,(J y32.1.stream.Checker.Stack),(J y32.1.stream.Checker.Start),(sl z53 f54 e55),(sl z57 f58 e59),(sl z61 f62 e63),(sl z65 f66 e67),(sl z69 f70 e71)],w35⟩) rfl
 have hF0:AllG ([]:List (List BX→Prop)) []:=AllG.nil
 obtain ⟨Ls105,Lf106,hG107,hF108,hP109⟩:=HS.popG hP104 hG93 hF0 (j:=2) rfl
 obtain ⟨Ls110,Lf111,hG112,hF113,hP114⟩:=HS.popG hP109 hG107 hF108 (j:=1) rfl
 obtain ⟨Ls115,Lf116,hG117,hF118,hP119⟩:=HS.popG hP114 hG112 hF113 (j:=0) rfl
 refine AOps.callF (al:=true) (g:=27) (args:=[(ptr b34 0)]) rfl rfl rfl (impl_works_missing_K1_ok hl39 ho42 hl46 ho49 ho52 hl56 hl60 hl64 hl68 hl72 (HS.enterK hP119) hF118 (HS.enterLo hP119 hl) h98 (HS.wf' hH96)) ?_
 rintro h100 _ s120 ⟨w99,_,k101,Ls122,rfl,hH123,hG124,ho102⟩
 have hJ125:=HS.joinK hP119 hH123
 have hJ126:=HS.pushE hJ125 (i:=0) rfl
 obtain ⟨Ls127,Lf128,hG129,hF130,hP131⟩:=HS.putG hJ126 hG117 hG124 (j:=2) rfl
 obtain ⟨Ls132,Lf133,hG134,hF135,hP136⟩:=HS.putG hP131 hG129 hF130 (j:=1) rfl
 obtain ⟨Ls137,Lf138,hG139,hF140,hP141⟩:=HS.putG hP136 hG134 hF135 (j:=0) rfl
 obtain ⟨Ls142,Lf143,hG144,hF145,hP146⟩:=HS.pushN hP141 hG139 hF140
 cases hF145
 have hH147:=HS.push0 hP146
 refine aq h100 ?_
 refine q (J 0) ?_
 refine nl ?_
 cases h
 exact AW.ret ⟨⟨_,hH147⟩,_,_,rfl,(Fin.T (k:=8) (.cons (HS.finR hH147 hG144 (j:=0) rfl (Or.inr ⟨rfl,rfl⟩) (by decide) _) (.cons (Fin.of (p:=rJ 0) .I rfl) .nil))).2⟩
theorem laws_FnExactMissingAfter_ok {p1:Stream} {p1_22:List Deed} {z2 z6 z10 z14 z18 z23:Nat} {f3 f7 f11 f15 f19 f24:Bool} {e4 e8 e12 e16 e20 e25:List AV} {s:St} (h5:LR rB 1 p1.Checker.Accept z2 e4) (h9:LR (rL rPush 2) 1 p1.Checker.Call z6 e8) (h13:LR (rL (rL rJ 1) 1) 1 p1.Checker.Return z10 e12) (h17:LR (rL rJ 1) 1 p1.Checker.Inner z14 e16) (h21:LR rS 1 p1.Pieces z18 e20) (h26:LR rDeed 3 p1_22 z23 e25) {r:Bool} (h:laws_FnExactMissingAfter p1 p1_22=some r) (hs:WF s) (hz:s.n=0∧s.ro=0):ACall Cf 3 [(agg [(J p1.Checker.Stack),(J p1.Checker.Start),(sl z2 f3 e4),(sl z6 f7 e8),(sl z10 f11 e12),(sl z14 f15 e16),(sl z18 f19 e20)]),(sl z23 f24 e25)] s fun v _ s'=>(rB) r v∧s'=s:=by
 refine ACall.boxes rfl rfl rfl ?_
 have hH0:=HS.g0 (HS.init hs)
 have hG0:=AllG.nil
 have hl:LoOK [] false s:=LoOK.nil
 unfold laws_FnExactMissingAfter at h
 refine sr ?_
 refine AOps.makeR rfl rfl rfl rfl rfl rfl (rfl:_=(eptr [(J p1.Checker.Stack),(J p1.Checker.Start),(sl z2 f3 e4),(sl z6 f7 e8),(sl z10 f11 e12),(sl z14 f15 e16),(sl z18 f19 e20)] 0)) ?_
 refine q (bool false) ?_
 refine ns ?_
 refine q (J 1048576) ?_
 refine ns ?_
 refine lE (agg [(J p1.Checker.Stack),(J p1.Checker.Start),(sl z2 f3 e4),(sl z6 f7 e8),(sl z10 f11 e12),(sl z14 f15 e16),(sl z18 f19 e20)]) ?_
 refine q (J 1048576) ?_
 obtain ⟨y27,h28,h⟩:=obind h
 refine AOps.callP (g:=4) (args:=[(agg [(J p1.Checker.Stack),(J p1.Checker.Start),(sl z2 f3 e4),(sl z6 f7 e8),(sl z10 f11 e12),(sl z14 f15 e16),(sl z18 f19 e20)]),(J 1048576)]) (p:=rJ y27) rfl rfl rfl (laws_szStream_ok h5 h9 h13 h17 h21 h28 (HS.wf' hH0)) ?_
 intro _ o30 h29
 cases h29
 refine aq (J y27) ?_
 refine nl ?_
 refine AW.seq ?_
 refine sr ?_
 refine q (J y27) ?_
 refine q (bool (decide ((y27:Int)<0))) ?_
 refine nl ?_
 rcases oite h with ⟨hc31,h⟩ | ⟨hc31,h⟩
 ·refine AW.condT (congrArg bool hc31) ?_
  refine sr ?_
  refine q (bool true) ?_
  refine nl ?_
  cases h
  exact AW.ret ⟨⟨_,hH0⟩,_,_,rfl,(Fin.of (p:=(rB) true) .B rfl).2⟩
 refine AW.condF (congrArg bool hc31) ?_
 refine AW.skip ?_
 refine sr ?_
 refine q (sl z23 f24 e25) ?_
 refine q (J y27) ?_
 obtain ⟨y32,h33,h⟩:=obind h
 refine AOps.callP (g:=5) (args:=[(sl z23 f24 e25),(J y27)]) (p:=rJ y32) rfl rfl rfl (laws_szDeedS_ok h26 h33 (HS.wf' hH0)) ?_
 intro _ o35 h34
 cases h34
 refine aq (J y32) ?_
 refine nl ?_
 refine AW.seq ?_
 refine sr ?_
 refine q (J y32) ?_
 refine q (bool (decide ((y32:Int)<0))) ?_
 refine nl ?_
 rcases oite h with ⟨hc36,h⟩ | ⟨hc36,h⟩
 ·refine AW.condT (congrArg bool hc36) ?_
  refine sr ?_
  refine q (bool true) ?_
  refine nl ?_
  cases h
  exact AW.ret ⟨⟨_,hH0⟩,_,_,rfl,(Fin.of (p:=(rB) true) .B rfl).2⟩
 refine AW.condF (congrArg bool hc36) ?_
 refine AW.skip ?_
 refine sr ?_
 refine lE (agg [(J p1.Checker.Stack),(J p1.Checker.Start),(sl z2 f3 e4),(sl z6 f7 e8),(sl z10 f11 e12),(sl z14 f15 e16),(sl z18 f19 e20)]) ?_
 obtain ⟨y37,h38,h⟩:=obind h
 refine AOps.callP (g:=7) (args:=[(agg [(J p1.Checker.Stack),(J p1.Checker.Start),(sl z2 f3 e4),(sl z6 f7 e8),(sl z10 f11 e12),(sl z14 f15 e16),(sl z18 f19 e20)])]) (p:=(rStream) y37) rfl rfl rfl (laws_toStream_ok h5 h9 h13 h17 h21 h38 (HS.wf' hH0)) ?_
 intro _ o75 h39
 obtain ⟨_,rfl,h40⟩:=h39
 obtain ⟨_,_,rfl,h41,h42⟩:=Cs_cons h40
 cases h41
 obtain ⟨_,_,rfl,h43,h44⟩:=Cs_cons h42
 cases h43
 obtain ⟨_,_,rfl,h45,h46⟩:=Cs_cons h44
 obtain ⟨z47,f48,e49,rfl,h50⟩:=h45
 obtain ⟨_,_,rfl,h51,h52⟩:=Cs_cons h46
 obtain ⟨z53,f54,e55,rfl,h56⟩:=h51
 obtain ⟨_,_,rfl,h57,h58⟩:=Cs_cons h52
 obtain ⟨z59,f60,e61,rfl,h62⟩:=h57
 obtain ⟨_,_,rfl,h63,h64⟩:=Cs_cons h58
 obtain ⟨z65,f66,e67,rfl,h68⟩:=h63
 obtain ⟨_,_,rfl,h69,h70⟩:=Cs_cons h64
 obtain ⟨z71,f72,e73,rfl,h74⟩:=h69
 cases Cs_nil h70
 refine q (sl z23 f24 e25) ?_
 obtain ⟨y76,h77,h⟩:=obind h
 refine AOps.callP (g:=8) (args:=[(sl z23 f24 e25)]) (p:=(rL rDeed 3) y76) rfl rfl rfl (laws_toDeedS_ok h26 h77 (HS.wf' hH0)) ?_
 intro _ o83 h78
 obtain ⟨z79,f80,e81,rfl,h82⟩:=h78
 obtain ⟨y84,h85,h⟩:=obind h
 refine AOps.callP (g:=6) (args:=[(agg [(J y37.Checker.Stack),(J y37.Checker.Start),(sl z47 f48 e49),(sl z53 f54 e55),(sl z59 f60 e61),(sl z65 f66 e67),(sl z71 f72 e73)]),(sl z79 f80 e81)]) (p:=(fun x=>rT [(rL rJ 1) x.1,rJ x.2]) y84) rfl rfl rfl (spec_MissingAfter_ok h50 h56 h62 h68 h74 h82 h85 (HS.wf' hH0)) ?_
 intro _ o96 h86
 obtain ⟨_,rfl,h87⟩:=h86
 obtain ⟨_,_,rfl,h88,h89⟩:=Cs_cons h87
 obtain ⟨z90,f91,e92,rfl,h93⟩:=h88
 obtain ⟨_,_,rfl,h94,h95⟩:=Cs_cons h89
 cases h94
 cases Cs_nil h95
 refine q (AV.tup [(sl z90 f91 e92),(J y84.2)]) ?_
 refine q (sl z90 f91 e92) ?_
 refine q (J y84.2) ?_
 refine aq (sl z90 f91 e92) ?_
 refine aq (J y84.2) ?_
 refine ns ?_
 refine lE (agg [(J p1.Checker.Stack),(J p1.Checker.Start),(sl z2 f3 e4),(sl z6 f7 e8),(sl z10 f11 e12),(sl z14 f15 e16),(sl z18 f19 e20)]) ?_
 obtain ⟨y97,h98,h⟩:=obind h
 have hP114:=HS.pop0 hH0
 refine AOps.callF (al:=true) (g:=7) (args:=[(agg [(J p1.Checker.Stack),(J p1.Checker.Start),(sl z2 f3 e4),(sl z6 f7 e8),(sl z10 f11 e12),(sl z14 f15 e16),(sl z18 f19 e20)])]) rfl rfl rfl (laws_toStream_K0_ok h5 h9 h13 h17 h21  h98 (HS.wf' hH0)) ?_
 rintro _ _ s115 ⟨h99,k100,h102,k103,h105,k106,h108,k109,h111,k112,Ls117,rfl,hH118,hG119,ho101,ho104,ho107,ho110,ho113⟩
 have hJ120:=HS.joinK1 hP114 hH118
 obtain ⟨Ls121,Lf122,hG123,hF124,hP125⟩:=HS.pushN hJ120 hG0 hG119
 obtain ⟨Ls126,Lf127,hG128,hF129,hP130⟩:=HS.pushN hP125 hG123 hF124
 obtain ⟨Ls131,Lf132,hG133,hF134,hP135⟩:=HS.pushN hP130 hG128 hF129
 obtain ⟨Ls136,Lf137,hG138,hF139,hP140⟩:=HS.pushN hP135 hG133 hF134
 obtain ⟨Ls141,Lf142,hG143,hF144,hP145⟩:=HS.pushN hP140 hG138 hF139
 cases hF144
 have hH146:=HS.push0 hP145
 change HS [] false s s115 (([]:List BX)++Ls141.flatten) at hH146
 change AllG [OS oE9 h111 k112 y97.Pieces,OS oE34 h108 k109 y97.Checker.Inner,OS oE25 h105 k106 y97.Checker.Return,OS oE120 h102 k103 y97.Checker.Call,OS oE4 h99 k100 y97.Checker.Accept] Ls141 at hG143
 refine AOps.allocP rfl rfl rfl rfl ⟨rfl,rfl⟩ rfl ?_
 refine AOps.stP (v:=(agg [(J y97.Checker.Stack),(J y97.Checker.Start),h99,h102,h105,h108,h111])) rfl rfl rfl rfl rfl rfl rfl (lay_cons rfl (lay_cons rfl (lay_cons ho101 (lay_cons ho104 (lay_cons ho107 (lay_cons ho110 (lay_cons ho113 lay_nil))))))) rfl (lt_b rfl) rfl ?_
 refine ns ?_
 refine q (sl z23 f24 e25) ?_
 obtain ⟨y147,h148,h⟩:=obind h
 have hP152:=HS.pop0 hH146
 refine AOps.callF (al:=true) (g:=8) (args:=[(sl z23 f24 e25)]) rfl rfl rfl (laws_toDeedS_K0_ok h26  h148 (HS.wf' hH146)) ?_
 rintro h149 _ s153 ⟨_,k150,Ls155,rfl,hH156,hG157,ho151⟩
 have hJ158:=HS.joinK1 hP152 hH156
 obtain ⟨Ls159,Lf160,hG161,hF162,hP163⟩:=HS.pushN hJ158 hG143 hG157
 cases hF162
 have hH164:=HS.push0 hP163
 change HS [] false s s153 (([]:List BX)++Ls159.flatten) at hH164
 change AllG [OS oE63 h149 k150 y147,OS oE9 h111 k112 y97.Pieces,OS oE34 h108 k109 y97.Checker.Inner,OS oE25 h105 k106 y97.Checker.Return,OS oE120 h102 k103 y97.Checker.Call,OS oE4 h99 k100 y97.Checker.Accept] Ls159 at hG161
 refine aq h149 ?_
 refine ns ?_
 refine lE (agg [(J y97.Checker.Stack),(J y97.Checker.Start),h99,h102,h105,h108,h111]) ?_
 refine q h149 ?_
 obtain ⟨y165,h166,h⟩:=obind h
 refine AOps.lendK (al:=true) (g:=9) (args:=[(agg [(J y97.Checker.Stack),(J y97.Checker.Start),h99,h102,h105,h108,h111]),h149]) (ps:=[(rStream) y97,(rL rDeed 3) y147]) (p:=fun v s'=>∃ (h206:AV) (k207:KT) (Ls':List (List BX)),v=(AV.tup [h206,(J y165.2)])∧HS [] true s153.blind s' (([]:List BX)++Ls'.flatten)∧AllG [OS oE2 h206 k207 y165.1] Ls'∧h206.one=true) rfl rfl rfl rfl rfl rfl rfl (.cons (Fin.A (.cons (Fin.of (p:=rJ y97.Checker.Stack) .I rfl) (.cons (Fin.of (p:=rJ y97.Checker.Start) .I rfl) (.cons (Fin.up (by decide) (HS.finS hH164 hG161 (j:=5) rfl Sub.here (Or.inl rfl))) (.cons (Fin.up (by decide) (HS.finS hH164 hG161 (j:=4) rfl Sub.here (Or.inl rfl))) (.cons (Fin.up (by decide) (HS.finS hH164 hG161 (j:=3) rfl Sub.here (Or.inl rfl))) (.cons (Fin.up (by decide) (HS.finS hH164 hG161 (j:=2) rfl Sub.here (Or.inl rfl))) (.cons (Fin.up (by decide) (HS.finS hH164 hG161 (j:=1) rfl Sub.here (Or.inl rfl))) .nil)))))))) (.cons (Fin.up (by decide) (HS.finS hH164 hG161 (j:=0) rfl Sub.here (Or.inl rfl))) .nil)) (fun args' hc=>by obtain ⟨_,_,rfl,hv0,hd0⟩:=Cs_cons hc; obtain ⟨_,rfl,h167⟩:=hv0; obtain ⟨_,_,rfl,h168,h169⟩:=Cs_cons h167; cases h168; obtain ⟨_,_,rfl,h170,h171⟩:=Cs_cons h169; cases h170; obtain ⟨_,_,rfl,h172,h173⟩:=Cs_cons h171; obtain ⟨z174,f175,e176,rfl,h177⟩:=h172; obtain ⟨_,_,rfl,h178,h179⟩:=Cs_cons h173; obtain ⟨z180,f181,e182,rfl,h183⟩:=h178; obtain ⟨_,_,rfl,h184,h185⟩:=Cs_cons h179; obtain ⟨z186,f187,e188,rfl,h189⟩:=h184; obtain ⟨_,_,rfl,h190,h191⟩:=Cs_cons h185; obtain ⟨z192,f193,e194,rfl,h195⟩:=h190; obtain ⟨_,_,rfl,h196,h197⟩:=Cs_cons h191; obtain ⟨z198,f199,e200,rfl,h201⟩:=h196; cases Cs_nil h197; obtain ⟨_,_,rfl,hv1,hd1⟩:=Cs_cons hd0; obtain ⟨z202,f203,e204,rfl,h205⟩:=hv1; cases Cs_nil hd1; exact impl_MissingAfter_K00_okN h177 h183 h189 h195 h201 h205 h166 WF.blind) (by rintro v s1 ⟨_,_,Lq,rfl,hHq,hGq,_⟩; simp[AV.flatB,AV.flatL,HS.flatB0 hHq hGq (j:=0) rfl (Flt.leaf (fun x v n hr=>by cases hr; rfl))]) ?_
 rintro _ s209 ⟨h206,k207,Ls211,rfl,hH212,hG213,ho208⟩
 have hH214:=HS.joinL (Lf:=Ls211) hH164 (by simpa using hH212) hG213 (FG.cons (Flt.leaf (fun x v n hr=>by cases hr; rfl)) FG.nil)
 have hG215:=AllG.app hG213 hG161
 have hH216:=HS.reL hH214
 change HS [] false s (St.join s153 s209) (([]:List BX)++List.flatten (Ls211++Ls159)) at hH216
 change AllG [OS oE2 h206 k207 y165.1,OS oE63 h149 k150 y147,OS oE9 h111 k112 y97.Pieces,OS oE34 h108 k109 y97.Checker.Inner,OS oE25 h105 k106 y97.Checker.Return,OS oE120 h102 k103 y97.Checker.Call,OS oE4 h99 k100 y97.Checker.Accept] (Ls211++Ls159) at hG215
 refine q (AV.tup [h206,(J y165.2)]) ?_
 refine q h206 ?_
 refine q (J y165.2) ?_
 refine aq h206 ?_
 refine aq (J y165.2) ?_
 refine nl ?_
 refine AW.seq ?_
 refine sr ?_
 refine q h206 ?_
 refine q (sl z90 f91 e92) ?_
 obtain ⟨y217,h218,h⟩:=obind h
 refine AOps.lendP (g:=10) (args:=[h206,(sl z90 f91 e92)]) (ps:=[(rL rJ 1) y165.1,(rL rJ 1) y84.1]) (p:=(rB) y217) rfl rfl rfl rfl rfl rfl rfl (.cons (Fin.up (by decide) (HS.finS hH216 hG215 (j:=0) rfl Sub.here (Or.inl rfl))) (.cons (Fin.of (p:=(rL rJ 1) y84.1) (.L fun _=>.I) (⟨_,_,_,rfl,h93⟩)) .nil)) (fun args' hc=>by obtain ⟨_,_,rfl,hv0,hd0⟩:=Cs_cons hc; obtain ⟨z219,f220,e221,rfl,h222⟩:=hv0; obtain ⟨_,_,rfl,hv1,hd1⟩:=Cs_cons hd0; obtain ⟨z223,f224,e225,rfl,h226⟩:=hv1; cases Cs_nil hd1; exact laws_eqInt64S_okN h222 h226 h218 WF.blind) (fun v n hv=>by cases hv; rfl) ?_
 intro _ h227
 cases h227
 refine q (bool (!y217)) ?_
 refine q (bool (!y217)) ?_
 refine AOps.split 4 (fun f'=>∃ tm' os',f'=⟨updL tm' [(1,(sl z23 f24 e25)),(2,(eptr [(J p1.Checker.Stack),(J p1.Checker.Start),(sl z2 f3 e4),(sl z6 f7 e8),(sl z10 f11 e12),(sl z14 f15 e16),(sl z18 f19 e20)] 0)),(6,(sl z90 f91 e92)),(7,(J y84.2)),(8,(eptr [(J y97.Checker.Stack),(J y97.Checker.Start),h99,h102,h105,h108,h111] 0)),(9,h149),(10,h206),(11,(J y165.2)),(53,(bool ((!y217)||(y165.2 != y84.2))))],updL os' [],(St.join s153 s209)⟩) ?_ ?_
 ·rcases Bool.eq_false_or_eq_true (!y217) with hc228 | hc228
  ·refine AOps.know (d:=49) rfl hc228 ?_
   refine sk ?_
   refine sk ?_
   refine sk ?_
   refine q (bool true) ?_
   refine AOps.resR [(1,(sl z23 f24 e25)),(2,(eptr [(J p1.Checker.Stack),(J p1.Checker.Start),(sl z2 f3 e4),(sl z6 f7 e8),(sl z10 f11 e12),(sl z14 f15 e16),(sl z18 f19 e20)] 0)),(6,(sl z90 f91 e92)),(7,(J y84.2)),(8,(eptr [(J y97.Checker.Stack),(J y97.Checker.Start),h99,h102,h105,h108,h111] 0)),(9,h149),(10,h206),(11,(J y165.2)),(53,(bool ((!y217)||(y165.2 != y84.2))))] [] ?_ ?_ _ ⟨_,_,rfl⟩
   ·exact ⟨rfl,rfl,rfl,rfl,rfl,rfl,rfl,rfl,congrArg bool (or_t hc228),trivial⟩
   exact trivial
  ·refine AOps.know (d:=49) rfl hc228 ?_
   refine q (J y165.2) ?_
   refine q (J y84.2) ?_
   refine q (bool (y165.2 != y84.2)) ?_
   refine q (bool (y165.2 != y84.2)) ?_
   refine AOps.resR [(1,(sl z23 f24 e25)),(2,(eptr [(J p1.Checker.Stack),(J p1.Checker.Start),(sl z2 f3 e4),(sl z6 f7 e8),(sl z10 f11 e12),(sl z14 f15 e16),(sl z18 f19 e20)] 0)),(6,(sl z90 f91 e92)),(7,(J y84.2)),(8,(eptr [(J y97.Checker.Stack),(J y97.Checker.Start),h99,h102,h105,h108,h111] 0)),(9,h149),(10,h206),(11,(J y165.2)),(53,(bool ((!y217)||(y165.2 != y84.2))))] [] ?_ ?_ _ ⟨_,_,rfl⟩
   ·exact ⟨rfl,rfl,rfl,rfl,rfl,rfl,rfl,rfl,congrArg bool (or_f hc228),trivial⟩
   exact trivial
 rintro _ ⟨tm,os,rfl⟩
 refine nl ?_
 rcases oite h with ⟨hc229,h⟩ | ⟨hc229,h⟩
 ·refine AW.condT (congrArg bool hc229) ?_
  refine sr ?_
  refine q (bool false) ?_
  refine nl ?_
  cases h
  exact AW.ret ⟨⟨_,hH216⟩,_,_,rfl,(Fin.of (p:=(rB) false) .B rfl).2⟩
 refine AW.condF (congrArg bool hc229) ?_
 refine AW.skip ?_
 refine AW.seq ?_
 refine sr ?_
 refine lE (agg [(J y97.Checker.Stack),(J y97.Checker.Start),h99,h102,h105,h108,h111]) ?_
 refine lE (agg [(J p1.Checker.Stack),(J p1.Checker.Start),(sl z2 f3 e4),(sl z6 f7 e8),(sl z10 f11 e12),(sl z14 f15 e16),(sl z18 f19 e20)]) ?_
 obtain ⟨y230,h231,h⟩:=obind h
 refine AOps.callDP (g:=7) (args:=[(agg [(J p1.Checker.Stack),(J p1.Checker.Start),(sl z2 f3 e4),(sl z6 f7 e8),(sl z10 f11 e12),(sl z14 f15 e16),(sl z18 f19 e20)])]) (p:=(rStream) y230) rfl rfl rfl (laws_toStream_ok h5 h9 h13 h17 h21 h231 ((HS.wf' hH216).still)) (fun v hv=>Nice.pure (k:=FINK) (p:=(rStream) y230) (.A (.cons .I (.cons .I (.cons (.L fun _=>.B) (.cons (.L fun _=>(.L fun _=>(.A (.cons .I (.cons .I .nil))))) (.cons (.L fun _=>(.L fun _=>(.L fun _=>.I))) (.cons (.L fun _=>(.L fun _=>.I)) (.cons (.L fun _=>.S) .nil)))))))) _ v hv) ?_
 intro _ o268 h232
 obtain ⟨_,rfl,h233⟩:=h232
 obtain ⟨_,_,rfl,h234,h235⟩:=Cs_cons h233
 cases h234
 obtain ⟨_,_,rfl,h236,h237⟩:=Cs_cons h235
 cases h236
 obtain ⟨_,_,rfl,h238,h239⟩:=Cs_cons h237
 obtain ⟨z240,f241,e242,rfl,h243⟩:=h238
 obtain ⟨_,_,rfl,h244,h245⟩:=Cs_cons h239
 obtain ⟨z246,f247,e248,rfl,h249⟩:=h244
 obtain ⟨_,_,rfl,h250,h251⟩:=Cs_cons h245
 obtain ⟨z252,f253,e254,rfl,h255⟩:=h250
 obtain ⟨_,_,rfl,h256,h257⟩:=Cs_cons h251
 obtain ⟨z258,f259,e260,rfl,h261⟩:=h256
 obtain ⟨_,_,rfl,h262,h263⟩:=Cs_cons h257
 obtain ⟨z264,f265,e266,rfl,h267⟩:=h262
 cases Cs_nil h263
 obtain ⟨y269,h270,h⟩:=obind h
 refine AOps.lendD (g:=11) (args:=[(agg [(J y97.Checker.Stack),(J y97.Checker.Start),h99,h102,h105,h108,h111]),(agg [(J y230.Checker.Stack),(J y230.Checker.Start),(sl z240 f241 e242),(sl z246 f247 e248),(sl z252 f253 e254),(sl z258 f259 e260),(sl z264 f265 e266)])]) (ps:=[(rStream) y97,(rStream) y230]) (p:=(rB) y269) rfl rfl rfl rfl rfl rfl rfl (.cons (Fin.A (.cons (Fin.of (p:=rJ y97.Checker.Stack) .I rfl) (.cons (Fin.of (p:=rJ y97.Checker.Start) .I rfl) (.cons (Fin.up (by decide) (HS.finSt hH216 hG215 (j:=6) rfl Sub.here)) (.cons (Fin.up (by decide) (HS.finSt hH216 hG215 (j:=5) rfl Sub.here)) (.cons (Fin.up (by decide) (HS.finSt hH216 hG215 (j:=4) rfl Sub.here)) (.cons (Fin.up (by decide) (HS.finSt hH216 hG215 (j:=3) rfl Sub.here)) (.cons (Fin.up (by decide) (HS.finSt hH216 hG215 (j:=2) rfl Sub.here)) .nil)))))))) (.cons (Fin.of (p:=(rStream) y230) (.A (.cons .I (.cons .I (.cons (.L fun _=>.B) (.cons (.L fun _=>(.L fun _=>(.A (.cons .I (.cons .I .nil))))) (.cons (.L fun _=>(.L fun _=>(.L fun _=>.I))) (.cons (.L fun _=>(.L fun _=>.I)) (.cons (.L fun _=>.S) .nil)))))))) (⟨_,rfl,(.cons rfl (.cons rfl (.cons ⟨_,_,_,rfl,h243⟩ (.cons ⟨_,_,_,rfl,h249⟩ (.cons ⟨_,_,_,rfl,h255⟩ (.cons ⟨_,_,_,rfl,h261⟩ (.cons ⟨_,_,_,rfl,h267⟩ .nil)))))))⟩)) .nil)) (fun args' hc=>by obtain ⟨_,_,rfl,hv0,hd0⟩:=Cs_cons hc; obtain ⟨_,rfl,h271⟩:=hv0; obtain ⟨_,_,rfl,h272,h273⟩:=Cs_cons h271; cases h272; obtain ⟨_,_,rfl,h274,h275⟩:=Cs_cons h273; cases h274; obtain ⟨_,_,rfl,h276,h277⟩:=Cs_cons h275; obtain ⟨z278,f279,e280,rfl,h281⟩:=h276; obtain ⟨_,_,rfl,h282,h283⟩:=Cs_cons h277; obtain ⟨z284,f285,e286,rfl,h287⟩:=h282; obtain ⟨_,_,rfl,h288,h289⟩:=Cs_cons h283; obtain ⟨z290,f291,e292,rfl,h293⟩:=h288; obtain ⟨_,_,rfl,h294,h295⟩:=Cs_cons h289; obtain ⟨z296,f297,e298,rfl,h299⟩:=h294; obtain ⟨_,_,rfl,h300,h301⟩:=Cs_cons h295; obtain ⟨z302,f303,e304,rfl,h305⟩:=h300; cases Cs_nil h301; obtain ⟨_,_,rfl,hv1,hd1⟩:=Cs_cons hd0; obtain ⟨_,rfl,h306⟩:=hv1; obtain ⟨_,_,rfl,h307,h308⟩:=Cs_cons h306; cases h307; obtain ⟨_,_,rfl,h309,h310⟩:=Cs_cons h308; cases h309; obtain ⟨_,_,rfl,h311,h312⟩:=Cs_cons h310; obtain ⟨z313,f314,e315,rfl,h316⟩:=h311; obtain ⟨_,_,rfl,h317,h318⟩:=Cs_cons h312; obtain ⟨z319,f320,e321,rfl,h322⟩:=h317; obtain ⟨_,_,rfl,h323,h324⟩:=Cs_cons h318; obtain ⟨z325,f326,e327,rfl,h328⟩:=h323; obtain ⟨_,_,rfl,h329,h330⟩:=Cs_cons h324; obtain ⟨z331,f332,e333,rfl,h334⟩:=h329; obtain ⟨_,_,rfl,h335,h336⟩:=Cs_cons h330; obtain ⟨z337,f338,e339,rfl,h340⟩:=h335; cases Cs_nil h336; cases Cs_nil hd1; exact laws_eqStream_okN h281 h287 h293 h299 h305 h316 h322 h328 h334 h340 h270 WF.blind) (fun v n hv=>by cases hv; rfl) (fun v hv=>Nice.pure (k:=FINK) (p:=(rB) y269) .B _ v hv) ?_
 intro _ h341
 cases h341
 refine q (bool (!y269)) ?_
 refine nl ?_
 rcases oite h with ⟨hc342,h⟩ | ⟨hc342,h⟩
 ·refine AW.condT (congrArg bool hc342) ?_
  refine sr ?_
  refine q (bool false) ?_
  refine nl ?_
  cases h
  exact AW.ret ⟨⟨_,hH216⟩,_,_,rfl,(Fin.of (p:=(rB) false) .B rfl).2⟩
 refine AW.condF (congrArg bool hc342) ?_
 refine AW.skip ?_
 refine AW.seq ?_
 refine sr ?_
 refine q h149 ?_
 refine q (sl z23 f24 e25) ?_
 obtain ⟨y343,h344,h⟩:=obind h
 refine AOps.callP (g:=8) (args:=[(sl z23 f24 e25)]) (p:=(rL rDeed 3) y343) rfl rfl rfl (laws_toDeedS_ok h26 h344 (HS.wf' hH216)) ?_
 intro _ o350 h345
 obtain ⟨z346,f347,e348,rfl,h349⟩:=h345
 obtain ⟨y351,h352,h⟩:=obind h
 refine AOps.lendP (g:=12) (args:=[h149,(sl z346 f347 e348)]) (ps:=[(rL rDeed 3) y147,(rL rDeed 3) y343]) (p:=(rB) y351) rfl rfl rfl rfl rfl rfl rfl (.cons (Fin.up (by decide) (HS.finS hH216 hG215 (j:=1) rfl Sub.here (Or.inl rfl))) (.cons (Fin.of (p:=(rL rDeed 3) y343) (.L fun _=>(.A (.cons .I (.cons .I (.cons .I .nil))))) (⟨_,_,_,rfl,h349⟩)) .nil)) (fun args' hc=>by obtain ⟨_,_,rfl,hv0,hd0⟩:=Cs_cons hc; obtain ⟨z353,f354,e355,rfl,h356⟩:=hv0; obtain ⟨_,_,rfl,hv1,hd1⟩:=Cs_cons hd0; obtain ⟨z357,f358,e359,rfl,h360⟩:=hv1; cases Cs_nil hd1; exact laws_eqDeedS_okN h356 h360 h352 WF.blind) (fun v n hv=>by cases hv; rfl) ?_
 intro _ h361
 cases h361
 refine q (bool (!y351)) ?_
 refine nl ?_
 rcases oite h with ⟨hc362,h⟩ | ⟨hc362,h⟩
 ·refine AW.condT (congrArg bool hc362) ?_
  refine sr ?_
  refine q (bool false) ?_
  refine nl ?_
  cases h
  exact AW.ret ⟨⟨_,hH216⟩,_,_,rfl,(Fin.of (p:=(rB) false) .B rfl).2⟩
 refine AW.condF (congrArg bool hc362) ?_
 refine AW.skip ?_
 refine sr ?_
 refine q (J 1) ?_
 refine ns ?_
 refine lE (agg [(J y97.Checker.Stack),(J y97.Checker.Start),h99,h102,h105,h108,h111]) ?_
 refine q (J 1) ?_
 obtain ⟨y363,h364,h⟩:=obind h
 have hP365:=HS.pop0 hH216
 have hF0:AllG ([]:List (List BX→Prop)) []:=AllG.nil
 obtain ⟨Ls366,Lf367,hG368,hF369,hP370⟩:=HS.popG hP365 hG215 hF0 (j:=6) rfl
 obtain ⟨Ls371,Lf372,hG373,hF374,hP375⟩:=HS.popG hP370 hG368 hF369 (j:=5) rfl
 obtain ⟨Ls376,Lf377,hG378,hF379,hP380⟩:=HS.popG hP375 hG373 hF374 (j:=4) rfl
 obtain ⟨Ls381,Lf382,hG383,hF384,hP385⟩:=HS.popG hP380 hG378 hF379 (j:=3) rfl
 obtain ⟨Ls386,Lf387,hG388,hF389,hP390⟩:=HS.popG hP385 hG383 hF384 (j:=2) rfl
 refine AOps.callF (al:=true) (g:=13) (args:=[(agg [(J y97.Checker.Stack),(J y97.Checker.Start),h99,h102,h105,h108,h111]),(J 1)]) rfl rfl rfl (laws_markStream_K10_ok (a1:=y97) ho101 ho104 ho107 ho110 ho113 (HS.enterK hP390) hF389 (HS.enterLo hP390 hl) h364 (HS.wf' hH216)) ?_
 rintro _ _ s391 ⟨Ls393,rfl,hH394,hG395⟩
 have hJ396:=HS.joinK hP390 hH394
 obtain ⟨Ls397,Lf398,hG399,hF400,hP401⟩:=HS.putG hJ396 hG388 hG395 (j:=6) rfl
 obtain ⟨Ls402,Lf403,hG404,hF405,hP406⟩:=HS.putG hP401 hG399 hF400 (j:=5) rfl
 obtain ⟨Ls407,Lf408,hG409,hF410,hP411⟩:=HS.putG hP406 hG404 hF405 (j:=4) rfl
 obtain ⟨Ls412,Lf413,hG414,hF415,hP416⟩:=HS.putG hP411 hG409 hF410 (j:=3) rfl
 obtain ⟨Ls417,Lf418,hG419,hF420,hP421⟩:=HS.putG hP416 hG414 hF415 (j:=2) rfl
 cases hF420
 have hH422:=HS.push0 hP421
 change HS [] false s s391 (([]:List BX)++Ls417.flatten) at hH422
 change AllG [OS oE2 h206 k207 y165.1,OS oE63 h149 k150 y147,OS oE9 h111 k112 y363.2.2.2.2.2,OS oE34 h108 k109 y363.2.2.2.2.1,OS oE25 h105 k106 y363.2.2.2.1,OS oE120 h102 k103 y363.2.2.1,OS oE4 h99 k100 y363.2.1] Ls417 at hG419
 refine aq (J y363.1) ?_
 refine ns ?_
 refine q h149 ?_
 refine q (J y363.1) ?_
 obtain ⟨y423,h424,h⟩:=obind h
 have hP425:=HS.pop0 hH422
 have hF0:AllG ([]:List (List BX→Prop)) []:=AllG.nil
 obtain ⟨Ls426,Lf427,hG428,hF429,hP430⟩:=HS.popG hP425 hG419 hF0 (j:=1) rfl
 refine AOps.callF (al:=true) (g:=14) (args:=[h149,(J y363.1)]) rfl rfl rfl (laws_markDeedS_K10_ok ho151 (HS.enterK hP430) hF429 (HS.enterLo hP430 hl) h424 (HS.wf' hH422)) ?_
 rintro _ _ s431 ⟨Ls433,rfl,hH434,hG435⟩
 have hJ436:=HS.joinK hP430 hH434
 obtain ⟨Ls437,Lf438,hG439,hF440,hP441⟩:=HS.putG hJ436 hG428 hG435 (j:=1) rfl
 cases hF440
 have hH442:=HS.push0 hP441
 change HS [] false s s431 (([]:List BX)++Ls437.flatten) at hH442
 change AllG [OS oE2 h206 k207 y165.1,OS oE63 h149 k150 y423.2,OS oE9 h111 k112 y363.2.2.2.2.2,OS oE34 h108 k109 y363.2.2.2.2.1,OS oE25 h105 k106 y363.2.2.2.1,OS oE120 h102 k103 y363.2.2.1,OS oE4 h99 k100 y363.2.1] Ls437 at hG439
 refine aq (J y423.1) ?_
 refine nl ?_
 refine AW.seq ?_
 refine sr ?_
 refine q (J y423.1) ?_
 refine q (bool (decide ((y423.1:Int)<0))) ?_
 refine q (bool (decide ((y423.1:Int)<0))) ?_
 obtain ⟨b444,hb,h⟩:=obind h
 refine AOps.split 5 (fun f'=>∃ tm' os',f'=⟨updL tm' [(1,(sl z23 f24 e25)),(2,(eptr [(J p1.Checker.Stack),(J p1.Checker.Start),(sl z2 f3 e4),(sl z6 f7 e8),(sl z10 f11 e12),(sl z14 f15 e16),(sl z18 f19 e20)] 0)),(6,(sl z90 f91 e92)),(7,(J y84.2)),(10,h206),(11,(J y165.2)),(77,(bool b444))],updL os' [],s431⟩) ?_ ?_
 ·rcases oite hb with ⟨hc443,hb⟩ | ⟨hc443,hb⟩
  ·refine AOps.know (d:=72) rfl hc443 ?_
   refine sk ?_
   refine sk ?_
   refine sk ?_
   refine sk ?_
   refine q (bool true) ?_
   refine AOps.resR [(1,(sl z23 f24 e25)),(2,(eptr [(J p1.Checker.Stack),(J p1.Checker.Start),(sl z2 f3 e4),(sl z6 f7 e8),(sl z10 f11 e12),(sl z14 f15 e16),(sl z18 f19 e20)] 0)),(6,(sl z90 f91 e92)),(7,(J y84.2)),(10,h206),(11,(J y165.2)),(77,(bool b444))] [] ?_ ?_ _ ⟨_,_,rfl⟩
   ·exact ⟨rfl,rfl,rfl,rfl,rfl,rfl,congrArg bool (Option.some.inj hb),trivial⟩
   exact trivial
  ·have h:=hb
   refine AOps.know (d:=72) rfl hc443 ?_
   refine q h206 ?_
   refine q (sl z90 f91 e92) ?_
   obtain ⟨y445,h446,h⟩:=obind h
   refine AOps.lendP (g:=10) (args:=[h206,(sl z90 f91 e92)]) (ps:=[(rL rJ 1) y165.1,(rL rJ 1) y84.1]) (p:=(rB) y445) rfl rfl rfl rfl rfl rfl rfl (.cons (Fin.up (by decide) (HS.finS hH442 hG439 (j:=0) rfl Sub.here (Or.inl rfl))) (.cons (Fin.of (p:=(rL rJ 1) y84.1) (.L fun _=>.I) (⟨_,_,_,rfl,h93⟩)) .nil)) (fun args' hc=>by obtain ⟨_,_,rfl,hv0,hd0⟩:=Cs_cons hc; obtain ⟨z447,f448,e449,rfl,h450⟩:=hv0; obtain ⟨_,_,rfl,hv1,hd1⟩:=Cs_cons hd0; obtain ⟨z451,f452,e453,rfl,h454⟩:=hv1; cases Cs_nil hd1; exact laws_eqInt64S_okN h450 h454 h446 WF.blind) (fun v n hv=>by cases hv; rfl) ?_
   intro _ h455
   cases h455
   refine q (bool (!y445)) ?_
   refine q (bool (!y445)) ?_
   refine AOps.resR [(1,(sl z23 f24 e25)),(2,(eptr [(J p1.Checker.Stack),(J p1.Checker.Start),(sl z2 f3 e4),(sl z6 f7 e8),(sl z10 f11 e12),(sl z14 f15 e16),(sl z18 f19 e20)] 0)),(6,(sl z90 f91 e92)),(7,(J y84.2)),(10,h206),(11,(J y165.2)),(77,(bool b444))] [] ?_ ?_ _ ⟨_,_,rfl⟩
   ·exact ⟨rfl,rfl,rfl,rfl,rfl,rfl,congrArg bool (Option.some.inj h),trivial⟩
   exact trivial
 rintro _ ⟨tm,os,rfl⟩
 refine q (bool b444) ?_
 refine AOps.split 4 (fun f'=>∃ tm' os',f'=⟨updL tm' [(1,(sl z23 f24 e25)),(2,(eptr [(J p1.Checker.Stack),(J p1.Checker.Start),(sl z2 f3 e4),(sl z6 f7 e8),(sl z10 f11 e12),(sl z14 f15 e16),(sl z18 f19 e20)] 0)),(6,(sl z90 f91 e92)),(7,(J y84.2)),(10,h206),(82,(bool (b444||(y165.2 != y84.2))))],updL os' [],s431⟩) ?_ ?_
 ·rcases Bool.eq_false_or_eq_true b444 with hc456 | hc456
  ·refine AOps.know (d:=78) rfl hc456 ?_
   refine sk ?_
   refine sk ?_
   refine sk ?_
   refine q (bool true) ?_
   refine AOps.resR [(1,(sl z23 f24 e25)),(2,(eptr [(J p1.Checker.Stack),(J p1.Checker.Start),(sl z2 f3 e4),(sl z6 f7 e8),(sl z10 f11 e12),(sl z14 f15 e16),(sl z18 f19 e20)] 0)),(6,(sl z90 f91 e92)),(7,(J y84.2)),(10,h206),(82,(bool (b444||(y165.2 != y84.2))))] [] ?_ ?_ _ ⟨_,_,rfl⟩
   ·exact ⟨rfl,rfl,rfl,rfl,rfl,congrArg bool (or_t hc456),trivial⟩
   exact trivial
  ·refine AOps.know (d:=78) rfl hc456 ?_
   refine q (J y165.2) ?_
   refine q (J y84.2) ?_
   refine q (bool (y165.2 != y84.2)) ?_
   refine q (bool (y165.2 != y84.2)) ?_
   refine AOps.resR [(1,(sl z23 f24 e25)),(2,(eptr [(J p1.Checker.Stack),(J p1.Checker.Start),(sl z2 f3 e4),(sl z6 f7 e8),(sl z10 f11 e12),(sl z14 f15 e16),(sl z18 f19 e20)] 0)),(6,(sl z90 f91 e92)),(7,(J y84.2)),(10,h206),(82,(bool (b444||(y165.2 != y84.2))))] [] ?_ ?_ _ ⟨_,_,rfl⟩
   ·exact ⟨rfl,rfl,rfl,rfl,rfl,congrArg bool (or_f hc456),trivial⟩
   exact trivial
 rintro _ ⟨tm,os,rfl⟩
 refine nl ?_
 rcases oite h with ⟨hc457,h⟩ | ⟨hc457,h⟩
 ·refine AW.condT (congrArg bool hc457) ?_
  refine sr ?_
  refine q (bool false) ?_
  refine nl ?_
  cases h
  exact AW.ret ⟨⟨_,hH442⟩,_,_,rfl,(Fin.of (p:=(rB) false) .B rfl).2⟩
 refine AW.condF (congrArg bool hc457) ?_
 refine AW.skip ?_
 refine sr ?_
 refine q (J 1) ?_
 refine ns ?_
 refine q h206 ?_
 refine q (J 1) ?_
 obtain ⟨y458,h459,h⟩:=obind h
 have hP460:=HS.pop0 hH442
 have hF0:AllG ([]:List (List BX→Prop)) []:=AllG.nil
 obtain ⟨Ls461,Lf462,hG463,hF464,hP465⟩:=HS.popG hP460 hG439 hF0 (j:=0) rfl
 refine AOps.callF (al:=true) (g:=15) (args:=[h206,(J 1)]) rfl rfl rfl (laws_markInt64S_K10_ok ho208 (HS.enterK hP465) hF464 (HS.enterLo hP465 hl) h459 (HS.wf' hH442)) ?_
 rintro _ _ s466 ⟨Ls468,rfl,hH469,hG470⟩
 have hJ471:=HS.joinK hP465 hH469
 obtain ⟨Ls472,Lf473,hG474,hF475,hP476⟩:=HS.putG hJ471 hG463 hG470 (j:=0) rfl
 cases hF475
 have hH477:=HS.push0 hP476
 change HS [] false s s466 (([]:List BX)++Ls472.flatten) at hH477
 change AllG [OS oE2 h206 k207 y458.2,OS oE63 h149 k150 y423.2,OS oE9 h111 k112 y363.2.2.2.2.2,OS oE34 h108 k109 y363.2.2.2.2.1,OS oE25 h105 k106 y363.2.2.2.1,OS oE120 h102 k103 y363.2.2.1,OS oE4 h99 k100 y363.2.1] Ls472 at hG474
 refine aq (J y458.1) ?_
 refine ns ?_
 refine q (J 1) ?_
 refine ns ?_
 refine q h206 ?_
 refine q (J 1) ?_
 obtain ⟨y478,h479,h⟩:=obind h
 refine AOps.lendP (g:=16) (args:=[h206,(J 1)]) (ps:=[(rL rJ 1) y458.2,rJ 1]) (p:=rJ y478) rfl rfl rfl rfl rfl rfl rfl (.cons (Fin.up (by decide) (HS.finS hH477 hG474 (j:=0) rfl Sub.here (Or.inl rfl))) (.cons (Fin.of (p:=rJ 1) .I rfl) .nil)) (fun args' hc=>by obtain ⟨_,_,rfl,hv0,hd0⟩:=Cs_cons hc; obtain ⟨z480,f481,e482,rfl,h483⟩:=hv0; obtain ⟨_,_,rfl,hv1,hd1⟩:=Cs_cons hd0; cases hv1; cases Cs_nil hd1; exact laws_heldInt64S_okN h483 h479 WF.blind) (fun v n hv=>by cases hv; rfl) ?_
 intro _ h484
 cases h484
 refine aq (J y478) ?_
 refine nl ?_
 refine AW.seq ?_
 refine sr ?_
 refine q (J y478) ?_
 refine q (bool (decide ((y478:Int)<0))) ?_
 refine nl ?_
 rcases oite h with ⟨hc485,h⟩ | ⟨hc485,h⟩
 ·refine AW.condT (congrArg bool hc485) ?_
  refine sr ?_
  refine q (bool false) ?_
  refine nl ?_
  cases h
  exact AW.ret ⟨⟨_,hH477⟩,_,_,rfl,(Fin.of (p:=(rB) false) .B rfl).2⟩
 refine AW.condF (congrArg bool hc485) ?_
 refine AW.skip ?_
 refine AW.seq ?_
 refine sr ?_
 refine q (J y478) ?_
 refine q (J y458.1) ?_
 refine q (bool (y478 != y458.1)) ?_
 refine nl ?_
 rcases oite h with ⟨hc486,h⟩ | ⟨hc486,h⟩
 ·refine AW.condT (congrArg bool hc486) ?_
  refine sr ?_
  refine q (bool false) ?_
  refine nl ?_
  cases h
  exact AW.ret ⟨⟨_,hH477⟩,_,_,rfl,(Fin.of (p:=(rB) false) .B rfl).2⟩
 refine AW.condF (congrArg bool hc486) ?_
 refine AW.skip ?_
 refine sr ?_
 refine lE (agg [(J p1.Checker.Stack),(J p1.Checker.Start),(sl z2 f3 e4),(sl z6 f7 e8),(sl z10 f11 e12),(sl z14 f15 e16),(sl z18 f19 e20)]) ?_
 obtain ⟨y487,h488,h⟩:=obind h
 refine AOps.callP (g:=7) (args:=[(agg [(J p1.Checker.Stack),(J p1.Checker.Start),(sl z2 f3 e4),(sl z6 f7 e8),(sl z10 f11 e12),(sl z14 f15 e16),(sl z18 f19 e20)])]) (p:=(rStream) y487) rfl rfl rfl (laws_toStream_ok h5 h9 h13 h17 h21 h488 (HS.wf' hH477)) ?_
 intro _ o525 h489
 obtain ⟨_,rfl,h490⟩:=h489
 obtain ⟨_,_,rfl,h491,h492⟩:=Cs_cons h490
 cases h491
 obtain ⟨_,_,rfl,h493,h494⟩:=Cs_cons h492
 cases h493
 obtain ⟨_,_,rfl,h495,h496⟩:=Cs_cons h494
 obtain ⟨z497,f498,e499,rfl,h500⟩:=h495
 obtain ⟨_,_,rfl,h501,h502⟩:=Cs_cons h496
 obtain ⟨z503,f504,e505,rfl,h506⟩:=h501
 obtain ⟨_,_,rfl,h507,h508⟩:=Cs_cons h502
 obtain ⟨z509,f510,e511,rfl,h512⟩:=h507
 obtain ⟨_,_,rfl,h513,h514⟩:=Cs_cons h508
 obtain ⟨z515,f516,e517,rfl,h518⟩:=h513
 obtain ⟨_,_,rfl,h519,h520⟩:=Cs_cons h514
 obtain ⟨z521,f522,e523,rfl,h524⟩:=h519
 cases Cs_nil h520
 refine q (sl z23 f24 e25) ?_
 obtain ⟨y526,h527,h⟩:=obind h
 refine AOps.callP (g:=8) (args:=[(sl z23 f24 e25)]) (p:=(rL rDeed 3) y526) rfl rfl rfl (laws_toDeedS_ok h26 h527 (HS.wf' hH477)) ?_
 intro _ o533 h528
 obtain ⟨z529,f530,e531,rfl,h532⟩:=h528
 obtain ⟨y534,h535,h⟩:=obind h
 refine AOps.callP (g:=9) (args:=[(agg [(J y487.Checker.Stack),(J y487.Checker.Start),(sl z497 f498 e499),(sl z503 f504 e505),(sl z509 f510 e511),(sl z515 f516 e517),(sl z521 f522 e523)]),(sl z529 f530 e531)]) (p:=(fun x=>rT [(rL rJ 1) x.1,rJ x.2]) y534) rfl rfl rfl (impl_MissingAfter_ok h500 h506 h512 h518 h524 h532 h535 (HS.wf' hH477)) ?_
 intro _ o546 h536
 obtain ⟨_,rfl,h537⟩:=h536
 obtain ⟨_,_,rfl,h538,h539⟩:=Cs_cons h537
 obtain ⟨z540,f541,e542,rfl,h543⟩:=h538
 obtain ⟨_,_,rfl,h544,h545⟩:=Cs_cons h539
 cases h544
 cases Cs_nil h545
 refine q (AV.tup [(sl z540 f541 e542),(J y534.2)]) ?_
 refine q (sl z540 f541 e542) ?_
 refine q (J y534.2) ?_
 refine aq (sl z540 f541 e542) ?_
 refine aq (J y534.2) ?_
 refine nl ?_
 refine AW.seq ?_
 refine sr ?_
 refine q (sl z540 f541 e542) ?_
 refine q (sl z90 f91 e92) ?_
 obtain ⟨y547,h548,h⟩:=obind h
 refine AOps.lendP (g:=10) (args:=[(sl z540 f541 e542),(sl z90 f91 e92)]) (ps:=[(rL rJ 1) y534.1,(rL rJ 1) y84.1]) (p:=(rB) y547) rfl rfl rfl rfl rfl rfl rfl (.cons (Fin.of (p:=(rL rJ 1) y534.1) (.L fun _=>.I) (⟨_,_,_,rfl,h543⟩)) (.cons (Fin.of (p:=(rL rJ 1) y84.1) (.L fun _=>.I) (⟨_,_,_,rfl,h93⟩)) .nil)) (fun args' hc=>by obtain ⟨_,_,rfl,hv0,hd0⟩:=Cs_cons hc; obtain ⟨z549,f550,e551,rfl,h552⟩:=hv0; obtain ⟨_,_,rfl,hv1,hd1⟩:=Cs_cons hd0; obtain ⟨z553,f554,e555,rfl,h556⟩:=hv1; cases Cs_nil hd1; exact laws_eqInt64S_okN h552 h556 h548 WF.blind) (fun v n hv=>by cases hv; rfl) ?_
 intro _ h557
 cases h557
 refine q (bool (!y547)) ?_
 refine q (bool (!y547)) ?_
 refine AOps.split 4 (fun f'=>∃ tm' os',f'=⟨updL tm' [(10,h206),(13,(J y458.1)),(110,(bool ((!y547)||(y534.2 != y84.2))))],updL os' [],s466⟩) ?_ ?_
 ·rcases Bool.eq_false_or_eq_true (!y547) with hc558 | hc558
  ·refine AOps.know (d:=106) rfl hc558 ?_
   refine sk ?_
   refine sk ?_
   refine sk ?_
   refine q (bool true) ?_
   refine AOps.resR [(10,h206),(13,(J y458.1)),(110,(bool ((!y547)||(y534.2 != y84.2))))] [] ?_ ?_ _ ⟨_,_,rfl⟩
   ·exact ⟨rfl,rfl,congrArg bool (or_t hc558),trivial⟩
   exact trivial
  ·refine AOps.know (d:=106) rfl hc558 ?_
   refine q (J y534.2) ?_
   refine q (J y84.2) ?_
   refine q (bool (y534.2 != y84.2)) ?_
   refine q (bool (y534.2 != y84.2)) ?_
   refine AOps.resR [(10,h206),(13,(J y458.1)),(110,(bool ((!y547)||(y534.2 != y84.2))))] [] ?_ ?_ _ ⟨_,_,rfl⟩
   ·exact ⟨rfl,rfl,congrArg bool (or_f hc558),trivial⟩
   exact trivial
 rintro _ ⟨tm,os,rfl⟩
 refine nl ?_
 rcases oite h with ⟨hc559,h⟩ | ⟨hc559,h⟩
 ·refine AW.condT (congrArg bool hc559) ?_
  refine sr ?_
  refine q (bool false) ?_
  refine nl ?_
  cases h
  exact AW.ret ⟨⟨_,hH477⟩,_,_,rfl,(Fin.of (p:=(rB) false) .B rfl).2⟩
 refine AW.condF (congrArg bool hc559) ?_
 refine AW.skip ?_
 refine sr ?_
 refine q (J 1) ?_
 refine ns ?_
 refine q h206 ?_
 refine q (J 1) ?_
 obtain ⟨y560,h561,h⟩:=obind h
 refine AOps.lendP (g:=16) (args:=[h206,(J 1)]) (ps:=[(rL rJ 1) y458.2,rJ 1]) (p:=rJ y560) rfl rfl rfl rfl rfl rfl rfl (.cons (Fin.up (by decide) (HS.finS hH477 hG474 (j:=0) rfl Sub.here (Or.inl rfl))) (.cons (Fin.of (p:=rJ 1) .I rfl) .nil)) (fun args' hc=>by obtain ⟨_,_,rfl,hv0,hd0⟩:=Cs_cons hc; obtain ⟨z562,f563,e564,rfl,h565⟩:=hv0; obtain ⟨_,_,rfl,hv1,hd1⟩:=Cs_cons hd0; cases hv1; cases Cs_nil hd1; exact laws_heldInt64S_okN h565 h561 WF.blind) (fun v n hv=>by cases hv; rfl) ?_
 intro _ h566
 cases h566
 refine aq (J y560) ?_
 refine nl ?_
 refine AW.seq ?_
 refine sr ?_
 refine q (J y560) ?_
 refine q (bool (decide ((y560:Int)<0))) ?_
 refine nl ?_
 rcases oite h with ⟨hc567,h⟩ | ⟨hc567,h⟩
 ·refine AW.condT (congrArg bool hc567) ?_
  refine sr ?_
  refine q (bool false) ?_
  refine nl ?_
  cases h
  exact AW.ret ⟨⟨_,hH477⟩,_,_,rfl,(Fin.of (p:=(rB) false) .B rfl).2⟩
 refine AW.condF (congrArg bool hc567) ?_
 refine AW.skip ?_
 refine AW.seq ?_
 refine sr ?_
 refine q (J y560) ?_
 refine q (J y458.1) ?_
 refine q (bool (y560 != y458.1)) ?_
 refine nl ?_
 rcases oite h with ⟨hc568,h⟩ | ⟨hc568,h⟩
 ·refine AW.condT (congrArg bool hc568) ?_
  refine sr ?_
  refine q (bool false) ?_
  refine nl ?_
  cases h
  exact AW.ret ⟨⟨_,hH477⟩,_,_,rfl,(Fin.of (p:=(rB) false) .B rfl).2⟩
 refine AW.condF (congrArg bool hc568) ?_
 refine AW.skip ?_
 refine sr ?_
 refine q (bool true) ?_
 refine nl ?_
 cases h
 exact AW.ret ⟨⟨_,hH477⟩,_,_,rfl,(Fin.of (p:=(rB) true) .B rfl).2⟩
end Go.Proofs.YtlcnlckmnjbkhaaGreat.law
