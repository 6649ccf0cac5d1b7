/- For every rewriter and every checker the program's PreimageChecker returns what the reference's returns. No conditions. -/
import Derived.Test.YtpchecdlbagedaaGreatAe4
import Derived.Test.YtpchecdlbagedaaGreatAeP
import Derived.Test.YtpchecdlbagedaaGreatAeK5
import Derived.Test.YtpchecdlbagedaaGreatRows
import Derived.Test.YtpchecdlbagedaaGreatAeShelf
import Derived.WalkKit
import Derived.ProofKit
import Derived.OpenShut
import Derived.ShutString
import Derived.ChangeOld
import Derived.Below
import Derived.SizedLaws
import Derived.Lib.SmallJoins
set_option linter.unusedVariables false
set_option linter.unusedSimpArgs false
namespace Go.Proofs.YtpchecdlbagedaaGreat.law
open Go Go.Proofs Ae Go.ChangeShapes Go.WideShapes Go.ChangeAt Go.RowKit Go.Proofs.YtpchecdlbagedaaGreat
open Go.ChangeMaps (open_string shut_string)
set_option linter.unusedVariables false
set_option maxRecDepth 100000
theorem own:ownKnob Tryz.prog.godebug=none:=by kernel_rfl
theorem laidOut:laidOutB Tryz.prog=true:=by kernel_rfl
theorem followsOk:Tryz.prog.follows .mixedOrders=true:=by kernel_rfl
theorem cells2:Tryz.prog.cellsOf 2=1:=by kernel_rfl
theorem cells4:Tryz.prog.cellsOf 4=1:=by kernel_rfl
theorem cells9:Tryz.prog.cellsOf 9=1:=by kernel_rfl
theorem cells22:Tryz.prog.cellsOf 22=1:=by kernel_rfl
theorem cells23:Tryz.prog.cellsOf 23=1:=by kernel_rfl
theorem cells24:Tryz.prog.cellsOf 24=1:=by kernel_rfl
theorem cells26:Tryz.prog.cellsOf 26=5:=by kernel_rfl
theorem cells27:Tryz.prog.cellsOf 27=1:=by kernel_rfl
theorem cells28:Tryz.prog.cellsOf 28=1:=by kernel_rfl
theorem cells29:Tryz.prog.cellsOf 29=1:=by kernel_rfl
theorem cells30:Tryz.prog.cellsOf 30=1:=by kernel_rfl
theorem cells32:Tryz.prog.cellsOf 32=6:=by kernel_rfl
theorem cells64:Tryz.prog.cellsOf 64=1:=by kernel_rfl
theorem cells106:Tryz.prog.cellsOf 106=1:=by kernel_rfl
theorem cells108:Tryz.prog.cellsOf 108=1:=by kernel_rfl
theorem cells110:Tryz.prog.cellsOf 110=1:=by kernel_rfl
theorem cells145:Tryz.prog.cellsOf 145=3:=by kernel_rfl
theorem cells147:Tryz.prog.cellsOf 147=2:=by kernel_rfl
theorem cells154:Tryz.prog.cellsOf 154=2:=by kernel_rfl
theorem RdOutPush_145 {H:Type} {enc:TypeId × Value→H} {W:World}:Rd enc Tryz.prog W 145 csOutPush bOutPush:=by
 intro fuel cs d p h
 obtain ⟨hl,n,hf⟩:=trod_fields Tryz.underlying145 h
 rw[cells145] at hl
 have k0:∃ d p,DataW.trod enc Tryz.prog W 0 (fun _=>true) true n 2 ((cs.drop 0).take 1)=some (d,p):=cells2▸hf 0 _ rfl
 obtain ⟨_,_,k0⟩:=k0
 obtain ⟨x0,a0,c0,v0,b0⟩:=(Rd.int Tryz.underlying2) n _ _ _ k0
 have l0:=v0.len hl (by decide)
 have k1:∃ d p,DataW.trod enc Tryz.prog W 0 (fun _=>true) true n 2 ((cs.drop 1).take 1)=some (d,p):=cells2▸hf 1 _ rfl
 obtain ⟨_,_,k1⟩:=k1
 obtain ⟨x1,a1,c1,v1,b1⟩:=(Rd.int Tryz.underlying2) n _ _ _ k1
 have l1:=v1.len hl (by decide)
 have k2:∃ d p,DataW.trod enc Tryz.prog W 0 (fun _=>true) true n 9 ((cs.drop 2).take 1)=some (d,p):=cells9▸hf 2 _ rfl
 obtain ⟨_,_,k2⟩:=k2
 obtain ⟨x2,a2,c2,v2,b2⟩:=(Rd.str Tryz.underlying9) n _ _ _ k2
 have l2:=v2.len hl (by decide)
 exact ⟨⟨x0,x1,x2⟩,(a0++(a1++a2)),c0.app (c1.app (c2)),VL.whole (v0.cat (v1.cat v2 l1) l0) hl,⟨b0,b1,b2⟩⟩
theorem RdOutMove_147 {H:Type} {enc:TypeId × Value→H} {W:World}:Rd enc Tryz.prog W 147 csOutMove bOutMove:=by
 intro fuel cs d p h
 obtain ⟨hl,n,hf⟩:=trod_fields Tryz.underlying147 h
 rw[cells147] at hl
 have k0:∃ d p,DataW.trod enc Tryz.prog W 0 (fun _=>true) true n 2 ((cs.drop 0).take 1)=some (d,p):=cells2▸hf 0 _ rfl
 obtain ⟨_,_,k0⟩:=k0
 obtain ⟨x0,a0,c0,v0,b0⟩:=(Rd.int Tryz.underlying2) n _ _ _ k0
 have l0:=v0.len hl (by decide)
 have k1:∃ d p,DataW.trod enc Tryz.prog W 0 (fun _=>true) true n 9 ((cs.drop 1).take 1)=some (d,p):=cells9▸hf 1 _ rfl
 obtain ⟨_,_,k1⟩:=k1
 obtain ⟨x1,a1,c1,v1,b1⟩:=(Rd.str Tryz.underlying9) n _ _ _ k1
 have l1:=v1.len hl (by decide)
 exact ⟨⟨x0,x1⟩,(a0++a1),c0.app (c1),VL.whole (v0.cat v1 l0) hl,⟨b0,b1⟩⟩
theorem RdRewriter_26 {H:Type} {enc:TypeId × Value→H} {W:World}:Rd enc Tryz.prog W 26 csRewriter bRewriter:=by
 intro fuel cs d p h
 obtain ⟨hl,n,hf⟩:=trod_fields Tryz.underlying26 h
 rw[cells26] at hl
 have k0:∃ d p,DataW.trod enc Tryz.prog W 0 (fun _=>true) true n 2 ((cs.drop 0).take 1)=some (d,p):=cells2▸hf 0 _ rfl
 obtain ⟨_,_,k0⟩:=k0
 obtain ⟨x0,a0,c0,v0,b0⟩:=(Rd.int Tryz.underlying2) n _ _ _ k0
 have l0:=v0.len hl (by decide)
 have k1:∃ d p,DataW.trod enc Tryz.prog W 0 (fun _=>true) true n 2 ((cs.drop 1).take 1)=some (d,p):=cells2▸hf 1 _ rfl
 obtain ⟨_,_,k1⟩:=k1
 obtain ⟨x1,a1,c1,v1,b1⟩:=(Rd.int Tryz.underlying2) n _ _ _ k1
 have l1:=v1.len hl (by decide)
 have k2:∃ d p,DataW.trod enc Tryz.prog W 0 (fun _=>true) true n 22 ((cs.drop 2).take 1)=some (d,p):=cells22▸hf 2 _ rfl
 obtain ⟨_,_,k2⟩:=k2
 obtain ⟨x2,a2,c2,v2,b2⟩:=(Rd.slice (ag:=false) Tryz.underlying22 cells106 (by decide) (by decide) (Rd.slice (ag:=true) Tryz.underlying106 cells145 (by decide) (by decide) RdOutPush_145 hrfA) hrf1) n _ _ _ k2
 have l2:=v2.len hl (by decide)
 have k3:∃ d p,DataW.trod enc Tryz.prog W 0 (fun _=>true) true n 23 ((cs.drop 3).take 1)=some (d,p):=cells23▸hf 3 _ rfl
 obtain ⟨_,_,k3⟩:=k3
 obtain ⟨x3,a3,c3,v3,b3⟩:=(Rd.slice (ag:=false) Tryz.underlying23 cells24 (by decide) (by decide) (Rd.slice (ag:=false) Tryz.underlying24 cells108 (by decide) (by decide) (Rd.slice (ag:=true) Tryz.underlying108 cells147 (by decide) (by decide) RdOutMove_147 hrfA) hrf1) hrf1) n _ _ _ k3
 have l3:=v3.len hl (by decide)
 have k4:∃ d p,DataW.trod enc Tryz.prog W 0 (fun _=>true) true n 24 ((cs.drop 4).take 1)=some (d,p):=cells24▸hf 4 _ rfl
 obtain ⟨_,_,k4⟩:=k4
 obtain ⟨x4,a4,c4,v4,b4⟩:=(Rd.slice (ag:=false) Tryz.underlying24 cells108 (by decide) (by decide) (Rd.slice (ag:=true) Tryz.underlying108 cells147 (by decide) (by decide) RdOutMove_147 hrfA) hrf1) n _ _ _ k4
 have l4:=v4.len hl (by decide)
 exact ⟨⟨x0,x1,x2,x3,x4⟩,(a0++(a1++(a2++(a3++a4)))),c0.app (c1.app (c2.app (c3.app (c4)))),VL.whole (v0.cat (v1.cat (v2.cat (v3.cat v4 l3) l2) l1) l0) hl,⟨b0,b1,b2,b3,b4⟩⟩
theorem RdPush_154 {H:Type} {enc:TypeId × Value→H} {W:World}:Rd enc Tryz.prog W 154 csPush bPush:=by
 intro fuel cs d p h
 obtain ⟨hl,n,hf⟩:=trod_fields Tryz.underlying154 h
 rw[cells154] at hl
 have k0:∃ d p,DataW.trod enc Tryz.prog W 0 (fun _=>true) true n 2 ((cs.drop 0).take 1)=some (d,p):=cells2▸hf 0 _ rfl
 obtain ⟨_,_,k0⟩:=k0
 obtain ⟨x0,a0,c0,v0,b0⟩:=(Rd.int Tryz.underlying2) n _ _ _ k0
 have l0:=v0.len hl (by decide)
 have k1:∃ d p,DataW.trod enc Tryz.prog W 0 (fun _=>true) true n 2 ((cs.drop 1).take 1)=some (d,p):=cells2▸hf 1 _ rfl
 obtain ⟨_,_,k1⟩:=k1
 obtain ⟨x1,a1,c1,v1,b1⟩:=(Rd.int Tryz.underlying2) n _ _ _ k1
 have l1:=v1.len hl (by decide)
 exact ⟨⟨x0,x1⟩,(a0++a1),c0.app (c1),VL.whole (v0.cat v1 l0) hl,⟨b0,b1⟩⟩
theorem RdChecker_32 {H:Type} {enc:TypeId × Value→H} {W:World}:Rd enc Tryz.prog W 32 csChecker bChecker:=by
 intro fuel cs d p h
 obtain ⟨hl,n,hf⟩:=trod_fields Tryz.underlying32 h
 rw[cells32] at hl
 have k0:∃ d p,DataW.trod enc Tryz.prog W 0 (fun _=>true) true n 2 ((cs.drop 0).take 1)=some (d,p):=cells2▸hf 0 _ rfl
 obtain ⟨_,_,k0⟩:=k0
 obtain ⟨x0,a0,c0,v0,b0⟩:=(Rd.int Tryz.underlying2) n _ _ _ k0
 have l0:=v0.len hl (by decide)
 have k1:∃ d p,DataW.trod enc Tryz.prog W 0 (fun _=>true) true n 2 ((cs.drop 1).take 1)=some (d,p):=cells2▸hf 1 _ rfl
 obtain ⟨_,_,k1⟩:=k1
 obtain ⟨x1,a1,c1,v1,b1⟩:=(Rd.int Tryz.underlying2) n _ _ _ k1
 have l1:=v1.len hl (by decide)
 have k2:∃ d p,DataW.trod enc Tryz.prog W 0 (fun _=>true) true n 27 ((cs.drop 2).take 1)=some (d,p):=cells27▸hf 2 _ rfl
 obtain ⟨_,_,k2⟩:=k2
 obtain ⟨x2,a2,c2,v2,b2⟩:=(Rd.slice (ag:=false) Tryz.underlying27 cells4 (by decide) (by decide) (Rd.bool Tryz.underlying4) hrf1) n _ _ _ k2
 have l2:=v2.len hl (by decide)
 have k3:∃ d p,DataW.trod enc Tryz.prog W 0 (fun _=>true) true n 28 ((cs.drop 3).take 1)=some (d,p):=cells28▸hf 3 _ rfl
 obtain ⟨_,_,k3⟩:=k3
 obtain ⟨x3,a3,c3,v3,b3⟩:=(Rd.slice (ag:=false) Tryz.underlying28 cells110 (by decide) (by decide) (Rd.slice (ag:=true) Tryz.underlying110 cells154 (by decide) (by decide) RdPush_154 hrfA) hrf1) n _ _ _ k3
 have l3:=v3.len hl (by decide)
 have k4:∃ d p,DataW.trod enc Tryz.prog W 0 (fun _=>true) true n 29 ((cs.drop 4).take 1)=some (d,p):=cells29▸hf 4 _ rfl
 obtain ⟨_,_,k4⟩:=k4
 obtain ⟨x4,a4,c4,v4,b4⟩:=(Rd.slice (ag:=false) Tryz.underlying29 cells30 (by decide) (by decide) (Rd.slice (ag:=false) Tryz.underlying30 cells64 (by decide) (by decide) (Rd.slice (ag:=false) Tryz.underlying64 cells2 (by decide) (by decide) (Rd.int Tryz.underlying2) hrf1) hrf1) hrf1) n _ _ _ k4
 have l4:=v4.len hl (by decide)
 have k5:∃ d p,DataW.trod enc Tryz.prog W 0 (fun _=>true) true n 30 ((cs.drop 5).take 1)=some (d,p):=cells30▸hf 5 _ rfl
 obtain ⟨_,_,k5⟩:=k5
 obtain ⟨x5,a5,c5,v5,b5⟩:=(Rd.slice (ag:=false) Tryz.underlying30 cells64 (by decide) (by decide) (Rd.slice (ag:=false) Tryz.underlying64 cells2 (by decide) (by decide) (Rd.int Tryz.underlying2) hrf1) hrf1) n _ _ _ k5
 have l5:=v5.len hl (by decide)
 exact ⟨⟨x0,x1,x2,x3,x4,x5⟩,(a0++(a1++(a2++(a3++(a4++a5))))),c0.app (c1.app (c2.app (c3.app (c4.app (c5))))),VL.whole (v0.cat (v1.cat (v2.cat (v3.cat (v4.cat v5 l4) l3) l2) l1) l0) hl,⟨b0,b1,b2,b3,b4,b5⟩⟩
theorem CfOk:CfgOk Tryz.prog Cf drawOk:=⟨fun t ti h=>tyB_ok (Tree.all_get tyOk h),fun al g J h=>by cases al; exact fnOk.get h; exact fnKOk.get h,fun g φ h=>by
 change (bif Nat.beq g 137 then some (pureX φByte) else bif Nat.beq g 134 then some (pureX φClone) else none)=some φ at h
 cases h0:Nat.beq g 137 with
 | true =>
  rw[h0] at h; cases h
  obtain rfl:=Nat.eq_of_beq_eq_true h0
  exact ext0 (φByte_ok Tryz.func137 (by kernel_rfl) (by kernel_rfl) (by kernel_rfl) (by kernel_rfl))
 | false =>
  rw[h0] at h
  cases h1:Nat.beq g 134 with
  | true =>
   rw[h1] at h; cases h
   obtain rfl:=Nat.eq_of_beq_eq_true h1
   exact ext0 (φClone_ok Tryz.func134 (by kernel_rfl) (by kernel_rfl) Tryz.slices_Clone_int_nil Tryz.slices_Clone_int_zero Tryz.slices_Clone_int)
  | false =>
   rw[h1] at h
   cases h⟩
theorem liftedFnExactPreimageChecker (os:Os) (started:os.Started) (H:Type) (enc:TypeId × Value→H) :
  ReturnsInHanded {} Tryz.checked os 3 .any (Rows.fnExactPreimageCheckerSpec.pre6 enc Tryz.prog Tryz.f3 Rows.fnExactPreimageCheckerRow.domain false) (Rows.fnExactPreimageCheckerSpec.post enc Tryz.prog Tryz.f3 false true false false):=by
 refine returnsInHanded_of_change (C:=Tryz.checked) own started (by kernel_rfl) Tryz.func3
  (ChangeSpec.witness6 (enc:=enc) (C:=Tryz.checked) false ⟨#[],#[.agg #[.int .i64 0,.int .i64 0,.slice none 0 0,.slice none 0 0,.slice none 0 0],.agg #[.int .i64 0,.int .i64 0,.slice none 0 0,.slice none 0 0,.slice none 0 0,.slice none 0 0]],[]⟩ 8 (by kernel_rfl) (by kernel_rfl) (by kernel_rfl) (by kernel_rfl)) ?_
 intro W base args ds gs before hval0 hW _ _
 have hval:∀ (j:Nat) t v,Tryz.f3.params[j]?=some t→args[j]?=some v→Value.okWide Tryz.prog W .any base t v:=hval0
 have hW':=hW
 obtain ⟨p,q,hA0,hV,rfl,_,_⟩:=hW
 have hA:DataW.TrodAll enc Tryz.prog W 0 (fun _=>true) true Tryz.f3.params.toList args.toList ds p:=hA0
 rw[Tryz.params3] at hA hval
 obtain ⟨v0,v1,d0,d1,p0,p1,rfl,rfl,rfl,h0,h1⟩:=trodAll_two hA
 obtain ⟨rfl,rfl⟩:=trodVars_none hV
 simp only[List.append_nil] at hW'
 have hlt:=hW'.lt
 have w0:Value.okWide Tryz.prog W .any base 26 v0:=hval 0 26 v0 rfl rfl
 obtain ⟨vs0,rfl,_⟩:=okWide_struct Tryz.underlying26 w0
 have r0:=h0
 obtain ⟨_,r0⟩:=r0
 obtain ⟨x0,as0,hc0,hv0,hb0⟩:=RdRewriter_26 _ _ _ _ r0
 have hagg0:=hv0.agg
 obtain ⟨y0_0,t0_0,rfl,g0_0,hc0⟩:=Cs_cons hc0
 obtain ⟨y0_1,t0_1,rfl,g0_1,hc0⟩:=Cs_cons hc0
 obtain ⟨y0_2,t0_2,rfl,g0_2,hc0⟩:=Cs_cons hc0
 obtain ⟨y0_3,t0_3,rfl,g0_3,hc0⟩:=Cs_cons hc0
 obtain ⟨y0_4,t0_4,rfl,g0_4,hc0⟩:=Cs_cons hc0
 obtain rfl:=Cs_nil hc0
 cases g0_0
 cases g0_1
 obtain ⟨z0_2,f0_2,e0_2,rfl,g0_2⟩:=g0_2
 obtain ⟨z0_3,f0_3,e0_3,rfl,g0_3⟩:=g0_3
 obtain ⟨z0_4,f0_4,e0_4,rfl,g0_4⟩:=g0_4
 have w1:Value.okWide Tryz.prog W .any base 32 v1:=hval 1 32 v1 rfl rfl
 obtain ⟨vs1,rfl,_⟩:=okWide_struct Tryz.underlying32 w1
 have r1:=h1
 obtain ⟨_,r1⟩:=r1
 obtain ⟨x1,as1,hc1,hv1,hb1⟩:=RdChecker_32 _ _ _ _ r1
 have hagg1:=hv1.agg
 obtain ⟨y1_0,t1_0,rfl,g1_0,hc1⟩:=Cs_cons hc1
 obtain ⟨y1_1,t1_1,rfl,g1_1,hc1⟩:=Cs_cons hc1
 obtain ⟨y1_2,t1_2,rfl,g1_2,hc1⟩:=Cs_cons hc1
 obtain ⟨y1_3,t1_3,rfl,g1_3,hc1⟩:=Cs_cons hc1
 obtain ⟨y1_4,t1_4,rfl,g1_4,hc1⟩:=Cs_cons hc1
 obtain ⟨y1_5,t1_5,rfl,g1_5,hc1⟩:=Cs_cons hc1
 obtain rfl:=Cs_nil hc1
 cases g1_0
 cases g1_1
 obtain ⟨z1_2,f1_2,e1_2,rfl,g1_2⟩:=g1_2
 obtain ⟨z1_3,f1_3,e1_3,rfl,g1_3⟩:=g1_3
 obtain ⟨z1_4,f1_4,e1_4,rfl,g1_4⟩:=g1_4
 obtain ⟨z1_5,f1_5,e1_5,rfl,g1_5⟩:=g1_5
 refine (law_calls CfOk followsOk W rfl (VA_2 hagg0 hagg1) ((laws_FnExactPreimageChecker_ok g0_2 g0_3 g0_4 g1_2 g1_3 g1_4 g1_5 (law_PreimageChecker hb0 hb1) WF0 ⟨rfl,rfl⟩).mono fun _ _ _ h=>h.1)).mono fun e W' ⟨he,bel⟩=>?_
 subst he
 have hpp:=trodAll_mk2 (Below.trod laidOut (by kernel_rfl) (of_decide_eq_true (by kernel_rfl)) h0 bel fun x hx=>hlt x (List.mem_append_left _ hx)) (Below.trod laidOut (by kernel_rfl) (of_decide_eq_true (by kernel_rfl)) h1 bel fun x hx=>hlt x (List.mem_append_right _ hx))
 exact ⟨_,rfl,_,_,_,[],_,[],hW',trodAll_mk1 (shut_bool Tryz.underlying4 _),hpp,rfl,bel.frame _,fun h=>by cases h⟩
theorem mayEnter:Tryz.prog.mayEnter=true:=by kernel_rfl
theorem inPl:Tryz.prog.inPlace 3=Rows.fnExactPreimageCheckerRow.inPlace:=by kernel_rfl
theorem recs:Tryz.prog.recurses 3=Rows.fnExactPreimageCheckerRow.recurses:=by kernel_rfl
theorem unfo:Tryz.prog.unfollowed 3=Rows.fnExactPreimageCheckerRow.unfollowed:=by kernel_rfl
theorem vnam:Tryz.prog.varsNamed 3=Rows.fnExactPreimageCheckerRow.named:=by kernel_rfl
theorem joined:joinedFacts Tryz.prog 3 Tryz.f3 Rows.fnExactPreimageCheckerSpec Rows.fnExactPreimageCheckerRow=true:=by
 unfold joinedFacts
 rw[mayEnter,inPl,recs,unfo,vnam,laidOut]
 kernel_rfl
theorem holdsFnExactPreimageChecker:Rows.FnExactPreimageCheckerSaid :=
 OpenClaim.holds_of_wide 3 Tryz.f3 rfl rfl rfl rfl rfl rfl rfl ⟨rfl,rfl,rfl,rfl,rfl⟩ rfl rfl rfl rfl rfl (by kernel_rfl) Tryz.func3 joined
  (of_decide_eq_true (by kernel_rfl)) (by unfold Func.isWrapper; first | (rw[if_pos (by decide +kernel)]; kernel_rfl) | (rw[if_neg (by decide +kernel)]; exact ⟨rfl,rfl⟩))
  (fun os started H enc _=>liftedFnExactPreimageChecker os started H enc)
#print axioms holdsFnExactPreimageChecker
end Go.Proofs.YtpchecdlbagedaaGreat.law
