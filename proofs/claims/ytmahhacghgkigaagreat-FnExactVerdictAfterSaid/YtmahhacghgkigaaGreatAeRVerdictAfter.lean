/- For every stream and all deeds the program's VerdictAfter returns what the reference's returns. No conditions. -/
import Derived.Test.YtmahhacghgkigaaGreatAe4
import Derived.Shelf.Spec.SlicesGrow
import Derived.Test.YtmahhacghgkigaaGreatAeP
import Derived.Test.YtmahhacghgkigaaGreatAeK4
import Derived.Test.YtmahhacghgkigaaGreatRows
import Derived.WalkKit
import Derived.ProofKit
import Derived.OpenShut
import Derived.ShutString
import Derived.ChangeOld
import Derived.Below
import Derived.SizedLaws
import Derived.Lib.SmallJoins
set_option linter.unusedVariables false
set_option linter.unusedSimpArgs false
namespace Go.Proofs.YtmahhacghgkigaaGreat.law
open Go Go.Proofs Ae Go.ChangeShapes Go.WideShapes Go.ChangeAt Go.RowKit Go.Proofs.YtmahhacghgkigaaGreat
open Go.ChangeMaps (open_string shut_string)
set_option linter.unusedVariables false
set_option maxRecDepth 100000
theorem own:ownKnob Tryz.prog.godebug=none:=by kernel_rfl
theorem laidOut:laidOutB Tryz.prog=true:=by kernel_rfl
theorem followsOk:Tryz.prog.follows .mixedOrders=true:=by kernel_rfl
theorem cells2:Tryz.prog.cellsOf 2=1:=by kernel_rfl
theorem cells4:Tryz.prog.cellsOf 4=1:=by kernel_rfl
theorem cells9:Tryz.prog.cellsOf 9=1:=by kernel_rfl
theorem cells22:Tryz.prog.cellsOf 22=1:=by kernel_rfl
theorem cells23:Tryz.prog.cellsOf 23=1:=by kernel_rfl
theorem cells24:Tryz.prog.cellsOf 24=1:=by kernel_rfl
theorem cells25:Tryz.prog.cellsOf 25=1:=by kernel_rfl
theorem cells27:Tryz.prog.cellsOf 27=6:=by kernel_rfl
theorem cells28:Tryz.prog.cellsOf 28=1:=by kernel_rfl
theorem cells30:Tryz.prog.cellsOf 30=7:=by kernel_rfl
theorem cells31:Tryz.prog.cellsOf 31=1:=by kernel_rfl
theorem cells52:Tryz.prog.cellsOf 52=1:=by kernel_rfl
theorem cells61:Tryz.prog.cellsOf 61=3:=by kernel_rfl
theorem cells104:Tryz.prog.cellsOf 104=1:=by kernel_rfl
theorem cells142:Tryz.prog.cellsOf 142=2:=by kernel_rfl
theorem RdPush_142 {H:Type} {enc:TypeId × Value→H} {W:World}:Rd enc Tryz.prog W 142 csPush bPush:=by
 intro fuel cs d p h
 obtain ⟨hl,n,hf⟩:=trod_fields Tryz.underlying142 h
 rw[cells142] at hl
 have k0:∃ d p,DataW.trod enc Tryz.prog W 0 (fun _=>true) true n 2 ((cs.drop 0).take 1)=some (d,p):=cells2▸hf 0 _ rfl
 obtain ⟨_,_,k0⟩:=k0
 obtain ⟨x0,a0,c0,v0,b0⟩:=(Rd.int Tryz.underlying2) n _ _ _ k0
 have l0:=v0.len hl (by decide)
 have k1:∃ d p,DataW.trod enc Tryz.prog W 0 (fun _=>true) true n 2 ((cs.drop 1).take 1)=some (d,p):=cells2▸hf 1 _ rfl
 obtain ⟨_,_,k1⟩:=k1
 obtain ⟨x1,a1,c1,v1,b1⟩:=(Rd.int Tryz.underlying2) n _ _ _ k1
 have l1:=v1.len hl (by decide)
 exact ⟨⟨x0,x1⟩,(a0++a1),c0.app (c1),VL.whole (v0.cat v1 l0) hl,⟨b0,b1⟩⟩
theorem RdChecker_27 {H:Type} {enc:TypeId × Value→H} {W:World}:Rd enc Tryz.prog W 27 csChecker bChecker:=by
 intro fuel cs d p h
 obtain ⟨hl,n,hf⟩:=trod_fields Tryz.underlying27 h
 rw[cells27] at hl
 have k0:∃ d p,DataW.trod enc Tryz.prog W 0 (fun _=>true) true n 2 ((cs.drop 0).take 1)=some (d,p):=cells2▸hf 0 _ rfl
 obtain ⟨_,_,k0⟩:=k0
 obtain ⟨x0,a0,c0,v0,b0⟩:=(Rd.int Tryz.underlying2) n _ _ _ k0
 have l0:=v0.len hl (by decide)
 have k1:∃ d p,DataW.trod enc Tryz.prog W 0 (fun _=>true) true n 2 ((cs.drop 1).take 1)=some (d,p):=cells2▸hf 1 _ rfl
 obtain ⟨_,_,k1⟩:=k1
 obtain ⟨x1,a1,c1,v1,b1⟩:=(Rd.int Tryz.underlying2) n _ _ _ k1
 have l1:=v1.len hl (by decide)
 have k2:∃ d p,DataW.trod enc Tryz.prog W 0 (fun _=>true) true n 22 ((cs.drop 2).take 1)=some (d,p):=cells22▸hf 2 _ rfl
 obtain ⟨_,_,k2⟩:=k2
 obtain ⟨x2,a2,c2,v2,b2⟩:=(Rd.slice (ag:=false) Tryz.underlying22 cells4 (by decide) (by decide) (Rd.bool Tryz.underlying4) hrf1) n _ _ _ k2
 have l2:=v2.len hl (by decide)
 have k3:∃ d p,DataW.trod enc Tryz.prog W 0 (fun _=>true) true n 23 ((cs.drop 3).take 1)=some (d,p):=cells23▸hf 3 _ rfl
 obtain ⟨_,_,k3⟩:=k3
 obtain ⟨x3,a3,c3,v3,b3⟩:=(Rd.slice (ag:=false) Tryz.underlying23 cells104 (by decide) (by decide) (Rd.slice (ag:=true) Tryz.underlying104 cells142 (by decide) (by decide) RdPush_142 hrfA) hrf1) n _ _ _ k3
 have l3:=v3.len hl (by decide)
 have k4:∃ d p,DataW.trod enc Tryz.prog W 0 (fun _=>true) true n 24 ((cs.drop 4).take 1)=some (d,p):=cells24▸hf 4 _ rfl
 obtain ⟨_,_,k4⟩:=k4
 obtain ⟨x4,a4,c4,v4,b4⟩:=(Rd.slice (ag:=false) Tryz.underlying24 cells25 (by decide) (by decide) (Rd.slice (ag:=false) Tryz.underlying25 cells52 (by decide) (by decide) (Rd.slice (ag:=false) Tryz.underlying52 cells2 (by decide) (by decide) (Rd.int Tryz.underlying2) hrf1) hrf1) hrf1) n _ _ _ k4
 have l4:=v4.len hl (by decide)
 have k5:∃ d p,DataW.trod enc Tryz.prog W 0 (fun _=>true) true n 25 ((cs.drop 5).take 1)=some (d,p):=cells25▸hf 5 _ rfl
 obtain ⟨_,_,k5⟩:=k5
 obtain ⟨x5,a5,c5,v5,b5⟩:=(Rd.slice (ag:=false) Tryz.underlying25 cells52 (by decide) (by decide) (Rd.slice (ag:=false) Tryz.underlying52 cells2 (by decide) (by decide) (Rd.int Tryz.underlying2) hrf1) hrf1) n _ _ _ k5
 have l5:=v5.len hl (by decide)
 exact ⟨⟨x0,x1,x2,x3,x4,x5⟩,(a0++(a1++(a2++(a3++(a4++a5))))),c0.app (c1.app (c2.app (c3.app (c4.app (c5))))),VL.whole (v0.cat (v1.cat (v2.cat (v3.cat (v4.cat v5 l4) l3) l2) l1) l0) hl,⟨b0,b1,b2,b3,b4,b5⟩⟩
theorem RdStream_30 {H:Type} {enc:TypeId × Value→H} {W:World}:Rd enc Tryz.prog W 30 csStream bStream:=by
 intro fuel cs d p h
 obtain ⟨hl,n,hf⟩:=trod_fields Tryz.underlying30 h
 rw[cells30] at hl
 have k0:∃ d p,DataW.trod enc Tryz.prog W 0 (fun _=>true) true n 27 ((cs.drop 0).take 6)=some (d,p):=cells27▸hf 0 _ rfl
 obtain ⟨_,_,k0⟩:=k0
 obtain ⟨x0,a0,c0,v0,b0⟩:=RdChecker_27 n _ _ _ k0
 have l0:=v0.len hl (by decide)
 have k1:∃ d p,DataW.trod enc Tryz.prog W 0 (fun _=>true) true n 28 ((cs.drop 6).take 1)=some (d,p):=cells28▸hf 1 _ rfl
 obtain ⟨_,_,k1⟩:=k1
 obtain ⟨x1,a1,c1,v1,b1⟩:=(Rd.slice (ag:=false) Tryz.underlying28 cells9 (by decide) (by decide) (Rd.str Tryz.underlying9) hrf1) n _ _ _ k1
 have l1:=v1.len hl (by decide)
 exact ⟨⟨x0,x1⟩,(a0++a1),c0.app (c1),VL.whole (v0.cat v1 l0) hl,⟨b0,b1⟩⟩
theorem RdDeed_61 {H:Type} {enc:TypeId × Value→H} {W:World}:Rd enc Tryz.prog W 61 csDeed bDeed:=by
 intro fuel cs d p h
 obtain ⟨hl,n,hf⟩:=trod_fields Tryz.underlying61 h
 rw[cells61] at hl
 have k0:∃ d p,DataW.trod enc Tryz.prog W 0 (fun _=>true) true n 2 ((cs.drop 0).take 1)=some (d,p):=cells2▸hf 0 _ rfl
 obtain ⟨_,_,k0⟩:=k0
 obtain ⟨x0,a0,c0,v0,b0⟩:=(Rd.int Tryz.underlying2) n _ _ _ k0
 have l0:=v0.len hl (by decide)
 have k1:∃ d p,DataW.trod enc Tryz.prog W 0 (fun _=>true) true n 2 ((cs.drop 1).take 1)=some (d,p):=cells2▸hf 1 _ rfl
 obtain ⟨_,_,k1⟩:=k1
 obtain ⟨x1,a1,c1,v1,b1⟩:=(Rd.int Tryz.underlying2) n _ _ _ k1
 have l1:=v1.len hl (by decide)
 have k2:∃ d p,DataW.trod enc Tryz.prog W 0 (fun _=>true) true n 2 ((cs.drop 2).take 1)=some (d,p):=cells2▸hf 2 _ rfl
 obtain ⟨_,_,k2⟩:=k2
 obtain ⟨x2,a2,c2,v2,b2⟩:=(Rd.int Tryz.underlying2) n _ _ _ k2
 have l2:=v2.len hl (by decide)
 exact ⟨⟨x0,x1,x2⟩,(a0++(a1++a2)),c0.app (c1.app (c2)),VL.whole (v0.cat (v1.cat v2 l1) l0) hl,⟨b0,b1,b2⟩⟩
theorem φGrowL_ok {P:Program} {ρ:Go.Shelf.Ren} (L:Go.Proofs.Lays8.n4 P ρ) {g te:Nat} (hg:ρ.f 4=g) (hte:ρ.t 25=te) {fn:Func} {ti:TI} (hti:TIok P te ti) (hs:ti.size=1) (hby:ti.bytes≤8) (hzero:ti.zero=.int .i64 0)
  (hf : P.funcs[g]? = some fn) (hname : (fn.name == "runtime.NumGoroutine") = false) (hb : fn.body.isSome = true) :
  ∀ args v ow,φGrow args=some (v,ow)→∀ (E:Env) (s:St) (vs:Array Value),Core E s→s.lo≤s.n→VA E args vs→Ae.Reach P g vs E.w (Ret E s v ow s):=by
 subst hg hte
 obtain ⟨i,hi,his,hib,z,hz,hzV⟩:=hti.i
 refine φGrow_ok (te:=ρ.t 25) hf hname hb (fun base w=>Go.Proofs.Any8.slices_Grow_room L base 0 0 0 w (by decide) (by decide) (by decide) (by decide)) (fun base n w h0 h1=>?_)
 refine Calls.mono (Go.Proofs.Any8.slices_Grow_grow L i z hi hz (by omega) base 0 0 n [] w (Nat.le_refl _) (by omega) (by
  rw[hib,Nat.zero_add]
  exact Nat.le_trans (Nat.mul_le_mul h1 hby) (by decide)) (by omega) (by simp) (fun _=>rfl) (fun a ha j v hv=>by simp at hv)) ?_
 rintro e w' ⟨rfl,rfl⟩
 refine ⟨_,_,rfl,?_,rfl⟩
 have hz1:z.cells.size=1:=by
  have:=hzV (Env.of w)
  rw[hzero] at this
  cases this
  rfl
 have hge:0+n≤grownCap w (0+n) 0 (ρ.t 25):=grownCap_ge _ _ _ _
 simp only[Array.size_append,size_zeroCells,hz1,List.size_toArray,List.length_nil]
 omega

theorem CfOk:CfgOk Tryz.prog Cf drawOk:=⟨fun t ti h=>tyB_ok (Tree.all_get tyOk h),fun al g J h=>by cases al; exact fnOk.get h; exact fnKOk.get h,fun g φ h=>by
 change (bif Nat.beq g 119 then some (pureX φByte) else bif Nat.beq g 117 then some (pureX φGrow) else bif Nat.beq g 104 then some φSort else bif Nat.beq g 103 then some φCloneX else bif Nat.beq g 75 then some φDel else bif Nat.beq g 70 then some (pureX φJoin) else none)=some φ at h
 cases h0:Nat.beq g 119 with
 | true =>
  rw[h0] at h; cases h
  obtain rfl:=Nat.eq_of_beq_eq_true h0
  exact ext0 (φByte_ok Tryz.func119 (by kernel_rfl) (by kernel_rfl) (by kernel_rfl) (by kernel_rfl))
 | false =>
  rw[h0] at h
  cases h1:Nat.beq g 117 with
  | true =>
   rw[h1] at h; cases h
   obtain rfl:=Nat.eq_of_beq_eq_true h1
   exact ext0 (φGrowL_ok Tryz.laysGrow rfl rfl (tyB_ok (Tree.all_get tyOk (show Cf.ty 2=some _ from rfl))) rfl (by decide) rfl Tryz.func117 (by kernel_rfl) (by kernel_rfl))
  | false =>
   rw[h1] at h
   cases h2:Nat.beq g 104 with
   | true =>
    rw[h2] at h; cases h
    obtain rfl:=Nat.eq_of_beq_eq_true h2
    exact extS0 (φSort_ok Tryz.func104 (by kernel_rfl) (by kernel_rfl) Tryz.slices_Sort_int_none Tryz.slices_Sort_int)
   | false =>
    rw[h2] at h
    cases h3:Nat.beq g 103 with
    | true =>
     rw[h3] at h; cases h
     obtain rfl:=Nat.eq_of_beq_eq_true h3
     exact extS0 (φCloneX_ok Tryz.func103 (by kernel_rfl) (by kernel_rfl) Tryz.slices_Clone_int_nil (clone_zero0 Tryz.laysSlN41_f103) Tryz.slices_Clone_int)
    | false =>
     rw[h3] at h
     cases h4:Nat.beq g 75 with
     | true =>
      rw[h4] at h; cases h
      obtain rfl:=Nat.eq_of_beq_eq_true h4
      exact extS0 (φDel_ok Tryz.func75 (by kernel_rfl) (by kernel_rfl) del_none delD)
     | false =>
      rw[h4] at h
      cases h5:Nat.beq g 70 with
      | true =>
       rw[h5] at h; cases h
       obtain rfl:=Nat.eq_of_beq_eq_true h5
       exact ext0 (φJoin_ok Tryz.func70 (by kernel_rfl) (by kernel_rfl) Tryz.strings_Join_none Tryz.strings_Join)
      | false =>
       rw[h5] at h
       cases h⟩
theorem liftedFnExactVerdictAfter (os:Os) (started:os.Started) (H:Type) (enc:TypeId × Value→H) :
  ReturnsInHanded {} Tryz.checked os 3 .any (Rows.fnExactVerdictAfterSpec.pre6 enc Tryz.prog Tryz.f3 Rows.fnExactVerdictAfterRow.domain false) (Rows.fnExactVerdictAfterSpec.post enc Tryz.prog Tryz.f3 false true false false):=by
 refine returnsInHanded_of_change (C:=Tryz.checked) own started (by kernel_rfl) Tryz.func3
  (ChangeSpec.witness6 (enc:=enc) (C:=Tryz.checked) false ⟨#[],#[.agg #[.int .i64 0,.int .i64 0,.slice none 0 0,.slice none 0 0,.slice none 0 0,.slice none 0 0,.slice none 0 0],.slice none 0 0],[]⟩ 8 (by kernel_rfl) (by kernel_rfl) (by kernel_rfl) (by kernel_rfl)) ?_
 intro W base args ds gs before hval0 hW _ _
 have hval:∀ (j:Nat) t v,Tryz.f3.params[j]?=some t→args[j]?=some v→Value.okWide Tryz.prog W .any base t v:=hval0
 have hW':=hW
 obtain ⟨p,q,hA0,hV,rfl,_,_⟩:=hW
 have hA:DataW.TrodAll enc Tryz.prog W 0 (fun _=>true) true Tryz.f3.params.toList args.toList ds p:=hA0
 rw[Tryz.params3] at hA hval
 obtain ⟨v0,v1,d0,d1,p0,p1,rfl,rfl,rfl,h0,h1⟩:=trodAll_two hA
 obtain ⟨rfl,rfl⟩:=trodVars_none hV
 simp only[List.append_nil] at hW'
 have hlt:=hW'.lt
 have w0:Value.okWide Tryz.prog W .any base 30 v0:=hval 0 30 v0 rfl rfl
 obtain ⟨vs0,rfl,_⟩:=okWide_struct Tryz.underlying30 w0
 have r0:=h0
 obtain ⟨_,r0⟩:=r0
 obtain ⟨x0,as0,hc0,hv0,hb0⟩:=RdStream_30 _ _ _ _ r0
 have hagg0:=hv0.agg
 obtain ⟨y0_0,t0_0,rfl,g0_0,hc0⟩:=Cs_cons hc0
 obtain ⟨y0_1,t0_1,rfl,g0_1,hc0⟩:=Cs_cons hc0
 obtain ⟨y0_2,t0_2,rfl,g0_2,hc0⟩:=Cs_cons hc0
 obtain ⟨y0_3,t0_3,rfl,g0_3,hc0⟩:=Cs_cons hc0
 obtain ⟨y0_4,t0_4,rfl,g0_4,hc0⟩:=Cs_cons hc0
 obtain ⟨y0_5,t0_5,rfl,g0_5,hc0⟩:=Cs_cons hc0
 obtain ⟨y0_6,t0_6,rfl,g0_6,hc0⟩:=Cs_cons hc0
 obtain rfl:=Cs_nil hc0
 cases g0_0
 cases g0_1
 obtain ⟨z0_2,f0_2,e0_2,rfl,g0_2⟩:=g0_2
 obtain ⟨z0_3,f0_3,e0_3,rfl,g0_3⟩:=g0_3
 obtain ⟨z0_4,f0_4,e0_4,rfl,g0_4⟩:=g0_4
 obtain ⟨z0_5,f0_5,e0_5,rfl,g0_5⟩:=g0_5
 obtain ⟨z0_6,f0_6,e0_6,rfl,g0_6⟩:=g0_6
 have w1:Value.okWide Tryz.prog W .any base 31 v1:=hval 1 31 v1 rfl rfl
 obtain ⟨sa1,sl1,sc1,rfl⟩:=okWide_slice Tryz.underlying31 w1
 have r1:=h1
 obtain ⟨_,r1⟩:=r1
 obtain ⟨x1,as1,hc1,hv1,hb1⟩:=(Rd.slice (ag:=true) Tryz.underlying31 cells61 (by decide) (by decide) RdDeed_61 hrfA) _ _ _ _ r1
 obtain ⟨y1,t1,rfl,g1,hc1⟩:=Cs_cons hc1
 obtain rfl:=Cs_nil hc1
 have hagg1:=(hv1.2 0 _ _ rfl rfl).1
 obtain ⟨z1,f1,e1,rfl,g1⟩:=g1
 refine (law_calls CfOk followsOk W rfl (VA_2 hagg0 hagg1) ((laws_FnExactVerdictAfter_ok g0_2 g0_3 g0_4 g0_5 g0_6 g1 (law_VerdictAfter hb0 hb1) WF0).mono fun _ _ _ h=>h.1)).mono fun e W' ⟨he,bel⟩=>?_
 subst he
 have hpp:=trodAll_mk2 (Below.trod laidOut (by kernel_rfl) (of_decide_eq_true (by kernel_rfl)) h0 bel fun x hx=>hlt x (List.mem_append_left _ hx)) (Below.trod laidOut (by kernel_rfl) (of_decide_eq_true (by kernel_rfl)) h1 bel fun x hx=>hlt x (List.mem_append_right _ hx))
 exact ⟨_,rfl,_,_,_,[],_,[],hW',trodAll_mk1 (shut_bool Tryz.underlying4 _),hpp,rfl,bel.frame _,fun h=>by cases h⟩
theorem mayEnter:Tryz.prog.mayEnter=true:=by kernel_rfl
theorem inPl:Tryz.prog.inPlace 3=Rows.fnExactVerdictAfterRow.inPlace:=by kernel_rfl
theorem recs:Tryz.prog.recurses 3=Rows.fnExactVerdictAfterRow.recurses:=by kernel_rfl
theorem unfo:Tryz.prog.unfollowed 3=Rows.fnExactVerdictAfterRow.unfollowed:=by kernel_rfl
theorem vnam:Tryz.prog.varsNamed 3=Rows.fnExactVerdictAfterRow.named:=by kernel_rfl
theorem joined:joinedFacts Tryz.prog 3 Tryz.f3 Rows.fnExactVerdictAfterSpec Rows.fnExactVerdictAfterRow=true:=by
 unfold joinedFacts
 rw[mayEnter,inPl,recs,unfo,vnam,laidOut]
 kernel_rfl
theorem holdsFnExactVerdictAfter:Rows.FnExactVerdictAfterSaid :=
 OpenClaim.holds_of_wide 3 Tryz.f3 rfl rfl rfl rfl rfl rfl rfl ⟨rfl,rfl,rfl,rfl,rfl⟩ rfl rfl rfl rfl rfl (by kernel_rfl) Tryz.func3 joined
  (of_decide_eq_true (by kernel_rfl)) (by unfold Func.isWrapper; first | (rw[if_pos (by decide +kernel)]; kernel_rfl) | (rw[if_neg (by decide +kernel)]; exact ⟨rfl,rfl⟩))
  (fun os started H enc _=>liftedFnExactVerdictAfter os started H enc)
#print axioms holdsFnExactVerdictAfter
end Go.Proofs.YtmahhacghgkigaaGreat.law
