import Derived.Test.YtpchecdlbagedaaGreatAeD
import Derived.Test.YtpchecdlbagedaaGreatAe4
set_option linter.unusedVariables false
set_option linter.unusedSimpArgs false
namespace Go.Proofs.YtpchecdlbagedaaGreat.law
open Go Go.Proofs Ae
set_option maxRecDepth 100000
set_option linter.unusedVariables false
theorem laws_szOutPush_sz {a:OutPush} (h:bOutPush a):SzOk smOutPush laws_szOutPush a:=by
 intro left h0 h1
 unfold laws_szOutPush
 have b1:=bS.len h.2.2
 rw[w64 (by omega) (by omega)]
 by_cases p1:left - (a.Out.length:Int)<0
 ·exact ⟨-1,by rw[if_pos (by simpa using p1)],by omega,.inl (by omega)⟩
 rw[if_neg (by simpa using p1)]
 exact ⟨_,rfl,by omega,.inr ⟨by omega,⟨trivial,trivial,(show smS a.Out by unfold smS; omega)⟩⟩⟩
theorem laws_szOutPushS_sz {a:List OutPush} (h:(bL bOutPush) a):SzOk (smL smOutPush) laws_szOutPushS a :=
 sz_loop (sub:=laws_szOutPush) (S:=laws_szOutPushS_S1 a) (fun _ _=>rfl) (fun _=>rfl) h.len fun x hx=>laws_szOutPush_sz (h.2 x hx)
theorem laws_szOutPushSS_sz {a:List (List OutPush)} (h:(bL (bL bOutPush)) a):SzOk (smL (smL smOutPush)) laws_szOutPushSS a :=
 sz_loop (sub:=laws_szOutPushS) (S:=laws_szOutPushSS_S1 a) (fun _ _=>rfl) (fun _=>rfl) h.len fun x hx=>laws_szOutPushS_sz (h.2 x hx)
theorem laws_szOutMove_sz {a:OutMove} (h:bOutMove a):SzOk smOutMove laws_szOutMove a:=by
 intro left h0 h1
 unfold laws_szOutMove
 have b1:=bS.len h.2
 rw[w64 (by omega) (by omega)]
 by_cases p1:left - (a.Out.length:Int)<0
 ·exact ⟨-1,by rw[if_pos (by simpa using p1)],by omega,.inl (by omega)⟩
 rw[if_neg (by simpa using p1)]
 exact ⟨_,rfl,by omega,.inr ⟨by omega,⟨trivial,(show smS a.Out by unfold smS; omega)⟩⟩⟩
theorem laws_szOutMoveS_sz {a:List OutMove} (h:(bL bOutMove) a):SzOk (smL smOutMove) laws_szOutMoveS a :=
 sz_loop (sub:=laws_szOutMove) (S:=laws_szOutMoveS_S1 a) (fun _ _=>rfl) (fun _=>rfl) h.len fun x hx=>laws_szOutMove_sz (h.2 x hx)
theorem laws_szOutMoveSS_sz {a:List (List OutMove)} (h:(bL (bL bOutMove)) a):SzOk (smL (smL smOutMove)) laws_szOutMoveSS a :=
 sz_loop (sub:=laws_szOutMoveS) (S:=laws_szOutMoveSS_S1 a) (fun _ _=>rfl) (fun _=>rfl) h.len fun x hx=>laws_szOutMoveS_sz (h.2 x hx)
theorem laws_szOutMoveSSS_sz {a:List (List (List OutMove))} (h:(bL (bL (bL bOutMove))) a):SzOk (smL (smL (smL smOutMove))) laws_szOutMoveSSS a :=
 sz_loop (sub:=laws_szOutMoveSS) (S:=laws_szOutMoveSSS_S1 a) (fun _ _=>rfl) (fun _=>rfl) h.len fun x hx=>laws_szOutMoveSS_sz (h.2 x hx)
theorem laws_szRewriter_sz {a:Rewriter} (h:bRewriter a):SzOk smRewriter laws_szRewriter a:=by
 intro left h0 h1
 unfold laws_szRewriter
 obtain ⟨y1,e1,l1,q1⟩:=laws_szOutPushSS_sz h.2.2.1 left h0 h1
 rw[e1,Option.bind_some]
 rcases q1 with q1 | ⟨p1,s1⟩
 ·exact ⟨-1,by rw[if_pos (by simpa using q1)],by omega,.inl (by omega)⟩
 rw[if_neg (by simp; omega)]
 obtain ⟨y2,e2,l2,q2⟩:=laws_szOutMoveSSS_sz h.2.2.2.1 y1 p1 (by omega)
 rw[e2,Option.bind_some]
 rcases q2 with q2 | ⟨p2,s2⟩
 ·exact ⟨-1,by rw[if_pos (by simpa using q2)],by omega,.inl (by omega)⟩
 rw[if_neg (by simp; omega)]
 obtain ⟨y3,e3,l3,q3⟩:=laws_szOutMoveSS_sz h.2.2.2.2 y2 p2 (by omega)
 rw[e3,Option.bind_some]
 rcases q3 with q3 | ⟨p3,s3⟩
 ·exact ⟨-1,by rw[if_pos (by simpa using q3)],by omega,.inl (by omega)⟩
 rw[if_neg (by simp; omega)]
 exact ⟨_,rfl,by omega,.inr ⟨by omega,⟨trivial,trivial,s1,s2,s3⟩⟩⟩
theorem laws_szBoolS_sz {a:List Bool} (h:(bL bB) a):SzOk (smL smT) laws_szBoolS a:=sz_flat (fun _=>rfl) h.len
theorem laws_szPushS_sz {a:List Push} (h:(bL bPush) a):SzOk (smL smT) laws_szPushS a:=sz_flat (fun _=>rfl) h.len
theorem laws_szPushSS_sz {a:List (List Push)} (h:(bL (bL bPush)) a):SzOk (smL (smL smT)) laws_szPushSS a :=
 sz_loop (sub:=laws_szPushS) (S:=laws_szPushSS_S1 a) (fun _ _=>rfl) (fun _=>rfl) h.len fun x hx=>laws_szPushS_sz (h.2 x hx)
theorem laws_szInt64S_sz {a:List Int} (h:(bL (bI .i64)) a):SzOk (smL smT) laws_szInt64S a:=sz_flat (fun _=>rfl) h.len
theorem laws_szInt64SS_sz {a:List (List Int)} (h:(bL (bL (bI .i64))) a):SzOk (smL (smL smT)) laws_szInt64SS a :=
 sz_loop (sub:=laws_szInt64S) (S:=laws_szInt64SS_S1 a) (fun _ _=>rfl) (fun _=>rfl) h.len fun x hx=>laws_szInt64S_sz (h.2 x hx)
theorem laws_szInt64SSS_sz {a:List (List (List Int))} (h:(bL (bL (bL (bI .i64)))) a):SzOk (smL (smL (smL smT))) laws_szInt64SSS a :=
 sz_loop (sub:=laws_szInt64SS) (S:=laws_szInt64SSS_S1 a) (fun _ _=>rfl) (fun _=>rfl) h.len fun x hx=>laws_szInt64SS_sz (h.2 x hx)
theorem laws_szChecker_sz {a:Checker} (h:bChecker a):SzOk smChecker laws_szChecker a:=by
 intro left h0 h1
 unfold laws_szChecker
 obtain ⟨y1,e1,l1,q1⟩:=laws_szBoolS_sz h.2.2.1 left h0 h1
 rw[e1,Option.bind_some]
 rcases q1 with q1 | ⟨p1,s1⟩
 ·exact ⟨-1,by rw[if_pos (by simpa using q1)],by omega,.inl (by omega)⟩
 rw[if_neg (by simp; omega)]
 obtain ⟨y2,e2,l2,q2⟩:=laws_szPushSS_sz h.2.2.2.1 y1 p1 (by omega)
 rw[e2,Option.bind_some]
 rcases q2 with q2 | ⟨p2,s2⟩
 ·exact ⟨-1,by rw[if_pos (by simpa using q2)],by omega,.inl (by omega)⟩
 rw[if_neg (by simp; omega)]
 obtain ⟨y3,e3,l3,q3⟩:=laws_szInt64SSS_sz h.2.2.2.2.1 y2 p2 (by omega)
 rw[e3,Option.bind_some]
 rcases q3 with q3 | ⟨p3,s3⟩
 ·exact ⟨-1,by rw[if_pos (by simpa using q3)],by omega,.inl (by omega)⟩
 rw[if_neg (by simp; omega)]
 obtain ⟨y4,e4,l4,q4⟩:=laws_szInt64SS_sz h.2.2.2.2.2 y3 p3 (by omega)
 rw[e4,Option.bind_some]
 rcases q4 with q4 | ⟨p4,s4⟩
 ·exact ⟨-1,by rw[if_pos (by simpa using q4)],by omega,.inl (by omega)⟩
 rw[if_neg (by simp; omega)]
 exact ⟨_,rfl,by omega,.inr ⟨by omega,⟨trivial,trivial,s1,s2,s3,s4⟩⟩⟩
theorem laws_toPush_to {a:Push} (h:smT a):laws_toPush a=some a:=by
 unfold laws_toPush
 rfl
theorem laws_eqBoolS_eq {a:List Bool} (h:(smL smT) a):laws_eqBoolS a a=some true :=
 eq_loop (sub:=(fun x y=>some (x == y))) (S:=laws_eqBoolS_S1 a a) (fun _=>rfl) rfl h.1 (fun _ _=>by simp)
theorem laws_eqPush_eq {a:Push} (h:smT a):laws_eqPush a a=some true:=by
 unfold laws_eqPush
 simp[]
theorem laws_eqPushS_eq {a:List Push} (h:(smL smT) a):laws_eqPushS a a=some true :=
 eq_loop (sub:=laws_eqPush) (S:=laws_eqPushS_S1 a a) (fun _=>rfl) rfl h.1 (fun x hx=>laws_eqPush_eq (h.2 x hx))
theorem laws_eqPushSS_eq {a:List (List Push)} (h:(smL (smL smT)) a):laws_eqPushSS a a=some true :=
 eq_loop (sub:=laws_eqPushS) (S:=laws_eqPushSS_S1 a a) (fun _=>rfl) rfl h.1 (fun x hx=>laws_eqPushS_eq (h.2 x hx))
theorem laws_eqInt64S_eq {a:List Int} (h:(smL smT) a):laws_eqInt64S a a=some true :=
 eq_loop (sub:=(fun x y=>some (x == y))) (S:=laws_eqInt64S_S1 a a) (fun _=>rfl) rfl h.1 (fun _ _=>by simp)
theorem laws_eqInt64SS_eq {a:List (List Int)} (h:(smL (smL smT)) a):laws_eqInt64SS a a=some true :=
 eq_loop (sub:=laws_eqInt64S) (S:=laws_eqInt64SS_S1 a a) (fun _=>rfl) rfl h.1 (fun x hx=>laws_eqInt64S_eq (h.2 x hx))
theorem laws_eqInt64SSS_eq {a:List (List (List Int))} (h:(smL (smL (smL smT))) a):laws_eqInt64SSS a a=some true :=
 eq_loop (sub:=laws_eqInt64SS) (S:=laws_eqInt64SSS_S1 a a) (fun _=>rfl) rfl h.1 (fun x hx=>laws_eqInt64SS_eq (h.2 x hx))
theorem laws_eqChecker_eq {a:Checker} (h:smChecker a):laws_eqChecker a a=some true:=by
 unfold laws_eqChecker
 simp[laws_eqBoolS_eq h.2.2.1,laws_eqPushSS_eq h.2.2.2.1,laws_eqInt64SSS_eq h.2.2.2.2.1,laws_eqInt64SS_eq h.2.2.2.2.2]
theorem laws_eqOutPush_eq {a:OutPush} (h:smOutPush a):laws_eqOutPush a a=some true:=by
 unfold laws_eqOutPush
 simp[]
theorem laws_eqOutPushS_eq {a:List OutPush} (h:(smL smOutPush) a):laws_eqOutPushS a a=some true :=
 eq_loop (sub:=laws_eqOutPush) (S:=laws_eqOutPushS_S1 a a) (fun _=>rfl) rfl h.1 (fun x hx=>laws_eqOutPush_eq (h.2 x hx))
theorem laws_eqOutPushSS_eq {a:List (List OutPush)} (h:(smL (smL smOutPush)) a):laws_eqOutPushSS a a=some true :=
 eq_loop (sub:=laws_eqOutPushS) (S:=laws_eqOutPushSS_S1 a a) (fun _=>rfl) rfl h.1 (fun x hx=>laws_eqOutPushS_eq (h.2 x hx))
theorem laws_eqOutMove_eq {a:OutMove} (h:smOutMove a):laws_eqOutMove a a=some true:=by
 unfold laws_eqOutMove
 simp[]
theorem laws_eqOutMoveS_eq {a:List OutMove} (h:(smL smOutMove) a):laws_eqOutMoveS a a=some true :=
 eq_loop (sub:=laws_eqOutMove) (S:=laws_eqOutMoveS_S1 a a) (fun _=>rfl) rfl h.1 (fun x hx=>laws_eqOutMove_eq (h.2 x hx))
theorem laws_eqOutMoveSS_eq {a:List (List OutMove)} (h:(smL (smL smOutMove)) a):laws_eqOutMoveSS a a=some true :=
 eq_loop (sub:=laws_eqOutMoveS) (S:=laws_eqOutMoveSS_S1 a a) (fun _=>rfl) rfl h.1 (fun x hx=>laws_eqOutMoveS_eq (h.2 x hx))
theorem laws_eqOutMoveSSS_eq {a:List (List (List OutMove))} (h:(smL (smL (smL smOutMove))) a):laws_eqOutMoveSSS a a=some true :=
 eq_loop (sub:=laws_eqOutMoveSS) (S:=laws_eqOutMoveSSS_S1 a a) (fun _=>rfl) rfl h.1 (fun x hx=>laws_eqOutMoveSS_eq (h.2 x hx))
theorem laws_eqRewriter_eq {a:Rewriter} (h:smRewriter a):laws_eqRewriter a a=some true:=by
 unfold laws_eqRewriter
 simp[laws_eqOutPushSS_eq h.2.2.1,laws_eqOutMoveSSS_eq h.2.2.2.1,laws_eqOutMoveSS_eq h.2.2.2.2]
theorem laws_toOutPush_K0_to {a:OutPush} (h:smOutPush a):laws_toOutPush_K0 a=some a:=by
 unfold laws_toOutPush_K0
 rfl
theorem laws_toOutPushS_K0_to {a:List OutPush} (h:(smL smOutPush) a):laws_toOutPushS_K0 a=some a :=
 to_loop (sub:=laws_toOutPush_K0) (S:=laws_toOutPushS_K0_S1 a) (fun _ _=>rfl) rfl h.1 (fun x hx=>laws_toOutPush_K0_to (h.2 x hx))
theorem laws_toOutPushSS_K0_to {a:List (List OutPush)} (h:(smL (smL smOutPush)) a):laws_toOutPushSS_K0 a=some a :=
 to_loop (sub:=laws_toOutPushS_K0) (S:=laws_toOutPushSS_K0_S1 a) (fun _ _=>rfl) rfl h.1 (fun x hx=>laws_toOutPushS_K0_to (h.2 x hx))
theorem laws_toOutMove_K0_to {a:OutMove} (h:smOutMove a):laws_toOutMove_K0 a=some a:=by
 unfold laws_toOutMove_K0
 rfl
theorem laws_toOutMoveS_K0_to {a:List OutMove} (h:(smL smOutMove) a):laws_toOutMoveS_K0 a=some a :=
 to_loop (sub:=laws_toOutMove_K0) (S:=laws_toOutMoveS_K0_S1 a) (fun _ _=>rfl) rfl h.1 (fun x hx=>laws_toOutMove_K0_to (h.2 x hx))
theorem laws_toOutMoveSS_K0_to {a:List (List OutMove)} (h:(smL (smL smOutMove)) a):laws_toOutMoveSS_K0 a=some a :=
 to_loop (sub:=laws_toOutMoveS_K0) (S:=laws_toOutMoveSS_K0_S1 a) (fun _ _=>rfl) rfl h.1 (fun x hx=>laws_toOutMoveS_K0_to (h.2 x hx))
theorem laws_toOutMoveSSS_K0_to {a:List (List (List OutMove))} (h:(smL (smL (smL smOutMove))) a):laws_toOutMoveSSS_K0 a=some a :=
 to_loop (sub:=laws_toOutMoveSS_K0) (S:=laws_toOutMoveSSS_K0_S1 a) (fun _ _=>rfl) rfl h.1 (fun x hx=>laws_toOutMoveSS_K0_to (h.2 x hx))
theorem laws_toRewriter_K0_to {a:Rewriter} (h:smRewriter a):laws_toRewriter_K0 a=some a:=by
 unfold laws_toRewriter_K0
 rw[laws_toOutPushSS_K0_to h.2.2.1,Option.bind_some]
 rw[laws_toOutMoveSSS_K0_to h.2.2.2.1,Option.bind_some]
 rw[laws_toOutMoveSS_K0_to h.2.2.2.2,Option.bind_some]
theorem laws_toBoolS_K0_to {a:List Bool} (h:(smL smT) a):laws_toBoolS_K0 a=some a :=
 to_loop (sub:=some) (S:=laws_toBoolS_K0_S1 a) (fun _ _=>rfl) rfl h.1 (fun _ _=>rfl)
theorem laws_toPushS_K0_to {a:List Push} (h:(smL smT) a):laws_toPushS_K0 a=some a :=
 to_loop (sub:=laws_toPush) (S:=laws_toPushS_K0_S1 a) (fun _ _=>rfl) rfl h.1 (fun x hx=>laws_toPush_to (h.2 x hx))
theorem laws_toPushSS_K0_to {a:List (List Push)} (h:(smL (smL smT)) a):laws_toPushSS_K0 a=some a :=
 to_loop (sub:=laws_toPushS_K0) (S:=laws_toPushSS_K0_S1 a) (fun _ _=>rfl) rfl h.1 (fun x hx=>laws_toPushS_K0_to (h.2 x hx))
theorem laws_toInt64S_K0_to {a:List Int} (h:(smL smT) a):laws_toInt64S_K0 a=some a :=
 to_loop (sub:=some) (S:=laws_toInt64S_K0_S1 a) (fun _ _=>rfl) rfl h.1 (fun _ _=>rfl)
theorem laws_toInt64SS_K0_to {a:List (List Int)} (h:(smL (smL smT)) a):laws_toInt64SS_K0 a=some a :=
 to_loop (sub:=laws_toInt64S_K0) (S:=laws_toInt64SS_K0_S1 a) (fun _ _=>rfl) rfl h.1 (fun x hx=>laws_toInt64S_K0_to (h.2 x hx))
theorem laws_toInt64SSS_K0_to {a:List (List (List Int))} (h:(smL (smL (smL smT))) a):laws_toInt64SSS_K0 a=some a :=
 to_loop (sub:=laws_toInt64SS_K0) (S:=laws_toInt64SSS_K0_S1 a) (fun _ _=>rfl) rfl h.1 (fun x hx=>laws_toInt64SS_K0_to (h.2 x hx))
theorem laws_toChecker_K0_to {a:Checker} (h:smChecker a):laws_toChecker_K0 a=some a:=by
 unfold laws_toChecker_K0
 rw[laws_toBoolS_K0_to h.2.2.1,Option.bind_some]
 rw[laws_toPushSS_K0_to h.2.2.2.1,Option.bind_some]
 rw[laws_toInt64SSS_K0_to h.2.2.2.2.1,Option.bind_some]
 rw[laws_toInt64SS_K0_to h.2.2.2.2.2,Option.bind_some]
theorem app_ok {α:Type} {x y:List α} (h:x.length+y.length≤100000000):app x y=some (x++y):=by
 unfold app; rw[if_pos (by simp[LIM]; omega)]

/-- Texts of numbers. -/
theorem text_loop:∀ (d k:Nat) (out:List UInt8),k<10 ^ d→k≤9223372036854775807→out.length+d≤1000→∃ r,loop laws_markText_S1 ((k:Int),out)=some r
 | d,0,out,_,_,hl=>by
  refine ⟨[109]++out,loop_R ?_⟩
  unfold laws_markText_S1 laws_markText_J1
  simp only
  rw[if_neg (by simp),app_ok (by simp; try omega)]
  rfl
 | 0,k+1,out,hk,_,_=>by simp at hk
 | d+1,k+1,out,hk,hb,hl=>by
  obtain ⟨r,hr⟩:=text_loop d ((k+1) / 10) (bytesOf [IntKind.wrap .u8 (IntKind.wrap .i64 (48+((k+1:Nat):Int).tmod 10))]++out) (by rw[Nat.pow_succ] at hk; omega) (by omega) (by simp[bytesOf]; omega)
  refine ⟨r,(loop_L ?_).trans hr⟩
  unfold laws_markText_S1
  simp only
  have h1:decide (((k+1:Nat):Int)>0)=true:=by simp
  have q:quoI .i64 ((k+1:Nat):Int) 10=some (((k+1) / 10:Nat):Int):=by
   unfold quoI
   rw[if_neg (by decide),Int.tdiv_eq_ediv_of_nonneg (by omega),w64 (by omega) (by omega)]
   rfl
  rw[if_pos h1]
  unfold remI
  rw[if_neg (by decide),Option.bind_some,app_ok (by simp[bytesOf]; omega),Option.bind_some,q,Option.bind_some]

theorem text_tot {k:Int} (h:k≤9223372036854775807):∃ r,laws_markText k=some r:=by
 unfold laws_markText
 split
 ·exact ⟨_,rfl⟩
 ·rename_i hn
  have hn':0<k:=by simpa using hn
  obtain ⟨u,rfl⟩:=Int.eq_ofNat_of_zero_le (Int.le_of_lt hn')
  exact text_loop 19 u [] (by omega) (by omega) (by simp)

theorem laws_markOutPushS_K10_mk {a:List OutPush} (h:(smL smOutPush) a):MkOk 3145728 laws_markOutPushS_K10 a:=by
 refine mk_gen (B:=3) (S:=laws_markOutPushS_K10_S1) (fun _=>rfl) (fun m k hm=>by unfold laws_markOutPushS_K10_S1; simp only; rw[hm,ltF]; rfl) (fun i m k x hm hx hxa hlt hk hb=>?_) h.1
 unfold laws_markOutPushS_K10_S1
 have w0:IntKind.wrap .i64 (k+1)=k+1:=w64 (by omega) (by omega)
 have w2:IntKind.wrap .i64 (k+1+1)=k+1+1:=w64 (by omega) (by omega)
 have w3:IntKind.wrap .i64 (k+1+1+1)=k+1+1+1:=w64 (by omega) (by omega)
 obtain ⟨y1,e1⟩:=text_tot (k:=k+1+1) (by omega)
 simp only[hm,ltT hlt,if_true,ix_lit hx,Option.bind_some,w0,w2,w3,e1,List.set_set,w1 hlt (show a.length≤9223372036854775807 by have:=h.1; omega),Int.toNat_natCast]
 refine ⟨_,_,rfl,?_,?_⟩<;>omega
theorem laws_markOutPushSS_K10_mk {a:List (List OutPush)} (h:(smL (smL smOutPush)) a):MkOk 3298534883328 laws_markOutPushSS_K10 a :=
 mk_loop (B:=3145728) (sub:=laws_markOutPushS_K10) (S:=laws_markOutPushSS_K10_S1) (fun _ _ _=>rfl) (fun _=>rfl) h.1 fun x hx=>laws_markOutPushS_K10_mk (h.2 x hx)
theorem laws_markOutMoveS_K10_mk {a:List OutMove} (h:(smL smOutMove) a):MkOk 2097152 laws_markOutMoveS_K10 a:=by
 refine mk_gen (B:=2) (S:=laws_markOutMoveS_K10_S1) (fun _=>rfl) (fun m k hm=>by unfold laws_markOutMoveS_K10_S1; simp only; rw[hm,ltF]; rfl) (fun i m k x hm hx hxa hlt hk hb=>?_) h.1
 unfold laws_markOutMoveS_K10_S1
 have w0:IntKind.wrap .i64 (k+1)=k+1:=w64 (by omega) (by omega)
 have w2:IntKind.wrap .i64 (k+1+1)=k+1+1:=w64 (by omega) (by omega)
 obtain ⟨y1,e1⟩:=text_tot (k:=k+1) (by omega)
 simp only[hm,ltT hlt,if_true,ix_lit hx,Option.bind_some,w0,w2,e1,List.set_set,w1 hlt (show a.length≤9223372036854775807 by have:=h.1; omega),Int.toNat_natCast]
 refine ⟨_,_,rfl,?_,?_⟩<;>omega
theorem laws_markOutMoveSS_K10_mk {a:List (List OutMove)} (h:(smL (smL smOutMove)) a):MkOk 2199023255552 laws_markOutMoveSS_K10 a :=
 mk_loop (B:=2097152) (sub:=laws_markOutMoveS_K10) (S:=laws_markOutMoveSS_K10_S1) (fun _ _ _=>rfl) (fun _=>rfl) h.1 fun x hx=>laws_markOutMoveS_K10_mk (h.2 x hx)
theorem laws_markOutMoveSSS_K10_mk {a:List (List (List OutMove))} (h:(smL (smL (smL smOutMove))) a):MkOk 2305843009213693952 laws_markOutMoveSSS_K10 a :=
 mk_loop (B:=2199023255552) (sub:=laws_markOutMoveSS_K10) (S:=laws_markOutMoveSSS_K10_S1) (fun _ _ _=>rfl) (fun _=>rfl) h.1 fun x hx=>laws_markOutMoveSS_K10_mk (h.2 x hx)
theorem laws_markRewriter_K10_mk {a:Rewriter} (h:smRewriter a) {k:Int} (h0:0≤k) (h1:k+2305848506771832834≤4611686018427387904):∃ r,laws_markRewriter_K10 a k=some r∧k≤r.1∧r.1≤k+2305848506771832834:=by
 unfold laws_markRewriter_K10
 obtain ⟨r1,e1,l1,u1⟩:=laws_markOutPushSS_K10_mk h.2.2.1 k (by omega) (by omega)
 rw[e1,Option.bind_some]
 obtain ⟨r2,e2,l2,u2⟩:=laws_markOutMoveSSS_K10_mk h.2.2.2.1 r1.1 (by omega) (by omega)
 rw[e2,Option.bind_some]
 obtain ⟨r3,e3,l3,u3⟩:=laws_markOutMoveSS_K10_mk h.2.2.2.2 r2.1 (by omega) (by omega)
 rw[e3,Option.bind_some]
 exact ⟨_,rfl,by show k≤r3.1; omega,by show r3.1≤k+2305848506771832834; omega⟩
theorem laws_markBoolS_K10_mk {a:List Bool} (h:(smL smT) a):MkOk 1048576 laws_markBoolS_K10 a :=
 mk_one (g:=fun k=>(remI .i64 k 3).map (· == 0)) (S:=laws_markBoolS_K10_S1) (fun m k i=>by
  show (if decide (i<(m.length:Int))=true then (remI .i64 k 3).bind fun q=>(ix m i).bind fun _=>(some (Sum.inl (m.set (Int.toNat i) (q == 0),IntKind.wrap .i64 (k+1),IntKind.wrap .i64 (i+1))):Option ((List Bool × Int × Int) ⊕ (Int × List Bool))) else some (Sum.inr (k,m)))=_
  rw[remI3]
  cases ix m i<;>rfl) (fun k=>⟨_,rfl⟩) (fun _=>rfl) h.1
theorem laws_markPushS_K10_mk {a:List Push} (h:(smL smT) a):MkOk 2097152 laws_markPushS_K10 a:=by
 refine mk_gen (B:=2) (S:=laws_markPushS_K10_S1) (fun _=>rfl) (fun m k hm=>by unfold laws_markPushS_K10_S1; simp only; rw[hm,ltF]; rfl) (fun i m k x hm hx hxa hlt hk hb=>?_) h.1
 unfold laws_markPushS_K10_S1
 simp only[hm,ltT hlt,if_true,ix_lit hx,Option.bind_some,w1 hlt (show a.length≤9223372036854775807 by have:=h.1; omega),Int.toNat_natCast,List.set_set]
 refine ⟨_,_,rfl,?_,?_⟩
 all_goals (try rw[w64 (n:=k+1) (by omega) (by omega)])
 all_goals (try rw[w64 (n:=k+1+1) (by omega) (by omega)])
 all_goals (try rw[w64 (n:=k+1+1+1) (by omega) (by omega)])
 all_goals omega
theorem laws_markPushSS_K10_mk {a:List (List Push)} (h:(smL (smL smT)) a):MkOk 2199023255552 laws_markPushSS_K10 a :=
 mk_loop (B:=2097152) (sub:=laws_markPushS_K10) (S:=laws_markPushSS_K10_S1) (fun _ _ _=>rfl) (fun _=>rfl) h.1 fun x hx=>laws_markPushS_K10_mk (h.2 x hx)
theorem laws_markInt64S_K10_mk {a:List Int} (h:(smL smT) a):MkOk 1048576 laws_markInt64S_K10 a :=
 mk_one (g:=some) (S:=laws_markInt64S_K10_S1) (fun m k i=>rfl) (fun k=>⟨_,rfl⟩) (fun _=>rfl) h.1
theorem laws_markInt64SS_K10_mk {a:List (List Int)} (h:(smL (smL smT)) a):MkOk 1099511627776 laws_markInt64SS_K10 a :=
 mk_loop (B:=1048576) (sub:=laws_markInt64S_K10) (S:=laws_markInt64SS_K10_S1) (fun _ _ _=>rfl) (fun _=>rfl) h.1 fun x hx=>laws_markInt64S_K10_mk (h.2 x hx)
theorem laws_markInt64SSS_K10_mk {a:List (List (List Int))} (h:(smL (smL (smL smT))) a):MkOk 1152921504606846976 laws_markInt64SSS_K10 a :=
 mk_loop (B:=1099511627776) (sub:=laws_markInt64SS_K10) (S:=laws_markInt64SSS_K10_S1) (fun _ _ _=>rfl) (fun _=>rfl) h.1 fun x hx=>laws_markInt64SS_K10_mk (h.2 x hx)
theorem laws_markChecker_K10_mk {a:Checker} (h:smChecker a) {k:Int} (h0:0≤k) (h1:k+1152924803142778882≤4611686018427387904):∃ r,laws_markChecker_K10 a k=some r∧k≤r.1∧r.1≤k+1152924803142778882:=by
 unfold laws_markChecker_K10
 obtain ⟨r1,e1,l1,u1⟩:=laws_markBoolS_K10_mk h.2.2.1 k (by omega) (by omega)
 rw[e1,Option.bind_some]
 obtain ⟨r2,e2,l2,u2⟩:=laws_markPushSS_K10_mk h.2.2.2.1 r1.1 (by omega) (by omega)
 rw[e2,Option.bind_some]
 obtain ⟨r3,e3,l3,u3⟩:=laws_markInt64SSS_K10_mk h.2.2.2.2.1 r2.1 (by omega) (by omega)
 rw[e3,Option.bind_some]
 obtain ⟨r4,e4,l4,u4⟩:=laws_markInt64SS_K10_mk h.2.2.2.2.2 r3.1 (by omega) (by omega)
 rw[e4,Option.bind_some]
 exact ⟨_,rfl,by show k≤r4.1; omega,by show r4.1≤k+1152924803142778882; omega⟩
end Go.Proofs.YtpchecdlbagedaaGreat.law
namespace Go.Proofs.YtpchecdlbagedaaGreat.law
open Go Go.Proofs Ae
set_option maxRecDepth 100000
def isC (x:UInt8):Bool:=((x.toNat:Int) == 40)||((x.toNat:Int) == 91)
def isR (x:UInt8):Bool:=((x.toNat:Int) == 41)||((x.toNat:Int) == 93)
theorem isC_R {x:UInt8} (h:isC x=true):isR x=false:=by
 unfold isC at h; unfold isR
 simp only[Bool.or_eq_true,beq_iff_eq] at h
 simp only[Bool.or_eq_false_iff,beq_eq_false_iff_ne]
 omega

/-- How far a word is matched: partners, pending calls, pending returns. -/
structure MI (w:List UInt8) (i:Nat) (p o r:List Int):Prop where
 lp:p.length=i
 lo:o.length≤i
 lr:r.length≤i
 ho:∀ a∈o,∃ j:Nat,a=(j:Int)∧p[j]?=some (-2)∧∃ x,w[j]?=some x∧isC x=true
 hr:∀ a∈r,∃ j:Nat,a=(j:Int)∧p[j]?=some (-2)∧∃ x,w[j]?=some x∧isR x=true
 co:∀ (j:Nat) x,p[j]?=some (-2)→w[j]?=some x→isC x=true→(j:Int)∈o
 cr:∀ (j:Nat) x,p[j]?=some (-2)→w[j]?=some x→isR x=true→(j:Int)∈r
 nd:o.Nodup
 nr:r.Nodup

theorem app1 {l:List Int} {a:Int} (h:l.length≤2097152):app l [a]=some (l++[a]):=by
 unfold app; rw[if_pos (by unfold LIM; simp; omega)]
theorem get_snoc {l:List Int} {a:Int} {n:Nat} (h:l.length=n) (j:Nat):(l++[a])[j]?=if j=n then some a else l[j]?:=by
 by_cases hj:j<n
 ·rw[List.getElem?_append_left (by omega),if_neg (by omega)]
 ·by_cases h1:j=n
  ·subst h1; rw[if_pos rfl,← h]; simp
  ·rw[if_neg h1,List.getElem?_eq_none (by simp; omega),List.getElem?_eq_none (by omega)]

theorem MI.call {w:List UInt8} {i:Nat} {p o r:List Int} (h:MI w i p o r) {x:UInt8} (hx:w[i]?=some x) (hc:isC x=true):MI w (i+1) (p++[-2]) (o++[(i:Int)]) r where
 lp:=by simp[h.lp]
 lo:=by simp; exact h.lo
 lr:=by have:=h.lr; omega
 ho:=fun a ha=>by
  rcases List.mem_append.1 ha with ha | ha
  ·obtain ⟨j,rfl,h1,h2⟩:=h.ho a ha
   exact ⟨j,rfl,by rw[get_snoc h.lp]; split<;>simp_all,h2⟩
  ·rw[List.mem_singleton] at ha
   exact ⟨i,ha,by rw[get_snoc h.lp,if_pos rfl],x,hx,hc⟩
 hr:=fun a ha=>by
  obtain ⟨j,rfl,h1,h2⟩:=h.hr a ha
  exact ⟨j,rfl,by rw[get_snoc h.lp]; split<;>simp_all,h2⟩
 co:=fun j y h1 h2 h3=>by
  rw[get_snoc h.lp] at h1
  split at h1
  ·rename_i e; subst e; exact List.mem_append_right _ (List.mem_singleton.2 rfl)
  ·exact List.mem_append_left _ (h.co j y h1 h2 h3)
 cr:=fun j y h1 h2 h3=>by
  rw[get_snoc h.lp] at h1
  split at h1
  ·rename_i e; subst e; rw[hx] at h2; cases h2; rw[isC_R hc] at h3; cases h3
  ·exact h.cr j y h1 h2 h3
 nd:=by
  rw[List.nodup_append]
  refine ⟨h.nd,by simp,fun a ha b hb e=>?_⟩
  rw[List.mem_singleton] at hb
  subst e
  obtain ⟨j,h1,h2,_⟩:=h.ho a ha
  have hlt:=(List.getElem?_eq_some_iff.1 h2).1
  have:=h.lp
  omega
 nr:=h.nr

theorem MI.ret0 {w:List UInt8} {i:Nat} {p r:List Int} (h:MI w i p [] r) {x:UInt8} (hx:w[i]?=some x) (hr:isR x=true):MI w (i+1) (p++[-2]) [] (r++[(i:Int)]) where
 lp:=by simp[h.lp]
 lo:=by simp
 lr:=by simp; exact h.lr
 ho:=fun a ha=>by cases ha
 hr:=fun a ha=>by
  rcases List.mem_append.1 ha with ha | ha
  ·obtain ⟨j,rfl,h1,h2⟩:=h.hr a ha
   exact ⟨j,rfl,by rw[get_snoc h.lp]; split<;>simp_all,h2⟩
  ·rw[List.mem_singleton] at ha
   exact ⟨i,ha,by rw[get_snoc h.lp,if_pos rfl],x,hx,hr⟩
 co:=fun j y h1 h2 h3=>by
  rw[get_snoc h.lp] at h1
  split at h1
  ·rename_i e; subst e; rw[hx] at h2; cases h2; rw[isC_R h3] at hr; cases hr
  ·exact h.co j y h1 h2 h3
 cr:=fun j y h1 h2 h3=>by
  rw[get_snoc h.lp] at h1
  split at h1
  ·rename_i e; subst e; exact List.mem_append_right _ (List.mem_singleton.2 rfl)
  ·exact List.mem_append_left _ (h.cr j y h1 h2 h3)
 nd:=List.nodup_nil
 nr:=by
  rw[List.nodup_append]
  refine ⟨h.nr,by simp,fun a ha b hb e=>?_⟩
  rw[List.mem_singleton] at hb
  subst e
  obtain ⟨j,h1,h2,_⟩:=h.hr a ha
  have hlt:=(List.getElem?_eq_some_iff.1 h2).1
  have:=h.lp
  omega

theorem MI.other {w:List UInt8} {i:Nat} {p o r:List Int} (h:MI w i p o r) {a:Int} (ha:a≠-2):MI w (i+1) (p++[a]) o r where
 lp:=by simp[h.lp]
 lo:=by have:=h.lo; omega
 lr:=by have:=h.lr; omega
 ho:=fun b hb=>by
  obtain ⟨j,rfl,h1,h2⟩:=h.ho b hb
  have hlt:=(List.getElem?_eq_some_iff.1 h1).1
  exact ⟨j,rfl,by rw[get_snoc h.lp,if_neg (by have:=h.lp; omega)]; exact h1,h2⟩
 hr:=fun b hb=>by
  obtain ⟨j,rfl,h1,h2⟩:=h.hr b hb
  have hlt:=(List.getElem?_eq_some_iff.1 h1).1
  exact ⟨j,rfl,by rw[get_snoc h.lp,if_neg (by have:=h.lp; omega)]; exact h1,h2⟩
 co:=fun j y h1 h2 h3=>by
  rw[get_snoc h.lp] at h1
  split at h1
  ·cases h1; exact absurd rfl ha
  ·exact h.co j y h1 h2 h3
 cr:=fun j y h1 h2 h3=>by
  rw[get_snoc h.lp] at h1
  split at h1
  ·cases h1; exact absurd rfl ha
  ·exact h.cr j y h1 h2 h3
 nd:=h.nd
 nr:=h.nr

theorem MI.pop {w:List UInt8} {i j:Nat} {p o r:List Int} (h:MI w i p (o++[(j:Int)]) r):MI w i (p.set j (i:Int)) o r:=by
 obtain ⟨j',e,hj,y,hy,hc⟩:=h.ho (j:Int) (List.mem_append_right _ (List.mem_singleton.2 rfl))
 obtain rfl:j'=j:=by omega
 have hnd:=h.nd
 rw[List.nodup_append] at hnd
 have hne:∀ k:Nat,(k:Int)∈o→k≠j':=fun k hk e=>hnd.2.2 k hk j' (List.mem_singleton.2 rfl) (by rw[e])
 refine ⟨by simp[h.lp],?_,h.lr,fun b hb=>?_,fun b hb=>?_,fun k z h1 h2 h3=>?_,fun k z h1 h2 h3=>?_,hnd.1,h.nr⟩
 ·have:=h.lo; simp at this; omega
 ·obtain ⟨k,rfl,h1,h2⟩:=h.ho b (List.mem_append_left _ hb)
  exact ⟨k,rfl,by rw[List.getElem?_set,if_neg (fun e=>hne k hb e.symm)]; exact h1,h2⟩
 ·obtain ⟨k,rfl,h1,z,h2,h3⟩:=h.hr b hb
  refine ⟨k,rfl,?_,z,h2,h3⟩
  rw[List.getElem?_set,if_neg (fun e=>?_)]
  ·exact h1
  ·subst e; rw[hy] at h2; cases h2; rw[isC_R hc] at h3; cases h3
 ·rw[List.getElem?_set] at h1
  split at h1
  ·split at h1
   ·cases h1
   ·cases h1
  ·rename_i hk
   rcases List.mem_append.1 (h.co k z h1 h2 h3) with h4 | h4
   ·exact h4
   ·rw[List.mem_singleton] at h4; omega
 ·rw[List.getElem?_set] at h1
  split at h1
  ·split at h1
   ·cases h1
   ·cases h1
  ·exact h.cr k z h1 h2 h3
end Go.Proofs.YtpchecdlbagedaaGreat.law
namespace Go.Proofs.YtpchecdlbagedaaGreat.law
open Go Go.Proofs Ae
set_option maxRecDepth 100000

theorem J4eq {m55 m61 m79 m83 m114:List Int} {t67 t102 t120:Int} (h1:m79.length≤2097152) (h2:m61.length≤2097152) (h3:m55.length≤2097152) :
  impl_match_J4 m55 m61 t67 m79 m83 t102 m114 t120=some (.inl (m79++[t120],m83,m114,m55++[(m114.length:Int)],m61++[t102],IntKind.wrap .i64 (t67+1))):=by
 unfold impl_match_J4 impl_size_int64_d
 rw[app1 h1,Option.bind_some,app1 h2,Option.bind_some,Option.bind_some,app1 h3,Option.bind_some]
theorem J2eq (w:List UInt8) {m55 m61 m79 m83 m89:List Int} {t67 t95:Int} (h:m89.length≤2097152):∃ t,impl_match_J2 w m55 m61 t67 m79 m83 m89 t95=impl_match_J3 w m55 m61 t67 m79 m83 m89 t95 t:=by
 unfold impl_match_J2
 by_cases h0:m89.length=0
 ·exact ⟨-1,by rw[if_neg (by simp[h0])]⟩
 ·refine ⟨m89[m89.length - 1]'(by omega),?_⟩
  rw[if_pos (decide_eq_true (by omega)),w64 (by omega) (by omega),show ((m89.length:Int) - 1)=((m89.length - 1:Nat):Int) by omega,ix_some (by omega),Option.bind_some]
theorem lastix {o:List Int} {a:Int} (h:(o++[a]).length≤2097152):ix (o++[a]) (IntKind.wrap .i64 (((o++[a]).length:Int) - 1))=some a∧cut (o++[a]) 0 (IntKind.wrap .i64 (((o++[a]).length:Int) - 1))=some o:=by
 have e:((o++[a]).length:Int) - 1=(o.length:Int):=by simp
 simp at h
 rw[e,w64 (by omega) (by omega)]
 refine ⟨ix_lit (by simp),?_⟩
 unfold cut
 rw[if_pos ⟨by omega,by omega,by simp; omega⟩]
 simp

/-- How many calls are open behind a word. -/
def dep:Nat→List UInt8→Nat
 | d,[]=>d
 | d,x::w=>dep (if isC x=true then d+1 else if isR x=true then d - 1 else d) w
theorem joint {w:List UInt8} (hw:w.length≤1048576):∀ (k i:Nat) (p o r d e:List Int),i+k=w.length→MI w i p o r→d.length=i+1→e.length=i →
  ∃ P O R,(MI w w.length P O R∧O.length=dep o.length (w.drop i))∧loop (spec_l01Partners_S1 w) (p,o,(i:Int))=some P∧∃ D E,loop (impl_match_S1 w) (p,r,o,d,e,(i:Int))=some ⟨P,R,O,D,E⟩:=by
 intro k
 induction k with
 | zero =>
  intro i p o r d e hi h hd he
  obtain rfl:i=w.length:=by omega
  refine ⟨p,o,r,⟨h,by rw[List.drop_length]; rfl⟩,loop_R ?_,d,e,loop_R ?_⟩
  ·unfold spec_l01Partners_S1; simp only; rw[if_neg (by simp)]; rfl
  ·unfold impl_match_S1; simp only; rw[if_neg (by simp)]; rfl
 | succ k ih =>
  intro i p o r d e hi h hd he
  have hlt:i<w.length:=by omega
  have hp:=h.lp
  have hol:=h.lo
  have hrl:=h.lr
  have hx:w[i]?=some w[i]:=List.getElem?_eq_getElem hlt
  have hch:chr w (i:Int)=some (w[i].toNat:Int):=chr_nat' hlt
  have step:∀ {p' o' r' d' e':List Int},MI w (i+1) p' o' r'→d'.length=i+2→e'.length=i+1→spec_l01Partners_S1 w (p,o,(i:Int))=some (.inl (p',o',((i+1:Nat):Int))) →
    impl_match_S1 w (p,r,o,d,e,(i:Int))=some (.inl (p',r',o',d',e',((i+1:Nat):Int))) →
    (if isC w[i]=true then o.length+1 else if isR w[i]=true then o.length - 1 else o.length)=o'.length →
    ∃ P O R,(MI w w.length P O R∧O.length=dep o.length (w.drop i))∧loop (spec_l01Partners_S1 w) (p,o,(i:Int))=some P∧∃ D E,loop (impl_match_S1 w) (p,r,o,d,e,(i:Int))=some ⟨P,R,O,D,E⟩:=by
   intro p' o' r' d' e' h1 h2 h3 h4 h5 h6
   obtain ⟨P,O,R,k1,k2,D,E,k3⟩:=ih (i+1) p' o' r' d' e' (by omega) h1 h2 h3
   exact ⟨P,O,R,⟨k1.1,by rw[k1.2,List.drop_eq_getElem_cons hlt]; show _=dep (if _ then _ else _) _; rw[h6]⟩,(loop_L h4).trans k2,D,E,(loop_L h5).trans k3⟩
  have eC:spec_l01Call (w[i].toNat:Int)=some (isC w[i]):=rfl
  have eR:spec_l01Return (w[i].toNat:Int)=some (isR w[i]):=rfl
  have eC':impl_isCall (w[i].toNat:Int)=some (isC w[i]):=rfl
  have eR':impl_isReturn (w[i].toNat:Int)=some (isR w[i]):=rfl
  have hw1:=w1 hlt (show w.length≤9223372036854775807 by omega)
  cases hc:isC w[i] with
  | true =>
   have hr:=isC_R hc
   obtain ⟨t,ht⟩:=J2eq w (m55:=d) (m61:=e) (m79:=p) (m83:=r) (m89:=o) (t67:=(i:Int)) (t95:=-1) (by omega)
   refine step (d':=d++[((o++[(i:Int)]).length:Int)]) (e':=e++[t]) (h.call hx hc) (by simp[hd]) (by simp[he]) ?_ ?_ (by simp_all)
   ·unfold spec_l01Partners_S1 spec_l01Partners_J2
    simp only
    rw[if_pos (ltT hlt),hch,Option.bind_some,eC,hc,Option.bind_some,if_pos rfl,app1 (by omega),Option.bind_some,app1 (by omega),Option.bind_some,hw1]
   ·unfold impl_match_S1
    simp only
    rw[if_pos (ltT hlt),hch,Option.bind_some,eR',hr,Option.bind_some,Bool.false_and,if_neg (by simp),Option.bind_some,eR',hr,Option.bind_some,if_neg (by simp),ht]
    unfold impl_match_J3
    rw[hch,Option.bind_some,eC',hc,Option.bind_some,if_pos rfl,app1 (by omega),Option.bind_some,J4eq (by omega) (by omega) (by omega),hw1]
  | false =>
   cases hr:isR w[i] with
   | true =>
    rcases List.eq_nil_or_concat o with rfl | ⟨o1,a,rfl⟩
    ·obtain ⟨t,ht⟩:=J2eq w (m55:=d) (m61:=e) (m79:=p) (m83:=r++[(i:Int)]) (m89:=[]) (t67:=(i:Int)) (t95:=-2) (by simp)
     refine step (d':=d++[(([]:List Int).length:Int)]) (e':=e++[t]) (h.ret0 hx hr) (by simp[hd]) (by simp[he]) ?_ ?_ (by simp_all)
     ·unfold spec_l01Partners_S1 spec_l01Partners_J2
      simp only
      rw[if_pos (ltT hlt),hch,Option.bind_some,eC,hc,Option.bind_some,if_neg (by simp),Option.bind_some,eR,hr,Option.bind_some,if_neg (by simp),Option.bind_some,eR,hr,Option.bind_some,if_pos rfl,app1 (by omega),Option.bind_some,hw1]
     ·unfold impl_match_S1
      simp only
      rw[if_pos (ltT hlt),hch,Option.bind_some,eR',hr,Option.bind_some,if_pos (by simp),app1 (by omega),Option.bind_some,ht]
      unfold impl_match_J3
      rw[hch,Option.bind_some,eC',hc,Option.bind_some,if_neg (by simp),J4eq (by omega) (by omega) (by omega),hw1]
    ·simp only[List.concat_eq_append] at h hol step ⊢
     obtain ⟨j,rfl,hj,_⟩:=h.ho a (List.mem_append_right _ (List.mem_singleton.2 rfl))
     have hjl:=(List.getElem?_eq_some_iff.1 hj).1
     obtain ⟨l1,l2⟩:=lastix (o:=o1) (a:=(j:Int)) (by omega)
     have hm:MI w (i+1) (p.set j (i:Int)++[(j:Int)]) o1 r:=h.pop.other (by omega)
     have hol1:o1.length≤2097152:=by simp at hol; omega
     have hne:¬ ((o1++[(j:Int)]).length:Int)=0:=by simp; omega
     obtain ⟨t,ht⟩:=J2eq w (m55:=d) (m61:=e) (m79:=p.set j (i:Int)) (m83:=r) (m89:=o1) (t67:=(i:Int)) (t95:=(j:Int)) hol1
     have hjx:ix p (j:Int)=some p[j]:=ix_some hjl
     refine step (d':=d++[(o1.length:Int)]) (e':=e++[t]) hm (by simp[hd]) (by simp[he]) ?_ ?_ (by simp_all)
     ·unfold spec_l01Partners_S1 spec_l01Partners_J2
      simp only
      rw[if_pos (ltT hlt),hch,Option.bind_some,eC,hc,Option.bind_some,if_neg (by simp),Option.bind_some,eR,hr,Option.bind_some,if_pos (by simp),l1,Option.bind_some,l2,Option.bind_some,hjx,Option.bind_some,Int.toNat_natCast,app1 (by simp; omega),Option.bind_some,hw1]
     ·unfold impl_match_S1
      simp only
      rw[if_pos (ltT hlt),hch,Option.bind_some,eR',hr,Option.bind_some,if_neg (by simp; omega),Option.bind_some,eR',hr,Option.bind_some,if_pos rfl,l1,Option.bind_some,hjx,Option.bind_some,l2,Option.bind_some,Int.toNat_natCast,ht]
      unfold impl_match_J3
      rw[hch,Option.bind_some,eC',hc,Option.bind_some,if_neg (by simp),J4eq (by simp; omega) (by omega) (by omega),hw1]
   | false =>
    obtain ⟨t,ht⟩:=J2eq w (m55:=d) (m61:=e) (m79:=p) (m83:=r) (m89:=o) (t67:=(i:Int)) (t95:=-1) (by omega)
    refine step (d':=d++[(o.length:Int)]) (e':=e++[t]) (h.other (a:=-1) (by omega)) (by simp[hd]) (by simp[he]) ?_ ?_ (by simp_all)
    ·unfold spec_l01Partners_S1 spec_l01Partners_J2
     simp only
     rw[if_pos (ltT hlt),hch,Option.bind_some,eC,hc,Option.bind_some,if_neg (by simp),Option.bind_some,eR,hr,Option.bind_some,Bool.false_and,if_neg (by simp),Option.bind_some,eR,hr,Option.bind_some,if_neg (by simp),app1 (by omega),Option.bind_some,hw1]
    ·unfold impl_match_S1
     simp only
     rw[if_pos (ltT hlt),hch,Option.bind_some,eR',hr,Option.bind_some,Bool.false_and,if_neg (by simp),Option.bind_some,eR',hr,Option.bind_some,if_neg (by simp),ht]
     unfold impl_match_J3
     rw[hch,Option.bind_some,eC',hc,Option.bind_some,if_neg (by simp),J4eq (by omega) (by omega) (by omega),hw1]
end Go.Proofs.YtpchecdlbagedaaGreat.law
namespace Go.Proofs.YtpchecdlbagedaaGreat.law
open Go Go.Proofs Ae
set_option maxRecDepth 100000

theorem pend_step {w:List UInt8} (hw:w.length≤1048576) {P:List Int} (hP:P.length=w.length) {i:Nat} (hi:i<w.length) {a b:Int} (ha:0≤a) (ha':a≤i) (hb:0≤b) (hb':b≤i) :
  spec_l01Pending_S1 w P (a,b,(i:Int))=some (.inl ((if P[i]=-2∧isR w[i]=true then a+1 else a),(if P[i]=-2∧isC w[i]=true then b+1 else b),((i+1:Nat):Int))):=by
 have hch:chr w (i:Int)=some (w[i].toNat:Int):=chr_nat' hi
 have hx:ix P (i:Int)=some P[i]:=ix_some (by omega)
 have eC:spec_l01Call (w[i].toNat:Int)=some (isC w[i]):=rfl
 have eR:spec_l01Return (w[i].toNat:Int)=some (isR w[i]):=rfl
 have hw1:=w1 hi (show w.length≤9223372036854775807 by omega)
 have ea:IntKind.wrap .i64 (a+1)=a+1:=w64 (by omega) (by omega)
 have eb:IntKind.wrap .i64 (b+1)=b+1:=w64 (by omega) (by omega)
 unfold spec_l01Pending_S1 spec_l01Pending_J2 spec_l01Pending_J3
 simp only[ltT hi,hx,hch,eC,eR,Option.bind_some,if_true,hw1,ea,eb]
 by_cases h2:P[i]=-2
 ·cases isR w[i]<;>cases isC w[i]<;>simp[h2]
 ·simp[h2]

/-- The places of pending symbols. -/
def cntP (f:UInt8→Bool) (w:List UInt8) (P:List Int) (i:Nat):List Nat:=(List.range i).filter fun j=>decide (P[j]?=some (-2))&&((w[j]?).map f).getD false
theorem cntP_le (f:UInt8→Bool) (w:List UInt8) (P:List Int) (i:Nat):(cntP f w P i).length≤i:=by
 have:=List.length_filter_le (fun j=>decide (P[j]?=some (-2))&&((w[j]?).map f).getD false) (List.range i)
 simpa[cntP] using this
theorem cntP_succ (f:UInt8→Bool) {w:List UInt8} {P:List Int} {i:Nat} (h1:i<w.length) (h2:i<P.length):((cntP f w P (i+1)).length:Int)=if P[i]=-2∧f w[i]=true then ((cntP f w P i).length:Int)+1 else ((cntP f w P i).length:Int):=by
 have e1:P[i]?=some P[i]:=List.getElem?_eq_getElem h2
 have e2:w[i]?=some w[i]:=List.getElem?_eq_getElem h1
 unfold cntP
 rw[List.range_succ,List.filter_append,List.length_append]
 by_cases hp:P[i]=-2
 ·cases hf:f w[i]<;>simp[e1,e2,hp,hf]
 ·simp[e1,e2,hp]
theorem cntP_len {f:UInt8→Bool} {w:List UInt8} {P L:List Int} (hL:L.Nodup) (h1:∀ a∈L,∃ j:Nat,a=(j:Int)∧P[j]?=some (-2)∧∃ x,w[j]?=some x∧f x=true) (h2:∀ (j:Nat) x,P[j]?=some (-2)→w[j]?=some x→f x=true→(j:Int)∈L):(cntP f w P w.length).length=L.length:=by
 have hp:((cntP f w P w.length).map (fun j:Nat=>(j:Int))).Perm L:=by
  refine (List.perm_ext_iff_of_nodup ?_ hL).2 fun a=>?_
  ·refine List.Pairwise.map _ (fun a b h e=>h (by omega)) (List.Pairwise.filter _ List.nodup_range)
  ·rw[List.mem_map]
   constructor
   ·rintro ⟨j,hj,rfl⟩
    obtain ⟨_,hj2⟩:=List.mem_filter.1 hj
    simp only[Bool.and_eq_true,decide_eq_true_eq] at hj2
    obtain ⟨q1,q2⟩:=hj2
    cases hw:w[j]? with
    | none=>rw[hw] at q2; cases q2
    | some x=>rw[hw] at q2; exact h2 j x q1 hw (by simpa using q2)
   ·intro ha
    obtain ⟨j,rfl,q1,x,q2,q3⟩:=h1 a ha
    exact ⟨j,List.mem_filter.2 ⟨List.mem_range.2 (List.getElem?_eq_some_iff.1 q2).1,by simp[q1,q2,q3]⟩,rfl⟩
 rw[← hp.length_eq,List.length_map]

theorem pend {w:List UInt8} (hw:w.length≤1048576) {P O R:List Int} (h:MI w w.length P O R):loop (spec_l01Pending_S1 w P) (0,0,0)=some ((R.length:Int),(O.length:Int)):=by
 have key:∀ (k i:Nat),i+k=w.length→loop (spec_l01Pending_S1 w P) (((cntP isR w P i).length:Int),((cntP isC w P i).length:Int),(i:Int))=some (((cntP isR w P w.length).length:Int),((cntP isC w P w.length).length:Int)):=by
  intro k
  induction k with
  | zero =>
   intro i hi
   obtain rfl:i=w.length:=by omega
   refine loop_R ?_
   unfold spec_l01Pending_S1
   simp only
   rw[if_neg (by simp)]; rfl
  | succ k ih =>
   intro i hi
   have hlt:i<w.length:=by omega
   have l1:=cntP_le isR w P i
   have l2:=cntP_le isC w P i
   rw[loop_L (pend_step hw h.lp hlt (by omega) (by omega) (by omega) (by omega)),← cntP_succ isR hlt (by rw[h.lp]; exact hlt),← cntP_succ isC hlt (by rw[h.lp]; exact hlt)]
   exact ih (i+1) (by omega)
 have:=key w.length 0 (by omega)
 rw[cntP_len h.nr h.hr h.cr,cntP_len h.nd h.ho h.co] at this
 simpa[cntP] using this

/-- So many are pending in the one sense just if in the other. -/
theorem has_eq {w:List UInt8} (hw:w.length≤1048576):∃ p:Int × Int,p.2=(dep 0 w:Int)∧∀ a b:Int,spec_l06Has w a b=some ((p.1 == a)&&(p.2 == b))∧impl_isPending w a b=some ((p.1 == a)&&(p.2 == b)):=by
 obtain ⟨P,O,R,⟨h,hdep⟩,h1,D,E,h2⟩:=joint hw w.length 0 [] [] [] [0] [] (by omega) ⟨rfl,by simp,by simp,fun a ha=>(by cases ha),fun a ha=>(by cases ha),fun j x h=>(by simp at h),fun j x h=>(by simp at h),List.nodup_nil,List.nodup_nil⟩ rfl rfl
 refine ⟨((R.length:Int),(O.length:Int)),by have:=hdep; simp at this; omega,fun a b=>⟨?_,?_⟩⟩
 ·unfold spec_l06Has spec_l01Pending spec_l01Partners
  have h1':loop (spec_l01Partners_S1 w) ([],[],0)=some P:=h1
  rw[h1',Option.bind_some,pend hw h,Option.bind_some]
 ·unfold impl_isPending impl_match
  have h2':loop (impl_match_S1 w) ([],[],[],[0],[],0)=some ⟨P,R,O,D,E⟩:=h2
  rw[h2',Option.bind_some]
end Go.Proofs.YtpchecdlbagedaaGreat.law
namespace Go.Proofs.YtpchecdlbagedaaGreat.law
open Go Go.Proofs Ae
set_option maxRecDepth 100000

theorem sym_ix (x:UInt8):spec_l01Symbol (x.toNat:Int)=some (fst? (· == x) [40,91,41,93,97,98]):=by
 unfold spec_l01Symbol
 refine loop_find (l:=([40,91,41,93,97,98]:List UInt8)) (· == x) (loop_R (by rfl)) fun i y hi=>?_
 have hlt:i<6:=(List.getElem?_eq_some_iff.1 hi).1
 unfold spec_l01Symbol_S1
 rw[if_pos (decide_eq_true (by omega)),chr_nat hi,Option.bind_some,w1 hlt (by decide),u8_eq]
theorem ix_ix (x:UInt8):strings_IndexByte [40,91,41,93,97,98] (x.toNat:Int)=some (fst? (· == x) [40,91,41,93,97,98]):=by
 unfold strings_IndexByte internal_stringslite_IndexByte ixByteM ixByte
 rw[indexByte_fst]
 simp
theorem word_S (w:List UInt8):impl_ValidWord_S1 w=spec_l01Ok_S1 w:=by
 funext i
 unfold impl_ValidWord_S1 spec_l01Ok_S1
 split
 ·refine bindC fun c hc=>?_
  obtain ⟨x,rfl⟩:=chr_some hc
  rw[ix_ix,sym_ix]
 ·rfl
theorem word_eq (w:List UInt8):impl_ValidWord w=spec_l01Ok w:=by
 unfold impl_ValidWord spec_l01Ok; rw[word_S]
theorem word_tot {w:List UInt8} (h:w.length≤9223372036854775807):∃ b,spec_l01Ok w=some b:=by
 unfold spec_l01Ok
 obtain ⟨r,h,_⟩:=loop_tot (step:=spec_l01Ok_S1 w) (n:=w.length) (fun _=>True) ⟨_,loop_R (by unfold spec_l01Ok_S1; rw[if_neg (by simp)]; rfl),trivial⟩ fun i hi=>by
  unfold spec_l01Ok_S1
  rw[if_pos (ltT hi),chr_nat' hi,Option.bind_some,sym_ix,Option.bind_some,w1 hi h]
  split
  ·exact .inr ⟨_,rfl,trivial⟩
  ·exact .inl rfl
 exact ⟨r,h⟩

def okL (l:List Int) (k n:Int):Bool:=((l.length:Int) == k)&&l.all fun x=>decide (x≥0)&&decide (x≤IntKind.wrap .i64 (n - 1))
theorem specL {l:List Int} (h:l.length≤1048576) (k n:Int):spec_l02List l k n=some (okL l k n):=by
 unfold spec_l02List okL
 by_cases hk:(l.length:Int)=k
 ·rw[if_neg (by simpa using hk),show ((l.length:Int) == k)=true by simpa using hk,Bool.true_and]
  rw[loop_allL (l:=l) (p:=fun x=>decide (x≥0)&&decide (x≤IntKind.wrap .i64 (n - 1))) (rt:=some true) (rf:=false) (loop_R (by unfold spec_l02List_S1; rw[if_neg (by simp)]; rfl)) fun i x hx=>by
   have hlt:=(List.getElem?_eq_some_iff.1 hx).1
   unfold spec_l02List_S1
   rw[if_pos (ltT hlt),ix_lit hx,Option.bind_some,w1 hlt (by omega)]
   unfold spec_l00In
   rw[Option.bind_some]
   cases (decide (x≥0)&&decide (x≤IntKind.i64.wrap (n - 1)))<;>rfl]
  split<;>simp_all
 ·rw[if_pos (by simpa using hk),show ((l.length:Int) == k)=false by simpa using hk,Bool.false_and]
theorem containsI {l:List Int} (h:l.length≤1048576) (f:Int→Option Bool) (p:Int→Bool) (hf:∀ x∈l,f x=some (p x)):slices_ContainsFunc_sint64_int64 l f=some (l.any p):=by
 unfold slices_ContainsFunc_sint64_int64 slices_IndexFunc_sint64_int64
 rw[loop_find (l:=l) p (loop_R (by unfold slices_IndexFunc_sint64_int64_S1; rw[if_neg (by simp)]; rfl)) fun i x hx=>by
  have hlt:=(List.getElem?_eq_some_iff.1 hx).1
  unfold slices_IndexFunc_sint64_int64_S1
  rw[if_pos (ltT hlt),ix_lit hx,Option.bind_some,hf x (List.mem_of_getElem? hx),Option.bind_some,w1 hlt (by omega)]]
 rw[Option.bind_some,fst?_any]
theorem implL {l:List Int} (h:l.length≤1048576) (k:Int) (c:Checker):impl_ValidChecker_1 l k c=some (okL l k c.Accept.length):=by
 unfold impl_ValidChecker_1
 rw[containsI h (fun x=>impl_ValidChecker_1_1 x c) (fun x=>!(decide (x≥0)&&decide (x≤IntKind.wrap .i64 ((c.Accept.length:Int) - 1)))) fun x _=>rfl]
 unfold okL impl_size_int64
 rw[Option.bind_some,Option.bind_some,ite_some,Option.bind_some,ite_and]
 congr 2
 induction l with
 | nil=>rfl
 | cons a l ih =>
  rw[List.any_cons,List.all_cons,Bool.not_or,Bool.not_not,ih (by simp at h; omega)]

theorem chk_S2 {c:Checker} (h:smChecker c) (t:Int):impl_ValidChecker_S2 c t=spec_l02Ok_S2 c t:=by
 funext k
 unfold impl_ValidChecker_S2 spec_l02Ok_S2
 split
 ·refine bindC fun x hx=>bindC fun p hp=>?_
  unfold impl_Checker_isState impl_Checker_isMark impl_size_bool impl_within spec_l00In
  simp only[Option.bind_some,ite_some,ite_or,hx,hp]
  split
  ·rfl
  ·congr 1
   refine bindC fun r hr=>bindC fun l hl=>?_
   have hm:=((h.2.2.2.2.1).2 r (ix_mem hr)).2 l (ix_mem hl)
   rw[implL hm.1,specL hm.1]
 ·rfl
theorem chk_S1 {c:Checker} (h:smChecker c):impl_ValidChecker_S1 c (c.Accept.length:Int)=spec_l02Ok_S1 c:=by
 funext k
 unfold impl_ValidChecker_S1 spec_l02Ok_S1
 simp only[chk_S2 h]
 split
 ·refine bindC fun x hx=>?_
  congr 1
  funext b
  congr 1
  split
  ·rfl
  ·refine bindC fun l hl=>?_
   have hm:=(h.2.2.2.2.2).2 l (ix_mem hl)
   rw[implL hm.1,specL hm.1]
 ·rfl
theorem chk_eq {c:Checker} (h:smChecker c):impl_ValidChecker c=spec_l02Ok c:=by
 unfold impl_ValidChecker spec_l02Ok
 unfold impl_Checker_isState impl_size_bool impl_within spec_l00In impl_size_simpl_Push impl_size_s_int64 impl_size_sint64
 simp only[Option.bind_some,ite_some,ite_or,chk_S1 h]
theorem chk_tot {c:Checker} (h:smChecker c):∃ b,spec_l02Ok c=some b:=by
 unfold spec_l02Ok spec_l00In
 simp only[Option.bind_some,ite_some,ite_or]
 split
 ·exact ⟨_,rfl⟩
 ·rename_i hg
  simp only[Bool.or_eq_true,not_or,bne_iff_ne,ne_eq,Decidable.not_not,Bool.not_eq_true] at hg
  obtain ⟨⟨⟨_,hC⟩,hR⟩,hI⟩:=hg
  have hA:=h.2.2.1.1
  obtain ⟨r,h1,_⟩:=loop_tot (step:=spec_l02Ok_S1 c) (n:=c.Accept.length) (fun _=>True) ⟨_,loop_R (by unfold spec_l02Ok_S1; rw[if_neg (by simp)]; rfl),trivial⟩ fun i hi=>by
   unfold spec_l02Ok_S1
   have hc:i<c.Call.length:=by omega
   have hr:i<c.Return.length:=by omega
   have hn:i<c.Inner.length:=by omega
   have hm:=h.2.2.2.2.2.2 _ (List.getElem_mem hn)
   rw[if_pos (ltT hi),ix_some hc,Option.bind_some,ix_some hr,Option.bind_some,ite_some,Option.bind_some,ite_or,ix_some hn,Option.bind_some,specL hm.1,Option.bind_some,ite_some,Option.bind_some,ite_or]
   split
   ·exact .inr ⟨_,rfl,trivial⟩
   ·rename_i hg
    simp only[Bool.or_eq_true,not_or,bne_iff_ne,ne_eq,Decidable.not_not,Bool.not_eq_true] at hg
    obtain ⟨⟨h2,h3⟩,_⟩:=hg
    obtain ⟨r,h4,h5⟩:=loop_tot (step:=spec_l02Ok_S2 c i) (n:=2) (fun r=>r=.inl ((i+1:Nat):Int)∨r=.inr false) ⟨_,loop_R (by unfold spec_l02Ok_S2; rw[if_neg (by simp)]; rfl),.inl (by rw[w1 hi (by omega)])⟩ fun k hk=>by
     unfold spec_l02Ok_S2
     have hmr:=(h.2.2.2.2.1.2 _ (List.getElem_mem hr)).2 (c.Return[i][k]'(by omega)) (List.getElem_mem _)
     have e1:ix c.Call (i:Int)=some c.Call[i]:=ix_some hc
     have e2:ix c.Call[i] (k:Int)=some (c.Call[i][k]'(by omega)):=ix_some _
     have e3:ix c.Return (i:Int)=some c.Return[i]:=ix_some hr
     have e4:ix c.Return[i] (k:Int)=some (c.Return[i][k]'(by omega)):=ix_some _
     unfold spec_l00In
     simp only[if_pos (decide_eq_true (show (k:Int)<2 by omega)),e1,e2,e3,e4,Option.bind_some,specL hmr.1,w1 hk (by decide),ite_some,ite_or]
     split
     ·exact .inr ⟨_,rfl,.inr rfl⟩
     ·exact .inl rfl
    rw[h4]
    rcases h5 with rfl | rfl
    ·exact .inl rfl
    ·exact .inr ⟨_,rfl,trivial⟩
  exact ⟨r,h1⟩
end Go.Proofs.YtpchecdlbagedaaGreat.law
namespace Go.Proofs.YtpchecdlbagedaaGreat.law
open Go Go.Proofs Ae
set_option maxRecDepth 100000
theorem own_eq {l:List Int} (h:l.length≤2097152):spec_l00Own l=some l:=by
 unfold spec_l00Own app
 rw[if_pos (by unfold LIM; simp; omega)]
 rfl
theorem clone_eq {l:List Int} (h:l.length≤2097152):cloneI l=some l:=by
 unfold cloneI; rw[if_pos (by omega)]

theorem kind_eq (x:UInt8):impl_kindOf (x.toNat:Int)=remI .i64 (fst? (· == x) [40,91,41,93,97,98]) 2:=by
 unfold impl_kindOf
 rw[ix_ix,Option.bind_some]
 cases remI .i64 (fst? (· == x) [40,91,41,93,97,98]) 2<;>rfl

/-- A symbol moves a checker in the one sense as in the other. -/
theorem step_eq {c:Checker} {st:Int} {sk:List Int} (h:sk.length≤1048576) {x:UInt8} (hx:x=40∨x=91∨x=41∨x=93∨x=97∨x=98):spec_l02Step c st sk (x.toNat:Int)=impl_Checker_step c st sk (x.toNat:Int):=by
 have call:∀ (k:Int),spec_l01Symbol (x.toNat:Int)=some k→impl_kindOf (x.toNat:Int)=some k→impl_isCall (x.toNat:Int)=some true→k<2→spec_l02Step c st sk (x.toNat:Int)=impl_Checker_step c st sk (x.toNat:Int):=by
  intro k h1 h2 h3 h4
  unfold spec_l02Step impl_Checker_step
  rw[h1,h2,h3]
  simp only[Option.bind_some,decide_eq_true h4,if_true,own_eq (show sk.length≤2097152 by omega),clone_eq (show sk.length≤2097152 by omega)]
 have inner:∀ (k:Int),spec_l01Symbol (x.toNat:Int)=some (k+4)→impl_kindOf (x.toNat:Int)=some k→impl_isCall (x.toNat:Int)=some false→impl_isInner (x.toNat:Int)=some true→0≤k→k<2→spec_l02Step c st sk (x.toNat:Int)=impl_Checker_step c st sk (x.toNat:Int):=by
  intro k h1 h2 h3 h4 h5 h6
  unfold spec_l02Step impl_Checker_step
  rw[h1,h2,h3,h4]
  have e1:decide (k+4<2)=false:=decide_eq_false (by omega)
  have e2:decide (k+4<4)=false:=decide_eq_false (by omega)
  have e3:IntKind.wrap .i64 (k+4 - 4)=k:=by rw[w64 (by omega) (by omega)]; omega
  simp only[Option.bind_some,e1,e2,e3,Bool.false_and,Bool.false_eq_true,if_false,if_true]
 have ret:∀ (k:Int),spec_l01Symbol (x.toNat:Int)=some (k+2)→impl_kindOf (x.toNat:Int)=some k→impl_isCall (x.toNat:Int)=some false→impl_isInner (x.toNat:Int)=some false→0≤k→k<2→spec_l02Step c st sk (x.toNat:Int)=impl_Checker_step c st sk (x.toNat:Int):=by
  intro k h1 h2 h3 h4 h5 h6
  unfold spec_l02Step impl_Checker_step impl_Checker_step_J1
  rw[h1,h2,h3,h4]
  have e1:decide (k+2<2)=false:=decide_eq_false (by omega)
  have e2:decide (k+2<4)=true:=decide_eq_true (by omega)
  have e3:IntKind.wrap .i64 (k+2 - 2)=k:=by rw[w64 (by omega) (by omega)]; omega
  rcases List.eq_nil_or_concat sk with rfl | ⟨l,a,rfl⟩
  ·have e7:((([]:List Int).length:Int) == 0)=true:=rfl
   have e8:decide ((([]:List Int).length:Int)>0)=false:=rfl
   simp only[Option.bind_some,e1,e2,e3,e7,e8,Bool.and_self,Bool.false_eq_true,if_false,if_true]
  ·simp only[List.concat_eq_append] at h⊢
   have el:((l++[a]).length:Int) - 1=(l.length:Int):=by simp
   simp only[List.length_append,List.length_singleton] at h
   have e4:IntKind.wrap .i64 (((l++[a]).length:Int) - 1)=(l.length:Int):=by rw[el,w64 (by omega) (by omega)]
   have e5:ix (l++[a]) (l.length:Int)=some a:=ix_lit (by simp)
   have e6:cut (l++[a]) 0 (l.length:Int)=some l:=by
    unfold cut
    rw[if_pos ⟨by omega,by omega,by simp; omega⟩]
    simp
   have e7:(((l++[a]).length:Int) == 0)=false:=by simp; omega
   have e8:decide (((l++[a]).length:Int)>0)=true:=by simp
   simp only[Option.bind_some,e1,e2,e3,e4,e5,e6,e7,e8,own_eq (show l.length≤2097152 by omega),Bool.and_false,Bool.false_eq_true,if_false,if_true]
 rcases hx with rfl | rfl | rfl | rfl | rfl | rfl
 ·exact call 0 (by rw[sym_ix]; rfl) (by rw[kind_eq]; rfl) rfl (by omega)
 ·exact call 1 (by rw[sym_ix]; rfl) (by rw[kind_eq]; rfl) rfl (by omega)
 ·exact ret 0 (by rw[sym_ix]; rfl) (by rw[kind_eq]; rfl) rfl rfl (by omega) (by omega)
 ·exact ret 1 (by rw[sym_ix]; rfl) (by rw[kind_eq]; rfl) rfl rfl (by omega) (by omega)
 ·exact inner 0 (by rw[sym_ix]; rfl) (by rw[kind_eq]; rfl) rfl rfl (by omega) (by omega)
 ·exact inner 1 (by rw[sym_ix]; rfl) (by rw[kind_eq]; rfl) rfl rfl (by omega) (by omega)

theorem clone_some {l m:List Int} (h:cloneI l=some m):m=l:=by
 unfold cloneI at h
 split at h<;>cases h
 rfl
theorem step_len {c:Checker} {st:Int} {sk:List Int} {b:Int} {a:Int} {r:List Int} (h:impl_Checker_step c st sk b=some (a,r)):r.length≤sk.length+1:=by
 unfold impl_Checker_step impl_Checker_step_J1 at h
 simp only[Option.bind_eq_some_iff] at h
 obtain ⟨k,_,y,_,h⟩:=h
 split at h
 ·simp only[Option.bind_eq_some_iff] at h
  obtain ⟨_,_,_,_,l,hl,l2,hl2,h⟩:=h
  cases h
  obtain ⟨rfl,_⟩:=app_some hl2
  rw[clone_some hl]; simp
 ·simp only[Option.bind_eq_some_iff] at h
  obtain ⟨y2,_,h⟩:=h
  split at h
  ·simp only[Option.bind_eq_some_iff] at h
   obtain ⟨_,_,_,_,h⟩:=h
   cases h; omega
  ·split at h
   ·simp only[Option.bind_eq_some_iff] at h
    obtain ⟨_,_,l,hl,_,_,_,_,_,_,h⟩:=h
    cases h
    obtain ⟨h1,h2,h3,rfl⟩:=cut_some hl
    simp only[List.length_take,List.length_drop]
    omega
   ·simp only[Option.bind_eq_some_iff] at h
    obtain ⟨_,_,_,_,_,_,h⟩:=h
    cases h; omega

def okSym (x:UInt8):Prop:=x=40∨x=91∨x=41∨x=93∨x=97∨x=98

/-- A word moves a checker in the one sense as in the other. -/
theorem go_eq {c:Checker} {w:List UInt8} (hw:∀ x∈w,okSym x) {st:Int} {sk:List Int} (h:sk.length+w.length≤1048576):spec_l02Go c st sk w=impl_Checker_end c st sk w:=by
 have key:∀ (k i:Nat) (st:Int) (sk:List Int),i+k=w.length→sk.length+k≤1048576→loop (impl_Checker_run_F1_S1 c w) (st,sk,st,sk,(i:Int))=(loop (spec_l02Go_S1 c w) (st,sk,(i:Int))).map fun p=>((),p.1,p.2):=by
  intro k
  induction k with
  | zero =>
   intro i st sk hi _
   obtain rfl:i=w.length:=by omega
   have e1:loop (impl_Checker_run_F1_S1 c w) (st,sk,st,sk,(w.length:Int))=some ((),st,sk):=loop_R (by
    unfold impl_Checker_run_F1_S1; simp only; rw[if_neg (by simp)]; rfl)
   have e2:loop (spec_l02Go_S1 c w) (st,sk,(w.length:Int))=some (st,sk):=loop_R (by
    unfold spec_l02Go_S1; simp only; rw[if_neg (by simp)]; rfl)
   rw[e1,e2]; rfl
  | succ k ih =>
   intro i st sk hi hl
   have hlt:i<w.length:=by omega
   have hs:=step_eq (c:=c) (st:=st) (sk:=sk) (by omega) (hw w[i] (List.getElem_mem hlt))
   have hw1:=w1 hlt (show w.length≤9223372036854775807 by omega)
   have e1:impl_Checker_run_F1_S1 c w (st,sk,st,sk,(i:Int))=(impl_Checker_step c st sk (w[i].toNat:Int)).bind fun y=>some (.inl (y.1,y.2,y.1,y.2,((i+1:Nat):Int))):=by
    unfold impl_Checker_run_F1_S1 impl_Checker_end_1_F1
    simp only
    rw[if_pos (ltT hlt),chr_nat' hlt,Option.bind_some,hw1]
    rfl
   have e2:spec_l02Go_S1 c w (st,sk,(i:Int))=(impl_Checker_step c st sk (w[i].toNat:Int)).bind fun y=>some (.inl (y.1,y.2,((i+1:Nat):Int))):=by
    unfold spec_l02Go_S1
    simp only
    rw[if_pos (ltT hlt),chr_nat' hlt,Option.bind_some,hw1,hs]
   cases hy:impl_Checker_step c st sk (w[i].toNat:Int) with
   | none =>
    rw[hy] at e1 e2
    rw[loop_eq,e1,loop_eq (spec_l02Go_S1 c w),e2]
    rfl
   | some y =>
    obtain ⟨a,r⟩:=y
    rw[hy] at e1 e2
    rw[loop_L e1,loop_L e2]
    exact ih (i+1) a r (by omega) (by have:=step_len hy; omega)
 unfold spec_l02Go impl_Checker_end impl_Checker_run_F1 impl_Checker_end_1_F1
 have:=key w.length 0 st sk (by omega) h
 simp only[Option.bind_some]
 rw[show ((0:Nat):Int)=0 from rfl] at this
 rw[this]
 cases loop (spec_l02Go_S1 c w) (st,sk,0)<;>rfl
end Go.Proofs.YtpchecdlbagedaaGreat.law
namespace Go.Proofs.YtpchecdlbagedaaGreat.law
open Go Go.Proofs Ae
set_option maxRecDepth 100000

theorem loop_true {ρ:Type} {step:Int→Option (Int ⊕ ρ)} {n:Nat} {rt:ρ} (hst:∀ (i:Nat) y,i<n→step (i:Int)=some y→y=.inl ((i+1:Nat):Int)∨∃ r,y=.inr r∧r≠rt) :
  ∀ (k i:Nat),i+k=n→loop step (i:Int)=some rt→∀ j,i≤j→j<n→step (j:Int)=some (.inl ((j+1:Nat):Int)):=by
 intro k
 induction k with
 | zero=>intro i hi _ j h1 h2; omega
 | succ k ih =>
  intro i hi h j h1 h2
  have h0:step (i:Int)=some (.inl ((i+1:Nat):Int)):=by
   cases hs:step (i:Int) with
   | none=>rw[loop_eq,hs] at h; cases h
   | some y =>
    rcases hst i y (by omega) hs with rfl | ⟨r,rfl,hr⟩
    ·rfl
    ·rw[loop_R hs] at h; cases h; exact absurd rfl hr
  by_cases e:i=j
  ·subst e; exact h0
  ·rw[loop_L h0] at h
   exact ih (i+1) (by omega) h j (by omega) h2

theorem okL_iff {l:List Int} {k n:Int} (h0:0≤n) (h1:n≤1048576) (h:okL l k n=true):(l.length:Int)=k∧∀ x∈l,0≤x∧x<n:=by
 unfold okL at h
 rw[w64 (by omega) (by omega)] at h
 simp only[Bool.and_eq_true,beq_iff_eq,List.all_eq_true,decide_eq_true_eq] at h
 exact ⟨h.1,fun x hx=>by have:=h.2 x hx; omega⟩

/-- A right checker. -/
structure ChkV (c:Checker):Prop where
 n1:1≤c.Accept.length
 n2:c.Accept.length≤40
 k1:1≤c.Stack
 k2:c.Stack≤80
 s1:0≤c.Start
 s2:c.Start<c.Accept.length
 lc:c.Call.length=c.Accept.length
 lr:c.Return.length=c.Accept.length
 li:c.Inner.length=c.Accept.length
 call:∀ l∈c.Call,l.length=2∧∀ p∈l,0≤p.To∧p.To<c.Accept.length∧0≤p.Put∧p.Put<c.Stack
 ret:∀ l∈c.Return,l.length=2∧∀ r∈l,(r.length:Int)=c.Stack+1∧∀ x∈r,0≤x∧x<c.Accept.length
 inn:∀ l∈c.Inner,l.length=2∧∀ x∈l,0≤x∧x<c.Accept.length

theorem chk_V {c:Checker} (h:smChecker c) (hk:spec_l02Ok c=some true):ChkV c:=by
 unfold spec_l02Ok spec_l00In at hk
 simp only[Option.bind_some,ite_some,ite_or] at hk
 split at hk
 ·cases hk
 rename_i hg
 simp only[Bool.or_eq_true,not_or,bne_iff_ne,ne_eq,Decidable.not_not,Bool.not_eq_true,Bool.not_eq_false',Bool.and_eq_true,decide_eq_true_eq] at hg
 obtain ⟨⟨⟨⟨⟨hA,hK⟩,hS⟩,hC⟩,hR⟩,hI⟩:=hg
 rw[w64 (by omega) (by omega)] at hS
 have hA2:c.Accept.length≤40:=by omega
 have step:=loop_true (step:=spec_l02Ok_S1 c) (n:=c.Accept.length) (rt:=true) (fun i y hi hy=>by
  unfold spec_l02Ok_S1 at hy
  rw[if_pos (ltT hi)] at hy
  simp only[Option.bind_eq_some_iff] at hy
  obtain ⟨_,_,b1,_,b2,_,hy⟩:=hy
  split at hy
  ·cases hy; exact .inr ⟨false,rfl,by simp⟩
  ·-- the loop over both kinds
   have key:∀ (k:Nat) (j:Nat),j+k=2→loop (spec_l02Ok_S2 c i) (j:Int)=some y→y=.inl ((i+1:Nat):Int)∨∃ r,y=.inr r∧r≠true:=by
    intro k
    induction k with
    | zero =>
     intro j hj hl
     obtain rfl:j=2:=by omega
     rw[loop_R (r:=.inl ((i+1:Nat):Int)) (by unfold spec_l02Ok_S2 spec_l02Ok_J2; rw[if_neg (by simp),w1 hi (by omega)]; rfl)] at hl
     cases hl; exact .inl rfl
    | succ k ih =>
     intro j hj hl
     cases hs:spec_l02Ok_S2 c i j with
     | none=>rw[loop_eq,hs] at hl; cases hl
     | some z =>
      have hs':=hs
      unfold spec_l02Ok_S2 at hs
      rw[if_pos (by simp; omega)] at hs
      simp only[Option.bind_eq_some_iff] at hs
      obtain ⟨_,_,_,_,_,_,_,_,_,_,hs⟩:=hs
      split at hs
      ·cases hs
       rw[loop_R hs'] at hl
       cases hl; exact .inr ⟨false,rfl,by simp⟩
      ·cases hs
       rw[loop_L hs',w1 (show j<2 by omega) (by decide)] at hl
       exact ih (j+1) (by omega) hl
   exact key 2 0 rfl hy) c.Accept.length 0 (by omega) hk
 have row:∀ i,i<c.Accept.length→(∃ l,c.Call[i]?=some l∧l.length=2∧∀ p∈l,0≤p.To∧p.To<c.Accept.length∧0≤p.Put∧p.Put<c.Stack) ∧
   (∃ l,c.Return[i]?=some l∧l.length=2∧∀ r∈l,(r.length:Int)=c.Stack+1∧∀ x∈r,0≤x∧x<c.Accept.length)∧(∃ l,c.Inner[i]?=some l∧l.length=2∧∀ x∈l,0≤x∧x<c.Accept.length):=by
  intro i hi
  have hst:=step i (by omega) hi
  unfold spec_l02Ok_S1 at hst
  have hc:i<c.Call.length:=by omega
  have hr:i<c.Return.length:=by omega
  have hn:i<c.Inner.length:=by omega
  have hm:=h.2.2.2.2.2.2 _ (List.getElem_mem hn)
  rw[if_pos (ltT hi),ix_some hc,Option.bind_some,ix_some hr,Option.bind_some,ite_some,Option.bind_some,ite_or,ix_some hn,Option.bind_some,specL hm.1,Option.bind_some,ite_some,Option.bind_some,ite_or] at hst
  split at hst
  ·cases hst
  rename_i hg
  simp only[Bool.or_eq_true,not_or,bne_iff_ne,ne_eq,Decidable.not_not,Bool.not_eq_true,Bool.not_eq_false'] at hg
  obtain ⟨⟨h2,h3⟩,h4⟩:=hg
  have hO:=okL_iff (by omega) (by omega) h4
  have h2':c.Call[i].length=2:=by omega
  have h3':c.Return[i].length=2:=by omega
  have step2:=loop_true (step:=spec_l02Ok_S2 c i) (n:=2) (rt:=.inl ((i+1:Nat):Int)) (fun k y hk2 hy=>by
   unfold spec_l02Ok_S2 at hy
   rw[if_pos (by simp; omega)] at hy
   simp only[Option.bind_eq_some_iff] at hy
   obtain ⟨_,_,_,_,_,_,_,_,_,_,hy⟩:=hy
   split at hy
   ·cases hy; exact .inr ⟨_,rfl,by simp⟩
   ·cases hy; rw[w1 hk2 (by decide)]; exact .inl rfl) 2 0 rfl hst
  have cell:∀ k (hk2:k<2),(0≤(c.Call[i][k]'(by omega)).To∧(c.Call[i][k]'(by omega)).To<(c.Accept.length:Int)∧0≤(c.Call[i][k]'(by omega)).Put∧(c.Call[i][k]'(by omega)).Put<c.Stack) ∧
    (((c.Return[i][k]'(by omega)).length:Int)=c.Stack+1∧∀ x∈(c.Return[i][k]'(by omega)),0≤x∧x<c.Accept.length):=by
   intro k hk2
   have hs:=step2 k (by omega) hk2
   unfold spec_l02Ok_S2 at hs
   have hmr:=(h.2.2.2.2.1.2 _ (List.getElem_mem hr)).2 (c.Return[i][k]'(by omega)) (List.getElem_mem _)
   have e1:ix c.Call (i:Int)=some c.Call[i]:=ix_some hc
   have e2:ix c.Call[i] (k:Int)=some (c.Call[i][k]'(by omega)):=ix_some _
   have e3:ix c.Return (i:Int)=some c.Return[i]:=ix_some hr
   have e4:ix c.Return[i] (k:Int)=some (c.Return[i][k]'(by omega)):=ix_some _
   unfold spec_l00In at hs
   simp only[if_pos (decide_eq_true (show (k:Int)<2 by omega)),e1,e2,e3,e4,Option.bind_some,specL hmr.1,w1 hk2 (by decide),ite_some,ite_or] at hs
   rw[w64 (n:=(c.Accept.length:Int) - 1) (by omega) (by omega),w64 (n:=c.Stack - 1) (by omega) (by omega),w64 (n:=c.Stack+1) (by omega) (by omega)] at hs
   split at hs
   ·cases hs
   rename_i hg
   simp only[Bool.or_eq_true,not_or,Bool.not_eq_true,Bool.not_eq_false',Bool.and_eq_true,decide_eq_true_eq] at hg
   obtain ⟨⟨g1,g2⟩,g3⟩:=hg
   exact ⟨⟨g1.1,by omega,g2.1,by omega⟩,okL_iff (by omega) (by omega) g3⟩
  have two:∀ {α:Type} (l:List α) (x:α),l.length=2→x∈l→∃ k,∃ (hk:k<l.length),k<2∧l[k]=x:=by
   intro α l x hl hx
   obtain ⟨k,hk,e⟩:=List.getElem_of_mem hx
   exact ⟨k,hk,by omega,e⟩
  refine ⟨⟨_,List.getElem?_eq_getElem hc,h2',fun p hp=>?_⟩,⟨_,List.getElem?_eq_getElem hr,h3',fun r hr'=>?_⟩,⟨_,List.getElem?_eq_getElem hn,by have:=hO.1; omega,hO.2⟩⟩
  ·obtain ⟨k,_,hk2,rfl⟩:=two _ p h2' hp
   exact (cell k hk2).1
  ·obtain ⟨k,_,hk2,rfl⟩:=two _ r h3' hr'
   exact (cell k hk2).2
 have mem:∀ {α:Type} (L:List α) (l:α),L.length=c.Accept.length→l∈L→∃ i,i<c.Accept.length∧L[i]?=some l:=by
  intro α L l hL hl
  obtain ⟨i,hi,e⟩:=List.getElem_of_mem hl
  exact ⟨i,by omega,by rw[List.getElem?_eq_getElem hi,e]⟩
 refine ⟨by omega,hA2,by omega,by omega,by omega,by omega,by omega,by omega,by omega,fun l hl=>?_,fun l hl=>?_,fun l hl=>?_⟩
 ·obtain ⟨i,hi,e⟩:=mem c.Call l (by omega) hl
  obtain ⟨l',e',h'⟩:=(row i hi).1
  rw[e] at e'; cases e'; exact h'
 ·obtain ⟨i,hi,e⟩:=mem c.Return l (by omega) hl
  obtain ⟨l',e',h'⟩:=(row i hi).2.1
  rw[e] at e'; cases e'; exact h'
 ·obtain ⟨i,hi,e⟩:=mem c.Inner l (by omega) hl
  obtain ⟨l',e',h'⟩:=(row i hi).2.2
  rw[e] at e'; cases e'; exact h'
end Go.Proofs.YtpchecdlbagedaaGreat.law
namespace Go.Proofs.YtpchecdlbagedaaGreat.law
open Go Go.Proofs Ae
set_option maxRecDepth 100000

theorem word_ok {w:List UInt8} (hl:w.length≤1048576) (h:spec_l01Ok w=some true):∀ x∈w,okSym x:=by
 unfold spec_l01Ok at h
 have hst:=loop_true (step:=spec_l01Ok_S1 w) (n:=w.length) (rt:=true) (fun i y hi hy=>by
  unfold spec_l01Ok_S1 at hy
  rw[if_pos (ltT hi),chr_nat' hi,Option.bind_some,sym_ix,Option.bind_some,w1 hi (by omega)] at hy
  split at hy
  ·cases hy; exact .inr ⟨false,rfl,by simp⟩
  ·cases hy; exact .inl rfl)
 have hend:loop (spec_l01Ok_S1 w) ((0:Nat):Int)=some true:=h
 have hst:=hst w.length 0 (by omega) hend
 intro x hx
 obtain ⟨i,hi,rfl⟩:=List.getElem_of_mem hx
 have h1:=hst i (by omega) hi
 unfold spec_l01Ok_S1 at h1
 rw[if_pos (ltT hi),chr_nat' hi,Option.bind_some,sym_ix,Option.bind_some] at h1
 split at h1
 ·cases h1
 ·rename_i hn
  have h2:¬ fst? (· == w[i]) [40,91,41,93,97,98]<0:=by simpa using hn
  have h3:=fst?_any (· == w[i]) ([40,91,41,93,97,98]:List UInt8)
  rw[show decide ((fst? (· == w[i]) [40,91,41,93,97,98]:Int)≥0)=true by simpa using h2] at h3
  simp only[List.any_cons,List.any_nil,Bool.or_false,Eq.comm (a:=true),Bool.or_eq_true,beq_iff_eq] at h3
  unfold okSym
  rcases h3 with h | h | h | h | h | h<;>simp[← h]

def okStk (c:Checker) (sk:List Int):Prop:=∀ x∈sk,0≤x∧x<c.Stack

theorem sym_k {x:UInt8} (hx:okSym x):∃ k:Nat,k<6∧spec_l01Symbol (x.toNat:Int)=some (k:Int):=by
 rcases hx with rfl | rfl | rfl | rfl | rfl | rfl<;>rw[sym_ix]
 ·exact ⟨0,by omega,rfl⟩
 ·exact ⟨1,by omega,rfl⟩
 ·exact ⟨2,by omega,rfl⟩
 ·exact ⟨3,by omega,rfl⟩
 ·exact ⟨4,by omega,rfl⟩
 ·exact ⟨5,by omega,rfl⟩

theorem ix_in {α:Type} {l:List α} {i:Int} (h0:0≤i) (h1:i<l.length):∃ x,ix l i=some x∧x∈l:=by
 have hlt:i.toNat<l.length:=by omega
 refine ⟨l[i.toNat],?_,List.getElem_mem hlt⟩
 unfold ix
 rw[if_pos h0,List.getElem?_eq_getElem hlt]

/-- A right checker goes on from right places. -/
theorem step_tot {c:Checker} (hc:ChkV c) {st:Int} {sk:List Int} (h0:0≤st) (h1:st<c.Accept.length) (hk:okStk c sk) (hl:sk.length≤1048576) {x:UInt8} (hx:okSym x) :
  ∃ st' sk',spec_l02Step c st sk (x.toNat:Int)=some (st',sk')∧0≤st'∧st'<c.Accept.length∧okStk c sk'∧sk'.length≤sk.length+1:=by
 obtain ⟨k,hk6,hsym⟩:=sym_k hx
 unfold spec_l02Step
 rw[hsym,Option.bind_some]
 by_cases h2:k<2
 ·rw[if_pos (decide_eq_true (by omega))]
  obtain ⟨row,e1,m1⟩:=ix_in (l:=c.Call) h0 (by rw[hc.lc]; exact h1)
  obtain ⟨hr2,hrp⟩:=hc.call row m1
  obtain ⟨p,e2,m2⟩:=ix_in (l:=row) (i:=(k:Int)) (by omega) (by omega)
  obtain ⟨p1,p2,p3,p4⟩:=hrp p m2
  rw[e1,Option.bind_some,e2,Option.bind_some,own_eq (by omega),Option.bind_some]
  unfold app
  rw[if_pos (by unfold LIM; simp; omega),Option.bind_some]
  refine ⟨_,_,rfl,p1,p2,?_,by simp⟩
  intro y hy
  rcases List.mem_append.1 hy with hy | hy
  ·exact hk y hy
  ·rw[List.mem_singleton.1 hy]; exact ⟨p3,p4⟩
 ·rw[if_neg (by simp; omega)]
  by_cases h4:k<4
  ·obtain ⟨row,e1,m1⟩:=ix_in (l:=c.Return) h0 (by rw[hc.lr]; exact h1)
   obtain ⟨hr2,hrp⟩:=hc.ret row m1
   have hw2:IntKind.wrap .i64 ((k:Int) - 2)=(k:Int) - 2:=w64 (by omega) (by omega)
   obtain ⟨r,e2,m2⟩:=ix_in (l:=row) (i:=(k:Int) - 2) (by omega) (by omega)
   obtain ⟨hr3,hrx⟩:=hrp r m2
   rcases List.eq_nil_or_concat sk with rfl | ⟨l,a,rfl⟩
   ·obtain ⟨y,e3,m3⟩:=ix_in (l:=r) (i:=c.Stack) (by have:=hc.k1; omega) (by omega)
    rw[if_pos (by simp; omega),e1,Option.bind_some,hw2,e2,Option.bind_some,e3,Option.bind_some]
    exact ⟨_,_,rfl,(hrx y m3).1,(hrx y m3).2,hk,by simp⟩
   ·simp only[List.concat_eq_append] at hk hl ⊢
    simp only[List.length_append,List.length_singleton] at hl
    have ha:=hk a (by simp)
    have el:((l++[a]).length:Int) - 1=(l.length:Int):=by simp
    have e4:IntKind.wrap .i64 (((l++[a]).length:Int) - 1)=(l.length:Int):=by rw[el,w64 (by omega) (by omega)]
    have e5:ix (l++[a]) (l.length:Int)=some a:=ix_lit (by simp)
    have e6:cut (l++[a]) 0 (l.length:Int)=some l:=by
     unfold cut
     rw[if_pos ⟨by omega,by omega,by simp; omega⟩]
     simp
    obtain ⟨y,e3,m3⟩:=ix_in (l:=r) (i:=a) ha.1 (by omega)
    rw[if_neg (by simp; omega),if_pos (decide_eq_true (by omega))]
    simp only[e1,hw2,e2,e4,e5,e3,e6,Option.bind_some,own_eq (show l.length≤2097152 by omega)]
    exact ⟨_,_,rfl,(hrx y m3).1,(hrx y m3).2,fun z hz=>hk z (by simp[hz]),by simp; omega⟩
  ·rw[if_neg (by simp; omega),if_neg (by simp; omega)]
   obtain ⟨row,e1,m1⟩:=ix_in (l:=c.Inner) h0 (by rw[hc.li]; exact h1)
   obtain ⟨hr2,hrp⟩:=hc.inn row m1
   have hw2:IntKind.wrap .i64 ((k:Int) - 4)=(k:Int) - 4:=w64 (by omega) (by omega)
   obtain ⟨y,e2,m2⟩:=ix_in (l:=row) (i:=(k:Int) - 4) (by omega) (by omega)
   rw[e1,Option.bind_some,hw2,e2,Option.bind_some]
   exact ⟨_,_,rfl,(hrp y m2).1,(hrp y m2).2,hk,by omega⟩

end Go.Proofs.YtpchecdlbagedaaGreat.law
namespace Go.Proofs.YtpchecdlbagedaaGreat.law
open Go Go.Proofs Ae
set_option maxRecDepth 100000

noncomputable def okO (t:List UInt8):Bool:=decide ((t.length:Int)≤4)&&(spec_l01Ok t).getD false
theorem out_spec {t:List UInt8} (h:smS t):spec_l06Out t=some (okO t):=by
 obtain ⟨b,hb⟩:=word_tot (w:=t) (by unfold smS at h; omega)
 unfold spec_l06Out okO
 rw[hb]
 simp only[Option.bind_some,Option.getD_some,ite_some,ite_and]
theorem out_impl {t:List UInt8} (h:smS t):impl_isOut t=some (okO t):=by
 obtain ⟨b,hb⟩:=word_tot (w:=t) (by unfold smS at h; omega)
 unfold impl_isOut okO
 rw[word_eq,hb,Option.bind_some,Option.getD_some,Bool.and_comm]
theorem okO_ok {t:List UInt8} (h:smS t) (k:okO t=true):t.length≤4∧∀ x∈t,okSym x:=by
 obtain ⟨b,hb⟩:=word_tot (w:=t) (by unfold smS at h; omega)
 unfold okO at k
 rw[hb] at k
 simp only[Option.getD_some,Bool.and_eq_true,decide_eq_true_eq] at k
 obtain ⟨k1,rfl⟩:=k
 exact ⟨by omega,word_ok h hb⟩
noncomputable def mvOk (n:Int) (m:OutMove):Bool:=(decide (m.To≥0)&&decide (m.To≤IntKind.wrap .i64 (n - 1)))&&okO m.Out
theorem mv_impl {m:OutMove} (h:smS m.Out) (n:Int):impl_ValidRewriter_1 m n=some (mvOk n m):=by
 unfold impl_ValidRewriter_1 impl_within mvOk
 simp only[Option.bind_some,out_impl h,ite_some,ite_and]
theorem moves_spec {l:List OutMove} (h:smL smOutMove l) (k n:Int):spec_l06Moves l k n=some (((l.length:Int) == k)&&l.all (mvOk n)):=by
 have hl:=h.1
 unfold spec_l06Moves
 rw[loop_allL (l:=l) (p:=mvOk n) (rt:=some ((l.length:Int) == k)) (rf:=false) (loop_R (by unfold spec_l06Moves_S1; rw[if_neg (by simp)]; rfl)) fun i x hx=>by
  have hlt:=(List.getElem?_eq_some_iff.1 hx).1
  unfold spec_l06Moves_S1
  rw[if_pos (ltT hlt),ix_lit hx,Option.bind_some,w1 hlt (by omega)]
  unfold spec_l00In
  rw[Option.bind_some]
  simp only[Option.bind_some,out_spec (h.2 x (List.mem_of_getElem? hx)).2,ite_some,ite_or]
  unfold mvOk
  cases (decide (x.To≥0)&&decide (x.To≤IntKind.i64.wrap (n - 1)))<;>cases okO x.Out<;>rfl]
 cases l.all (mvOk n)<;>simp
theorem containsM {l:List OutMove} (h:l.length≤1048576) (f:OutMove→Option Bool) (p:OutMove→Bool) (hf:∀ x∈l,f x=some (p x)):slices_ContainsFunc_simpl_OutMove_impl_OutMove l f=some (l.any p):=by
 unfold slices_ContainsFunc_simpl_OutMove_impl_OutMove slices_IndexFunc_simpl_OutMove_impl_OutMove
 rw[loop_find (l:=l) p (loop_R (by unfold slices_IndexFunc_simpl_OutMove_impl_OutMove_S1; rw[if_neg (by simp)]; rfl)) fun i x hx=>by
  have hlt:=(List.getElem?_eq_some_iff.1 hx).1
  unfold slices_IndexFunc_simpl_OutMove_impl_OutMove_S1
  rw[if_pos (ltT hlt),ix_lit hx,Option.bind_some,hf x (List.mem_of_getElem? hx),Option.bind_some,w1 hlt (by omega)]]
 rw[Option.bind_some,fst?_any]
theorem any_not {α:Type} (p:α→Bool):∀ l:List α,(!(l.any fun x=>!(p x)))=l.all p
 | []=>rfl
 | a::l=>by rw[List.any_cons,List.all_cons,Bool.not_or,Bool.not_not,any_not p l]
theorem moves_impl {l:List OutMove} (h:smL smOutMove l) (k n:Int):impl_ValidRewriter_2 l k (fun x=>impl_ValidRewriter_1 x n)=some (((l.length:Int) == k)&&l.all (mvOk n)):=by
 unfold impl_ValidRewriter_2
 rw[containsM h.1 (fun x=>impl_ValidRewriter_2_1 x fun x=>impl_ValidRewriter_1 x n) (fun x=>!(mvOk n x)) fun x hx=>by show (impl_ValidRewriter_1 x n).bind _=_; rw[mv_impl (h.2 x hx).2,Option.bind_some]]
 unfold impl_size_impl_OutMove
 rw[Option.bind_some,Option.bind_some,ite_some,Option.bind_some,ite_and,any_not]
theorem rw_S2 {r:Rewriter} (h:smRewriter r) (t:Int):impl_ValidRewriter_S2 r (r.Call.length:Int) t=spec_l06Ok_S2 r t:=by
 funext k
 unfold impl_ValidRewriter_S2 spec_l06Ok_S2
 split
 ·refine bindC fun x hx=>bindC fun p hp=>?_
  have hP:=(h.2.2.1.2 x (ix_mem hx)).2 p (ix_mem hp)
  rw[mv_impl (m:=⟨p.To,p.Out⟩) hP.2.2]
  unfold impl_within spec_l00In
  simp only[Option.bind_some,ite_some,ite_or,hx,hp,out_spec hP.2.2]
  have e:(!mvOk (r.Call.length:Int) ⟨p.To,p.Out⟩||!(decide (p.Put≥0)&&decide (p.Put≤IntKind.i64.wrap (r.Stack - 1))))=((!(decide (p.To≥0)&&decide (p.To≤IntKind.i64.wrap ((r.Call.length:Int) - 1)))||!(decide (p.Put≥0)&&decide (p.Put≤IntKind.i64.wrap (r.Stack - 1))))||!okO p.Out):=by
   unfold mvOk
   simp only
   cases (decide (p.To≥0)&&decide (p.To≤IntKind.i64.wrap ((r.Call.length:Int) - 1)))<;>cases (decide (p.Put≥0)&&decide (p.Put≤IntKind.i64.wrap (r.Stack - 1)))<;>cases okO p.Out<;>rfl
  rw[e]
  split
  ·rfl
  ·congr 1
   refine bindC fun q hq=>bindC fun l hl=>?_
   have hm:=((h.2.2.2.1).2 q (ix_mem hq)).2 l (ix_mem hl)
   rw[moves_impl hm,moves_spec hm]
 ·rfl
theorem rw_S1 {r:Rewriter} (h:smRewriter r):impl_ValidRewriter_S1 r (r.Call.length:Int)=spec_l06Ok_S1 r:=by
 funext k
 unfold impl_ValidRewriter_S1 spec_l06Ok_S1
 simp only[rw_S2 h]
 split
 ·refine bindC fun x hx=>?_
  congr 1
  funext b
  congr 1
  split
  ·rfl
  ·refine bindC fun l hl=>?_
   have hm:=(h.2.2.2.2).2 l (ix_mem hl)
   rw[moves_impl hm,moves_spec hm]
 ·rfl
theorem rw_eq {r:Rewriter} (h:smRewriter r):impl_ValidRewriter r=spec_l06Ok r:=by
 unfold impl_ValidRewriter spec_l06Ok
 unfold impl_within spec_l00In impl_size_simpl_OutPush impl_size_s_impl_OutMove impl_size_simpl_OutMove
 simp only[Option.bind_some,ite_some,ite_or,rw_S1 h]
/-- A right rewriter. -/
structure RwV (r:Rewriter):Prop where
 n1:1≤r.Call.length
 n2:r.Call.length≤8
 k1:1≤r.Stack
 k2:r.Stack≤8
 s1:0≤r.Start
 s2:r.Start<r.Call.length
 lr:r.Return.length=r.Call.length
 li:r.Inner.length=r.Call.length
 call:∀ l∈r.Call,l.length=2∧∀ p∈l,(0≤p.To∧p.To<r.Call.length∧0≤p.Put∧p.Put<r.Stack)∧okO p.Out=true
 ret:∀ l∈r.Return,l.length=2∧∀ q∈l,(q.length:Int)=r.Stack+1∧∀ m∈q,(0≤m.To∧m.To<r.Call.length)∧okO m.Out=true
 inn:∀ l∈r.Inner,l.length=2∧∀ m∈l,(0≤m.To∧m.To<r.Call.length)∧okO m.Out=true
theorem mv_ok {l:List OutMove} {k n:Int} (h0:0≤n) (h1:n≤1048576) (h:(((l.length:Int) == k)&&l.all (mvOk n))=true):(l.length:Int)=k∧∀ m∈l,(0≤m.To∧m.To<n)∧okO m.Out=true:=by
 unfold mvOk at h
 rw[w64 (by omega) (by omega)] at h
 simp only[Bool.and_eq_true,beq_iff_eq,List.all_eq_true,decide_eq_true_eq] at h
 exact ⟨h.1,fun x hx=>by have:=h.2 x hx; exact ⟨by omega,this.2⟩⟩
theorem rw_tot {r:Rewriter} (h:smRewriter r):∃ b,spec_l06Ok r=some b∧(b=true→RwV r):=by
 unfold spec_l06Ok spec_l00In
 simp only[Option.bind_some,ite_some,ite_or]
 split
 ·exact ⟨_,rfl,fun e=>by cases e⟩
 rename_i hg
 simp only[Bool.or_eq_true,not_or,bne_iff_ne,ne_eq,Decidable.not_not,Bool.not_eq_true,Bool.not_eq_false',Bool.and_eq_true,decide_eq_true_eq] at hg
 obtain ⟨⟨⟨⟨hA,hK⟩,hS⟩,hR⟩,hI⟩:=hg
 rw[w64 (by omega) (by omega)] at hS
 let RowOk (i:Nat):Prop:=(∃ l,r.Call[i]?=some l∧l.length=2∧∀ p∈l,(0≤p.To∧p.To<r.Call.length∧0≤p.Put∧p.Put<r.Stack)∧okO p.Out=true) ∧
  (∃ l,r.Return[i]?=some l∧l.length=2∧∀ q∈l,(q.length:Int)=r.Stack+1∧∀ m∈q,(0≤m.To∧m.To<r.Call.length)∧okO m.Out=true)∧(∃ l,r.Inner[i]?=some l∧l.length=2∧∀ m∈l,(0≤m.To∧m.To<r.Call.length)∧okO m.Out=true)
 have two:∀ {α:Type} (l:List α) (x:α),l.length=2→x∈l→∃ k,∃ (hk:k<l.length),k<2∧l[k]=x:=by
  intro α l x hl hx
  obtain ⟨k,hk,e⟩:=List.getElem_of_mem hx
  exact ⟨k,hk,by omega,e⟩
 have row:∀ i,i<r.Call.length→spec_l06Ok_S1 r (i:Int)=some (.inr false)∨(spec_l06Ok_S1 r (i:Int)=some (.inl ((i+1:Nat):Int))∧RowOk i):=by
  intro i hi
  have hr:i<r.Return.length:=by omega
  have hn:i<r.Inner.length:=by omega
  have hm:=h.2.2.2.2.2 _ (List.getElem_mem hn)
  unfold spec_l06Ok_S1
  rw[if_pos (ltT hi),ix_some hi,Option.bind_some,ix_some hr,Option.bind_some,ite_some,Option.bind_some,ite_or,ix_some hn,Option.bind_some,moves_spec hm,Option.bind_some,ite_some,Option.bind_some,ite_or]
  split
  ·exact .inl rfl
  rename_i hg
  simp only[Bool.or_eq_true,not_or,bne_iff_ne,ne_eq,Decidable.not_not,Bool.not_eq_true,Bool.not_eq_false'] at hg
  obtain ⟨⟨h2,h3⟩,h4⟩:=hg
  have hO:=mv_ok (by omega) (by omega) h4
  have h2':r.Call[i].length=2:=by omega
  have h3':r.Return[i].length=2:=by omega
  let Cell (k:Nat):Prop:=∃ (hk:k<2),((0≤(r.Call[i][k]'(by omega)).To∧(r.Call[i][k]'(by omega)).To<(r.Call.length:Int)∧0≤(r.Call[i][k]'(by omega)).Put∧(r.Call[i][k]'(by omega)).Put<r.Stack)∧okO (r.Call[i][k]'(by omega)).Out=true) ∧
   (((r.Return[i][k]'(by omega)).length:Int)=r.Stack+1∧∀ m∈(r.Return[i][k]'(by omega)),(0≤m.To∧m.To<(r.Call.length:Int))∧okO m.Out=true)
  have cell:∀ k:Nat,k<2→spec_l06Ok_S2 r i (k:Int)=some (.inr (.inr false))∨(spec_l06Ok_S2 r i (k:Int)=some (.inl ((k+1:Nat):Int))∧Cell k):=by
   intro k hk
   have hmr:=(h.2.2.2.1.2 _ (List.getElem_mem hr)).2 (r.Return[i][k]'(by omega)) (List.getElem_mem _)
   have hmc:=(h.2.2.1.2 _ (List.getElem_mem hi)).2 (r.Call[i][k]'(by omega)) (List.getElem_mem _)
   have e1:ix r.Call (i:Int)=some r.Call[i]:=ix_some hi
   have e2:ix r.Call[i] (k:Int)=some (r.Call[i][k]'(by omega)):=ix_some _
   have e3:ix r.Return (i:Int)=some r.Return[i]:=ix_some hr
   have e4:ix r.Return[i] (k:Int)=some (r.Return[i][k]'(by omega)):=ix_some _
   unfold spec_l06Ok_S2 spec_l00In
   simp only[if_pos (decide_eq_true (show (k:Int)<2 by omega)),e1,e2,e3,e4,Option.bind_some,moves_spec hmr,out_spec hmc.2.2,w1 hk (by decide),ite_some,ite_or]
   rw[w64 (n:=(r.Call.length:Int) - 1) (by omega) (by omega),w64 (n:=r.Stack - 1) (by omega) (by omega),w64 (n:=r.Stack+1) (by omega) (by omega)]
   split
   ·exact .inl rfl
   rename_i hg
   simp only[Bool.or_eq_true,not_or,Bool.not_eq_true,Bool.not_eq_false',Bool.and_eq_true,decide_eq_true_eq] at hg
   obtain ⟨⟨⟨g1,g2⟩,g3⟩,g4⟩:=hg
   exact .inr ⟨rfl,hk,⟨⟨g1.1,by omega,g2.1,by omega⟩,g3⟩,mv_ok (by omega) (by omega) (by simpa using g4)⟩
  have go:loop (spec_l06Ok_S2 r i) ((0:Nat):Int)=some (.inr false)∨(loop (spec_l06Ok_S2 r i) ((0:Nat):Int)=some (.inl ((i+1:Nat):Int))∧Cell 0∧Cell 1):=by
   rcases cell 0 (by omega) with c0 | ⟨c0,d0⟩
   ·exact .inl (loop_R c0)
   rcases cell 1 (by omega) with c1 | ⟨c1,d1⟩
   ·exact .inl (by rw[loop_L c0]; exact loop_R c1)
   ·refine .inr ⟨?_,d0,d1⟩
    rw[loop_L c0,loop_L c1]
    refine loop_R ?_
    unfold spec_l06Ok_S2 spec_l06Ok_J2
    rw[if_neg (by simp),w1 hi (by omega)]; rfl
  rcases go with g | ⟨g,⟨_,d0⟩,⟨_,d1⟩⟩
  ·exact .inl g
  ·refine .inr ⟨g,⟨_,List.getElem?_eq_getElem hi,h2',fun p hp=>?_⟩,⟨_,List.getElem?_eq_getElem hr,h3',fun q hq=>?_⟩,⟨_,List.getElem?_eq_getElem hn,by have:=hO.1; omega,hO.2⟩⟩
   ·obtain ⟨k,_,hk2,rfl⟩:=two _ p h2' hp
    match k,hk2 with
    | 0,_=>exact d0.1
    | 1,_=>exact d1.1
   ·obtain ⟨k,_,hk2,rfl⟩:=two _ q h3' hq
    match k,hk2 with
    | 0,_=>exact d0.2
    | 1,_=>exact d1.2
 have all:∀ (k i:Nat),i+k=r.Call.length→loop (spec_l06Ok_S1 r) (i:Int)=some false∨(loop (spec_l06Ok_S1 r) (i:Int)=some true∧∀ j,i≤j→j<r.Call.length→RowOk j):=by
  intro k
  induction k with
  | zero =>
   intro i hi
   obtain rfl:i=r.Call.length:=by omega
   exact .inr ⟨loop_R (by unfold spec_l06Ok_S1; rw[if_neg (by simp)]; rfl),fun j h1 h2=>by omega⟩
  | succ k ih =>
   intro i hi
   rcases row i (by omega) with g | ⟨g,d⟩
   ·exact .inl (loop_R g)
   ·rw[loop_L g]
    rcases ih (i+1) (by omega) with e | ⟨e,f⟩
    ·exact .inl e
    ·refine .inr ⟨e,fun j h1 h2=>?_⟩
     by_cases hj:j=i
     ·subst hj; exact d
     ·exact f j (by omega) h2
 have mem:∀ {α:Type} (L:List α) (l:α),L.length=r.Call.length→l∈L→∃ i,i<r.Call.length∧L[i]?=some l:=by
  intro α L l hL hl
  obtain ⟨i,hi,e⟩:=List.getElem_of_mem hl
  exact ⟨i,by omega,by rw[List.getElem?_eq_getElem hi,e]⟩
 rcases all r.Call.length 0 (by omega) with e | ⟨e,f⟩
 ·exact ⟨false,e,fun e=>by cases e⟩
 ·refine ⟨true,e,fun _=>⟨by omega,by omega,by omega,by omega,by omega,by omega,by omega,by omega,fun l hl=>?_,fun l hl=>?_,fun l hl=>?_⟩⟩
  ·obtain ⟨i,hi,e⟩:=mem r.Call l rfl hl
   obtain ⟨l',e',h'⟩:=(f i (by omega) hi).1
   rw[e] at e'; cases e'; exact h'
  ·obtain ⟨i,hi,e⟩:=mem r.Return l (by omega) hl
   obtain ⟨l',e',h'⟩:=(f i (by omega) hi).2.1
   rw[e] at e'; cases e'; exact h'
  ·obtain ⟨i,hi,e⟩:=mem r.Inner l (by omega) hl
   obtain ⟨l',e',h'⟩:=(f i (by omega) hi).2.2
   rw[e] at e'; cases e'; exact h'
end Go.Proofs.YtpchecdlbagedaaGreat.law
namespace Go.Proofs.YtpchecdlbagedaaGreat.law
open Go Go.Proofs Ae
set_option maxRecDepth 100000

theorem app_S {α:Type} {x:List α} {a:α} (h:x.length≤1000000):app x [a]=some (x++[a]):=by
 unfold app; rw[if_pos (by simp[LIM]; omega)]
noncomputable def hasB (t:List UInt8) (a b:Int):Bool:=(spec_l06Has t a b).getD false
theorem has_spec {t:List UInt8} (h:t.length≤1048576) (a b:Int):spec_l06Has t a b=some (hasB t a b)∧impl_isPending t a b=some (hasB t a b):=by
 obtain ⟨p,_,hp⟩:=has_eq h
 unfold hasB
 rw[(hp a b).1,(hp a b).2]; exact ⟨rfl,rfl⟩
theorem has_dep {t:List UInt8} (h:t.length≤1048576) (k:hasB t 0 1=true):dep 0 t=1:=by
 obtain ⟨p,h1,hp⟩:=has_eq h
 unfold hasB at k
 rw[(hp 0 1).1] at k
 simp at k
 omega
theorem step_dep {c:Checker} {st st':Int} {sk sk':List Int} {x:UInt8} (hx:okSym x) (hl:sk.length≤1048576) (h:spec_l02Step c st sk (x.toNat:Int)=some (st',sk')):sk'.length=if isC x=true then sk.length+1 else if isR x=true then sk.length - 1 else sk.length:=by
 have own:∀ {l m:List Int},spec_l00Own l=some m→m=l:=by
  intro l m h
  unfold spec_l00Own app at h
  split at h
  ·simp at h; exact h.symm
  ·cases h
 unfold spec_l02Step at h
 obtain ⟨k,hk6,hsym⟩:=sym_k hx
 rw[hsym,Option.bind_some] at h
 have hC:isC x=decide (k<2)∧isR x=(decide (2≤k)&&decide (k<4)):=by
  rw[sym_ix] at hsym
  rcases hx with rfl | rfl | rfl | rfl | rfl | rfl
  ·have:k=0:=by have:=Option.some.inj hsym; simp[fst?] at this; omega
   subst this; exact ⟨rfl,rfl⟩
  ·have:k=1:=by have:=Option.some.inj hsym; simp[fst?] at this; omega
   subst this; exact ⟨rfl,rfl⟩
  ·have:k=2:=by have:=Option.some.inj hsym; simp[fst?] at this; omega
   subst this; exact ⟨rfl,rfl⟩
  ·have:k=3:=by have:=Option.some.inj hsym; simp[fst?] at this; omega
   subst this; exact ⟨rfl,rfl⟩
  ·have:k=4:=by have:=Option.some.inj hsym; simp[fst?] at this; omega
   subst this; exact ⟨rfl,rfl⟩
  ·have:k=5:=by have:=Option.some.inj hsym; simp[fst?] at this; omega
   subst this; exact ⟨rfl,rfl⟩
 rw[hC.1,hC.2]
 split at h
 ·rename_i h2
  have h2:k<2:=by have:=of_decide_eq_true h2; omega
  simp only[Option.bind_eq_some_iff] at h
  obtain ⟨_,_,p,_,m,hm,q,hq,h⟩:=h
  cases h
  have:=own hm
  subst this
  unfold app at hq
  split at hq
  ·cases hq; simp[h2]
  ·cases hq
 ·rename_i h2
  have h2:¬ k<2:=fun e=>h2 (decide_eq_true (by omega))
  split at h
  ·rename_i h4
   simp only[Bool.and_eq_true,decide_eq_true_eq,beq_iff_eq] at h4
   simp only[Option.bind_eq_some_iff] at h
   obtain ⟨_,_,_,_,_,_,h⟩:=h
   cases h
   have h5:sk.length=0:=by omega
   have h6:k<4:=by omega
   simp[h2,h5,h6]
  ·split at h
   ·rename_i h4
    have h6:k<4:=by have:=of_decide_eq_true h4; omega
    simp only[Option.bind_eq_some_iff] at h
    obtain ⟨_,_,_,_,_,_,_,_,u,hu,v,hv,h⟩:=h
    cases h
    have:=own hv
    subst this
    unfold cut at hu
    split at hu
    ·rename_i hb
     cases hu
     have h7:(2≤k∧k<4):=by omega
     rw[if_neg (by simpa using h2),if_pos (by simpa using h7)]
     rw[w64 (by omega) (by omega)] at hb ⊢
     simp
    ·cases hu
   ·rename_i h4
    have h6:¬ k<4:=by have:=h4; simp at this; omega
    simp only[Option.bind_eq_some_iff] at h
    obtain ⟨_,_,_,_,h⟩:=h
    cases h
    have h7:¬ (2≤k∧k<4):=by omega
    rw[if_neg (by simpa using h2),if_neg (by simpa using h7)]
theorem go_dep {c:Checker} (hc:ChkV c) {w:List UInt8} (hw:∀ x∈w,okSym x) {st:Int} {sk:List Int} (h0:0≤st) (h1:st<c.Accept.length) (hk:okStk c sk) (hl:sk.length+w.length≤1048576) :
  ∃ st' sk',spec_l02Go c st sk w=some (st',sk')∧impl_Checker_end c st sk w=some (st',sk')∧0≤st'∧st'<c.Accept.length∧okStk c sk'∧sk'.length=dep sk.length w:=by
 have key:∀ (k i:Nat) (st:Int) (sk:List Int),i+k=w.length→0≤st→st<c.Accept.length→okStk c sk→sk.length+k≤1048576 →
   ∃ st' sk',loop (spec_l02Go_S1 c w) (st,sk,(i:Int))=some (st',sk')∧0≤st'∧st'<c.Accept.length∧okStk c sk'∧sk'.length=dep sk.length (w.drop i):=by
  intro k
  induction k with
  | zero =>
   intro i st sk hi h0 h1 hk hl
   obtain rfl:i=w.length:=by omega
   exact ⟨st,sk,loop_R (by unfold spec_l02Go_S1; simp only; rw[if_neg (by simp)]; rfl),h0,h1,hk,by rw[List.drop_length]; rfl⟩
  | succ k ih =>
   intro i st sk hi h0 h1 hk hl
   have hlt:i<w.length:=by omega
   have hx:=hw w[i] (List.getElem_mem hlt)
   obtain ⟨st',sk',e,k0,k1,k2,k3⟩:=step_tot hc h0 h1 hk (by omega) hx
   have hd:=step_dep hx (by omega) e
   obtain ⟨a,b,e2,j0,j1,j2,j3⟩:=ih (i+1) st' sk' (by omega) k0 k1 k2 (by omega)
   refine ⟨a,b,?_,j0,j1,j2,?_⟩
   ·rw[loop_L (s':=(st',sk',((i+1:Nat):Int))) (by
     unfold spec_l02Go_S1
     simp only
     rw[if_pos (ltT hlt),chr_nat' hlt,Option.bind_some,e,Option.bind_some,w1 hlt (by omega)])]
    exact e2
   ·rw[j3,hd,List.drop_eq_getElem_cons hlt]; rfl
 obtain ⟨a,b,e,j0,j1,j2,j3⟩:=key w.length 0 st sk (by omega) h0 h1 hk hl
 exact ⟨a,b,e,by rw[← go_eq hw hl]; exact e,j0,j1,j2,by simpa using j3⟩

theorem struct_eq {r:Rewriter} (hr:RwV r) (h:smRewriter r):∃ b,spec_l06Structural r=some b∧impl_Rewriter_isStructural r=some b∧(b=true→∀ l∈r.Call,∀ p∈l,dep 0 p.Out=1):=by
 have row:∀ i,i<r.Call.length→∃ b:Bool,spec_l06Structural_S1 r (i:Int)=some (if b then .inl ((i+1:Nat):Int) else .inr false)∧impl_Rewriter_isStructural_S1 r (i:Int)=some (if b then .inl ((i+1:Nat):Int) else .inr false)∧(b=true→∀ l,r.Call[i]?=some l→∀ p∈l,dep 0 p.Out=1):=by
  intro i hi
  have hR:i<r.Return.length:=by rw[hr.lr]; exact hi
  have hI:i<r.Inner.length:=by rw[hr.li]; exact hi
  have lC:=(hr.call _ (List.getElem_mem hi)).1
  have lR:=(hr.ret _ (List.getElem_mem hR)).1
  have lI:=(hr.inn _ (List.getElem_mem hI)).1
  have cell:∀ k:Nat,∀ hk:k<2,∃ b:Bool,spec_l06Structural_S2 r i (k:Int)=some (if b then .inl ((k+1:Nat):Int) else .inr (.inr false))∧impl_Rewriter_isStructural_S2 r i (k:Int)=some (if b then .inl ((k+1:Nat):Int) else .inr (.inr false))∧(b=true→dep 0 (r.Call[i][k]'(by omega)).Out=1):=by
   intro k hk
   have e1:ix r.Call (i:Int)=some r.Call[i]:=ix_some hi
   have e2:ix r.Call[i] (k:Int)=some (r.Call[i][k]'(by omega)):=ix_some _
   have e3:ix r.Return (i:Int)=some r.Return[i]:=ix_some hR
   have e4:ix r.Return[i] (k:Int)=some (r.Return[i][k]'(by omega)):=ix_some _
   have e5:ix r.Inner (i:Int)=some r.Inner[i]:=ix_some hI
   have e6:ix r.Inner[i] (k:Int)=some (r.Inner[i][k]'(by omega)):=ix_some _
   have sC:=((h.2.2.1.2 _ (List.getElem_mem hi)).2 (r.Call[i][k]'(by omega)) (List.getElem_mem _)).2.2
   have sI:=((h.2.2.2.2.2 _ (List.getElem_mem hI)).2 (r.Inner[i][k]'(by omega)) (List.getElem_mem _)).2
   have sR:=(h.2.2.2.1.2 _ (List.getElem_mem hR)).2 (r.Return[i][k]'(by omega)) (List.getElem_mem _)
   have a1:=has_spec sC 0 1
   have a2:=has_spec sI 0 0
   refine ⟨(hasB (r.Call[i][k]'(by omega)).Out 0 1&&hasB (r.Inner[i][k]'(by omega)).Out 0 0)&&(r.Return[i][k]'(by omega)).all fun m=>hasB m.Out 1 0,?_,?_,fun e=>has_dep sC (by simp only[Bool.and_eq_true] at e; exact e.1.1)⟩
   ·unfold spec_l06Structural_S2
    simp only[if_pos (decide_eq_true (show (k:Int)<2 by omega)),e1,e2,e5,e6,Option.bind_some,a1.1,a2.1,ite_some,ite_or]
    cases hasB (r.Call[i][k]'(by omega)).Out 0 1
    ·simp
    cases hasB (r.Inner[i][k]'(by omega)).Out 0 0
    ·simp
    simp only[Bool.not_true,Bool.or_false,Bool.false_eq_true,if_false,Bool.true_and]
    rw[loop_allL (l:=(r.Return[i][k]'(by omega))) (p:=fun m=>hasB m.Out 1 0) (rt:=some (.inl ((k+1:Nat):Int))) (rf:=.inr (.inr false)) (loop_R (by
     unfold spec_l06Structural_S3 spec_l06Structural_J3
     simp only[e3,e4,Option.bind_some]
     rw[if_neg (by simp),w1 hk (by decide)]; rfl)) fun x m hx=>by
      have hlt:=(List.getElem?_eq_some_iff.1 hx).1
      unfold spec_l06Structural_S3
      simp only[e3,e4,Option.bind_some]
      rw[if_pos (ltT hlt),ix_lit hx,Option.bind_some,(has_spec (sR.2 m (List.mem_of_getElem? hx)).2 1 0).1,Option.bind_some,w1 hlt (by have:=sR.1; omega)]
      cases hasB m.Out 1 0<;>rfl]
    cases (r.Return[i][k]'(by omega)).all fun m=>hasB m.Out 1 0<;>rfl
   ·unfold impl_Rewriter_isStructural_S2
    simp only[if_pos (decide_eq_true (show (k:Int)<2 by omega)),e1,e2,e3,e4,e5,e6,Option.bind_some,a1.2,a2.2,ite_some,ite_or,w1 hk (by decide)]
    rw[containsM sR.1 (fun x=>impl_Rewriter_isStructural_1 x) (fun m=>!(hasB m.Out 1 0)) fun m hm=>by show (impl_isPending m.Out 1 0).bind _=_; rw[(has_spec (sR.2 m hm).2 1 0).2,Option.bind_some]]
    have:=any_not (fun m:OutMove=>hasB m.Out 1 0) (r.Return[i][k]'(by omega))
    rw[← this]
    cases hasB (r.Call[i][k]'(by omega)).Out 0 1<;>cases hasB (r.Inner[i][k]'(by omega)).Out 0 0<;>cases (r.Return[i][k]'(by omega)).any (fun m=>!hasB m.Out 1 0)<;>rfl
  obtain ⟨b0,c0,d0,f0⟩:=cell 0 (by omega)
  obtain ⟨b1,c1,d1,f1⟩:=cell 1 (by omega)
  have end1:loop (spec_l06Structural_S2 r i) (((1+1:Nat)):Int)=some (.inl ((i+1:Nat):Int)):=loop_R (by unfold spec_l06Structural_S2 spec_l06Structural_J2; rw[if_neg (by simp),w1 hi (by have:=hr.n2; omega)]; rfl)
  have end2:loop (impl_Rewriter_isStructural_S2 r i) (((1+1:Nat)):Int)=some (.inl ((i+1:Nat):Int)):=loop_R (by unfold impl_Rewriter_isStructural_S2 impl_Rewriter_isStructural_J2; rw[if_neg (by simp),w1 hi (by have:=hr.n2; omega)]; rfl)
  refine ⟨b0&&b1,?_,?_,?_⟩
  ·unfold spec_l06Structural_S1
   rw[if_pos (ltT hi)]
   show loop (spec_l06Structural_S2 r i) ((0:Nat):Int)=_
   cases b0
   ·exact loop_R c0
   ·rw[loop_L c0]
    cases b1
    ·exact loop_R c1
    ·rw[loop_L c1]; exact end1
  ·unfold impl_Rewriter_isStructural_S1
   rw[if_pos (ltT hi)]
   show loop (impl_Rewriter_isStructural_S2 r i) ((0:Nat):Int)=_
   cases b0
   ·exact loop_R d0
   ·rw[loop_L d0]
    cases b1
    ·exact loop_R d1
    ·rw[loop_L d1]; exact end2
  ·intro hb l hl p hp
   rw[List.getElem?_eq_getElem hi] at hl
   cases hl
   simp only[Bool.and_eq_true] at hb
   obtain ⟨k,hk,rfl⟩:=List.getElem_of_mem hp
   match k,hk with
   | 0,_=>exact f0 hb.1
   | 1,_=>exact f1 hb.2
   | k+2,hk=>omega
 have all:∀ (k i:Nat),i+k=r.Call.length→∃ b,loop (spec_l06Structural_S1 r) (i:Int)=some b∧loop (impl_Rewriter_isStructural_S1 r) (i:Int)=some b∧(b=true→∀ j,i≤j→∀ l,r.Call[j]?=some l→∀ p∈l,dep 0 p.Out=1):=by
  intro k
  induction k with
  | zero =>
   intro i hi
   obtain rfl:i=r.Call.length:=by omega
   exact ⟨true,loop_R (by unfold spec_l06Structural_S1; rw[if_neg (by simp)]; rfl),loop_R (by unfold impl_Rewriter_isStructural_S1; rw[if_neg (by simp)]; rfl),fun _ j h1 l hl=>by have:=(List.getElem?_eq_some_iff.1 hl).1; omega⟩
  | succ k ih =>
   intro i hi
   obtain ⟨b,g1,g2,g3⟩:=row i (by omega)
   cases b with
   | false=>exact ⟨false,loop_R g1,loop_R g2,fun e=>by cases e⟩
   | true =>
    obtain ⟨b,q1,q2,q3⟩:=ih (i+1) (by omega)
    refine ⟨b,(loop_L g1).trans q1,(loop_L g2).trans q2,fun hb j h1 l hl=>?_⟩
    by_cases hj:j=i
    ·subst hj; exact g3 rfl l hl
    ·exact q3 hb j (by omega) l hl
 obtain ⟨b,h1,h2,h3⟩:=all r.Call.length 0 (by omega)
 refine ⟨b,h1,h2,fun hb l hl p hp=>?_⟩
 obtain ⟨j,hj,rfl⟩:=List.getElem_of_mem hl
 exact h3 hb j (by omega) _ (List.getElem?_eq_getElem hj) p hp
end Go.Proofs.YtpchecdlbagedaaGreat.law
namespace Go.Proofs.YtpchecdlbagedaaGreat.law
open Go Go.Proofs Ae
set_option maxRecDepth 100000

theorem quo_nat {a:Nat} {b:Int} (hb:0<b) (ha:a≤1000000):quoI .i64 (a:Int) b=some ((a / b.toNat:Nat):Int):=by
 obtain ⟨c,rfl⟩:=Int.eq_ofNat_of_zero_le (Int.le_of_lt hb)
 unfold quoI
 have e:((a:Int) / (c:Int))=((a / c:Nat):Int):=rfl
 have hd:=Nat.div_le_self a c
 rw[if_neg (by omega),Int.tdiv_eq_ediv_of_nonneg (by omega),e]
 show some (IntKind.wrap .i64 ((a / c:Nat):Int))=some ((a / c:Nat):Int)
 generalize a / c=d at hd
 rw[w64 (by omega) (by omega)]
theorem rem_nat {a:Nat} {b:Int} (hb:0<b):remI .i64 (a:Int) b=some ((a % b.toNat:Nat):Int):=by
 obtain ⟨c,rfl⟩:=Int.eq_ofNat_of_zero_le (Int.le_of_lt hb)
 unfold remI
 rw[if_neg (by omega),Int.tmod_eq_emod_of_nonneg (by omega)]
 rfl
section
variable {r:Rewriter} {c:Checker} {K M:Nat}
structure Cx (r:Rewriter) (c:Checker) (K M:Nat):Prop where
 hr:RwV r
 hc:ChkV c
 sr:smRewriter r
 one:∀ l∈r.Call,∀ p∈l,dep 0 p.Out=1
 eK:IntKind.wrap .i64 (r.Stack*c.Stack)=(K:Int)
 K0:K=r.Stack.toNat*c.Stack.toNat
 K80:K≤80
 eM:IntKind.wrap .i64 ((r.Call.length:Int)*(c.Accept.length:Int))=(M:Int)
 M0:M=r.Call.length*c.Accept.length
 M40:M≤40
variable (r c)
noncomputable def accF (z:Nat):Bool:=(impl_PreimageChecker_1 z c c.Accept.length).getD false
noncomputable def pushF (z k:Nat):Push:=(impl_PreimageChecker_2 z k r c.Accept.length c c.Stack).getD ⟨0,0⟩
noncomputable def backF (z k x:Nat):Int:=(impl_PreimageChecker_3 z k x r c.Stack c.Accept.length c).getD 0
noncomputable def innF (z k:Nat):Int:=(impl_PreimageChecker_4 z k r c.Accept.length c).getD 0
noncomputable def marksF (K z k:Nat):List Int:=(List.range (K+1)).map (backF r c z k)
variable {r c}
theorem Cx.zq (h:Cx r c K M) {z:Nat} (hz:z<M):z / c.Accept.length<r.Call.length∧z % c.Accept.length<c.Accept.length:=by
 have:=h.hc.n1
 rw[h.M0] at hz
 exact ⟨Nat.div_lt_of_lt_mul (by rw[Nat.mul_comm]; exact hz),Nat.mod_lt _ (by omega)⟩
theorem Cx.acc (h:Cx r c K M) {z:Nat} (hz:z<M):impl_PreimageChecker_1 z c c.Accept.length=some (accF c z)∧remI .i64 (z:Int) (c.Accept.length:Int)=some ((z % c.Accept.length:Nat):Int)∧ix c.Accept ((z % c.Accept.length:Nat):Int)=some (accF c z):=by
 have h1:=h.hc.n1
 have hq:=(h.zq hz).2
 have e1:remI .i64 (z:Int) (c.Accept.length:Int)=some ((z % c.Accept.length:Nat):Int):=rem_nat (by omega)
 have e2:impl_PreimageChecker_1 z c c.Accept.length=some c.Accept[z % c.Accept.length]:=by
  unfold impl_PreimageChecker_1
  rw[e1,Option.bind_some,ix_some hq,Option.bind_some]
 refine ⟨?_,e1,?_⟩
 ·unfold accF; rw[e2]; rfl
 ·unfold accF; rw[e2,ix_some hq]; rfl
theorem Cx.quo (h:Cx r c K M) {z:Nat} (hz:z<M):quoI .i64 (z:Int) (c.Accept.length:Int)=some ((z / c.Accept.length:Nat):Int):=by
 have h1:=h.hc.n1
 have:=h.M40
 have e:=quo_nat (a:=z) (b:=(c.Accept.length:Int)) (by omega) (by omega)
 simpa using e
theorem Cx.outC (h:Cx r c K M) {i k:Nat} {l:List OutPush} {p:OutPush} (h1:r.Call[i]?=some l) (h2:l[k]?=some p):p.Out.length≤4∧(∀ x∈p.Out,okSym x)∧dep 0 p.Out=1:=by
 have m1:=List.mem_of_getElem? h1
 have m2:=List.mem_of_getElem? h2
 have:=okO_ok ((h.sr.2.2.1.2 l m1).2 p m2).2.2 ((h.hr.call l m1).2 p m2).2
 exact ⟨this.1,this.2,h.one l m1 p m2⟩
theorem Cx.goC (h:Cx r c K M) {z:Nat} (hz:z<M) {w:List UInt8} (l4:w.length≤4) (hw:∀ x∈w,okSym x) {sk:List Int} (hk:okStk c sk) (hl:sk.length≤10) :
  ∃ st' sk',spec_l02Go c ((z % c.Accept.length:Nat):Int) sk w=some (st',sk')∧impl_Checker_end c ((z % c.Accept.length:Nat):Int) sk w=some (st',sk')∧sk'.length=dep sk.length w:=by
 have:=(h.zq hz).2
 obtain ⟨a,b,e1,e2,_,_,_,e3⟩:=go_dep h.hc hw (st:=((z % c.Accept.length:Nat):Int)) (sk:=sk) (by omega) (by omega) hk (by omega)
 exact ⟨a,b,e1,e2,e3⟩
theorem two_get {α:Type} {l:List α} (h:l.length=2) {k:Nat} (hk:k<2):∃ x,l[k]?=some x:=⟨l[k]'(by omega),List.getElem?_eq_getElem _⟩
/-- What a call leads to. -/
theorem Cx.push (h:Cx r c K M) {z k:Nat} (hz:z<M) (hk:k<2):impl_PreimageChecker_2 z k r c.Accept.length c c.Stack=some (pushF r c z k) ∧
  ∃ l p,ix r.Call ((z / c.Accept.length:Nat):Int)=some l∧ix l (k:Int)=some p∧∃ st' sk' a,spec_l02Go c ((z % c.Accept.length:Nat):Int) [] p.Out=some (st',sk')∧ix sk' 0=some a ∧
   (⟨IntKind.wrap .i64 ((IntKind.wrap .i64 (p.To*(c.Accept.length:Int)))+st'),IntKind.wrap .i64 ((IntKind.wrap .i64 (p.Put*c.Stack))+a)⟩:Push)=pushF r c z k:=by
 have hq:=(h.zq hz).1
 have g1:r.Call[z / c.Accept.length]?=some r.Call[z / c.Accept.length]:=List.getElem?_eq_getElem hq
 obtain ⟨p,g2⟩:=two_get (h.hr.call _ (List.getElem_mem hq)).1 hk
 obtain ⟨l4,hw,h1⟩:=h.outC g1 g2
 obtain ⟨st',sk',e1,e2,e3⟩:=h.goC hz l4 hw (sk:=[]) (fun x hx=>by cases hx) (by simp)
 have e4:sk'.length=1:=by rw[e3]; exact h1
 obtain ⟨a,rfl⟩:∃ a,sk'=[a]:=by
  match sk',e4 with
  | [a],_=>exact ⟨a,rfl⟩
 have e5:ix [a] 0=some a:=rfl
 have e:impl_PreimageChecker_2 z k r c.Accept.length c c.Stack=some (⟨IntKind.wrap .i64 ((IntKind.wrap .i64 (p.To*(c.Accept.length:Int)))+st'),IntKind.wrap .i64 ((IntKind.wrap .i64 (p.Put*c.Stack))+a)⟩:Push):=by
  unfold impl_PreimageChecker_2
  rw[h.quo hz,Option.bind_some,ix_lit g1,Option.bind_some,ix_lit g2,Option.bind_some,(h.acc hz).2.1,Option.bind_some,e2,Option.bind_some]
  simp only[e5,Option.bind_some]
 exact ⟨by unfold pushF; rw[e]; rfl,_,p,ix_lit g1,ix_lit g2,st',[a],a,e1,e5,by unfold pushF; rw[e]; rfl⟩
theorem Cx.inn (h:Cx r c K M) {z k:Nat} (hz:z<M) (hk:k<2):impl_PreimageChecker_4 z k r c.Accept.length c=some (innF r c z k) ∧
  ∃ l p,ix r.Inner ((z / c.Accept.length:Nat):Int)=some l∧ix l (k:Int)=some p∧∃ q:Int × List Int,spec_l02Go c ((z % c.Accept.length:Nat):Int) [] p.Out=some q ∧
   IntKind.wrap .i64 ((IntKind.wrap .i64 (p.To*(c.Accept.length:Int)))+q.1)=innF r c z k:=by
 have hq:z / c.Accept.length<r.Inner.length:=by rw[h.hr.li]; exact (h.zq hz).1
 have g1:r.Inner[z / c.Accept.length]?=some r.Inner[z / c.Accept.length]:=List.getElem?_eq_getElem hq
 obtain ⟨p,g2⟩:=two_get (h.hr.inn _ (List.getElem_mem hq)).1 hk
 have m1:=List.mem_of_getElem? g1
 have m2:=List.mem_of_getElem? g2
 obtain ⟨l4,hw⟩:=okO_ok ((h.sr.2.2.2.2.2 _ m1).2 p m2).2 ((h.hr.inn _ m1).2 p m2).2
 obtain ⟨st',sk',e1,e2,_⟩:=h.goC hz l4 hw (sk:=[]) (fun x hx=>by cases hx) (by simp)
 have e:impl_PreimageChecker_4 z k r c.Accept.length c=some (IntKind.wrap .i64 ((IntKind.wrap .i64 (p.To*(c.Accept.length:Int)))+st')):=by
  unfold impl_PreimageChecker_4
  rw[h.quo hz,Option.bind_some,ix_lit g1,Option.bind_some,ix_lit g2,Option.bind_some,(h.acc hz).2.1,Option.bind_some,e2,Option.bind_some]
 exact ⟨by unfold innF; rw[e]; rfl,_,p,ix_lit g1,ix_lit g2,(st',sk'),e1,by unfold innF; rw[e]; rfl⟩
/-- What a return leads to. -/
theorem Cx.back (h:Cx r c K M) {z k x:Nat} (hz:z<M) (hk:k<2) (hx:x≤K):impl_PreimageChecker_3 z k x r c.Stack c.Accept.length c=some (backF r c z k x) ∧
  ∀ t338:List Int,t338.length≤1000→∀ (t218:List (List Int)) l267 l308,spec_PreimageChecker_S3 r c ((z / c.Accept.length:Nat):Int) ((z % c.Accept.length:Nat):Int) t218 k l267 l308 (t338,(x:Int))=some (.inl (t338++[backF r c z k x],((x+1:Nat):Int))):=by
 have hq:z / c.Accept.length<r.Return.length:=by rw[h.hr.lr]; exact (h.zq hz).1
 have g1:r.Return[z / c.Accept.length]?=some r.Return[z / c.Accept.length]:=List.getElem?_eq_getElem hq
 obtain ⟨q,g2⟩:=two_get (h.hr.ret _ (List.getElem_mem hq)).1 hk
 have m1:=List.mem_of_getElem? g1
 have m2:=List.mem_of_getElem? g2
 obtain ⟨hlen,hms⟩:=(h.hr.ret _ m1).2 q m2
 have hk1:=h.hc.k1
 have hk2:=h.hr.k1
 have hK80:=h.K80
 have hqx:quoI .i64 (x:Int) c.Stack=some ((x / c.Stack.toNat:Nat):Int):=quo_nat (by omega) (by omega)
 have hrx:remI .i64 (x:Int) c.Stack=some ((x % c.Stack.toNat:Nat):Int):=rem_nat (by omega)
 have hmp:0<c.Stack.toNat:=by omega
 have hdiv:x / c.Stack.toNat≤r.Stack.toNat:=by
  refine Nat.div_le_of_le_mul ?_
  rw[Nat.mul_comm,← h.K0]; exact hx
 have hql:x / c.Stack.toNat<q.length:=by omega
 have g3:q[x / c.Stack.toNat]?=some q[x / c.Stack.toNat]:=List.getElem?_eq_getElem hql
 have m3:=List.mem_of_getElem? g3
 obtain ⟨l4,hw⟩:=okO_ok (((h.sr.2.2.2.1.2 _ m1).2 q m2).2 _ m3).2 (hms _ m3).2
 obtain ⟨sk,hsk,hsl,hmk,hheld⟩:∃ sk:List Int,okStk c sk∧sk.length≤10∧impl_marksOf (x:Int) r.Stack c.Stack=some (((x / c.Stack.toNat:Nat):Int),sk) ∧
   (∀ (t338:List Int) (t218:List (List Int)) l267 l308,spec_PreimageChecker_S3 r c ((z / c.Accept.length:Nat):Int) ((z % c.Accept.length:Nat):Int) t218 k l267 l308 (t338,(x:Int))=spec_PreimageChecker_J4 r c ((z / c.Accept.length:Nat):Int) ((z % c.Accept.length:Nat):Int) k t338 x sk):=by
  by_cases hxK:x=K
  ·subst hxK
   refine ⟨[],(fun y hy=>by cases hy),by simp,?_,fun t338 t218 l267 l308=>?_⟩
   ·unfold impl_marksOf
    rw[h.eK,if_pos (by simp)]
    have:x / c.Stack.toNat=r.Stack.toNat:=by rw[h.K0]; exact Nat.mul_div_cancel _ hmp
    rw[this]
    congr 2
    omega
   ·unfold spec_PreimageChecker_S3
    simp only
    rw[h.eK,if_pos (decide_eq_true (Int.le_refl _)),if_neg (by simp)]
  ·have hlt:x % c.Stack.toNat<c.Stack.toNat:=Nat.mod_lt _ hmp
   refine ⟨[((x % c.Stack.toNat:Nat):Int)],(fun y hy=>by rw[List.mem_singleton.1 hy]; omega),by simp,?_,fun t338 t218 l267 l308=>?_⟩
   ·unfold impl_marksOf
    rw[h.eK,if_neg (by simp; omega),hqx,Option.bind_some,hrx,Option.bind_some]
   ·unfold spec_PreimageChecker_S3
    simp only
    rw[h.eK,if_pos (decide_eq_true (by omega)),if_pos (decide_eq_true (by omega)),hrx,Option.bind_some,app_S (by simp),Option.bind_some]
    rfl
 obtain ⟨st',sk',e1,e2,_⟩:=h.goC hz l4 hw hsk hsl
 have e:impl_PreimageChecker_3 z k x r c.Stack c.Accept.length c=some (IntKind.wrap .i64 ((IntKind.wrap .i64 ((q[x / c.Stack.toNat]).To*(c.Accept.length:Int)))+st')):=by
  unfold impl_PreimageChecker_3
  rw[hmk,Option.bind_some,h.quo hz,Option.bind_some,ix_lit g1,Option.bind_some,ix_lit g2,Option.bind_some]
  simp only
  rw[ix_lit g3,Option.bind_some,(h.acc hz).2.1,Option.bind_some,e2,Option.bind_some]
 have e6:backF r c z k x=IntKind.wrap .i64 ((IntKind.wrap .i64 ((q[x / c.Stack.toNat]).To*(c.Accept.length:Int)))+st'):=by unfold backF; rw[e]; rfl
 refine ⟨by rw[e6]; exact e,fun t338 hl t218 l267 l308=>?_⟩
 rw[hheld]
 unfold spec_PreimageChecker_J4
 rw[ix_lit g1,Option.bind_some,ix_lit g2,Option.bind_some,hqx,Option.bind_some,ix_lit g3,Option.bind_some,e1,Option.bind_some]
 simp only
 rw[app_S (by omega),Option.bind_some,e6,w1 (show x<1000000 by omega) (by decide)]
end
end Go.Proofs.YtpchecdlbagedaaGreat.law
namespace Go.Proofs.YtpchecdlbagedaaGreat.law
open Go Go.Proofs Ae
set_option maxRecDepth 100000
section
variable {r:Rewriter} {c:Checker} {K M:Nat}
theorem range_snoc {α:Type} (f:Nat→α) (n:Nat):(List.range (n+1)).map f=(List.range n).map f++[f n]:=by rw[List.range_succ,List.map_append]; rfl
/-- The marks, one behind the other. -/
theorem Cx.row_spec (h:Cx r c K M) {z k:Nat} (hz:z<M) (hk:k<2) (t218:List (List Int)) (l267:List Push) (l308:List Int) :
  loop (spec_PreimageChecker_S3 r c ((z / c.Accept.length:Nat):Int) ((z % c.Accept.length:Nat):Int) t218 k l267 l308) ([],0)=spec_PreimageChecker_J3 t218 k l267 l308 (marksF r c K z k):=by
 have hK:=h.K80
 have key:∀ (d x:Nat),x+d=K+1→loop (spec_PreimageChecker_S3 r c ((z / c.Accept.length:Nat):Int) ((z % c.Accept.length:Nat):Int) t218 k l267 l308) ((List.range x).map (backF r c z k),(x:Int))=spec_PreimageChecker_J3 t218 k l267 l308 (marksF r c K z k):=by
  intro d
  induction d with
  | zero =>
   intro x hx
   obtain rfl:x=K+1:=by omega
   have e:spec_PreimageChecker_S3 r c ((z / c.Accept.length:Nat):Int) ((z % c.Accept.length:Nat):Int) t218 k l267 l308 ((List.range (K+1)).map (backF r c z k),((K+1:Nat):Int))=(spec_PreimageChecker_J3 t218 k l267 l308 (marksF r c K z k)).map Sum.inr:=by
    unfold spec_PreimageChecker_S3
    simp only
    rw[h.eK,if_neg (by simp; omega)]
    rfl
   cases hj:spec_PreimageChecker_J3 t218 k l267 l308 (marksF r c K z k) with
   | none=>rw[hj] at e; rw[loop_eq,e]; rfl
   | some y=>rw[hj] at e; exact loop_R e
  | succ d ih =>
   intro x hx
   rw[loop_L ((h.back hz hk (by omega)).2 _ (by simp; omega) t218 l267 l308),← range_snoc]
   exact ih (x+1) (by omega)
 exact key (K+1) 0 (by omega)
theorem Cx.row_impl (h:Cx r c K M) {z k:Nat} (hz:z<M) (hk:k<2) (p4:(Int × Int)→Option Push) (p6:(Int × Int)→Option Int) (t156:List Push) (t160:List (List Int)) (t164:List Int) :
  loop (impl_built_K0000000_S3 K p4 (fun x=>impl_PreimageChecker_3 x.1 x.2.1 x.2.2 r c.Stack c.Accept.length c) p6 z t156 t160 t164 k) ([],0)=impl_built_K0000000_J3 p4 p6 z t156 t160 t164 k (marksF r c K z k):=by
 have hK:=h.K80
 have w:IntKind.wrap .i64 ((K:Int)+1)=((K+1:Nat):Int):=w1 (show K<1000000 by omega) (by decide)
 have key:∀ (d x:Nat),x+d=K+1→loop (impl_built_K0000000_S3 K p4 (fun x=>impl_PreimageChecker_3 x.1 x.2.1 x.2.2 r c.Stack c.Accept.length c) p6 z t156 t160 t164 k) ((List.range x).map (backF r c z k),(x:Int))=impl_built_K0000000_J3 p4 p6 z t156 t160 t164 k (marksF r c K z k):=by
  intro d
  induction d with
  | zero =>
   intro x hx
   obtain rfl:x=K+1:=by omega
   have e:impl_built_K0000000_S3 K p4 (fun x=>impl_PreimageChecker_3 x.1 x.2.1 x.2.2 r c.Stack c.Accept.length c) p6 z t156 t160 t164 k ((List.range (K+1)).map (backF r c z k),((K+1:Nat):Int))=(impl_built_K0000000_J3 p4 p6 z t156 t160 t164 k (marksF r c K z k)).map Sum.inr:=by
    unfold impl_built_K0000000_S3
    simp only
    rw[w,if_neg (by simp)]
    rfl
   cases hj:impl_built_K0000000_J3 p4 p6 z t156 t160 t164 k (marksF r c K z k) with
   | none=>rw[hj] at e; rw[loop_eq,e]; rfl
   | some y=>rw[hj] at e; exact loop_R e
  | succ d ih =>
   intro x hx
   have e:impl_built_K0000000_S3 K p4 (fun x=>impl_PreimageChecker_3 x.1 x.2.1 x.2.2 r c.Stack c.Accept.length c) p6 z t156 t160 t164 k ((List.range x).map (backF r c z k),(x:Int))=some (.inl ((List.range (x+1)).map (backF r c z k),((x+1:Nat):Int))):=by
    unfold impl_built_K0000000_S3
    simp only
    rw[w,if_pos (decide_eq_true (by omega)),(h.back hz hk (by omega)).1,Option.bind_some,app_S (by simp; omega),Option.bind_some,w1 (show x<1000000 by omega) (by decide),range_snoc]
   rw[loop_L e]
   exact ih (x+1) (by omega)
 exact key (K+1) 0 (by omega)

variable (r c)
noncomputable def twoP (z:Nat):List Push:=[pushF r c z 0,pushF r c z 1]
noncomputable def twoB (K z:Nat):List (List Int):=[marksF r c K z 0,marksF r c K z 1]
noncomputable def twoI (z:Nat):List Int:=[innF r c z 0,innF r c z 1]
variable {r c}
theorem Cx.z_spec (h:Cx r c K M) {z:Nat} (hz:z<M) {A:List Bool} {C:List (List Push)} {R:List (List (List Int))} {I:List (List Int)} (hA:A.length=z) (hC:C.length=z) (hR:R.length=z) (hI:I.length=z) :
  spec_PreimageChecker_S1 r c (A,C,R,I,(z:Int))=some (.inl (A++[accF c z],C++[twoP r c z],R++[twoB r c K z],I++[twoI r c z],((z+1:Nat):Int))):=by
 have hM:=h.M40
 have hK:=h.K80
 have st:∀ (k:Nat) (t210:List Push) (t214:List Int) (t218:List (List Int)),k<2→t210.length=k→t214.length=k→t218.length=k→∀ l134,spec_PreimageChecker_S2 r c C R I z ((z / c.Accept.length:Nat):Int) ((z % c.Accept.length:Nat):Int) l134 (t210,t214,t218,(k:Int))=some (.inl (t210++[pushF r c z k],t214++[innF r c z k],t218++[marksF r c K z k],((k+1:Nat):Int))):=by
  intro k t210 t214 t218 hk h1 h2 h3 l134
  obtain ⟨l,p,e1,e2,st',sk',a,e3,e4,e5⟩:=(h.push hz hk).2
  obtain ⟨l',p',f1,f2,q,f3,f4⟩:=(h.inn hz hk).2
  unfold spec_PreimageChecker_S2
  simp only
  rw[if_pos (decide_eq_true (by omega)),e1,Option.bind_some,e2,Option.bind_some,e3,Option.bind_some]
  simp only
  rw[e4,Option.bind_some,e5,app_S (by omega),Option.bind_some,f1,Option.bind_some,f2,Option.bind_some,f3,Option.bind_some,f4,app_S (by omega),Option.bind_some,h.row_spec hz hk]
  unfold spec_PreimageChecker_J3
  rw[app_S (by omega),Option.bind_some,w1 hk (by decide)]
 unfold spec_PreimageChecker_S1
 simp only
 rw[h.eM,if_pos (ltT hz),h.quo hz,Option.bind_some,(h.acc hz).2.1,Option.bind_some,(h.acc hz).2.2,Option.bind_some,app_S (by omega),Option.bind_some]
 have e0:=st 0 [] [] [] (by omega) rfl rfl rfl (A++[accF c z])
 have e1:=st 1 [pushF r c z 0] [innF r c z 0] [marksF r c K z 0] (by omega) rfl rfl rfl (A++[accF c z])
 have e0':spec_PreimageChecker_S2 r c C R I z ((z / c.Accept.length:Nat):Int) ((z % c.Accept.length:Nat):Int) (A++[accF c z]) ([],[],[],0)=some (.inl ([pushF r c z 0],[innF r c z 0],[marksF r c K z 0],((1:Nat):Int))):=e0
 rw[loop_L e0',loop_L e1]
 refine loop_R ?_
 unfold spec_PreimageChecker_S2 spec_PreimageChecker_J2
 simp only
 rw[if_neg (by simp),app_S (by omega),Option.bind_some,app_S (by omega),Option.bind_some,app_S (by omega),Option.bind_some,w1 hz (by omega)]
 rfl
theorem Cx.z_impl (h:Cx r c K M) {z:Nat} (hz:z<M) {p2:Int} {A:List Bool} {C:List (List Push)} {R:List (List (List Int))} {I:List (List Int)} (hA:A.length=z) (hC:C.length=z) (hR:R.length=z) (hI:I.length=z) :
  impl_built_K0000000_S1 M K p2 (fun x=>impl_PreimageChecker_1 x c c.Accept.length) (fun x=>impl_PreimageChecker_2 x.1 x.2 r c.Accept.length c c.Stack) (fun x=>impl_PreimageChecker_3 x.1 x.2.1 x.2.2 r c.Stack c.Accept.length c) (fun x=>impl_PreimageChecker_4 x.1 x.2 r c.Accept.length c) (A,C,R,I,(z:Int)) =
   some (.inl (A++[accF c z],C++[twoP r c z],R++[twoB r c K z],I++[twoI r c z],((z+1:Nat):Int))):=by
 have hM:=h.M40
 have st:∀ (k:Nat) (t156:List Push) (t160:List (List Int)) (t164:List Int),k<2→t156.length=k→t160.length=k→t164.length=k→impl_built_K0000000_S2 K (fun x=>impl_PreimageChecker_1 x c c.Accept.length) (fun x=>impl_PreimageChecker_2 x.1 x.2 r c.Accept.length c c.Stack) (fun x=>impl_PreimageChecker_3 x.1 x.2.1 x.2.2 r c.Stack c.Accept.length c) (fun x=>impl_PreimageChecker_4 x.1 x.2 r c.Accept.length c) A C R I z (t156,t160,t164,(k:Int))=some (.inl (t156++[pushF r c z k],t160++[marksF r c K z k],t164++[innF r c z k],((k+1:Nat):Int))):=by
  intro k t156 t160 t164 hk h1 h2 h3
  unfold impl_built_K0000000_S2
  simp only
  rw[if_pos (decide_eq_true (by omega)),h.row_impl hz hk]
  unfold impl_built_K0000000_J3
  simp only
  rw[(h.push hz hk).1,Option.bind_some,app_S (by omega),Option.bind_some,app_S (by omega),Option.bind_some,(h.inn hz hk).1,Option.bind_some,app_S (by omega),Option.bind_some,w1 hk (by decide)]
 unfold impl_built_K0000000_S1
 simp only
 rw[if_pos (ltT hz)]
 have e0:impl_built_K0000000_S2 K (fun x=>impl_PreimageChecker_1 x c c.Accept.length) (fun x=>impl_PreimageChecker_2 x.1 x.2 r c.Accept.length c c.Stack) (fun x=>impl_PreimageChecker_3 x.1 x.2.1 x.2.2 r c.Stack c.Accept.length c) (fun x=>impl_PreimageChecker_4 x.1 x.2 r c.Accept.length c) A C R I z ([],[],[],0)=some (.inl ([pushF r c z 0],[marksF r c K z 0],[innF r c z 0],((1:Nat):Int))):=st 0 [] [] [] (by omega) rfl rfl rfl
 have e1:=st 1 [pushF r c z 0] [marksF r c K z 0] [innF r c z 0] (by omega) rfl rfl rfl
 rw[loop_L e0,loop_L e1]
 refine loop_R ?_
 unfold impl_built_K0000000_S2 impl_built_K0000000_J2
 simp only
 rw[if_neg (by simp),(h.acc hz).1,Option.bind_some,app_S (by omega),Option.bind_some,app_S (by omega),Option.bind_some,app_S (by omega),Option.bind_some,app_S (by omega),Option.bind_some,w1 hz (by omega)]
 rfl
/-- The checker that is made. -/
noncomputable def madeF (r:Rewriter) (c:Checker) (K M:Nat) (st:Int):Checker:=⟨K,st,(List.range M).map (accF c),(List.range M).map (twoP r c),(List.range M).map (twoB r c K),(List.range M).map (twoI r c)⟩
theorem Cx.all_spec (h:Cx r c K M):loop (spec_PreimageChecker_S1 r c) ([],[],[],[],0)=some (madeF r c K M (IntKind.wrap .i64 ((IntKind.wrap .i64 (r.Start*(c.Accept.length:Int)))+c.Start)),0):=by
 have key:∀ (d z:Nat),z+d=M→loop (spec_PreimageChecker_S1 r c) ((List.range z).map (accF c),(List.range z).map (twoP r c),(List.range z).map (twoB r c K),(List.range z).map (twoI r c),(z:Int))=some (madeF r c K M (IntKind.wrap .i64 ((IntKind.wrap .i64 (r.Start*(c.Accept.length:Int)))+c.Start)),0):=by
  intro d
  induction d with
  | zero =>
   intro z hz
   obtain rfl:z=M:=by omega
   refine loop_R ?_
   unfold spec_PreimageChecker_S1 spec_PreimageChecker_J1
   simp only
   rw[h.eM,if_neg (by simp),h.eK]; rfl
  | succ d ih =>
   intro z hz
   rw[loop_L (h.z_spec (by omega) (by simp) (by simp) (by simp) (by simp)),← range_snoc,← range_snoc,← range_snoc,← range_snoc]
   exact ih (z+1) (by omega)
 exact key M 0 (by omega)
theorem Cx.all_impl (h:Cx r c K M) (p2:Int):impl_built_K0000000 M K p2 (fun x=>impl_PreimageChecker_1 x c c.Accept.length) (fun x=>impl_PreimageChecker_2 x.1 x.2 r c.Accept.length c c.Stack) (fun x=>impl_PreimageChecker_3 x.1 x.2.1 x.2.2 r c.Stack c.Accept.length c) (fun x=>impl_PreimageChecker_4 x.1 x.2 r c.Accept.length c)=some (madeF r c K M p2):=by
 unfold impl_built_K0000000
 have key:∀ (d z:Nat),z+d=M→loop (impl_built_K0000000_S1 M K p2 (fun x=>impl_PreimageChecker_1 x c c.Accept.length) (fun x=>impl_PreimageChecker_2 x.1 x.2 r c.Accept.length c c.Stack) (fun x=>impl_PreimageChecker_3 x.1 x.2.1 x.2.2 r c.Stack c.Accept.length c) (fun x=>impl_PreimageChecker_4 x.1 x.2 r c.Accept.length c)) ((List.range z).map (accF c),(List.range z).map (twoP r c),(List.range z).map (twoB r c K),(List.range z).map (twoI r c),(z:Int))=some (madeF r c K M p2):=by
  intro d
  induction d with
  | zero =>
   intro z hz
   obtain rfl:z=M:=by omega
   refine loop_R ?_
   unfold impl_built_K0000000_S1 impl_built_K0000000_J1
   simp only
   rw[if_neg (by simp)]; rfl
  | succ d ih =>
   intro z hz
   rw[loop_L (h.z_impl (by omega) (by simp) (by simp) (by simp) (by simp)),← range_snoc,← range_snoc,← range_snoc,← range_snoc]
   exact ih (z+1) (by omega)
 exact key M 0 (by omega)
end
end Go.Proofs.YtpchecdlbagedaaGreat.law
namespace Go.Proofs.YtpchecdlbagedaaGreat.law
open Go Go.Proofs Ae
set_option maxRecDepth 100000
/-- What is marked holds its marks. -/
def MH {α:Type} (B:Nat) (mk:α→Int→Option (Int × α)) (hd:α→Int→Option Int) (a:α):Prop:=∀ k:Int,0≤k→k+B≤4611686018427387904→∃ k' a',mk a k=some (k',a')∧k≤k'∧k'≤k+B∧hd a' k=some k'
theorem mh_list {α:Type} {B:Nat} {mkE:α→Int→Option (Int × α)} {hdE:α→Int→Option Int} {S:List α × Int × Int→Option ((List α × Int × Int) ⊕ (Int × List α))} {T:List α→Int × Int→Option ((Int × Int) ⊕ Int)} {mk:List α→Int→Option (Int × List α)} {hd:List α→Int→Option Int} {a:List α}
  (hmk:∀ k,mk a k=loop S (a,k,0)) (hhd:∀ m k,hd m k=loop (T m) (k,0)) (ha:a.length≤1048576)
  (hS:∀ (m:List α) (k:Int) (i:Nat) x k' x',0≤k→k+B≤4611686018427387904→m.length≤1048576→m[i]?=some x→mkE x k=some (k',x')→S (m,k,(i:Int))=some (.inl (m.set i x',k',((i+1:Nat):Int))))
  (hSe:∀ (m:List α) (k:Int),S (m,k,(m.length:Int))=some (.inr (k,m)))
  (hT:∀ (m:List α) (k:Int) (i:Nat) x k',0≤k→k+B≤4611686018427387904→m.length≤1048576→m[i]?=some x→hdE x k=some k'→0≤k'→T m (k,(i:Int))=some (.inl (k',((i+1:Nat):Int))))
  (hTe:∀ (m:List α) (k:Int),T m (k,(m.length:Int))=some (.inr k))
  (h:∀ x∈a,MH B mkE hdE x):MH (1048576*B) mk hd a:=by
 intro k0 h0 h1
 have hB:((1048576*B:Nat):Int)=1048576*(B:Int):=by omega
 have key:∀ (n i:Nat) (m:List α) (k:Int),i+n=a.length→m.length=a.length→(∀ j,i≤j→m[j]?=a[j]?)→k0≤k→k≤k0+i*B →
   (∀ m':List α,m'.length=a.length→(∀ j,j<i→m'[j]?=m[j]?)→loop (T m') (k0,0)=loop (T m') (k,(i:Int))) →
   ∃ k' a',loop S (m,k,(i:Int))=some (k',a')∧k0≤k'∧k'≤k0+(1048576*B:Nat)∧loop (T a') (k0,0)=some k':=by
  intro n
  induction n with
  | zero =>
   intro i m k hi hm _ hk1 hk2 hP
   obtain rfl:i=m.length:=by omega
   refine ⟨k,m,loop_R (hSe m k),hk1,?_,?_⟩
   ·have:(m.length:Int)*B≤1048576*B:=Int.mul_le_mul_of_nonneg_right (by omega) (by omega)
    omega
   ·rw[hP m hm fun j _=>rfl]; exact loop_R (hTe m k)
  | succ n ih =>
   intro i m k hi hm hr hk1 hk2 hP
   have hlt:i<a.length:=by omega
   have hx:m[i]?=some a[i]:=by rw[hr i (Nat.le_refl _)]; exact List.getElem?_eq_getElem hlt
   have hb:(i:Int)*B+B≤1048576*B:=by
    have:((i:Int)+1)*B≤1048576*B:=Int.mul_le_mul_of_nonneg_right (by omega) (by omega)
    rw[Int.add_mul] at this; omega
   obtain ⟨k',x',e1,e2,e3,e4⟩:=h a[i] (List.getElem_mem hlt) k (by omega) (by omega)
   rw[loop_L (hS m k i _ k' x' (by omega) (by omega) (by omega) hx e1)]
   refine ih (i+1) (m.set i x') k' (by omega) (by simp[hm]) (fun j hj=>?_) (by omega) (by push_cast; rw[Int.add_mul]; omega) fun m' hm' hj=>?_
   ·rw[List.getElem?_set,if_neg (by omega)]; exact hr j (by omega)
   ·have hy:m'[i]?=some x':=by rw[hj i (by omega),List.getElem?_set,if_pos rfl,if_pos (by omega)]
    rw[hP m' hm' fun j hlt2=>by rw[hj j (by omega),List.getElem?_set,if_neg (by omega)]]
    exact loop_L (hT m' k i x' k' (by omega) (by omega) (by omega) hy e4 (by omega))
 obtain ⟨k',a',e1,e2,e3,e4⟩:=key a.length 0 a k0 (by omega) rfl (fun _ _=>rfl) (Int.le_refl _) (by simp) (fun m' _ _=>rfl)
 exact ⟨k',a',by rw[hmk]; exact e1,e2,e3,by rw[hhd]; exact e4⟩
theorem mh_boolS {a:List Bool} (ha:a.length≤1048576):MH 1048576 laws_markBoolS_K10 laws_heldBoolS a:=by
 have:=mh_list (B:=1) (mkE:=fun _ k=>some (k+1,k.tmod 3 == 0)) (hdE:=fun x k=>if x=(k.tmod 3 == 0) then some (k+1) else none) (S:=laws_markBoolS_K10_S1) (T:=laws_heldBoolS_S1) (mk:=laws_markBoolS_K10) (hd:=laws_heldBoolS) (a:=a) (fun _=>rfl) (fun _ _=>rfl) ha
  (fun m k i x k' x' h0 h1 hl hx he=>by
   cases he
   have hlt:=(List.getElem?_eq_some_iff.1 hx).1
   unfold laws_markBoolS_K10_S1
   simp only
   rw[if_pos (ltT hlt),remI3,Option.bind_some,ix_lit hx,Option.bind_some,w1 hlt (by omega),w64 (by omega) (by omega),Int.toNat_natCast])
  (fun m k=>by unfold laws_markBoolS_K10_S1; simp only; rw[if_neg (by simp)]; rfl)
  (fun m k i x k' h0 h1 hl hx he hk=>by
   have hlt:=(List.getElem?_eq_some_iff.1 hx).1
   unfold laws_heldBoolS_S1
   simp only at he ⊢
   split at he
   ·rename_i e
    cases he
    rw[if_pos (ltT hlt),ix_lit hx,Option.bind_some,remI3,Option.bind_some,e,if_neg (by simp),w1 hlt (by omega),w64 (by omega) (by omega)]
   ·cases he)
  (fun m k=>by unfold laws_heldBoolS_S1; simp only; rw[if_neg (by simp)]; rfl)
  (fun x _ k h0 h1=>⟨k+1,_,rfl,by omega,by omega,by simp⟩)
 simpa using this
theorem mh_intS {a:List Int} (ha:a.length≤1048576):MH 1048576 laws_markInt64S_K10 laws_heldInt64S a:=by
 have:=mh_list (B:=1) (mkE:=fun _ k=>some (k+1,k)) (hdE:=fun x k=>if x=k then some (k+1) else none) (S:=laws_markInt64S_K10_S1) (T:=laws_heldInt64S_S1) (mk:=laws_markInt64S_K10) (hd:=laws_heldInt64S) (a:=a) (fun _=>rfl) (fun _ _=>rfl) ha
  (fun m k i x k' x' h0 h1 hl hx he=>by
   cases he
   have hlt:=(List.getElem?_eq_some_iff.1 hx).1
   unfold laws_markInt64S_K10_S1
   simp only
   rw[if_pos (ltT hlt),ix_lit hx,Option.bind_some,w1 hlt (by omega),w64 (by omega) (by omega),Int.toNat_natCast])
  (fun m k=>by unfold laws_markInt64S_K10_S1; simp only; rw[if_neg (by simp)]; rfl)
  (fun m k i x k' h0 h1 hl hx he hk=>by
   have hlt:=(List.getElem?_eq_some_iff.1 hx).1
   unfold laws_heldInt64S_S1
   simp only at he ⊢
   split at he
   ·rename_i e
    cases he
    rw[if_pos (ltT hlt),ix_lit hx,Option.bind_some,e,if_neg (by simp),w1 hlt (by omega),w64 (by omega) (by omega)]
   ·cases he)
  (fun m k=>by unfold laws_heldInt64S_S1; simp only; rw[if_neg (by simp)]; rfl)
  (fun x _ k h0 h1=>⟨k+1,_,rfl,by omega,by omega,by simp⟩)
 simpa using this
theorem mh_pushS {a:List Push} (ha:a.length≤1048576):MH 2097152 laws_markPushS_K10 laws_heldPushS a:=by
 have:=mh_list (B:=2) (mkE:=fun _ k=>some (k+2,(⟨k,k+1⟩:Push))) (hdE:=fun x k=>if x.To=k∧x.Put=k+1 then some (k+2) else none) (S:=laws_markPushS_K10_S1) (T:=laws_heldPushS_S1) (mk:=laws_markPushS_K10) (hd:=laws_heldPushS) (a:=a) (fun _=>rfl) (fun _ _=>rfl) ha
  (fun m k i x k' x' h0 h1 hl hx he=>by
   cases he
   have hlt:=(List.getElem?_eq_some_iff.1 hx).1
   unfold laws_markPushS_K10_S1
   simp only
   rw[if_pos (ltT hlt),ix_lit hx,Option.bind_some,w1 hlt (by omega),w64 (n:=k+1) (by omega) (by omega),w64 (by omega) (by omega),Int.toNat_natCast,List.set_set,Int.add_assoc]
   rfl)
  (fun m k=>by unfold laws_markPushS_K10_S1; simp only; rw[if_neg (by simp)]; rfl)
  (fun m k i x k' h0 h1 hl hx he hk=>by
   have hlt:=(List.getElem?_eq_some_iff.1 hx).1
   unfold laws_heldPushS_S1
   simp only at he ⊢
   split at he
   ·rename_i e
    cases he
    rw[if_pos (ltT hlt),ix_lit hx,Option.bind_some,e.1,if_neg (by simp),Option.bind_some,e.2,w64 (n:=k+1) (by omega) (by omega),if_neg (by simp),w1 hlt (by omega),w64 (by omega) (by omega),Int.add_assoc]
    rfl
   ·cases he)
  (fun m k=>by unfold laws_heldPushS_S1; simp only; rw[if_neg (by simp)]; rfl)
  (fun x _ k h0 h1=>⟨k+2,_,rfl,by omega,by omega,by simp⟩)
 simpa using this
theorem mh_nest {α:Type} {B:Nat} {mkE:α→Int→Option (Int × α)} {hdE:α→Int→Option Int} {S:List α × Int × Int→Option ((List α × Int × Int) ⊕ (Int × List α))} {T:List α→Int × Int→Option ((Int × Int) ⊕ Int)} {mk:List α→Int→Option (Int × List α)} {hd:List α→Int→Option Int} {a:List α}
  (hS:∀ m k i,S (m,k,i)=if decide (i<(m.length:Int))=true then (ix m i).bind fun x=>(mkE x k).bind fun y=>some (.inl (m.set (Int.toNat i) y.2,y.1,IntKind.wrap .i64 (i+1))) else some (.inr (k,m)))
  (hT:∀ m k i,T m (k,i)=if decide (i<(m.length:Int))=true then (ix m i).bind fun x=>(hdE x k).bind fun y=>if (decide ((y:Int)<0))=true then some (.inr (-1)) else some (.inl (y,IntKind.wrap .i64 (i+1))) else some (.inr k))
  (hmk:∀ k,mk a k=loop S (a,k,0)) (hhd:∀ m k,hd m k=loop (T m) (k,0)) (ha:a.length≤1048576) (h:∀ x∈a,MH B mkE hdE x):MH (1048576*B) mk hd a :=
 mh_list hmk hhd ha
  (fun m k i x k' x' h0 h1 hl hx he=>by
   have hlt:=(List.getElem?_eq_some_iff.1 hx).1
   rw[hS,if_pos (ltT hlt),ix_lit hx,Option.bind_some,he,Option.bind_some,w1 hlt (by omega),Int.toNat_natCast])
  (fun m k=>by rw[hS,if_neg (by simp)])
  (fun m k i x k' h0 h1 hl hx he hk=>by
   have hlt:=(List.getElem?_eq_some_iff.1 hx).1
   rw[hT,if_pos (ltT hlt),ix_lit hx,Option.bind_some,he,Option.bind_some,if_neg (by simp; omega),w1 hlt (by omega)])
  (fun m k=>by rw[hT,if_neg (by simp)]) h
theorem mh_pushSS {a:List (List Push)} (h:(smL (smL smT)) a):MH 2199023255552 laws_markPushSS_K10 laws_heldPushSS a :=
 mh_nest (B:=2097152) (mkE:=laws_markPushS_K10) (hdE:=laws_heldPushS) (S:=laws_markPushSS_K10_S1) (T:=laws_heldPushSS_S1) (fun _ _ _=>rfl) (fun _ _ _=>rfl) (fun _=>rfl) (fun _ _=>rfl) h.1 fun x hx=>mh_pushS (h.2 x hx).1
theorem mh_intSS {a:List (List Int)} (h:(smL (smL smT)) a):MH 1099511627776 laws_markInt64SS_K10 laws_heldInt64SS a :=
 mh_nest (B:=1048576) (mkE:=laws_markInt64S_K10) (hdE:=laws_heldInt64S) (S:=laws_markInt64SS_K10_S1) (T:=laws_heldInt64SS_S1) (fun _ _ _=>rfl) (fun _ _ _=>rfl) (fun _=>rfl) (fun _ _=>rfl) h.1 fun x hx=>mh_intS (h.2 x hx).1
theorem mh_intSSS {a:List (List (List Int))} (h:(smL (smL (smL smT))) a):MH 1152921504606846976 laws_markInt64SSS_K10 laws_heldInt64SSS a :=
 mh_nest (B:=1099511627776) (mkE:=laws_markInt64SS_K10) (hdE:=laws_heldInt64SS) (S:=laws_markInt64SSS_K10_S1) (T:=laws_heldInt64SSS_S1) (fun _ _ _=>rfl) (fun _ _ _=>rfl) (fun _=>rfl) (fun _ _=>rfl) h.1 fun x hx=>mh_intSS (h.2 x hx)
/-- A checker holds its marks. -/
theorem mh_checker {a:Checker} (h:smChecker a):∃ m:Int × List Bool × List (List Push) × List (List (List Int)) × List (List Int),laws_markChecker_K10 a 1=some m∧1≤m.1∧laws_heldChecker ⟨a.Stack,a.Start,m.2.1,m.2.2.1,m.2.2.2.1,m.2.2.2.2⟩ 1=some m.1:=by
 obtain ⟨_,_,h1,h2,h3,h4⟩:=h
 obtain ⟨k1,a1,e1,l1,u1,d1⟩:=mh_boolS h1.1 1 (by omega) (by omega)
 obtain ⟨k2,a2,e2,l2,u2,d2⟩:=mh_pushSS h2 k1 (by omega) (by omega)
 obtain ⟨k3,a3,e3,l3,u3,d3⟩:=mh_intSSS h3 k2 (by omega) (by omega)
 obtain ⟨k4,a4,e4,l4,u4,d4⟩:=mh_intSS h4 k3 (by omega) (by omega)
 refine ⟨(k4,a1,a2,a3,a4),?_,by show 1≤k4; omega,?_⟩
 ·unfold laws_markChecker_K10
  simp only[e1,e2,e3,e4,Option.bind_some]
 ·unfold laws_heldChecker
  have n1:¬ k1<0:=by omega
  have n2:¬ k2<0:=by omega
  have n3:¬ k3<0:=by omega
  have n4:¬ k4<0:=by omega
  simp[d1,d2,d3,d4,n1,n2,n3,n4]
end Go.Proofs.YtpchecdlbagedaaGreat.law
namespace Go.Proofs.YtpchecdlbagedaaGreat.law
open Go Go.Proofs Ae
set_option maxRecDepth 100000
theorem smNil:smChecker ⟨0,0,[],[],[],[]⟩:=⟨trivial,trivial,⟨by simp,by simp⟩,⟨by simp,by simp⟩,⟨by simp,by simp⟩,⟨by simp,by simp⟩⟩
theorem smMade (r:Rewriter) (c:Checker) {K M:Nat} (hK:K≤80) (hM:M≤40) (st:Int):smChecker (madeF r c K M st):=by
 refine ⟨trivial,trivial,⟨?_,fun _ _=>trivial⟩,⟨?_,fun x hx=>⟨?_,fun _ _=>trivial⟩⟩,⟨?_,fun x hx=>⟨?_,fun y hy=>⟨?_,fun _ _=>trivial⟩⟩⟩,⟨?_,fun x hx=>⟨?_,fun _ _=>trivial⟩⟩⟩
 ·show ((List.range M).map (accF c)).length≤_; simp; omega
 ·show ((List.range M).map (twoP r c)).length≤_; simp; omega
 ·obtain ⟨z,_,rfl⟩:=List.mem_map.1 (show x∈(List.range M).map (twoP r c) from hx); simp[twoP]
 ·show ((List.range M).map (twoB r c K)).length≤_; simp; omega
 ·obtain ⟨z,_,rfl⟩:=List.mem_map.1 (show x∈(List.range M).map (twoB r c K) from hx); simp[twoB]
 ·obtain ⟨z,_,rfl⟩:=List.mem_map.1 (show x∈(List.range M).map (twoB r c K) from hx)
  simp only[twoB,List.mem_cons,List.mem_nil_iff,or_false] at hy
  rcases hy with rfl | rfl<;>simp[marksF]<;>omega
 ·show ((List.range M).map (twoI r c)).length≤_; simp; omega
 ·obtain ⟨z,_,rfl⟩:=List.mem_map.1 (show x∈(List.range M).map (twoI r c) from hx); simp[twoI]
theorem pre_eq {r:Rewriter} (hr:smRewriter r) {c:Checker} (hc:smChecker c):∃ q,spec_PreimageChecker r c=some q∧impl_PreimageChecker_K00 r c=some q∧smChecker q.1:=by
 obtain ⟨b1,e1,f1⟩:=rw_tot hr
 obtain ⟨b2,e2⟩:=chk_tot hc
 unfold spec_PreimageChecker impl_PreimageChecker_K00 impl_size_bool impl_size_simpl_OutPush
 rw[rw_eq hr,chk_eq hc]
 simp only[e1,e2,Option.bind_some,ite_some,ite_or]
 cases b1 with
 | false=>exact ⟨_,rfl,rfl,smNil⟩
 | true =>
  cases b2 with
  | false=>exact ⟨_,rfl,rfl,smNil⟩
  | true =>
   have hR:=f1 rfl
   have hC:=chk_V hc e2
   obtain ⟨b3,g1,g2,g3⟩:=struct_eq hR hr
   simp only[g1,g2,Option.bind_some,Bool.not_true,Bool.or_self,Bool.false_eq_true,if_false]
   cases b3 with
   | false=>exact ⟨_,rfl,rfl,smNil⟩
   | true =>
    simp only[Bool.not_true,Bool.false_eq_true,if_false]
    have n1:=hR.n1
    have n2:=hR.n2
    have m1:=hC.n1
    have m2:=hC.n2
    have k1:=hR.k1
    have k2:=hR.k2
    have l1:=hC.k1
    have l2:=hC.k2
    obtain ⟨s,hs⟩:=Int.eq_ofNat_of_zero_le (show 0≤r.Stack by omega)
    obtain ⟨t,ht⟩:=Int.eq_ofNat_of_zero_le (show 0≤c.Stack by omega)
    have hmul:r.Call.length*c.Accept.length≤8*40:=Nat.mul_le_mul n2 m2
    have hmul2:s*t≤8*80:=Nat.mul_le_mul (by omega) (by omega)
    have eM:IntKind.wrap .i64 ((r.Call.length:Int)*(c.Accept.length:Int))=((r.Call.length*c.Accept.length:Nat):Int):=by
     rw[← Int.natCast_mul,w64 (by omega) (by omega)]
    have eK:IntKind.wrap .i64 (r.Stack*c.Stack)=((s*t:Nat):Int):=by
     rw[hs,ht]
     show IntKind.wrap .i64 ((s:Int)*(t:Int))=_
     rw[← Int.natCast_mul,w64 (by omega) (by omega)]
    rw[eM,eK]
    split
    ·exact ⟨_,rfl,rfl,smNil⟩
    ·rename_i hg
     simp only[Bool.or_eq_true,not_or,decide_eq_true_eq] at hg
     have hx:Cx r c (s*t) (r.Call.length*c.Accept.length):=⟨hR,hC,hr,g3 rfl,eK,by rw[hs,ht]; rfl,by omega,eM,rfl,by omega⟩
     rw[hx.all_spec,hx.all_impl,Option.bind_some]
     exact ⟨_,rfl,rfl,smMade r c (by omega) (by omega) _⟩
theorem law_PreimageChecker {r:Rewriter} (h:bRewriter r) {c:Checker} (hd:bChecker c):laws_FnExactPreimageChecker r c=some true:=by
 unfold laws_FnExactPreimageChecker
 obtain ⟨q,h1,h2,h3⟩:=laws_szRewriter_sz h 1048576 (by omega) (by omega)
 rw[h1,Option.bind_some]
 split
 ·rfl
 ·rename_i hr
  have hs:smRewriter r:=by
   rcases h3 with h3 | h3
   ·exact absurd (decide_eq_true h3) hr
   ·exact h3.2
  have hr0:0≤q:=by rcases h3 with h3 | h3; exact absurd (decide_eq_true h3) hr; exact h3.1
  obtain ⟨q2,g1,g2,g3⟩:=laws_szChecker_sz hd q hr0 (by omega)
  rw[g1,Option.bind_some]
  split
  ·rfl
  ·rename_i hr2
   have hs2:smChecker c:=by
    rcases g3 with g3 | g3
    ·exact absurd (decide_eq_true g3) hr2
    ·exact g3.2
   obtain ⟨p,k1,k2,k3⟩:=pre_eq hs hs2
   obtain ⟨m1,a1,a2,a3⟩:=laws_markRewriter_K10_mk hs (k:=1) (by omega) (by omega)
   obtain ⟨m2,b1,b2,b3⟩:=laws_markChecker_K10_mk hs2 (k:=m1.1) (by omega) (by omega)
   obtain ⟨m,c1,c2,c3⟩:=mh_checker k3
   have e1:¬ m2.1<0:=by omega
   have e2:¬ m.1<0:=by omega
   simp only[laws_toRewriter_K0_to hs,laws_toChecker_K0_to hs2,Option.bind_some,k1,k2,laws_eqRewriter_eq hs,laws_eqChecker_eq hs2,laws_eqChecker_eq k3,a1,b1,c1,c3]
   simp[e1,e2]
end Go.Proofs.YtpchecdlbagedaaGreat.law
