import Derived.Test.YtbmjcddendnniaaGreatAeD
import Derived.Test.YtbmjcddendnniaaGreatAe4
import Derived.Test.YtbmjcddendnniaaGreatAeShelf
import Derived.Shelf.SlicesG.Delete
import Derived.WalkKit
import Derived.KernelRfl
set_option linter.unusedVariables false
set_option linter.unusedSimpArgs false
namespace Go.Proofs.YtbmjcddendnniaaGreat.law
open Go Go.Proofs Ae
set_option maxRecDepth 100000
set_option linter.unusedVariables false
noncomputable def szStr (x:List UInt8) (left:Int):Option Int:=some (IntKind.wrap .i64 (left - (x.length:Int)))
theorem szStr_step {o p:Option ((Int × Int) ⊕ Int)} (h:o=p):o=p:=h
theorem szStr_sz {x:List UInt8} (h:bS x):SzOk smS szStr x:=by
 intro left h0 h1
 have:=bS.len h
 refine ⟨_,rfl,?_,?_⟩
 ·rw[w64 (by omega) (by omega)]; omega
 ·rw[w64 (by omega) (by omega)]
  by_cases h:left - (x.length:Int)<0
  ·exact .inl h
  ·exact .inr ⟨by omega,by unfold smS; omega⟩
theorem laws_szBoolS_sz {a:List Bool} (h:(bL bB) a):SzOk (smL smT) laws_szBoolS a:=sz_flat (fun _=>rfl) h.len
theorem laws_szPushS_sz {a:List Push} (h:(bL bPush) a):SzOk (smL smT) laws_szPushS a:=sz_flat (fun _=>rfl) h.len
theorem laws_szPushSS_sz {a:List (List Push)} (h:(bL (bL bPush)) a):SzOk (smL (smL smT)) laws_szPushSS a :=
 sz_loop (sub:=laws_szPushS) (S:=laws_szPushSS_S1 a) (fun _ _=>rfl) (fun _=>rfl) h.len fun x hx=>laws_szPushS_sz (h.2 x hx)
theorem laws_szInt64S_sz {a:List Int} (h:(bL (bI .i64)) a):SzOk (smL smT) laws_szInt64S a:=sz_flat (fun _=>rfl) h.len
theorem laws_szInt64SS_sz {a:List (List Int)} (h:(bL (bL (bI .i64))) a):SzOk (smL (smL smT)) laws_szInt64SS a :=
 sz_loop (sub:=laws_szInt64S) (S:=laws_szInt64SS_S1 a) (fun _ _=>rfl) (fun _=>rfl) h.len fun x hx=>laws_szInt64S_sz (h.2 x hx)
theorem laws_szInt64SSS_sz {a:List (List (List Int))} (h:(bL (bL (bL (bI .i64)))) a):SzOk (smL (smL (smL smT))) laws_szInt64SSS a :=
 sz_loop (sub:=laws_szInt64SS) (S:=laws_szInt64SSS_S1 a) (fun _ _=>rfl) (fun _=>rfl) h.len fun x hx=>laws_szInt64SS_sz (h.2 x hx)
theorem laws_szChecker_sz {a:Checker} (h:bChecker a):SzOk smChecker laws_szChecker a:=by
 intro left h0 h1
 unfold laws_szChecker
 obtain ⟨y1,e1,l1,q1⟩:=laws_szBoolS_sz h.2.2.1 left h0 h1
 rw[e1,Option.bind_some]
 rcases q1 with q1 | ⟨p1,s1⟩
 ·exact ⟨-1,by rw[if_pos (by simpa using q1)],by omega,.inl (by omega)⟩
 rw[if_neg (by simp; omega)]
 obtain ⟨y2,e2,l2,q2⟩:=laws_szPushSS_sz h.2.2.2.1 y1 p1 (by omega)
 rw[e2,Option.bind_some]
 rcases q2 with q2 | ⟨p2,s2⟩
 ·exact ⟨-1,by rw[if_pos (by simpa using q2)],by omega,.inl (by omega)⟩
 rw[if_neg (by simp; omega)]
 obtain ⟨y3,e3,l3,q3⟩:=laws_szInt64SSS_sz h.2.2.2.2.1 y2 p2 (by omega)
 rw[e3,Option.bind_some]
 rcases q3 with q3 | ⟨p3,s3⟩
 ·exact ⟨-1,by rw[if_pos (by simpa using q3)],by omega,.inl (by omega)⟩
 rw[if_neg (by simp; omega)]
 obtain ⟨y4,e4,l4,q4⟩:=laws_szInt64SS_sz h.2.2.2.2.2 y3 p3 (by omega)
 rw[e4,Option.bind_some]
 rcases q4 with q4 | ⟨p4,s4⟩
 ·exact ⟨-1,by rw[if_pos (by simpa using q4)],by omega,.inl (by omega)⟩
 rw[if_neg (by simp; omega)]
 exact ⟨_,rfl,by omega,.inr ⟨by omega,⟨trivial,trivial,s1,s2,s3,s4⟩⟩⟩
theorem laws_szStringS_sz {a:List (List UInt8)} (h:(bL bS) a):SzOk (smL smS) laws_szStringS a :=
 sz_loop (sub:=szStr) (S:=laws_szStringS_S1 a) (fun left i=>szStr_step rfl) (fun _=>rfl) h.len fun x hx=>szStr_sz (h.2 x hx)
theorem laws_szStream_sz {a:Stream} (h:bStream a):SzOk smStream laws_szStream a:=by
 intro left h0 h1
 unfold laws_szStream
 obtain ⟨y1,e1,l1,q1⟩:=laws_szChecker_sz h.1 left h0 h1
 rw[e1,Option.bind_some]
 rcases q1 with q1 | ⟨p1,s1⟩
 ·exact ⟨-1,by rw[if_pos (by simpa using q1)],by omega,.inl (by omega)⟩
 rw[if_neg (by simp; omega)]
 obtain ⟨y2,e2,l2,q2⟩:=laws_szStringS_sz h.2 y1 p1 (by omega)
 rw[e2,Option.bind_some]
 rcases q2 with q2 | ⟨p2,s2⟩
 ·exact ⟨-1,by rw[if_pos (by simpa using q2)],by omega,.inl (by omega)⟩
 rw[if_neg (by simp; omega)]
 exact ⟨_,rfl,by omega,.inr ⟨by omega,⟨s1,s2⟩⟩⟩
theorem laws_szDeedS_sz {a:List Deed} (h:(bL bDeed) a):SzOk (smL smT) laws_szDeedS a:=sz_flat (fun _=>rfl) h.len
theorem laws_toBoolS_to {a:List Bool} (h:(smL smT) a):laws_toBoolS a=some a :=
 to_loop (sub:=some) (S:=laws_toBoolS_S1 a) (fun _ _=>rfl) rfl h.1 (fun _ _=>rfl)
theorem laws_toPush_to {a:Push} (h:smT a):laws_toPush a=some a:=by
 unfold laws_toPush
 rfl
theorem laws_toPushS_to {a:List Push} (h:(smL smT) a):laws_toPushS a=some a :=
 to_loop (sub:=laws_toPush) (S:=laws_toPushS_S1 a) (fun _ _=>rfl) rfl h.1 (fun x hx=>laws_toPush_to (h.2 x hx))
theorem laws_toPushSS_to {a:List (List Push)} (h:(smL (smL smT)) a):laws_toPushSS a=some a :=
 to_loop (sub:=laws_toPushS) (S:=laws_toPushSS_S1 a) (fun _ _=>rfl) rfl h.1 (fun x hx=>laws_toPushS_to (h.2 x hx))
theorem laws_toInt64S_to {a:List Int} (h:(smL smT) a):laws_toInt64S a=some a :=
 to_loop (sub:=some) (S:=laws_toInt64S_S1 a) (fun _ _=>rfl) rfl h.1 (fun _ _=>rfl)
theorem laws_toInt64SS_to {a:List (List Int)} (h:(smL (smL smT)) a):laws_toInt64SS a=some a :=
 to_loop (sub:=laws_toInt64S) (S:=laws_toInt64SS_S1 a) (fun _ _=>rfl) rfl h.1 (fun x hx=>laws_toInt64S_to (h.2 x hx))
theorem laws_toInt64SSS_to {a:List (List (List Int))} (h:(smL (smL (smL smT))) a):laws_toInt64SSS a=some a :=
 to_loop (sub:=laws_toInt64SS) (S:=laws_toInt64SSS_S1 a) (fun _ _=>rfl) rfl h.1 (fun x hx=>laws_toInt64SS_to (h.2 x hx))
theorem laws_toChecker_to {a:Checker} (h:smChecker a):laws_toChecker a=some a:=by
 unfold laws_toChecker
 rw[laws_toBoolS_to h.2.2.1,Option.bind_some]
 rw[laws_toPushSS_to h.2.2.2.1,Option.bind_some]
 rw[laws_toInt64SSS_to h.2.2.2.2.1,Option.bind_some]
 rw[laws_toInt64SS_to h.2.2.2.2.2,Option.bind_some]
theorem laws_toStringS_to {a:List (List UInt8)} (h:(smL smS) a):laws_toStringS a=some a :=
 to_loop (sub:=some) (S:=laws_toStringS_S1 a) (fun _ _=>rfl) rfl h.1 (fun _ _=>rfl)
theorem laws_toStream_to {a:Stream} (h:smStream a):laws_toStream a=some a:=by
 unfold laws_toStream
 rw[laws_toChecker_to h.1,Option.bind_some]
 rw[laws_toStringS_to h.2,Option.bind_some]
theorem laws_toDeed_to {a:Deed} (h:smT a):laws_toDeed a=some a:=by
 unfold laws_toDeed
 rfl
theorem laws_toDeedS_to {a:List Deed} (h:(smL smT) a):laws_toDeedS a=some a :=
 to_loop (sub:=laws_toDeed) (S:=laws_toDeedS_S1 a) (fun _ _=>rfl) rfl h.1 (fun x hx=>laws_toDeed_to (h.2 x hx))
theorem laws_eqDeed_eq {a:Deed} (h:smT a):laws_eqDeed a a=some true:=by
 unfold laws_eqDeed
 simp[]
theorem laws_eqDeedS_eq {a:List Deed} (h:(smL smT) a):laws_eqDeedS a a=some true :=
 eq_loop (sub:=laws_eqDeed) (S:=laws_eqDeedS_S1 a a) (fun _=>rfl) rfl h.1 (fun x hx=>laws_eqDeed_eq (h.2 x hx))
theorem laws_eqBoolS_eq {a:List Bool} (h:(smL smT) a):laws_eqBoolS a a=some true :=
 eq_loop (sub:=(fun x y=>some (x == y))) (S:=laws_eqBoolS_S1 a a) (fun _=>rfl) rfl h.1 (fun _ _=>by simp)
theorem laws_eqPush_eq {a:Push} (h:smT a):laws_eqPush a a=some true:=by
 unfold laws_eqPush
 simp[]
theorem laws_eqPushS_eq {a:List Push} (h:(smL smT) a):laws_eqPushS a a=some true :=
 eq_loop (sub:=laws_eqPush) (S:=laws_eqPushS_S1 a a) (fun _=>rfl) rfl h.1 (fun x hx=>laws_eqPush_eq (h.2 x hx))
theorem laws_eqPushSS_eq {a:List (List Push)} (h:(smL (smL smT)) a):laws_eqPushSS a a=some true :=
 eq_loop (sub:=laws_eqPushS) (S:=laws_eqPushSS_S1 a a) (fun _=>rfl) rfl h.1 (fun x hx=>laws_eqPushS_eq (h.2 x hx))
theorem laws_eqInt64S_eq {a:List Int} (h:(smL smT) a):laws_eqInt64S a a=some true :=
 eq_loop (sub:=(fun x y=>some (x == y))) (S:=laws_eqInt64S_S1 a a) (fun _=>rfl) rfl h.1 (fun _ _=>by simp)
theorem laws_eqInt64SS_eq {a:List (List Int)} (h:(smL (smL smT)) a):laws_eqInt64SS a a=some true :=
 eq_loop (sub:=laws_eqInt64S) (S:=laws_eqInt64SS_S1 a a) (fun _=>rfl) rfl h.1 (fun x hx=>laws_eqInt64S_eq (h.2 x hx))
theorem laws_eqInt64SSS_eq {a:List (List (List Int))} (h:(smL (smL (smL smT))) a):laws_eqInt64SSS a a=some true :=
 eq_loop (sub:=laws_eqInt64SS) (S:=laws_eqInt64SSS_S1 a a) (fun _=>rfl) rfl h.1 (fun x hx=>laws_eqInt64SS_eq (h.2 x hx))
theorem laws_eqChecker_eq {a:Checker} (h:smChecker a):laws_eqChecker a a=some true:=by
 unfold laws_eqChecker
 simp[laws_eqBoolS_eq h.2.2.1,laws_eqPushSS_eq h.2.2.2.1,laws_eqInt64SSS_eq h.2.2.2.2.1,laws_eqInt64SS_eq h.2.2.2.2.2]
theorem laws_eqStringS_eq {a:List (List UInt8)} (h:(smL smS) a):laws_eqStringS a a=some true :=
 eq_loop (sub:=(fun x y=>some (x == y))) (S:=laws_eqStringS_S1 a a) (fun _=>rfl) rfl h.1 (fun _ _=>by simp)
theorem laws_eqStream_eq {a:Stream} (h:smStream a):laws_eqStream a a=some true:=by
 unfold laws_eqStream
 simp[laws_eqChecker_eq h.1,laws_eqStringS_eq h.2]
theorem laws_toBoolS_K0_to {a:List Bool} (h:(smL smT) a):laws_toBoolS_K0 a=some a :=
 to_loop (sub:=some) (S:=laws_toBoolS_K0_S1 a) (fun _ _=>rfl) rfl h.1 (fun _ _=>rfl)
theorem laws_toPushS_K0_to {a:List Push} (h:(smL smT) a):laws_toPushS_K0 a=some a :=
 to_loop (sub:=laws_toPush) (S:=laws_toPushS_K0_S1 a) (fun _ _=>rfl) rfl h.1 (fun x hx=>laws_toPush_to (h.2 x hx))
theorem laws_toPushSS_K0_to {a:List (List Push)} (h:(smL (smL smT)) a):laws_toPushSS_K0 a=some a :=
 to_loop (sub:=laws_toPushS_K0) (S:=laws_toPushSS_K0_S1 a) (fun _ _=>rfl) rfl h.1 (fun x hx=>laws_toPushS_K0_to (h.2 x hx))
theorem laws_toInt64S_K0_to {a:List Int} (h:(smL smT) a):laws_toInt64S_K0 a=some a :=
 to_loop (sub:=some) (S:=laws_toInt64S_K0_S1 a) (fun _ _=>rfl) rfl h.1 (fun _ _=>rfl)
theorem laws_toInt64SS_K0_to {a:List (List Int)} (h:(smL (smL smT)) a):laws_toInt64SS_K0 a=some a :=
 to_loop (sub:=laws_toInt64S_K0) (S:=laws_toInt64SS_K0_S1 a) (fun _ _=>rfl) rfl h.1 (fun x hx=>laws_toInt64S_K0_to (h.2 x hx))
theorem laws_toInt64SSS_K0_to {a:List (List (List Int))} (h:(smL (smL (smL smT))) a):laws_toInt64SSS_K0 a=some a :=
 to_loop (sub:=laws_toInt64SS_K0) (S:=laws_toInt64SSS_K0_S1 a) (fun _ _=>rfl) rfl h.1 (fun x hx=>laws_toInt64SS_K0_to (h.2 x hx))
theorem laws_toChecker_K0_to {a:Checker} (h:smChecker a):laws_toChecker_K0 a=some a:=by
 unfold laws_toChecker_K0
 rw[laws_toBoolS_K0_to h.2.2.1,Option.bind_some]
 rw[laws_toPushSS_K0_to h.2.2.2.1,Option.bind_some]
 rw[laws_toInt64SSS_K0_to h.2.2.2.2.1,Option.bind_some]
 rw[laws_toInt64SS_K0_to h.2.2.2.2.2,Option.bind_some]
theorem laws_toStringS_K0_to {a:List (List UInt8)} (h:(smL smS) a):laws_toStringS_K0 a=some a :=
 to_loop (sub:=some) (S:=laws_toStringS_K0_S1 a) (fun _ _=>rfl) rfl h.1 (fun _ _=>rfl)
theorem laws_toStream_K0_to {a:Stream} (h:smStream a):laws_toStream_K0 a=some a:=by
 unfold laws_toStream_K0
 rw[laws_toChecker_K0_to h.1,Option.bind_some]
 rw[laws_toStringS_K0_to h.2,Option.bind_some]
theorem laws_toDeedS_K0_to {a:List Deed} (h:(smL smT) a):laws_toDeedS_K0 a=some a :=
 to_loop (sub:=laws_toDeed) (S:=laws_toDeedS_K0_S1 a) (fun _ _=>rfl) rfl h.1 (fun x hx=>laws_toDeed_to (h.2 x hx))
theorem laws_markBoolS_K10_mk {a:List Bool} (h:(smL smT) a):MkOk 1048576 laws_markBoolS_K10 a :=
 mk_one (g:=fun k=>(remI .i64 k 3).map (· == 0)) (S:=laws_markBoolS_K10_S1) (fun m k i=>by
  show (if decide (i<(m.length:Int))=true then (remI .i64 k 3).bind fun q=>(ix m i).bind fun _=>(some (Sum.inl (m.set (Int.toNat i) (q == 0),IntKind.wrap .i64 (k+1),IntKind.wrap .i64 (i+1))):Option ((List Bool × Int × Int) ⊕ (Int × List Bool))) else some (Sum.inr (k,m)))=_
  rw[remI3]
  cases ix m i<;>rfl) (fun k=>⟨_,rfl⟩) (fun _=>rfl) h.1
theorem laws_markPushS_K10_mk {a:List Push} (h:(smL smT) a):MkOk 2097152 laws_markPushS_K10 a:=by
 refine mk_gen (B:=2) (S:=laws_markPushS_K10_S1) (fun _=>rfl) (fun m k hm=>by unfold laws_markPushS_K10_S1; simp only; rw[hm,ltF]; rfl) (fun i m k x hm hx hxa hlt hk hb=>?_) h.1
 unfold laws_markPushS_K10_S1
 simp only[hm,ltT hlt,if_true,ix_lit hx,Option.bind_some,w1 hlt (show a.length≤9223372036854775807 by have:=h.1; omega),Int.toNat_natCast,List.set_set]
 refine ⟨_,_,rfl,?_,?_⟩
 all_goals (try rw[w64 (n:=k+1) (by omega) (by omega)])
 all_goals (try rw[w64 (n:=k+1+1) (by omega) (by omega)])
 all_goals (try rw[w64 (n:=k+1+1+1) (by omega) (by omega)])
 all_goals omega
theorem laws_markPushSS_K10_mk {a:List (List Push)} (h:(smL (smL smT)) a):MkOk 2199023255552 laws_markPushSS_K10 a :=
 mk_loop (B:=2097152) (sub:=laws_markPushS_K10) (S:=laws_markPushSS_K10_S1) (fun _ _ _=>rfl) (fun _=>rfl) h.1 fun x hx=>laws_markPushS_K10_mk (h.2 x hx)
theorem laws_markInt64S_K10_mk {a:List Int} (h:(smL smT) a):MkOk 1048576 laws_markInt64S_K10 a :=
 mk_one (g:=some) (S:=laws_markInt64S_K10_S1) (fun m k i=>rfl) (fun k=>⟨_,rfl⟩) (fun _=>rfl) h.1
theorem laws_markInt64SS_K10_mk {a:List (List Int)} (h:(smL (smL smT)) a):MkOk 1099511627776 laws_markInt64SS_K10 a :=
 mk_loop (B:=1048576) (sub:=laws_markInt64S_K10) (S:=laws_markInt64SS_K10_S1) (fun _ _ _=>rfl) (fun _=>rfl) h.1 fun x hx=>laws_markInt64S_K10_mk (h.2 x hx)
theorem laws_markInt64SSS_K10_mk {a:List (List (List Int))} (h:(smL (smL (smL smT))) a):MkOk 1152921504606846976 laws_markInt64SSS_K10 a :=
 mk_loop (B:=1099511627776) (sub:=laws_markInt64SS_K10) (S:=laws_markInt64SSS_K10_S1) (fun _ _ _=>rfl) (fun _=>rfl) h.1 fun x hx=>laws_markInt64SS_K10_mk (h.2 x hx)
theorem laws_markChecker_K10_mk {a:Checker} (h:smChecker a) {k:Int} (h0:0≤k) (h1:k+1152924803142778882≤4611686018427387904):∃ r,laws_markChecker_K10 a k=some r∧k≤r.1∧r.1≤k+1152924803142778882:=by
 unfold laws_markChecker_K10
 obtain ⟨r1,e1,l1,u1⟩:=laws_markBoolS_K10_mk h.2.2.1 k (by omega) (by omega)
 rw[e1,Option.bind_some]
 obtain ⟨r2,e2,l2,u2⟩:=laws_markPushSS_K10_mk h.2.2.2.1 r1.1 (by omega) (by omega)
 rw[e2,Option.bind_some]
 obtain ⟨r3,e3,l3,u3⟩:=laws_markInt64SSS_K10_mk h.2.2.2.2.1 r2.1 (by omega) (by omega)
 rw[e3,Option.bind_some]
 obtain ⟨r4,e4,l4,u4⟩:=laws_markInt64SS_K10_mk h.2.2.2.2.2 r3.1 (by omega) (by omega)
 rw[e4,Option.bind_some]
 exact ⟨_,rfl,by show k≤r4.1; omega,by show r4.1≤k+1152924803142778882; omega⟩
theorem laws_markDeedS_K10_mk {a:List Deed} (h:(smL smT) a):MkOk 3145728 laws_markDeedS_K10 a:=by
 refine mk_gen (B:=3) (S:=laws_markDeedS_K10_S1) (fun _=>rfl) (fun m k hm=>by unfold laws_markDeedS_K10_S1; simp only; rw[hm,ltF]; rfl) (fun i m k x hm hx hxa hlt hk hb=>?_) h.1
 unfold laws_markDeedS_K10_S1
 simp only[hm,ltT hlt,if_true,ix_lit hx,Option.bind_some,w1 hlt (show a.length≤9223372036854775807 by have:=h.1; omega),Int.toNat_natCast,List.set_set]
 refine ⟨_,_,rfl,?_,?_⟩
 all_goals (try rw[w64 (n:=k+1) (by omega) (by omega)])
 all_goals (try rw[w64 (n:=k+1+1) (by omega) (by omega)])
 all_goals (try rw[w64 (n:=k+1+1+1) (by omega) (by omega)])
 all_goals omega
end Go.Proofs.YtbmjcddendnniaaGreat.law
namespace Go.Proofs.YtbmjcddendnniaaGreat.law
open Go Go.Proofs Ae
set_option maxRecDepth 100000

theorem app_ok {α:Type} {x y:List α} (h:x.length+y.length≤100000000):app x y=some (x++y):=by
 unfold app; rw[if_pos (by simp[LIM]; omega)]

/-- Texts of numbers. -/
theorem text_loop:∀ (d k:Nat) (out:List UInt8),k<10 ^ d→k≤9223372036854775807→out.length+d≤1000→∃ r,loop laws_markText_S1 ((k:Int),out)=some r
 | d,0,out,_,_,hl=>by
  refine ⟨[109]++out,loop_R ?_⟩
  unfold laws_markText_S1 laws_markText_J1
  simp only
  rw[if_neg (by simp),app_ok (by simp; try omega)]
  rfl
 | 0,k+1,out,hk,_,_=>by simp at hk
 | d+1,k+1,out,hk,hb,hl=>by
  obtain ⟨r,hr⟩:=text_loop d ((k+1) / 10) (bytesOf [IntKind.wrap .u8 (IntKind.wrap .i64 (48+((k+1:Nat):Int).tmod 10))]++out) (by rw[Nat.pow_succ] at hk; omega) (by omega) (by simp[bytesOf]; omega)
  refine ⟨r,(loop_L ?_).trans hr⟩
  unfold laws_markText_S1
  simp only
  have h1:decide (((k+1:Nat):Int)>0)=true:=by simp
  have q:quoI .i64 ((k+1:Nat):Int) 10=some (((k+1) / 10:Nat):Int):=by
   unfold quoI
   rw[if_neg (by decide),Int.tdiv_eq_ediv_of_nonneg (by omega),w64 (by omega) (by omega)]
   rfl
  rw[if_pos h1]
  unfold remI
  rw[if_neg (by decide),Option.bind_some,app_ok (by simp[bytesOf]; omega),Option.bind_some,q,Option.bind_some]

theorem text_tot {k:Int} (h:k≤9223372036854775807):∃ r,laws_markText k=some r:=by
 unfold laws_markText
 split
 ·exact ⟨_,rfl⟩
 ·rename_i hn
  have hn':0<k:=by simpa using hn
  obtain ⟨u,rfl⟩:=Int.eq_ofNat_of_zero_le (Int.le_of_lt hn')
  exact text_loop 19 u [] (by omega) (by omega) (by simp)

theorem markStringS_mk {a:List (List UInt8)} (h:(smL smS) a):MkOk 1048576 laws_markStringS_K10 a:=by
 refine mk_gen (B:=1) (S:=laws_markStringS_K10_S1) (fun _=>rfl) (fun m k hm=>by unfold laws_markStringS_K10_S1; simp only; rw[hm,ltF]; rfl) (fun i m k x hm hx hxa hlt hk hb=>?_) h.1
 unfold laws_markStringS_K10_S1
 have w0:IntKind.wrap .i64 (k+1)=k+1:=w64 (by omega) (by omega)
 obtain ⟨y1,e1⟩:=text_tot (k:=k) (by omega)
 simp only[hm,ltT hlt,if_true,ix_lit hx,Option.bind_some,w0,e1,w1 hlt (show a.length≤9223372036854775807 by have:=h.1; omega),Int.toNat_natCast]
 exact ⟨_,_,rfl,by omega,by omega⟩

theorem markStream_mk {a:Stream} (h:smStream a) {k:Int} (h0:0≤k) (h1:k+1152924803143827458≤4611686018427387904):∃ r,laws_markStream_K10 a k=some r∧k≤r.1∧r.1≤k+1152924803143827458:=by
 unfold laws_markStream_K10
 obtain ⟨r1,e1,l1,u1⟩:=laws_markChecker_K10_mk h.1 (k:=k) h0 (by omega)
 rw[e1,Option.bind_some]
 obtain ⟨r2,e2,l2,u2⟩:=markStringS_mk h.2 r1.1 (by omega) (by omega)
 rw[e2,Option.bind_some]
 exact ⟨_,rfl,by show k≤r2.1; omega,by show r2.1≤_; omega⟩
end Go.Proofs.YtbmjcddendnniaaGreat.law
namespace Go.Proofs.YtbmjcddendnniaaGreat.law
open Go Go.Proofs Ae
set_option maxRecDepth 100000

theorem sym_ix (x:UInt8):spec_l01Symbol (x.toNat:Int)=some (fst? (· == x) [40,91,41,93,97,98]):=by
 unfold spec_l01Symbol
 refine loop_find (l:=([40,91,41,93,97,98]:List UInt8)) (· == x) (loop_R (by rfl)) fun i y hi=>?_
 have hlt:i<6:=(List.getElem?_eq_some_iff.1 hi).1
 unfold spec_l01Symbol_S1
 rw[if_pos (decide_eq_true (by omega)),chr_nat hi,Option.bind_some,w1 hlt (by decide),u8_eq]
theorem ix_ix (x:UInt8):strings_IndexByte [40,91,41,93,97,98] (x.toNat:Int)=some (fst? (· == x) [40,91,41,93,97,98]):=by
 unfold strings_IndexByte internal_stringslite_IndexByte ixByteM ixByte
 rw[indexByte_fst]
 simp
theorem word_S (w:List UInt8):impl_ValidWord_S1 w=spec_l01Ok_S1 w:=by
 funext i
 unfold impl_ValidWord_S1 spec_l01Ok_S1
 split
 ·refine bindC fun c hc=>?_
  obtain ⟨x,rfl⟩:=chr_some hc
  rw[ix_ix,sym_ix]
 ·rfl
theorem word_eq (w:List UInt8):impl_ValidWord w=spec_l01Ok w:=by
 unfold impl_ValidWord spec_l01Ok; rw[word_S]
theorem word_tot {w:List UInt8} (h:w.length≤9223372036854775807):∃ b,spec_l01Ok w=some b:=by
 unfold spec_l01Ok
 obtain ⟨r,h,_⟩:=loop_tot (step:=spec_l01Ok_S1 w) (n:=w.length) (fun _=>True) ⟨_,loop_R (by unfold spec_l01Ok_S1; rw[if_neg (by simp)]; rfl),trivial⟩ fun i hi=>by
  unfold spec_l01Ok_S1
  rw[if_pos (ltT hi),chr_nat' hi,Option.bind_some,sym_ix,Option.bind_some,w1 hi h]
  split
  ·exact .inr ⟨_,rfl,trivial⟩
  ·exact .inl rfl
 exact ⟨r,h⟩

def okL (l:List Int) (k n:Int):Bool:=((l.length:Int) == k)&&l.all fun x=>decide (x≥0)&&decide (x≤IntKind.wrap .i64 (n - 1))
theorem specL {l:List Int} (h:l.length≤1048576) (k n:Int):spec_l02List l k n=some (okL l k n):=by
 unfold spec_l02List okL
 by_cases hk:(l.length:Int)=k
 ·rw[if_neg (by simpa using hk),show ((l.length:Int) == k)=true by simpa using hk,Bool.true_and]
  rw[loop_allL (l:=l) (p:=fun x=>decide (x≥0)&&decide (x≤IntKind.wrap .i64 (n - 1))) (rt:=some true) (rf:=false) (loop_R (by unfold spec_l02List_S1; rw[if_neg (by simp)]; rfl)) fun i x hx=>by
   have hlt:=(List.getElem?_eq_some_iff.1 hx).1
   unfold spec_l02List_S1
   rw[if_pos (ltT hlt),ix_lit hx,Option.bind_some,w1 hlt (by omega)]
   unfold spec_l00In
   rw[Option.bind_some]
   cases (decide (x≥0)&&decide (x≤IntKind.i64.wrap (n - 1)))<;>rfl]
  split<;>simp_all
 ·rw[if_pos (by simpa using hk),show ((l.length:Int) == k)=false by simpa using hk,Bool.false_and]
theorem containsI {l:List Int} (h:l.length≤1048576) (f:Int→Option Bool) (p:Int→Bool) (hf:∀ x∈l,f x=some (p x)):slices_ContainsFunc_sint64_int64 l f=some (l.any p):=by
 unfold slices_ContainsFunc_sint64_int64 slices_IndexFunc_sint64_int64
 rw[loop_find (l:=l) p (loop_R (by unfold slices_IndexFunc_sint64_int64_S1; rw[if_neg (by simp)]; rfl)) fun i x hx=>by
  have hlt:=(List.getElem?_eq_some_iff.1 hx).1
  unfold slices_IndexFunc_sint64_int64_S1
  rw[if_pos (ltT hlt),ix_lit hx,Option.bind_some,hf x (List.mem_of_getElem? hx),Option.bind_some,w1 hlt (by omega)]]
 rw[Option.bind_some,fst?_any]
theorem containsS {l:List (List UInt8)} (h:l.length≤1048576) (f:List UInt8→Option Bool) (p:List UInt8→Bool) (hf:∀ x∈l,f x=some (p x)):slices_ContainsFunc_sstring_string l f=some (l.any p):=by
 unfold slices_ContainsFunc_sstring_string slices_IndexFunc_sstring_string
 rw[loop_find (l:=l) p (loop_R (by unfold slices_IndexFunc_sstring_string_S1; rw[if_neg (by simp)]; rfl)) fun i x hx=>by
  have hlt:=(List.getElem?_eq_some_iff.1 hx).1
  unfold slices_IndexFunc_sstring_string_S1
  rw[if_pos (ltT hlt),ix_lit hx,Option.bind_some,hf x (List.mem_of_getElem? hx),Option.bind_some,w1 hlt (by omega)]]
 rw[Option.bind_some,fst?_any]
theorem implL {l:List Int} (h:l.length≤1048576) (k:Int) (c:Checker):impl_ValidChecker_1 l k c=some (okL l k c.Accept.length):=by
 unfold impl_ValidChecker_1
 rw[containsI h (fun x=>impl_ValidChecker_1_1 x c) (fun x=>!(decide (x≥0)&&decide (x≤IntKind.wrap .i64 ((c.Accept.length:Int) - 1)))) fun x _=>rfl]
 unfold okL impl_size_int64
 rw[Option.bind_some,Option.bind_some,ite_some,Option.bind_some,ite_and]
 congr 2
 induction l with
 | nil=>rfl
 | cons a l ih =>
  rw[List.any_cons,List.all_cons,Bool.not_or,Bool.not_not,ih (by simp at h; omega)]

theorem chk_S2 {c:Checker} (h:smChecker c) (t:Int):impl_ValidChecker_S2 c t=spec_l02Ok_w0_7_S2 c t:=by
 funext k
 unfold impl_ValidChecker_S2 spec_l02Ok_w0_7_S2
 split
 ·refine bindC fun x hx=>bindC fun p hp=>?_
  unfold impl_Checker_isState impl_Checker_isMark impl_size_bool impl_within spec_l00In
  simp only[Option.bind_some,ite_some,ite_or,hx,hp]
  split
  ·rfl
  ·congr 1
   refine bindC fun r hr=>bindC fun l hl=>?_
   have hm:=((h.2.2.2.2.1).2 r (ix_mem hr)).2 l (ix_mem hl)
   rw[implL hm.1,specL hm.1]
 ·rfl
theorem chk_S1 {c:Checker} (h:smChecker c):impl_ValidChecker_S1 c (c.Accept.length:Int)=spec_l02Ok_w0_7_S1 c:=by
 funext k
 unfold impl_ValidChecker_S1 spec_l02Ok_w0_7_S1
 simp only[chk_S2 h]
 split
 ·refine bindC fun x hx=>?_
  congr 1
  funext b
  congr 1
  split
  ·rfl
  ·refine bindC fun l hl=>?_
   have hm:=(h.2.2.2.2.2).2 l (ix_mem hl)
   rw[implL hm.1,specL hm.1]
 ·rfl
theorem chk_eq {c:Checker} (h:smChecker c):impl_ValidChecker c=spec_l02Ok_w0_7 c:=by
 unfold impl_ValidChecker spec_l02Ok_w0_7
 unfold impl_Checker_isState impl_size_bool impl_within spec_l00In impl_size_simpl_Push impl_size_s_int64 impl_size_sint64
 simp only[Option.bind_some,ite_some,ite_or,chk_S1 h]
theorem chk_tot {c:Checker} (h:smChecker c):∃ b,spec_l02Ok_w0_7 c=some b:=by
 unfold spec_l02Ok_w0_7 spec_l00In
 simp only[Option.bind_some,ite_some,ite_or]
 split
 ·exact ⟨_,rfl⟩
 ·rename_i hg
  simp only[Bool.or_eq_true,not_or,bne_iff_ne,ne_eq,Decidable.not_not,Bool.not_eq_true] at hg
  obtain ⟨⟨⟨_,hC⟩,hR⟩,hI⟩:=hg
  have hA:=h.2.2.1.1
  obtain ⟨r,h1,_⟩:=loop_tot (step:=spec_l02Ok_w0_7_S1 c) (n:=c.Accept.length) (fun _=>True) ⟨_,loop_R (by unfold spec_l02Ok_w0_7_S1; rw[if_neg (by simp)]; rfl),trivial⟩ fun i hi=>by
   unfold spec_l02Ok_w0_7_S1
   have hc:i<c.Call.length:=by omega
   have hr:i<c.Return.length:=by omega
   have hn:i<c.Inner.length:=by omega
   have hm:=h.2.2.2.2.2.2 _ (List.getElem_mem hn)
   rw[if_pos (ltT hi),ix_some hc,Option.bind_some,ix_some hr,Option.bind_some,ite_some,Option.bind_some,ite_or,ix_some hn,Option.bind_some,specL hm.1,Option.bind_some,ite_some,Option.bind_some,ite_or]
   split
   ·exact .inr ⟨_,rfl,trivial⟩
   ·rename_i hg
    simp only[Bool.or_eq_true,not_or,bne_iff_ne,ne_eq,Decidable.not_not,Bool.not_eq_true] at hg
    obtain ⟨⟨h2,h3⟩,_⟩:=hg
    obtain ⟨r,h4,h5⟩:=loop_tot (step:=spec_l02Ok_w0_7_S2 c i) (n:=2) (fun r=>r=.inl ((i+1:Nat):Int)∨r=.inr false) ⟨_,loop_R (by unfold spec_l02Ok_w0_7_S2; rw[if_neg (by simp)]; rfl),.inl (by rw[w1 hi (by omega)])⟩ fun k hk=>by
     unfold spec_l02Ok_w0_7_S2
     have hmr:=(h.2.2.2.2.1.2 _ (List.getElem_mem hr)).2 (c.Return[i][k]'(by omega)) (List.getElem_mem _)
     have e1:ix c.Call (i:Int)=some c.Call[i]:=ix_some hc
     have e2:ix c.Call[i] (k:Int)=some (c.Call[i][k]'(by omega)):=ix_some _
     have e3:ix c.Return (i:Int)=some c.Return[i]:=ix_some hr
     have e4:ix c.Return[i] (k:Int)=some (c.Return[i][k]'(by omega)):=ix_some _
     unfold spec_l00In
     simp only[if_pos (decide_eq_true (show (k:Int)<2 by omega)),e1,e2,e3,e4,Option.bind_some,specL hmr.1,w1 hk (by decide),ite_some,ite_or]
     split
     ·exact .inr ⟨_,rfl,.inr rfl⟩
     ·exact .inl rfl
    rw[h4]
    rcases h5 with rfl | rfl
    ·exact .inl rfl
    ·exact .inr ⟨_,rfl,trivial⟩
  exact ⟨r,h1⟩
end Go.Proofs.YtbmjcddendnniaaGreat.law
namespace Go.Proofs.YtbmjcddendnniaaGreat.law
open Go Go.Proofs Ae
set_option maxRecDepth 100000

theorem loop_true {ρ:Type} {step:Int→Option (Int ⊕ ρ)} {n:Nat} {rt:ρ} (hst:∀ (i:Nat) y,i<n→step (i:Int)=some y→y=.inl ((i+1:Nat):Int)∨∃ r,y=.inr r∧r≠rt) :
  ∀ (k i:Nat),i+k=n→loop step (i:Int)=some rt→∀ j,i≤j→j<n→step (j:Int)=some (.inl ((j+1:Nat):Int)):=by
 intro k
 induction k with
 | zero=>intro i hi _ j h1 h2; omega
 | succ k ih =>
  intro i hi h j h1 h2
  have h0:step (i:Int)=some (.inl ((i+1:Nat):Int)):=by
   cases hs:step (i:Int) with
   | none=>rw[loop_eq,hs] at h; cases h
   | some y =>
    rcases hst i y (by omega) hs with rfl | ⟨r,rfl,hr⟩
    ·rfl
    ·rw[loop_R hs] at h; cases h; exact absurd rfl hr
  by_cases e:i=j
  ·subst e; exact h0
  ·rw[loop_L h0] at h
   exact ih (i+1) (by omega) h j (by omega) h2

theorem okL_iff {l:List Int} {k n:Int} (h0:0≤n) (h1:n≤1048576) (h:okL l k n=true):(l.length:Int)=k∧∀ x∈l,0≤x∧x<n:=by
 unfold okL at h
 rw[w64 (by omega) (by omega)] at h
 simp only[Bool.and_eq_true,beq_iff_eq,List.all_eq_true,decide_eq_true_eq] at h
 exact ⟨h.1,fun x hx=>by have:=h.2 x hx; omega⟩

/-- A right checker. -/
structure ChkV (c:Checker):Prop where
 n1:1≤c.Accept.length
 n2:c.Accept.length≤40
 k1:1≤c.Stack
 k2:c.Stack≤80
 s1:0≤c.Start
 s2:c.Start<c.Accept.length
 lc:c.Call.length=c.Accept.length
 lr:c.Return.length=c.Accept.length
 li:c.Inner.length=c.Accept.length
 call:∀ l∈c.Call,l.length=2∧∀ p∈l,0≤p.To∧p.To<c.Accept.length∧0≤p.Put∧p.Put<c.Stack
 ret:∀ l∈c.Return,l.length=2∧∀ r∈l,(r.length:Int)=c.Stack+1∧∀ x∈r,0≤x∧x<c.Accept.length
 inn:∀ l∈c.Inner,l.length=2∧∀ x∈l,0≤x∧x<c.Accept.length

theorem chk_V {c:Checker} (h:smChecker c) (hk:spec_l02Ok_w0_7 c=some true):ChkV c:=by
 unfold spec_l02Ok_w0_7 spec_l00In at hk
 simp only[Option.bind_some,ite_some,ite_or] at hk
 split at hk
 ·cases hk
 rename_i hg
 simp only[Bool.or_eq_true,not_or,bne_iff_ne,ne_eq,Decidable.not_not,Bool.not_eq_true,Bool.not_eq_false',Bool.and_eq_true,decide_eq_true_eq] at hg
 obtain ⟨⟨⟨⟨⟨hA,hK⟩,hS⟩,hC⟩,hR⟩,hI⟩:=hg
 rw[w64 (by omega) (by omega)] at hS
 have hA2:c.Accept.length≤40:=by omega
 have step:=loop_true (step:=spec_l02Ok_w0_7_S1 c) (n:=c.Accept.length) (rt:=true) (fun i y hi hy=>by
  unfold spec_l02Ok_w0_7_S1 at hy
  rw[if_pos (ltT hi)] at hy
  simp only[Option.bind_eq_some_iff] at hy
  obtain ⟨_,_,b1,_,b2,_,hy⟩:=hy
  split at hy
  ·cases hy; exact .inr ⟨false,rfl,by simp⟩
  ·-- the loop over both kinds
   have key:∀ (k:Nat) (j:Nat),j+k=2→loop (spec_l02Ok_w0_7_S2 c i) (j:Int)=some y→y=.inl ((i+1:Nat):Int)∨∃ r,y=.inr r∧r≠true:=by
    intro k
    induction k with
    | zero =>
     intro j hj hl
     obtain rfl:j=2:=by omega
     rw[loop_R (r:=.inl ((i+1:Nat):Int)) (by unfold spec_l02Ok_w0_7_S2 spec_l02Ok_w0_7_J2; rw[if_neg (by simp),w1 hi (by omega)]; rfl)] at hl
     cases hl; exact .inl rfl
    | succ k ih =>
     intro j hj hl
     cases hs:spec_l02Ok_w0_7_S2 c i j with
     | none=>rw[loop_eq,hs] at hl; cases hl
     | some z =>
      have hs':=hs
      unfold spec_l02Ok_w0_7_S2 at hs
      rw[if_pos (by simp; omega)] at hs
      simp only[Option.bind_eq_some_iff] at hs
      obtain ⟨_,_,_,_,_,_,_,_,_,_,hs⟩:=hs
      split at hs
      ·cases hs
       rw[loop_R hs'] at hl
       cases hl; exact .inr ⟨false,rfl,by simp⟩
      ·cases hs
       rw[loop_L hs',w1 (show j<2 by omega) (by decide)] at hl
       exact ih (j+1) (by omega) hl
   exact key 2 0 rfl hy) c.Accept.length 0 (by omega) hk
 have row:∀ i,i<c.Accept.length→(∃ l,c.Call[i]?=some l∧l.length=2∧∀ p∈l,0≤p.To∧p.To<c.Accept.length∧0≤p.Put∧p.Put<c.Stack) ∧
   (∃ l,c.Return[i]?=some l∧l.length=2∧∀ r∈l,(r.length:Int)=c.Stack+1∧∀ x∈r,0≤x∧x<c.Accept.length)∧(∃ l,c.Inner[i]?=some l∧l.length=2∧∀ x∈l,0≤x∧x<c.Accept.length):=by
  intro i hi
  have hst:=step i (by omega) hi
  unfold spec_l02Ok_w0_7_S1 at hst
  have hc:i<c.Call.length:=by omega
  have hr:i<c.Return.length:=by omega
  have hn:i<c.Inner.length:=by omega
  have hm:=h.2.2.2.2.2.2 _ (List.getElem_mem hn)
  rw[if_pos (ltT hi),ix_some hc,Option.bind_some,ix_some hr,Option.bind_some,ite_some,Option.bind_some,ite_or,ix_some hn,Option.bind_some,specL hm.1,Option.bind_some,ite_some,Option.bind_some,ite_or] at hst
  split at hst
  ·cases hst
  rename_i hg
  simp only[Bool.or_eq_true,not_or,bne_iff_ne,ne_eq,Decidable.not_not,Bool.not_eq_true,Bool.not_eq_false'] at hg
  obtain ⟨⟨h2,h3⟩,h4⟩:=hg
  have hO:=okL_iff (by omega) (by omega) h4
  have h2':c.Call[i].length=2:=by omega
  have h3':c.Return[i].length=2:=by omega
  have step2:=loop_true (step:=spec_l02Ok_w0_7_S2 c i) (n:=2) (rt:=.inl ((i+1:Nat):Int)) (fun k y hk2 hy=>by
   unfold spec_l02Ok_w0_7_S2 at hy
   rw[if_pos (by simp; omega)] at hy
   simp only[Option.bind_eq_some_iff] at hy
   obtain ⟨_,_,_,_,_,_,_,_,_,_,hy⟩:=hy
   split at hy
   ·cases hy; exact .inr ⟨_,rfl,by simp⟩
   ·cases hy; rw[w1 hk2 (by decide)]; exact .inl rfl) 2 0 rfl hst
  have cell:∀ k (hk2:k<2),(0≤(c.Call[i][k]'(by omega)).To∧(c.Call[i][k]'(by omega)).To<(c.Accept.length:Int)∧0≤(c.Call[i][k]'(by omega)).Put∧(c.Call[i][k]'(by omega)).Put<c.Stack) ∧
    (((c.Return[i][k]'(by omega)).length:Int)=c.Stack+1∧∀ x∈(c.Return[i][k]'(by omega)),0≤x∧x<c.Accept.length):=by
   intro k hk2
   have hs:=step2 k (by omega) hk2
   unfold spec_l02Ok_w0_7_S2 at hs
   have hmr:=(h.2.2.2.2.1.2 _ (List.getElem_mem hr)).2 (c.Return[i][k]'(by omega)) (List.getElem_mem _)
   have e1:ix c.Call (i:Int)=some c.Call[i]:=ix_some hc
   have e2:ix c.Call[i] (k:Int)=some (c.Call[i][k]'(by omega)):=ix_some _
   have e3:ix c.Return (i:Int)=some c.Return[i]:=ix_some hr
   have e4:ix c.Return[i] (k:Int)=some (c.Return[i][k]'(by omega)):=ix_some _
   unfold spec_l00In at hs
   simp only[if_pos (decide_eq_true (show (k:Int)<2 by omega)),e1,e2,e3,e4,Option.bind_some,specL hmr.1,w1 hk2 (by decide),ite_some,ite_or] at hs
   rw[w64 (n:=(c.Accept.length:Int) - 1) (by omega) (by omega),w64 (n:=c.Stack - 1) (by omega) (by omega),w64 (n:=c.Stack+1) (by omega) (by omega)] at hs
   split at hs
   ·cases hs
   rename_i hg
   simp only[Bool.or_eq_true,not_or,Bool.not_eq_true,Bool.not_eq_false',Bool.and_eq_true,decide_eq_true_eq] at hg
   obtain ⟨⟨g1,g2⟩,g3⟩:=hg
   exact ⟨⟨g1.1,by omega,g2.1,by omega⟩,okL_iff (by omega) (by omega) g3⟩
  have two:∀ {α:Type} (l:List α) (x:α),l.length=2→x∈l→∃ k,∃ (hk:k<l.length),k<2∧l[k]=x:=by
   intro α l x hl hx
   obtain ⟨k,hk,e⟩:=List.getElem_of_mem hx
   exact ⟨k,hk,by omega,e⟩
  refine ⟨⟨_,List.getElem?_eq_getElem hc,h2',fun p hp=>?_⟩,⟨_,List.getElem?_eq_getElem hr,h3',fun r hr'=>?_⟩,⟨_,List.getElem?_eq_getElem hn,by have:=hO.1; omega,hO.2⟩⟩
  ·obtain ⟨k,_,hk2,rfl⟩:=two _ p h2' hp
   exact (cell k hk2).1
  ·obtain ⟨k,_,hk2,rfl⟩:=two _ r h3' hr'
   exact (cell k hk2).2
 have mem:∀ {α:Type} (L:List α) (l:α),L.length=c.Accept.length→l∈L→∃ i,i<c.Accept.length∧L[i]?=some l:=by
  intro α L l hL hl
  obtain ⟨i,hi,e⟩:=List.getElem_of_mem hl
  exact ⟨i,by omega,by rw[List.getElem?_eq_getElem hi,e]⟩
 refine ⟨by omega,hA2,by omega,by omega,by omega,by omega,by omega,by omega,by omega,fun l hl=>?_,fun l hl=>?_,fun l hl=>?_⟩
 ·obtain ⟨i,hi,e⟩:=mem c.Call l (by omega) hl
  obtain ⟨l',e',h'⟩:=(row i hi).1
  rw[e] at e'; cases e'; exact h'
 ·obtain ⟨i,hi,e⟩:=mem c.Return l (by omega) hl
  obtain ⟨l',e',h'⟩:=(row i hi).2.1
  rw[e] at e'; cases e'; exact h'
 ·obtain ⟨i,hi,e⟩:=mem c.Inner l (by omega) hl
  obtain ⟨l',e',h'⟩:=(row i hi).2.2
  rw[e] at e'; cases e'; exact h'
end Go.Proofs.YtbmjcddendnniaaGreat.law
namespace Go.Proofs.YtbmjcddendnniaaGreat.law
open Go Go.Proofs Ae
set_option maxRecDepth 100000
theorem own_eq {l:List Int} (h:l.length≤2097152):spec_l00Own l=some l:=by
 unfold spec_l00Own app
 rw[if_pos (by unfold LIM; simp; omega)]
 rfl
theorem clone_eq {l:List Int} (h:l.length≤2097152):cloneI l=some l:=by
 unfold cloneI; rw[if_pos (by omega)]

theorem kind_eq (x:UInt8):impl_kindOf (x.toNat:Int)=remI .i64 (fst? (· == x) [40,91,41,93,97,98]) 2:=by
 unfold impl_kindOf
 rw[ix_ix,Option.bind_some]
 cases remI .i64 (fst? (· == x) [40,91,41,93,97,98]) 2<;>rfl

/-- A symbol moves a checker in the one sense as in the other. -/
theorem step_eq {c:Checker} {st:Int} {sk:List Int} (h:sk.length≤1048576) {x:UInt8} (hx:x=40∨x=91∨x=41∨x=93∨x=97∨x=98):spec_l02Step_w0_7ppp c st sk (x.toNat:Int)=impl_Checker_step c st sk (x.toNat:Int):=by
 have call:∀ (k:Int),spec_l01Symbol (x.toNat:Int)=some k→impl_kindOf (x.toNat:Int)=some k→impl_isCall (x.toNat:Int)=some true→k<2→spec_l02Step_w0_7ppp c st sk (x.toNat:Int)=impl_Checker_step c st sk (x.toNat:Int):=by
  intro k h1 h2 h3 h4
  unfold spec_l02Step_w0_7ppp impl_Checker_step
  rw[h1,h2,h3]
  simp only[Option.bind_some,decide_eq_true h4,if_true,own_eq (show sk.length≤2097152 by omega),clone_eq (show sk.length≤2097152 by omega)]
 have inner:∀ (k:Int),spec_l01Symbol (x.toNat:Int)=some (k+4)→impl_kindOf (x.toNat:Int)=some k→impl_isCall (x.toNat:Int)=some false→impl_isInner (x.toNat:Int)=some true→0≤k→k<2→spec_l02Step_w0_7ppp c st sk (x.toNat:Int)=impl_Checker_step c st sk (x.toNat:Int):=by
  intro k h1 h2 h3 h4 h5 h6
  unfold spec_l02Step_w0_7ppp impl_Checker_step
  rw[h1,h2,h3,h4]
  have e1:decide (k+4<2)=false:=decide_eq_false (by omega)
  have e2:decide (k+4<4)=false:=decide_eq_false (by omega)
  have e3:IntKind.wrap .i64 (k+4 - 4)=k:=by rw[w64 (by omega) (by omega)]; omega
  simp only[Option.bind_some,e1,e2,e3,Bool.false_and,Bool.false_eq_true,if_false,if_true]
 have ret:∀ (k:Int),spec_l01Symbol (x.toNat:Int)=some (k+2)→impl_kindOf (x.toNat:Int)=some k→impl_isCall (x.toNat:Int)=some false→impl_isInner (x.toNat:Int)=some false→0≤k→k<2→spec_l02Step_w0_7ppp c st sk (x.toNat:Int)=impl_Checker_step c st sk (x.toNat:Int):=by
  intro k h1 h2 h3 h4 h5 h6
  unfold spec_l02Step_w0_7ppp impl_Checker_step impl_Checker_step_J1
  rw[h1,h2,h3,h4]
  have e1:decide (k+2<2)=false:=decide_eq_false (by omega)
  have e2:decide (k+2<4)=true:=decide_eq_true (by omega)
  have e3:IntKind.wrap .i64 (k+2 - 2)=k:=by rw[w64 (by omega) (by omega)]; omega
  rcases List.eq_nil_or_concat sk with rfl | ⟨l,a,rfl⟩
  ·have e7:((([]:List Int).length:Int) == 0)=true:=rfl
   have e8:decide ((([]:List Int).length:Int)>0)=false:=rfl
   simp only[Option.bind_some,e1,e2,e3,e7,e8,Bool.and_self,Bool.false_eq_true,if_false,if_true]
  ·simp only[List.concat_eq_append] at h⊢
   have el:((l++[a]).length:Int) - 1=(l.length:Int):=by simp
   simp only[List.length_append,List.length_singleton] at h
   have e4:IntKind.wrap .i64 (((l++[a]).length:Int) - 1)=(l.length:Int):=by rw[el,w64 (by omega) (by omega)]
   have e5:ix (l++[a]) (l.length:Int)=some a:=ix_lit (by simp)
   have e6:cut (l++[a]) 0 (l.length:Int)=some l:=by
    unfold cut
    rw[if_pos ⟨by omega,by omega,by simp; omega⟩]
    simp
   have e7:(((l++[a]).length:Int) == 0)=false:=by simp; omega
   have e8:decide (((l++[a]).length:Int)>0)=true:=by simp
   simp only[Option.bind_some,e1,e2,e3,e4,e5,e6,e7,e8,own_eq (show l.length≤2097152 by omega),Bool.and_false,Bool.false_eq_true,if_false,if_true]
 rcases hx with rfl | rfl | rfl | rfl | rfl | rfl
 ·exact call 0 (by rw[sym_ix]; rfl) (by rw[kind_eq]; rfl) rfl (by omega)
 ·exact call 1 (by rw[sym_ix]; rfl) (by rw[kind_eq]; rfl) rfl (by omega)
 ·exact ret 0 (by rw[sym_ix]; rfl) (by rw[kind_eq]; rfl) rfl rfl (by omega) (by omega)
 ·exact ret 1 (by rw[sym_ix]; rfl) (by rw[kind_eq]; rfl) rfl rfl (by omega) (by omega)
 ·exact inner 0 (by rw[sym_ix]; rfl) (by rw[kind_eq]; rfl) rfl rfl (by omega) (by omega)
 ·exact inner 1 (by rw[sym_ix]; rfl) (by rw[kind_eq]; rfl) rfl rfl (by omega) (by omega)

theorem clone_some {l m:List Int} (h:cloneI l=some m):m=l:=by
 unfold cloneI at h
 split at h<;>cases h
 rfl
theorem step_len {c:Checker} {st:Int} {sk:List Int} {b:Int} {a:Int} {r:List Int} (h:impl_Checker_step c st sk b=some (a,r)):r.length≤sk.length+1:=by
 unfold impl_Checker_step impl_Checker_step_J1 at h
 simp only[Option.bind_eq_some_iff] at h
 obtain ⟨k,_,y,_,h⟩:=h
 split at h
 ·simp only[Option.bind_eq_some_iff] at h
  obtain ⟨_,_,_,_,l,hl,l2,hl2,h⟩:=h
  cases h
  obtain ⟨rfl,_⟩:=app_some hl2
  rw[clone_some hl]; simp
 ·simp only[Option.bind_eq_some_iff] at h
  obtain ⟨y2,_,h⟩:=h
  split at h
  ·simp only[Option.bind_eq_some_iff] at h
   obtain ⟨_,_,_,_,h⟩:=h
   cases h; omega
  ·split at h
   ·simp only[Option.bind_eq_some_iff] at h
    obtain ⟨_,_,l,hl,_,_,_,_,_,_,h⟩:=h
    cases h
    obtain ⟨h1,h2,h3,rfl⟩:=cut_some hl
    simp only[List.length_take,List.length_drop]
    omega
   ·simp only[Option.bind_eq_some_iff] at h
    obtain ⟨_,_,_,_,_,_,h⟩:=h
    cases h; omega

def okSym (x:UInt8):Prop:=x=40∨x=91∨x=41∨x=93∨x=97∨x=98

/-- A word moves a checker in the one sense as in the other. -/
theorem go_eq {c:Checker} {w:List UInt8} (hw:∀ x∈w,okSym x) {st:Int} {sk:List Int} (h:sk.length+w.length≤1048576):spec_l02Go_w0_7ppp c st sk w=impl_Checker_end c st sk w:=by
 have key:∀ (k i:Nat) (st:Int) (sk:List Int),i+k=w.length→sk.length+k≤1048576→loop (impl_Checker_run_F1_S1 c w) (st,sk,st,sk,(i:Int))=(loop (spec_l02Go_w0_7ppp_S1 c w) (st,sk,(i:Int))).map fun p=>((),p.1,p.2):=by
  intro k
  induction k with
  | zero =>
   intro i st sk hi _
   obtain rfl:i=w.length:=by omega
   have e1:loop (impl_Checker_run_F1_S1 c w) (st,sk,st,sk,(w.length:Int))=some ((),st,sk):=loop_R (by
    unfold impl_Checker_run_F1_S1; simp only; rw[if_neg (by simp)]; rfl)
   have e2:loop (spec_l02Go_w0_7ppp_S1 c w) (st,sk,(w.length:Int))=some (st,sk):=loop_R (by
    unfold spec_l02Go_w0_7ppp_S1; simp only; rw[if_neg (by simp)]; rfl)
   rw[e1,e2]; rfl
  | succ k ih =>
   intro i st sk hi hl
   have hlt:i<w.length:=by omega
   have hs:=step_eq (c:=c) (st:=st) (sk:=sk) (by omega) (hw w[i] (List.getElem_mem hlt))
   have hw1:=w1 hlt (show w.length≤9223372036854775807 by omega)
   have e1:impl_Checker_run_F1_S1 c w (st,sk,st,sk,(i:Int))=(impl_Checker_step c st sk (w[i].toNat:Int)).bind fun y=>some (.inl (y.1,y.2,y.1,y.2,((i+1:Nat):Int))):=by
    unfold impl_Checker_run_F1_S1 impl_Checker_end_1_F1
    simp only
    rw[if_pos (ltT hlt),chr_nat' hlt,Option.bind_some,hw1]
    rfl
   have e2:spec_l02Go_w0_7ppp_S1 c w (st,sk,(i:Int))=(impl_Checker_step c st sk (w[i].toNat:Int)).bind fun y=>some (.inl (y.1,y.2,((i+1:Nat):Int))):=by
    unfold spec_l02Go_w0_7ppp_S1
    simp only
    rw[if_pos (ltT hlt),chr_nat' hlt,Option.bind_some,hw1,hs]
   cases hy:impl_Checker_step c st sk (w[i].toNat:Int) with
   | none =>
    rw[hy] at e1 e2
    rw[loop_eq,e1,loop_eq (spec_l02Go_w0_7ppp_S1 c w),e2]
    rfl
   | some y =>
    obtain ⟨a,r⟩:=y
    rw[hy] at e1 e2
    rw[loop_L e1,loop_L e2]
    exact ih (i+1) a r (by omega) (by have:=step_len hy; omega)
 unfold spec_l02Go_w0_7ppp impl_Checker_end impl_Checker_run_F1 impl_Checker_end_1_F1
 have:=key w.length 0 st sk (by omega) h
 simp only[Option.bind_some]
 rw[show ((0:Nat):Int)=0 from rfl] at this
 rw[this]
 cases loop (spec_l02Go_w0_7ppp_S1 c w) (st,sk,0)<;>rfl
end Go.Proofs.YtbmjcddendnniaaGreat.law
namespace Go.Proofs.YtbmjcddendnniaaGreat.law
open Go Go.Proofs Ae
set_option maxRecDepth 100000

theorem word_ok {w:List UInt8} (hl:w.length≤1048576) (h:spec_l01Ok w=some true):∀ x∈w,okSym x:=by
 unfold spec_l01Ok at h
 have hst:=loop_true (step:=spec_l01Ok_S1 w) (n:=w.length) (rt:=true) (fun i y hi hy=>by
  unfold spec_l01Ok_S1 at hy
  rw[if_pos (ltT hi),chr_nat' hi,Option.bind_some,sym_ix,Option.bind_some,w1 hi (by omega)] at hy
  split at hy
  ·cases hy; exact .inr ⟨false,rfl,by simp⟩
  ·cases hy; exact .inl rfl)
 have hend:loop (spec_l01Ok_S1 w) ((0:Nat):Int)=some true:=h
 have hst:=hst w.length 0 (by omega) hend
 intro x hx
 obtain ⟨i,hi,rfl⟩:=List.getElem_of_mem hx
 have h1:=hst i (by omega) hi
 unfold spec_l01Ok_S1 at h1
 rw[if_pos (ltT hi),chr_nat' hi,Option.bind_some,sym_ix,Option.bind_some] at h1
 split at h1
 ·cases h1
 ·rename_i hn
  have h2:¬ fst? (· == w[i]) [40,91,41,93,97,98]<0:=by simpa using hn
  have h3:=fst?_any (· == w[i]) ([40,91,41,93,97,98]:List UInt8)
  rw[show decide ((fst? (· == w[i]) [40,91,41,93,97,98]:Int)≥0)=true by simpa using h2] at h3
  simp only[List.any_cons,List.any_nil,Bool.or_false,Eq.comm (a:=true),Bool.or_eq_true,beq_iff_eq] at h3
  unfold okSym
  rcases h3 with h | h | h | h | h | h<;>simp[← h]

def okStk (c:Checker) (sk:List Int):Prop:=∀ x∈sk,0≤x∧x<c.Stack

theorem sym_k {x:UInt8} (hx:okSym x):∃ k:Nat,k<6∧spec_l01Symbol (x.toNat:Int)=some (k:Int):=by
 rcases hx with rfl | rfl | rfl | rfl | rfl | rfl<;>rw[sym_ix]
 ·exact ⟨0,by omega,rfl⟩
 ·exact ⟨1,by omega,rfl⟩
 ·exact ⟨2,by omega,rfl⟩
 ·exact ⟨3,by omega,rfl⟩
 ·exact ⟨4,by omega,rfl⟩
 ·exact ⟨5,by omega,rfl⟩

theorem ix_in {α:Type} {l:List α} {i:Int} (h0:0≤i) (h1:i<l.length):∃ x,ix l i=some x∧x∈l:=by
 have hlt:i.toNat<l.length:=by omega
 refine ⟨l[i.toNat],?_,List.getElem_mem hlt⟩
 unfold ix
 rw[if_pos h0,List.getElem?_eq_getElem hlt]

/-- A right checker goes on from right places. -/
theorem step_tot {c:Checker} (hc:ChkV c) {st:Int} {sk:List Int} (h0:0≤st) (h1:st<c.Accept.length) (hk:okStk c sk) (hl:sk.length≤1048576) {x:UInt8} (hx:okSym x) :
  ∃ st' sk',spec_l02Step_w0_7ppp c st sk (x.toNat:Int)=some (st',sk')∧0≤st'∧st'<c.Accept.length∧okStk c sk'∧sk'.length≤sk.length+1:=by
 obtain ⟨k,hk6,hsym⟩:=sym_k hx
 unfold spec_l02Step_w0_7ppp
 rw[hsym,Option.bind_some]
 by_cases h2:k<2
 ·rw[if_pos (decide_eq_true (by omega))]
  obtain ⟨row,e1,m1⟩:=ix_in (l:=c.Call) h0 (by rw[hc.lc]; exact h1)
  obtain ⟨hr2,hrp⟩:=hc.call row m1
  obtain ⟨p,e2,m2⟩:=ix_in (l:=row) (i:=(k:Int)) (by omega) (by omega)
  obtain ⟨p1,p2,p3,p4⟩:=hrp p m2
  rw[e1,Option.bind_some,e2,Option.bind_some,own_eq (by omega),Option.bind_some]
  unfold app
  rw[if_pos (by unfold LIM; simp; omega),Option.bind_some]
  refine ⟨_,_,rfl,p1,p2,?_,by simp⟩
  intro y hy
  rcases List.mem_append.1 hy with hy | hy
  ·exact hk y hy
  ·rw[List.mem_singleton.1 hy]; exact ⟨p3,p4⟩
 ·rw[if_neg (by simp; omega)]
  by_cases h4:k<4
  ·obtain ⟨row,e1,m1⟩:=ix_in (l:=c.Return) h0 (by rw[hc.lr]; exact h1)
   obtain ⟨hr2,hrp⟩:=hc.ret row m1
   have hw2:IntKind.wrap .i64 ((k:Int) - 2)=(k:Int) - 2:=w64 (by omega) (by omega)
   obtain ⟨r,e2,m2⟩:=ix_in (l:=row) (i:=(k:Int) - 2) (by omega) (by omega)
   obtain ⟨hr3,hrx⟩:=hrp r m2
   rcases List.eq_nil_or_concat sk with rfl | ⟨l,a,rfl⟩
   ·obtain ⟨y,e3,m3⟩:=ix_in (l:=r) (i:=c.Stack) (by have:=hc.k1; omega) (by omega)
    rw[if_pos (by simp; omega),e1,Option.bind_some,hw2,e2,Option.bind_some,e3,Option.bind_some]
    exact ⟨_,_,rfl,(hrx y m3).1,(hrx y m3).2,hk,by simp⟩
   ·simp only[List.concat_eq_append] at hk hl ⊢
    simp only[List.length_append,List.length_singleton] at hl
    have ha:=hk a (by simp)
    have el:((l++[a]).length:Int) - 1=(l.length:Int):=by simp
    have e4:IntKind.wrap .i64 (((l++[a]).length:Int) - 1)=(l.length:Int):=by rw[el,w64 (by omega) (by omega)]
    have e5:ix (l++[a]) (l.length:Int)=some a:=ix_lit (by simp)
    have e6:cut (l++[a]) 0 (l.length:Int)=some l:=by
     unfold cut
     rw[if_pos ⟨by omega,by omega,by simp; omega⟩]
     simp
    obtain ⟨y,e3,m3⟩:=ix_in (l:=r) (i:=a) ha.1 (by omega)
    rw[if_neg (by simp; omega),if_pos (decide_eq_true (by omega))]
    simp only[e1,hw2,e2,e4,e5,e3,e6,Option.bind_some,own_eq (show l.length≤2097152 by omega)]
    exact ⟨_,_,rfl,(hrx y m3).1,(hrx y m3).2,fun z hz=>hk z (by simp[hz]),by simp; omega⟩
  ·rw[if_neg (by simp; omega),if_neg (by simp; omega)]
   obtain ⟨row,e1,m1⟩:=ix_in (l:=c.Inner) h0 (by rw[hc.li]; exact h1)
   obtain ⟨hr2,hrp⟩:=hc.inn row m1
   have hw2:IntKind.wrap .i64 ((k:Int) - 4)=(k:Int) - 4:=w64 (by omega) (by omega)
   obtain ⟨y,e2,m2⟩:=ix_in (l:=row) (i:=(k:Int) - 4) (by omega) (by omega)
   rw[e1,Option.bind_some,hw2,e2,Option.bind_some]
   exact ⟨_,_,rfl,(hrp y m2).1,(hrp y m2).2,hk,by omega⟩

/-- A right checker comes to the end of a word. -/
theorem go_tot {c:Checker} (hc:ChkV c) {w:List UInt8} (hw:∀ x∈w,okSym x) {st:Int} {sk:List Int} (h0:0≤st) (h1:st<c.Accept.length) (hk:okStk c sk) (hl:sk.length+w.length≤1048576) :
  ∃ st' sk',spec_l02Go_w0_7ppp c st sk w=some (st',sk')∧0≤st'∧st'<c.Accept.length∧okStk c sk'∧sk'.length≤sk.length+w.length:=by
 have key:∀ (k i:Nat) (st:Int) (sk:List Int),i+k=w.length→0≤st→st<c.Accept.length→okStk c sk→sk.length+k≤1048576 →
   ∃ st' sk',loop (spec_l02Go_w0_7ppp_S1 c w) (st,sk,(i:Int))=some (st',sk')∧0≤st'∧st'<c.Accept.length∧okStk c sk'∧sk'.length≤sk.length+k:=by
  intro k
  induction k with
  | zero =>
   intro i st sk hi h0 h1 hk hl
   obtain rfl:i=w.length:=by omega
   exact ⟨st,sk,loop_R (by unfold spec_l02Go_w0_7ppp_S1; simp only; rw[if_neg (by simp)]; rfl),h0,h1,hk,by omega⟩
  | succ k ih =>
   intro i st sk hi h0 h1 hk hl
   have hlt:i<w.length:=by omega
   obtain ⟨st',sk',e,k0,k1,k2,k3⟩:=step_tot hc h0 h1 hk (by omega) (hw w[i] (List.getElem_mem hlt))
   obtain ⟨a,b,e2,j0,j1,j2,j3⟩:=ih (i+1) st' sk' (by omega) k0 k1 k2 (by omega)
   refine ⟨a,b,?_,j0,j1,j2,by omega⟩
   rw[loop_L (s':=(st',sk',((i+1:Nat):Int))) (by
    unfold spec_l02Go_w0_7ppp_S1
    simp only
    rw[if_pos (ltT hlt),chr_nat' hlt,Option.bind_some,e,Option.bind_some,w1 hlt (by omega)])]
   exact e2
 exact key w.length 0 st sk (by omega) h0 h1 hk hl

end Go.Proofs.YtbmjcddendnniaaGreat.law
namespace Go.Proofs.YtbmjcddendnniaaGreat.law
open Go Go.Proofs Ae
set_option maxRecDepth 100000

theorem appN {α:Type} {l m:List α} (h:l.length+m.length≤1048576):app l m=some (l++m):=by unfold app; rw[if_pos (by unfold LIM; omega)]

theorem nodup_le:∀ (n:Nat) (l:List Int),l.Nodup→(∀ x∈l,0≤x∧x<(n:Int))→l.length≤n
 | 0,l,_,h=>by
  cases l with
  | nil=>exact Nat.le_refl _
  | cons a l=>have:=h a (by simp); omega
 | n+1,l,hd,h=>by
  by_cases hm:(n:Int)∈l
  ·have h1:=nodup_le n (l.erase (n:Int)) (hd.erase _) (fun x hx=>by
    obtain ⟨h2,h3⟩:=hd.mem_erase_iff.1 hx
    have:=h x h3
    omega)
   rw[List.length_erase_of_mem hm] at h1
   omega
  ·have h1:=nodup_le n l hd (fun x hx=>by
    have:=h x hx
    have:x≠(n:Int):=fun e=>hm (e▸hx)
    omega)
   omega

theorem has_eq {l:List Int} (h:l.length≤1048576) (n:Int):spec_l00Has l n=some (decide (n∈l)):=by
 unfold spec_l00Has
 rw[loop_allL (l:=l) (p:=fun x=>!(x == n)) (rt:=some false) (rf:=true) (loop_R (by unfold spec_l00Has_S1; rw[if_neg (by simp)]; rfl)) fun i x hx=>by
  have hlt:=(List.getElem?_eq_some_iff.1 hx).1
  unfold spec_l00Has_S1
  rw[if_pos (ltT hlt),ix_lit hx,Option.bind_some,w1 hlt (by omega)]
  cases (x == n)<;>rfl]
 split
 ·rename_i hh
  have:n∉l:=fun hm=>by
   have:=List.all_eq_true.1 hh n hm
   simp at this
  simp[this]
 ·rename_i hh
  have:n∈l:=Decidable.byContradiction fun hm=>hh (List.all_eq_true.2 fun x hx=>by
   have:x≠n:=fun e=>hm (e▸hx)
   simpa using this)
  simp[this]

theorem contains_eq {l:List Int} (h:l.length≤1048576) (n:Int):slices_Contains_sint64_int64 l n=some (decide (n∈l)):=by
 unfold slices_Contains_sint64_int64 slices_Index_sint64_int64
 rw[loop_find (l:=l) (fun x=>n == x) (loop_R (by unfold slices_Index_sint64_int64_S1; rw[if_neg (by simp)]; rfl)) fun i x hx=>by
  have hlt:=(List.getElem?_eq_some_iff.1 hx).1
  unfold slices_Index_sint64_int64_S1
  rw[if_pos (ltT hlt),ix_lit hx,Option.bind_some,w1 hlt (by omega)]]
 rw[Option.bind_some,fst?_any]
 congr 1
 by_cases hm:n∈l
 ·simp only[hm,decide_true,List.any_eq_true,beq_iff_eq]
  exact ⟨n,hm,rfl⟩
 ·simp only[hm,decide_false]
  rw[List.any_eq_false]
  intro x hx e
  exact hm ((beq_iff_eq.1 e)▸hx)

theorem put_done (l:List Int) (n:Int) (hl:l.length≤1000):∀ (suf pre o:List Int),l=pre++suf→o.length≤1+pre.length→loop (spec_l00Put_S1 l n) (o,true,(pre.length:Int))=some (o++suf)
 | [],pre,o,e,ho=>by
  have e':l.length=pre.length:=by rw[e]; simp
  refine loop_R ?_
  unfold spec_l00Put_S1 spec_l00Put_J1 spec_l00Put_J2
  simp[e']
 | x::s,pre,o,e,ho=>by
  have hx:l[pre.length]?=some x:=by rw[e]; simp
  have hlt:=(List.getElem?_eq_some_iff.1 hx).1
  have ih:=put_done l n hl s (pre++[x]) (o++[x]) (by rw[e]; simp) (by simp; omega)
  rw[loop_L (s':=(o++[x],true,((pre.length+1:Nat):Int)))]
  ·rw[List.length_append] at ih
   simpa using ih
  ·unfold spec_l00Put_S1 spec_l00Put_J3
   simp only[ltT hlt,if_true,Bool.not_true,Bool.false_eq_true,if_false,Option.bind_some,ix_lit hx,appN (l:=o) (m:=[x]) (by simp; omega),w1 hlt (show l.length≤9223372036854775807 by omega)]

end Go.Proofs.YtbmjcddendnniaaGreat.law
namespace Go.Proofs.YtbmjcddendnniaaGreat.law
open Go Go.Proofs Ae
set_option maxRecDepth 100000

theorem whole_eq {l:List (List UInt8)} (h:l.length≤20) (hb:∀ x∈l,x.length≤1048576):spec_l08Whole l=some l.flatten:=by
 have key:∀ k (i:Nat),i+k=l.length→loop (spec_l08Whole_S1 l) ((l.take i).flatten,(i:Int))=some l.flatten:=by
  intro k
  induction k with
  | zero =>
   intro i hi
   have hi':i=l.length:=by omega
   refine loop_R ?_
   unfold spec_l08Whole_S1
   simp only
   rw[hi',if_neg (by simp),List.take_length]
   rfl
  | succ k ih =>
   intro i hi
   have hlt:i<l.length:=by omega
   have h1:=flatS_len (l:=l.take i) (m:=1048576) fun x hx=>hb x (List.mem_of_mem_take hx)
   have h2:=hb l[i] (List.getElem_mem hlt)
   have hst:spec_l08Whole_S1 l ((l.take i).flatten,(i:Int))=some (.inl ((l.take (i+1)).flatten,((i+1:Nat):Int))):=by
    unfold spec_l08Whole_S1
    simp only
    rw[if_pos (ltT hlt),ix_some hlt,Option.bind_some]
    unfold app
    rw[List.length_take,Nat.min_eq_left (Nat.le_of_lt hlt)] at h1
    rw[if_pos (by unfold LIM; omega),Option.bind_some,w1 hlt (by omega),List.take_add_one,List.getElem?_eq_getElem hlt,List.flatten_append,show (some l[i]).toList.flatten=l[i] by simp]
   rw[loop_L hst]
   exact ih (i+1) (by omega)
 exact key l.length 0 (by omega)
theorem join_eq {l:List (List UInt8)} (h:l.length≤20) (hb:∀ x∈l,x.length≤1048576):joinS l []=some l.flatten:=by
 have:=flatS_len (l:=l) (m:=1048576) hb
 unfold joinS
 rw[join_flat,if_pos ⟨by omega,by omega⟩]

/-- What a stream has to be. -/
theorem stream_ok {v:Stream} (h:smStream v):∃ b,impl_ValidStream v=some b∧spec_l08Ok v=some b∧(b=true→v.Pieces.length≤20):=by
 obtain ⟨c,hc⟩:=chk_tot h.1
 unfold spec_l08Ok impl_ValidStream impl_size_string impl_within spec_l00In
 simp only[hc,chk_eq h.1,Option.bind_some,ite_some,ite_or,ite_and]
 cases c with
 | false=>exact ⟨false,by simp,by simp,by simp⟩
 | true =>
  have hpl:=h.2.1
  cases hr:(decide ((v.Pieces.length:Int)≥1)&&decide ((v.Pieces.length:Int)≤20)) with
  | false=>exact ⟨false,by simp,by simp,by simp⟩
  | true =>
   have h20:v.Pieces.length≤20:=by
    rw[Bool.and_eq_true,decide_eq_true_eq,decide_eq_true_eq] at hr; omega
   have hw:∀ x:List UInt8,x∈v.Pieces→spec_l01Ok x=some ((spec_l01Ok x).getD false):=fun x hx=>by
    obtain ⟨b,hb⟩:=word_tot (w:=x) (by have:=h.2.2 x hx; unfold smS at this; omega)
    rw[hb]; rfl
   have hbd:∀ x∈v.Pieces,x.length≤1048576:=h.2.2
   have hfl:=flatS_len (l:=v.Pieces) (m:=1048576) hbd
   obtain ⟨bw,hbw⟩:=word_tot (w:=v.Pieces.flatten) (by omega)
   have hlp:=loop_allL (l:=v.Pieces) (step:=spec_l08Ok_S1 v) (p:=fun x=>(spec_l01Ok x).getD false) (rt:=some bw) (rf:=false) (loop_R (by
    unfold spec_l08Ok_S1 spec_l08Ok_J1
    rw[if_neg (by simp),whole_eq h20 hbd,Option.bind_some,hbw]; rfl)) fun i x hx=>by
    have hlt:=(List.getElem?_eq_some_iff.1 hx).1
    unfold spec_l08Ok_S1
    rw[if_pos (ltT hlt),ix_lit hx,Option.bind_some,hw x (List.mem_of_getElem? hx),Option.bind_some,w1 hlt (by omega)]
    cases (spec_l01Ok x).getD false<;>rfl
   have hct:=containsS (l:=v.Pieces) (by omega) (fun x=>impl_ValidStream_1 x) (fun x=>!((spec_l01Ok x).getD false)) fun x hx=>by
    unfold impl_ValidStream_1; rw[word_eq,hw x hx]; rfl
   have hna:(!(v.Pieces.any fun x=>!((spec_l01Ok x).getD false)))=v.Pieces.all fun x=>(spec_l01Ok x).getD false:=by
    rw[List.all_eq_not_any_not]
   simp only[Bool.not_true,Bool.or_self,Bool.false_eq_true,if_false,if_true,hlp,hct,Option.bind_some,hna,join_eq h20 hbd,word_eq,hbw,Bool.and_self,ite_some]
   refine ⟨(v.Pieces.all fun x=>(spec_l01Ok x).getD false)&&bw,?_,?_,fun _=>h20⟩
   all_goals cases (v.Pieces.all fun x=>(spec_l01Ok x).getD false)<;>rfl

end Go.Proofs.YtbmjcddendnniaaGreat.law
namespace Go.Proofs.YtbmjcddendnniaaGreat.law
open Go Go.Proofs Ae
set_option maxRecDepth 100000

theorem uniq:∀ {a b:List Int},a.Pairwise (·≤·)→b.Pairwise (·≤·)→a.Perm b→a=b
 | [],b,_,_,h=>by rw[List.nil_perm.1 h]
 | x::a,[],_,_,h=>by have:=h.length_eq; simp at this
 | x::a,y::b,ha,hb,h=>by
  rw[List.pairwise_cons] at ha hb
  have h1:x∈y::b:=h.mem_iff.1 (List.mem_cons_self ..)
  have h2:y∈x::a:=h.mem_iff.2 (List.mem_cons_self ..)
  have e:x=y:=by
   rcases List.mem_cons.1 h1 with h1 | h1
   ·exact h1
   ·rcases List.mem_cons.1 h2 with h2 | h2
    ·exact h2.symm
    ·have:=ha.1 y h2; have:=hb.1 x h1; omega
  subst e
  rw[uniq ha.2 hb.2 ((List.perm_cons x).1 h)]

theorem srt_perm (l:List Int):(srt l).Perm l:=by unfold srt; exact List.mergeSort_perm _ _
theorem srt_le (l:List Int):(srt l).Pairwise (·≤·):=by
 unfold srt
 have:=List.pairwise_mergeSort (le:=fun (x y:Int)=>decide (x≤y)) (fun a b c h1 h2=>by simp at *; omega) (fun a b=>by simp; omega) l
 exact this.imp (fun h=>by simpa using h)

/-- Numbers that wait: rising, from r on, below n. -/
structure Wok (n:Nat) (r:Int) (W:List Int):Prop where
 lt:W.Pairwise (·<·)
 lo:∀ x∈W,r≤x
 hi:∀ x∈W,x<(n:Int)

theorem Wok.le {n:Nat} {r:Int} {W:List Int} (h:Wok n r W):W.Pairwise (·≤·):=h.lt.imp (fun h=>by omega)
theorem Wok.nd {n:Nat} {r:Int} {W:List Int} (h:Wok n r W):W.Nodup:=h.lt.imp (fun h=>by omega)
theorem Wok.len {n:Nat} {r:Int} {W:List Int} (h:Wok n r W) (h0:0≤r):W.length≤n:=nodup_le n W h.nd (fun x hx=>⟨Int.le_trans h0 (h.lo x hx),h.hi x hx⟩)

theorem put_ok2 (l:List Int) (n:Int) (hl:l.length≤1000) (hn:n∉l):∀ (suf pre:List Int),l=pre++suf→(∀ y∈pre,y<n)→∃ a b,l=a++b∧loop (spec_l00Put_S1 l n) (pre,false,(pre.length:Int))=some (a++n::b)∧(∀ y∈a,y<n)∧(∀ x,b.head?=some x→n<x)
 | [],pre,e,hp=>by
  have e':l=pre:=by simpa using e
  refine ⟨l,[],by simp,?_,by rw[e']; exact hp,by simp⟩
  refine loop_R ?_
  unfold spec_l00Put_S1 spec_l00Put_J1 spec_l00Put_J2
  subst e'
  simp[appN (l:=l) (m:=[n]) (by simp; omega)]
 | x::s,pre,e,hp=>by
  have hx:l[pre.length]?=some x:=by rw[e]; simp
  have hlt:=(List.getElem?_eq_some_iff.1 hx).1
  have hne:x≠n:=fun h=>hn (h▸List.mem_of_getElem? hx)
  have hpl:pre.length≤1000:=by omega
  by_cases hge:x≥n
  ·have hgt:x>n:=by omega
   refine ⟨pre,x::s,e,?_,hp,fun y hy=>by simp at hy; omega⟩
   have:=put_done l n hl s (pre++[x]) (pre++[n]++[x]) (by rw[e]; simp) (by simp; omega)
   rw[loop_L (s':=(pre++[n]++[x],true,((pre.length+1:Nat):Int)))]
   ·rw[List.length_append] at this
    simpa using this
   ·unfold spec_l00Put_S1 spec_l00Put_J3
    simp only[ltT hlt,if_true,Bool.not_false,Option.bind_some,ix_lit hx,decide_eq_true hge,decide_eq_true hgt,appN (l:=pre) (m:=[n]) (by simp; omega),appN (l:=pre++[n]) (m:=[x]) (by simp; omega),w1 hlt (show l.length≤9223372036854775807 by omega)]
  ·obtain ⟨a,b,h1,h2,h3,h4⟩:=put_ok2 l n hl hn s (pre++[x]) (by rw[e]; simp) (fun y hy=>by
    rcases List.mem_append.1 hy with hy | hy
    ·exact hp y hy
    ·rw[List.mem_singleton.1 hy]; omega)
   refine ⟨a,b,h1,?_,h3,h4⟩
   rw[loop_L (s':=(pre++[x],false,((pre.length+1:Nat):Int)))]
   ·rw[List.length_append] at h2
    simpa using h2
   ·unfold spec_l00Put_S1 spec_l00Put_J3
    simp only[ltT hlt,if_true,Bool.not_false,Option.bind_some,ix_lit hx,decide_eq_false hge,Bool.false_eq_true,if_false,appN (l:=pre) (m:=[x]) (by simp; omega),w1 hlt (show l.length≤9223372036854775807 by omega)]

/-- A number is put to its place. -/
theorem put_srt {N:Nat} {r n:Int} {W:List Int} (hW:Wok N r W) (hl:W.length≤1000) (hn:n∉W) (h0:r≤n) (h1:n<(N:Int)):∃ W2,spec_l00Put W n=some W2∧Wok N r W2∧W2.Perm (W++[n]):=by
 obtain ⟨a,b,e,h2,h3,h4⟩:=put_ok2 W n hl hn W [] (by simp) (by simp)
 refine ⟨a++n::b,h2,?_,?_⟩
 ·have hlt:=hW.lt
  rw[e,List.pairwise_append] at hlt
  obtain ⟨p1,p2,p3⟩:=hlt
  have hb:∀ y∈b,n<y:=by
   intro y hy
   cases b with
   | nil=>cases hy
   | cons x t =>
    have h5:=h4 x rfl
    rcases List.mem_cons.1 hy with rfl | hy
    ·exact h5
    ·have:=(List.pairwise_cons.1 p2).1 y hy; omega
  refine ⟨?_,fun x hx=>?_,fun x hx=>?_⟩
  ·rw[List.pairwise_append,List.pairwise_cons]
   refine ⟨p1,⟨hb,p2⟩,fun x hx y hy=>?_⟩
   rcases List.mem_cons.1 hy with rfl | hy
   ·exact h3 x hx
   ·exact p3 x hx y hy
  ·rcases List.mem_append.1 hx with hx | hx
   ·exact hW.lo x (by rw[e]; simp[hx])
   ·rcases List.mem_cons.1 hx with rfl | hx
    ·exact h0
    ·exact hW.lo x (by rw[e]; simp[hx])
  ·rcases List.mem_append.1 hx with hx | hx
   ·exact hW.hi x (by rw[e]; simp[hx])
   ·rcases List.mem_cons.1 hx with rfl | hx
    ·exact h1
    ·exact hW.hi x (by rw[e]; simp[hx])
 ·rw[e]
  refine List.perm_middle.trans ?_
  exact (List.perm_append_singleton n (a++b)).symm
end Go.Proofs.YtbmjcddendnniaaGreat.law
namespace Go.Proofs.YtbmjcddendnniaaGreat.law
open Go Go.Proofs Ae
set_option maxRecDepth 100000

/-- A right stream. -/
structure SOk (v:Stream):Prop where
 chk:ChkV v.Checker
 n:v.Pieces.length≤20
 w:∀ p∈v.Pieces,p.length≤60∧∀ x∈p,okSym x

/-- A right desk: how far it is, and what waits. -/
structure Dok (v:Stream) (d:Desk):Prop where
 r0:0≤d.Read
 r1:d.Read≤v.Pieces.length
 s0:0≤d.State
 s1:d.State<v.Checker.Accept.length
 k:okStk v.Checker d.Stack
 l:(d.Stack.length:Int)≤60*d.Read
 w:Wok v.Pieces.length d.Read d.Waiting

def Pok (v:Stream) (p:Parcel):Prop:=0≤p.First∧p.First+p.Texts.length≤(v.Pieces.length:Int)

variable {v:Stream}

theorem Dok.wl {d:Desk} (hv:SOk v) (h:Dok v d):d.Waiting.length≤20:=Nat.le_trans (h.w.len h.r0) hv.n
theorem Dok.sl {d:Desk} (hv:SOk v) (h:Dok v d):d.Stack.length≤1200:=by
 have h1:=h.l; have h2:=h.r1; have h3:=hv.n; omega

theorem cut1 {x:Int} {l:List Int}:cut (x::l) 1 ((x::l).length:Int)=some l:=by
 unfold cut
 rw[if_pos ⟨by omega,by simp; omega,by omega⟩]
 simp

/-- Pieces are read as long as the next one waits. -/
theorem come_read (hv:SOk v):∀ (n:Nat) (d:Desk),Dok v d→d.Waiting.length=n→∃ d2,Dok v d2 ∧
  loop (spec_l08Run_come_F1_S1 v) (d.Read,d.State,d.Stack,d.Waiting)=some ((),d2.Read,d2.State,d2.Stack,d2.Waiting) ∧
  loop (impl_works_comeIn_K10_S1 v.Checker.Stack v.Checker.Start v.Checker.Accept v.Checker.Call v.Checker.Return v.Checker.Inner v.Pieces) (d.Read,d.State,d.Stack,d.Waiting)=some ((),d2.Waiting,d2.Read,d2.State,d2.Stack)
 | 0,d,hd,hl=>by
  have hn:d.Waiting=[]:=List.eq_nil_of_length_eq_zero hl
  refine ⟨d,hd,loop_R ?_,loop_R ?_⟩
  ·unfold spec_l08Run_come_F1_S1 spec_l08Run_come_F1_J2; simp[hn]
  ·unfold impl_works_comeIn_K10_S1 impl_works_comeIn_K10_J2; simp[hn]
 | n+1,d,hd,hl=>by
  obtain ⟨R,St,Sk,W⟩:=d
  simp only at hl
  match W,hl with
  | x::W,hl =>
  have hw:=hd.w
  simp only at hw
  by_cases hx:x=R
  ·subst hx
   have hlt:=hw.hi x (List.mem_cons_self ..)
   have h0:=hd.r0
   simp only at h0
   obtain ⟨p,hp,hpm⟩:=ix_in (l:=v.Pieces) h0 hlt
   obtain ⟨hp60,hps⟩:=hv.w p hpm
   have hsl:=hd.sl hv
   simp only at hsl
   obtain ⟨st',sk',g1,g2,g3,g4,g5⟩:=go_tot hv.chk hps hd.s0 hd.s1 hd.k (by simp only; omega)
   simp only at g1 g5
   have g6:=go_eq (c:=v.Checker) hps (st:=St) (sk:=Sk) (by omega)
   have hn20:=hv.n
   have hw1:IntKind.wrap .i64 (x+1)=x+1:=w64 (by omega) (by omega)
   have hwl:=hd.wl hv
   simp only[List.length_cons] at hwl
   have hd2:Dok v ⟨x+1,st',sk',W⟩:=by
    refine ⟨by simp only; omega,by simp only; omega,g2,g3,g4,?_,?_⟩
    ·have:=hd.l; simp only at this ⊢; omega
    ·have hp:=List.pairwise_cons.1 hw.lt
     exact ⟨hp.2,fun y hy=>by have:=hp.1 y hy; show x+1≤y; omega,fun y hy=>hw.hi y (List.mem_cons_of_mem _ hy)⟩
   obtain ⟨d2,k1,k2,k3⟩:=come_read hv n ⟨x+1,st',sk',W⟩ hd2 (by simpa using hl)
   refine ⟨d2,k1,?_,?_⟩
   ·rw[loop_L (s':=(x+1,st',sk',W))]
    ·exact k2
    ·unfold spec_l08Run_come_F1_S1
     simp only[cut1]
     have e1:ix (x::W) 0=some x:=rfl
     simp only[e1,Option.bind_some,own_eq (show Sk.length≤2097152 by omega),hp,g1,own_eq (show W.length≤2097152 by omega),hw1]
     simp
   ·rw[loop_L (s':=(x+1,st',sk',W))]
    ·exact k3
    ·unfold impl_works_comeIn_K10_S1
     simp only[cut1]
     have e1:ix (x::W) 0=some x:=rfl
     have g7:impl_Checker_end v.Checker St Sk p=some (st',sk'):=by rw[← g6]; exact g1
     simp only[e1,Option.bind_some,hp,g7,hw1]
     simp
  ·refine ⟨⟨R,St,Sk,x::W⟩,hd,loop_R ?_,loop_R ?_⟩
   ·unfold spec_l08Run_come_F1_S1 spec_l08Run_come_F1_J2
    have e1:ix (x::W) 0=some x:=rfl
    simp only[e1,Option.bind_some]
    simp[hx]
   ·unfold impl_works_comeIn_K10_S1 impl_works_comeIn_K10_J2
    have e1:ix (x::W) 0=some x:=rfl
    simp only[e1,Option.bind_some]
    simp[hx]

theorem wok_small {n:Nat} {r:Int} {W:List Int} (hn:n≤20) (h:Wok n r W) (h0:0≤r):W.length≤20:=Nat.le_trans (h.len h0) hn

/-- A parcel comes in. -/
theorem come_eq (hv:SOk v) {d:Desk} (hd:Dok v d) {p:Parcel} (hp:Pok v p) (e1 e2:Int) (e3 e4:List Int) (e5:List Parcel) (f1 f2:Int) (f3 f4:List Int) (f5:List Parcel):∃ d2,Dok v d2 ∧
  spec_l08Run_come_F1 v d.Read d.State d.Stack d.Waiting e1 e2 e3 e4 e5 p=some ((),d2.Read,d2.State,d2.Stack,d2.Waiting) ∧
  impl_works_comeIn_K10 d.Read d.State d.Stack d.Waiting f1 f2 f3 f4 f5 v.Checker.Stack v.Checker.Start v.Checker.Accept v.Checker.Call v.Checker.Return v.Checker.Inner v.Pieces p=some ((),d2.Waiting,d2.Read,d2.State,d2.Stack):=by
 have hn:=hv.n
 have hr0:=hd.r0
 have key:∀ (k i:Nat) (W W':List Int),i+k=p.Texts.length→Wok v.Pieces.length d.Read W→W'.Perm W→∃ d2,Dok v d2 ∧
   loop (spec_l08Run_come_F1_S2 v d.Read d.State d.Stack p) (W,(i:Int))=some ((),d2.Read,d2.State,d2.Stack,d2.Waiting) ∧
   loop (impl_works_comeIn_K10_S2 d.Read d.State d.Stack v.Checker.Stack v.Checker.Start v.Checker.Accept v.Checker.Call v.Checker.Return v.Checker.Inner v.Pieces p (p.Texts.length:Int)) (W',(i:Int))=some ((),d2.Waiting,d2.Read,d2.State,d2.Stack):=by
  intro k
  induction k with
  | zero =>
   intro i W W' hi hW hP
   obtain rfl:i=p.Texts.length:=by omega
   have hwl:=wok_small hn hW hr0
   have hs:srt W'=W:=uniq (srt_le W') hW.le ((srt_perm W').trans hP)
   obtain ⟨d2,k1,k2,k3⟩:=come_read hv W.length ⟨d.Read,d.State,d.Stack,W⟩ ⟨hd.r0,hd.r1,hd.s0,hd.s1,hd.k,hd.l,hW⟩ rfl
   refine ⟨d2,k1,loop_R ?_,loop_R ?_⟩
   ·unfold spec_l08Run_come_F1_S2 spec_l08Run_come_F1_J1
    simp only at k2
    simp[k2]
   ·unfold impl_works_comeIn_K10_S2 impl_works_comeIn_K10_J1 srtM
    have:W'.length<549755813888:=by have:=hP.length_eq; omega
    simp only at k3
    simp[if_pos this,hs,k3]
  | succ k ih =>
   intro i W W' hi hW hP
   have hlt:i<p.Texts.length:=by omega
   have hwl:=wok_small hn hW hr0
   have hwl':W'.length≤20:=by rw[hP.length_eq]; exact hwl
   obtain ⟨hp0,hp1⟩:=hp
   have hw1:IntKind.wrap .i64 (p.First+(i:Int))=p.First+(i:Int):=w64 (by omega) (by omega)
   have hwi:IntKind.wrap .i64 ((i:Int)+1)=((i+1:Nat):Int):=w1 hlt (by omega)
   have hmem:(p.First+(i:Int)∈W')↔(p.First+(i:Int)∈W):=hP.mem_iff
   by_cases hge:p.First+(i:Int)≥d.Read
   ·by_cases hin:p.First+(i:Int)∈W
    ·obtain ⟨d2,k1,k2,k3⟩:=ih (i+1) W W' (by omega) hW hP
     refine ⟨d2,k1,?_,?_⟩
     ·rw[loop_L (s':=(W,((i+1:Nat):Int)))]
      ·exact k2
      ·unfold spec_l08Run_come_F1_S2 spec_l08Run_come_F1_J3
       simp only[ltT hlt,if_true,hw1,decide_eq_true hge,has_eq (show W.length≤1048576 by omega),Option.bind_some,hin,decide_true,Bool.not_true,Bool.false_eq_true,if_false,hwi]
     ·rw[loop_L (s':=(W',((i+1:Nat):Int)))]
      ·exact k3
      ·unfold impl_works_comeIn_K10_S2 impl_works_comeIn_K10_J3
       simp only[ltT hlt,if_true,hw1,decide_eq_true hge,contains_eq (show W'.length≤1048576 by omega),Option.bind_some,hmem.2 hin,decide_true,Bool.not_true,Bool.false_eq_true,if_false,hwi]
    ·obtain ⟨W2,q1,q2,q3⟩:=put_srt hW (by omega) hin hge (by omega)
     have hin':¬ p.First+(i:Int)∈W':=fun h=>hin (hmem.1 h)
     obtain ⟨d2,k1,k2,k3⟩:=ih (i+1) W2 (W'++[p.First+(i:Int)]) (by omega) q2 ((List.Perm.append_right _ hP).trans q3.symm)
     refine ⟨d2,k1,?_,?_⟩
     ·rw[loop_L (s':=(W2,((i+1:Nat):Int)))]
      ·exact k2
      ·unfold spec_l08Run_come_F1_S2 spec_l08Run_come_F1_J3
       simp only[ltT hlt,if_true,hw1,decide_eq_true hge,has_eq (show W.length≤1048576 by omega),Option.bind_some,decide_eq_false hin,Bool.not_false,own_eq (show W.length≤2097152 by omega),q1,hwi]
     ·rw[loop_L (s':=(W'++[p.First+(i:Int)],((i+1:Nat):Int)))]
      ·exact k3
      ·unfold impl_works_comeIn_K10_S2 impl_works_comeIn_K10_J3
       simp only[ltT hlt,if_true,hw1,decide_eq_true hge,contains_eq (show W'.length≤1048576 by omega),Option.bind_some,decide_eq_false hin',Bool.not_false,appN (l:=W') (m:=[p.First+(i:Int)]) (by simp; omega),hwi]
   ·obtain ⟨d2,k1,k2,k3⟩:=ih (i+1) W W' (by omega) hW hP
    refine ⟨d2,k1,?_,?_⟩
    ·rw[loop_L (s':=(W,((i+1:Nat):Int)))]
     ·exact k2
     ·unfold spec_l08Run_come_F1_S2 spec_l08Run_come_F1_J3
      simp only[ltT hlt,if_true,hw1,decide_eq_false hge,Bool.false_eq_true,if_false,Option.bind_some,hwi]
    ·rw[loop_L (s':=(W',((i+1:Nat):Int)))]
     ·exact k3
     ·unfold impl_works_comeIn_K10_S2 impl_works_comeIn_K10_J3
      simp only[ltT hlt,if_true,hw1,decide_eq_false hge,Bool.false_eq_true,if_false,Option.bind_some,hwi]
 obtain ⟨d2,k1,k2,k3⟩:=key p.Texts.length 0 d.Waiting d.Waiting (by omega) hd.w (List.Perm.refl _)
 exact ⟨d2,k1,k2,by unfold impl_works_comeIn_K10 impl_size_string; exact k3⟩
end Go.Proofs.YtbmjcddendnniaaGreat.law
namespace Go.Proofs.YtbmjcddendnniaaGreat.law
open Go Go.Proofs Ae
set_option maxRecDepth 100000
variable {v:Stream}

def Wir (v:Stream) (w:List Parcel):Prop:=w.length≤12∧∀ p∈w,Pok v p
def Dd (x:Deed):Prop:=1≤x.Kind∧x.Kind≤6∧0≤x.A∧x.A≤999∧0≤x.B∧x.B≤999

theorem cut_take {α:Type} {l:List α} {i:Nat} (h:i≤l.length):cut l 0 (i:Int)=some (l.take i):=by
 unfold cut
 rw[if_pos ⟨by omega,by omega,by omega⟩]
 simp
theorem cut_drop {α:Type} {l:List α} {i:Nat} (h:i≤l.length):cut l (i:Int) (l.length:Int)=some (l.drop i):=by
 unfold cut
 rw[if_pos ⟨by omega,by omega,by omega⟩]
 congr 1
 rw[List.take_of_length_le (by simp)]
 rfl

theorem del_eq {w:List Parcel} {i:Nat} (h:i<w.length) (hw:w.length≤12) :
  delL w (i:Int) (IntKind.wrap .i64 ((i:Int)+1))=some (w.take i++w.drop (i+1)) ∧
  cut w (IntKind.wrap .i64 ((i:Int)+1)) (w.length:Int)=some (w.drop (i+1))∧cut w 0 (i:Int)=some (w.take i) ∧
  app ([]:List Parcel) (w.drop (i+1))=some (w.drop (i+1))∧app ([]:List Parcel) (w.take i)=some (w.take i)∧app (w.take i) (w.drop (i+1))=some (w.take i++w.drop (i+1)):=by
 have e:IntKind.wrap .i64 ((i:Int)+1)=((i+1:Nat):Int):=w1 h (by omega)
 refine ⟨?_,by rw[e]; exact cut_drop (by omega),cut_take (by omega),?_,?_,?_⟩
 ·unfold delL
  rw[e,if_pos ⟨by omega,by omega,by omega⟩]
  rfl
 ·have:=appN (l:=([]:List Parcel)) (m:=w.drop (i+1)) (by simp; omega); simpa using this
 ·have:=appN (l:=([]:List Parcel)) (m:=w.take i) (by simp; omega); simpa using this
 ·exact appN (by simp; omega)

theorem Wir.del {w:List Parcel} (h:Wir v w) (i:Nat):Wir v (w.take i++w.drop (i+1)):=by
 refine ⟨by have:=h.1; simp; omega,fun p hp=>?_⟩
 rcases List.mem_append.1 hp with hp | hp
 ·exact h.2 p (List.mem_of_mem_take hp)
 ·exact h.2 p (List.mem_of_mem_drop hp)

/-- A deed is done. -/
theorem do_eq (hv:SOk v) {d s:Desk} (hd:Dok v d) (hs:Dok v s) {w:List Parcel} (hw:Wir v w) {x:Deed} (hx:Dd x):∃ code d2 s2 w2,Dok v d2∧Dok v s2∧Wir v w2 ∧
  spec_l08Run_do_F1 v d.Read d.State d.Stack d.Waiting s.Read s.State s.Stack s.Waiting w x=some (code,d2.Read,d2.State,d2.Stack,d2.Waiting,s2.Read,s2.State,s2.Stack,s2.Waiting,w2) ∧
  impl_works_do_K10 d.Read d.State d.Stack d.Waiting s.Read s.State s.Stack s.Waiting w v.Checker.Stack v.Checker.Start v.Checker.Accept v.Checker.Call v.Checker.Return v.Checker.Inner v.Pieces x=some (code,d2.Waiting,s2.Waiting,w2,d2.Read,d2.State,d2.Stack,s2.Read,s2.State,s2.Stack):=by
 obtain ⟨K,A,B⟩:=x
 obtain ⟨k1,k6,a0,a9,b0,b9⟩:=hx
 simp only at k1 k6 a0 a9 b0 b9
 have hn:=hv.n
 have hdl:=hd.sl hv
 have hdw:=hd.wl hv
 have hsl:=hs.sl hv
 have hsw:=hs.wl hv
 unfold spec_l08Run_do_F1 impl_works_do_K10
 by_cases h1:K=1
 ·subst h1
  unfold spec_l08Run_do_F1_J1 impl_works_do_K10_J1 impl_size_string
  by_cases h2:A>B∨B≥(v.Pieces.length:Int)
  ·refine ⟨2,d,s,w,hd,hs,hw,?_,?_⟩
   ·have:((decide ((A:Int)>B))||(decide ((B:Int)≥(v.Pieces.length:Int))))=true:=by
     rw[Bool.or_eq_true,decide_eq_true_eq,decide_eq_true_eq]; exact h2
    simp[this]
   ·by_cases h3:A>B
    ·simp[h3]
    ·have h4:=h2.resolve_left h3
     simp[h3,h4]
  ·have h3:¬ A>B:=fun h=>h2 (.inl h)
   have h4:¬ B≥(v.Pieces.length:Int):=fun h=>h2 (.inr h)
   by_cases h5:w.length=12
   ·exact ⟨3,d,s,w,hd,hs,hw,by simp[h3,h4,h5],by simp[h3,h4,h5]⟩
   ·have hb1:IntKind.wrap .i64 (B+1)=B+1:=w64 (by omega) (by omega)
    have hc:cut v.Pieces A (B+1)=some ((v.Pieces.drop A.toNat).take ((B+1).toNat - A.toNat)):=by
     unfold cut; rw[if_pos ⟨a0,by omega,by omega⟩]
    have hcl:((v.Pieces.drop A.toNat).take ((B+1).toNat - A.toNat)).length=(B+1).toNat - A.toNat:=by simp; omega
    generalize hL:(v.Pieces.drop A.toNat).take ((B+1).toNat - A.toNat)=L at hc hcl
    have ha1:app ([]:List (List UInt8)) L=some L:=by
     have:=appN (l:=([]:List (List UInt8))) (m:=L) (by simp; omega); simpa using this
    have hwl:=hw.1
    have ha2:app w [(⟨A,L⟩:Parcel)]=some (w++[⟨A,L⟩]):=appN (by simp; omega)
    have h5':¬ ((w.length:Int)=12):=by omega
    refine ⟨0,d,s,w++[⟨A,L⟩],hd,hs,⟨by simp; omega,fun p hp=>?_⟩,?_,?_⟩
    ·rcases List.mem_append.1 hp with hp | hp
     ·exact hw.2 p hp
     ·rw[List.mem_singleton.1 hp]
      exact ⟨a0,by simp only; omega⟩
    ·simp[h3,h4,h5',hb1,hc,ha1,ha2]
    ·simp[h3,h4,h5',hb1,hc,ha2]
 ·by_cases h5:K=5
  ·subst h5
   unfold spec_l08Run_do_F1_J1 impl_works_do_K10_J1 spec_l08Copy_F1 impl_Desk_copied_K1
   refine ⟨0,d,d,w,hd,hd,hw,?_,?_⟩
   ·simp[own_eq (show d.Stack.length≤2097152 by omega),own_eq (show d.Waiting.length≤2097152 by omega)]
   ·simp[clone_eq (show d.Stack.length≤2097152 by omega),clone_eq (show d.Waiting.length≤2097152 by omega)]
  ·by_cases h6:K=6
   ·subst h6
    unfold spec_l08Run_do_F1_J1 impl_works_do_K10_J1 spec_l08Copy_F2 impl_Desk_copied_K1
    refine ⟨0,s,s,w,hs,hs,hw,?_,?_⟩
    ·simp[own_eq (show s.Stack.length≤2097152 by omega),own_eq (show s.Waiting.length≤2097152 by omega)]
    ·simp[clone_eq (show s.Stack.length≤2097152 by omega),clone_eq (show s.Waiting.length≤2097152 by omega)]
   ·unfold spec_l08Run_wire_F1 impl_size_impl_Parcel
    by_cases hA:A≥(w.length:Int)
    ·refine ⟨2,d,s,w,hd,hs,hw,?_,?_⟩
     ·simp[h1,h5,h6,hA]
     ·simp[h1,h5,h6,hA]
    ·obtain ⟨i,rfl⟩:∃ i:Nat,A=i:=⟨A.toNat,by omega⟩
     have hi:i<w.length:=by omega
     obtain ⟨e1,e2,e3,e4,e5,e6⟩:=del_eq hi hw.1
     have hxw:ix w (i:Int)=some w[i]:=ix_lit (List.getElem?_eq_getElem hi)
     have hpk:=hw.2 w[i] (List.getElem_mem hi)
     have hA':¬ w.length≤i:=by omega
     unfold spec_l08Run_wire_F1_J1 spec_l08Run_wire_F1_J2 impl_works_do_K10_J2 impl_works_do_K10_J1
     have hKs:K=2∨K=3∨K=4:=by omega
     rcases hKs with rfl | rfl | rfl
     ·obtain ⟨d2,c1,c2,c3⟩:=come_eq hv hd hpk s.Read s.State s.Stack s.Waiting w s.Read s.State s.Stack s.Waiting (w.take i++w.drop (i+1))
      refine ⟨0,d2,s,w.take i++w.drop (i+1),c1,hs,hw.del i,?_,?_⟩
      ·simp[hA',hxw,c2,e2,e3,e4,e5,e6]
      ·simp[hA',hxw,c3,e1]
     ·obtain ⟨d2,c1,c2,c3⟩:=come_eq hv hd hpk s.Read s.State s.Stack s.Waiting w s.Read s.State s.Stack s.Waiting w
      refine ⟨0,d2,s,w,c1,hs,hw,?_,?_⟩
      ·simp[hA',hxw,c2]
      ·simp[hA',hxw,c3]
     ·refine ⟨0,d,s,w.take i++w.drop (i+1),hd,hs,hw.del i,?_,?_⟩
      ·simp[hA',hxw,e2,e3,e4,e5,e6]
      ·simp[hA',hxw,e1]

/-- How many codes are 0. -/
def dones (l:List Int):Int:=((l.filter (· == 0)).length:Int)

/-- All deeds are done. -/
theorem play_eq (hv:SOk v) {deeds:List Deed} (hl:deeds.length≤300) (hx:∀ x∈deeds,Dd x):∃ d s w codes,Dok v d∧Dok v s∧Wir v w∧codes.length=deeds.length ∧
  spec_l08Play_K00 v deeds=some (⟨v,⟨d,s,w⟩⟩,codes)∧impl_after_K00 v deeds=some (⟨⟨d,s,w⟩,v⟩,dones codes):=by
 have key:∀ (k i:Nat) (d s:Desk) (w:List Parcel) (codes:List Int),i+k=deeds.length→codes.length=i→Dok v d→Dok v s→Wir v w→∃ d2 s2 w2 codes2,Dok v d2∧Dok v s2∧Wir v w2∧codes2.length=deeds.length ∧
   loop (spec_l08Play_K00_S1 v deeds) (d.Read,d.State,d.Stack,d.Waiting,s.Read,s.State,s.Stack,s.Waiting,w,codes,(i:Int))=some (⟨v,⟨d2,s2,w2⟩⟩,codes2) ∧
   loop (impl_after_K00_S1 deeds ⟨⟨⟨0,v.Checker.Start,[],[]⟩,⟨0,v.Checker.Start,[],[]⟩,[]⟩,v⟩) (d.Read,d.State,d.Stack,d.Waiting,s.Read,s.State,s.Stack,s.Waiting,w,dones codes,(i:Int))=some (⟨⟨d2,s2,w2⟩,v⟩,dones codes2):=by
  intro k
  induction k with
  | zero =>
   intro i d s w codes hi hc hd hs hw
   obtain rfl:i=deeds.length:=by omega
   refine ⟨d,s,w,codes,hd,hs,hw,hc,loop_R ?_,loop_R ?_⟩
   ·unfold spec_l08Play_K00_S1 spec_l08Play_K00_J1; simp
   ·unfold impl_after_K00_S1 impl_after_K00_J1; simp
  | succ k ih =>
   intro i d s w codes hi hc hd hs hw
   have hlt:i<deeds.length:=by omega
   obtain ⟨code,d2,s2,w2,q1,q2,q3,q4,q5⟩:=do_eq hv hd hs hw (hx deeds[i] (List.getElem_mem hlt))
   obtain ⟨d3,s3,w3,codes3,r1,r2,r3,r4,r5,r6⟩:=ih (i+1) d2 s2 w2 (codes++[code]) (by omega) (by simp[hc]) q1 q2 q3
   have hxi:ix deeds (i:Int)=some deeds[i]:=ix_lit (List.getElem?_eq_getElem hlt)
   have hwi:IntKind.wrap .i64 ((i:Int)+1)=((i+1:Nat):Int):=w1 hlt (by omega)
   refine ⟨d3,s3,w3,codes3,r1,r2,r3,r4,?_,?_⟩
   ·rw[loop_L (s':=(d2.Read,d2.State,d2.Stack,d2.Waiting,s2.Read,s2.State,s2.Stack,s2.Waiting,w2,codes++[code],((i+1:Nat):Int)))]
    ·exact r5
    ·unfold spec_l08Play_K00_S1
     simp only[ltT hlt,if_true,hxi,Option.bind_some,q4,appN (l:=codes) (m:=[code]) (by simp; omega),hwi]
   ·rw[loop_L (s':=(d2.Read,d2.State,d2.Stack,d2.Waiting,s2.Read,s2.State,s2.Stack,s2.Waiting,w2,dones (codes++[code]),((i+1:Nat):Int)))]
    ·exact r6
    ·unfold impl_after_K00_S1 impl_after_K00_J2
     simp only[ltT hlt,if_true,hxi,Option.bind_some,q5,hwi]
     by_cases h0:code=0
     ·subst h0
      have:IntKind.wrap .i64 (dones codes+1)=dones (codes++[0]):=by
       have hle:=List.length_filter_le (· == (0:Int)) codes
       unfold dones
       rw[w64 (by omega) (by omega)]
       simp
      simp[this]
     ·have:dones (codes++[code])=dones codes:=by unfold dones; simp[h0]
      simp[h0,this]
 have h0:Dok v ⟨0,v.Checker.Start,[],[]⟩:=by
  refine ⟨Int.le_refl _,?_,hv.chk.s1,hv.chk.s2,?_,?_,⟨List.Pairwise.nil,?_,?_⟩⟩
  ·show (0:Int)≤_; omega
  ·intro y hy; cases hy
  ·show ((0:Nat):Int)≤60*0; omega
  ·intro y hy; cases hy
  ·intro y hy; cases hy
 obtain ⟨d,s,w,codes,r1,r2,r3,r4,r5,r6⟩:=key deeds.length 0 _ _ [] [] (by omega) rfl h0 h0 ⟨by simp,by intro p hp; cases hp⟩
 exact ⟨d,s,w,codes,r1,r2,r3,r4,by unfold spec_l08Play_K00 spec_l08Begin_K0; exact r5,by unfold impl_after_K00 impl_newWorks_K0; exact r6⟩
end Go.Proofs.YtbmjcddendnniaaGreat.law
namespace Go.Proofs.YtbmjcddendnniaaGreat.law
open Go Go.Proofs Ae
set_option maxRecDepth 100000
variable {v:Stream}

theorem word60 {w:List UInt8} (hl:w.length≤1048576) (h:spec_l01Ok w=some true):w.length≤60:=by
 unfold spec_l01Ok at h
 have hst:=loop_true (step:=spec_l01Ok_S1 w) (n:=w.length) (rt:=true) (fun i y hi hy=>by
  unfold spec_l01Ok_S1 at hy
  rw[if_pos (ltT hi),chr_nat' hi,Option.bind_some,sym_ix,Option.bind_some,w1 hi (by omega)] at hy
  split at hy
  ·cases hy; exact .inr ⟨false,rfl,by simp⟩
  ·cases hy; exact .inl rfl)
 have hst:=hst w.length 0 (by omega) h
 have hend:∀ (k i:Nat),i+k=w.length→loop (spec_l01Ok_S1 w) (i:Int)=some (decide ((w.length:Int)≤60)):=by
  intro k
  induction k with
  | zero =>
   intro i hi
   obtain rfl:i=w.length:=by omega
   exact loop_R (by unfold spec_l01Ok_S1 spec_l01Ok_J1; simp)
  | succ k ih =>
   intro i hi
   rw[loop_L (hst i (by omega) (by omega))]
   exact ih (i+1) (by omega)
 have h2:=hend w.length 0 (by omega)
 have h3:loop (spec_l01Ok_S1 w) ((0:Nat):Int)=some true:=h
 rw[h2] at h3
 have h4:decide ((w.length:Int)≤60)=true:=Option.some.inj h3
 have:=of_decide_eq_true h4
 omega

theorem sok_of (h:smStream v) (hk:spec_l08Ok v=some true):SOk v:=by
 obtain ⟨b,_,h2,h3⟩:=stream_ok h
 rw[hk] at h2
 cases h2
 have hn:=h3 rfl
 have hp:=h.2
 unfold spec_l08Ok at hk
 simp only[Option.bind_eq_some_iff] at hk
 obtain ⟨c,hc,b2,hb2,hk⟩:=hk
 cases c with
 | false=>simp at hb2; subst hb2; simp at hk
 | true =>
  cases b2 with
  | true=>simp at hk
  | false =>
   simp only[Bool.false_eq_true,if_false] at hk
   refine ⟨chk_V h.1 hc,hn,?_⟩
   have hst:=loop_true (step:=spec_l08Ok_S1 v) (n:=v.Pieces.length) (rt:=true) (fun i y hi hy=>by
    unfold spec_l08Ok_S1 at hy
    rw[if_pos (ltT hi),ix_lit (List.getElem?_eq_getElem hi),Option.bind_some,w1 hi (by omega)] at hy
    rw[Option.bind_eq_some_iff] at hy
    obtain ⟨q,_,hy⟩:=hy
    split at hy
    ·cases hy; exact .inr ⟨false,rfl,by simp⟩
    ·cases hy; exact .inl rfl)
   have hst:=hst v.Pieces.length 0 (by omega) hk
   intro p hpm
   obtain ⟨i,hi,rfl⟩:=List.getElem_of_mem hpm
   have h1:=hst i (by omega) hi
   unfold spec_l08Ok_S1 at h1
   rw[if_pos (ltT hi),ix_lit (List.getElem?_eq_getElem hi),Option.bind_some,Option.bind_eq_some_iff] at h1
   obtain ⟨q,hq,h1⟩:=h1
   cases q with
   | false=>simp at h1
   | true =>
    have hlen:v.Pieces[i].length≤1048576:=hp.2 _ hpm
    exact ⟨word60 hlen hq,word_ok hlen hq⟩

instance (d:Deed):Decidable (Dd d):=by unfold Dd; exact inferInstance
def vd (d:Deed):Bool:=decide (Dd d)&&((d.Kind == 1)||(((d.Kind == 2)||(d.Kind == 3)||(d.Kind == 4)||(d.A == 0))&&(d.B == 0)))

theorem deed_tot (d:Deed):spec_l08Deed d=some (vd d)∧impl_ValidDeed d=some (vd d):=by
 obtain ⟨K,A,B⟩:=d
 have hA:(∃ a,(decide (A≥0)&&decide (A≤999))=a):=⟨_,rfl⟩
 unfold spec_l08Deed impl_ValidDeed impl_deedWord impl_within spec_l00In spec_l08Words vd Dd
 by_cases hk:1≤K∧K≤6
 ·have hK:K=1∨K=2∨K=3∨K=4∨K=5∨K=6:=by omega
  by_cases ha:0≤A∧A≤999
  ·by_cases hb:0≤B∧B≤999
   ·obtain ⟨a1,a2⟩:=ha
    obtain ⟨b1,b2⟩:=hb
    rcases hK with rfl | rfl | rfl | rfl | rfl | rfl<;>simp[a1,a2,b1,b2,ix]
    all_goals (by_cases h0:A=0<;>simp[h0])
   ·have hb':(decide (B≥0)&&decide (B≤999))=false:=by
     rw[Bool.and_eq_false_iff,decide_eq_false_iff_not,decide_eq_false_iff_not]; omega
    obtain ⟨a1,a2⟩:=ha
    rcases hK with rfl | rfl | rfl | rfl | rfl | rfl<;>simp[a1,a2,hb',hb]
  ·have ha':(decide (A≥0)&&decide (A≤999))=false:=by
    rw[Bool.and_eq_false_iff,decide_eq_false_iff_not,decide_eq_false_iff_not]; omega
   have ha2:¬ (0≤A∧A≤999∧0≤B∧B≤999):=fun h=>ha ⟨h.1,h.2.1⟩
   rcases hK with rfl | rfl | rfl | rfl | rfl | rfl<;>simp[ha',ha2]
 ·have hk':(decide (K≥1)&&decide (K≤6))=false:=by
   rw[Bool.and_eq_false_iff,decide_eq_false_iff_not,decide_eq_false_iff_not]; omega
  have hk2:¬ (1≤K∧K≤6∧0≤A∧A≤999∧0≤B∧B≤999):=fun h=>hk ⟨h.1,h.2.1⟩
  have h1:¬ K=1:=by omega
  have h2:¬ K=2:=by omega
  have h3:¬ K=3:=by omega
  have h4:¬ K=4:=by omega
  have h5:¬ K=5:=by omega
  have h6:¬ K=6:=by omega
  simp[hk',hk2,h1,h2,h3,h4,h5,h6]

theorem vd_dd {d:Deed} (h:vd d=true):Dd d:=by
 unfold vd at h
 rw[Bool.and_eq_true,decide_eq_true_eq] at h
 exact h.1

theorem containsD {l:List Deed} (h:l.length≤1048576) (f:Deed→Option Bool) (p:Deed→Bool) (hf:∀ x∈l,f x=some (p x)):slices_ContainsFunc_simpl_Deed_impl_Deed l f=some (l.any p):=by
 unfold slices_ContainsFunc_simpl_Deed_impl_Deed slices_IndexFunc_simpl_Deed_impl_Deed
 rw[loop_find (l:=l) p (loop_R (by unfold slices_IndexFunc_simpl_Deed_impl_Deed_S1; rw[if_neg (by simp)]; rfl)) fun i x hx=>by
  have hlt:=(List.getElem?_eq_some_iff.1 hx).1
  unfold slices_IndexFunc_simpl_Deed_impl_Deed_S1
  rw[if_pos (ltT hlt),ix_lit hx,Option.bind_some,hf x (List.mem_of_getElem? hx),Option.bind_some,w1 hlt (by omega)]]
 rw[Option.bind_some,fst?_any]

/-- A stream and deeds are looked at. -/
theorem asked_eq (h:smStream v) {deeds:List Deed} (hl:deeds.length≤1048576):∃ c,spec_l08Asked v deeds=some c∧impl_deedsCode v deeds=some c∧(c=0→SOk v∧deeds.length≤300∧∀ x∈deeds,Dd x):=by
 obtain ⟨b,h1,h2,h3⟩:=stream_ok h
 unfold spec_l08Asked impl_deedsCode
 rw[h1,h2]
 cases b with
 | false=>exact ⟨1,by simp,by simp,by omega⟩
 | true =>
  have hc:=containsD hl (fun x=>impl_deedsCode_1 x) (fun x=>!(vd x)) (fun x _=>by unfold impl_deedsCode_1; rw[(deed_tot x).2]; rfl)
  have hlp:=loop_allL (l:=deeds) (step:=spec_l08Asked_S1 deeds) (p:=fun x=>vd x) (rt:=some (if deeds.length>300 then 2 else 0)) (rf:=(1:Int)) (loop_R (by
   unfold spec_l08Asked_S1 spec_l08Asked_J1
   rw[if_neg (by simp)]
   by_cases h300:deeds.length>300
   ·simp[h300]; omega
   ·simp[h300]; omega)) fun i x hx=>by
   have hlt:=(List.getElem?_eq_some_iff.1 hx).1
   unfold spec_l08Asked_S1
   rw[if_pos (ltT hlt),ix_lit hx,Option.bind_some,(deed_tot x).1,Option.bind_some,w1 hlt (by omega)]
   cases vd x<;>rfl
  simp only[Option.bind_some,Bool.not_true,Bool.false_eq_true,if_false,hc,hlp]
  by_cases ha:deeds.all (fun x=>vd x)=true
  ·have hany:deeds.any (fun x=>!(vd x))=false:=by
    rw[List.any_eq_false]
    intro x hx
    have:=List.all_eq_true.1 ha x hx
    simp[this]
   refine ⟨if deeds.length>300 then 2 else 0,by rw[if_pos ha],?_,fun h0=>⟨sok_of h h2,?_,fun x hx=>vd_dd (List.all_eq_true.1 ha x hx)⟩⟩
   ·rw[hany]
    by_cases h300:deeds.length>300
    ·simp[h300]; omega
    ·simp[h300]; omega
   ·by_cases h300:deeds.length>300
    ·rw[if_pos h300] at h0; cases h0
    ·omega
  ·have hany:deeds.any (fun x=>!(vd x))=true:=by
    rw[List.any_eq_true]
    have:¬ ∀ x∈deeds,vd x=true:=fun h=>ha (List.all_eq_true.2 h)
    rw[Classical.not_forall] at this
    obtain ⟨x,hx⟩:=this
    rw[Classical.not_imp] at hx
    exact ⟨x,hx.1,by simpa using hx.2⟩
   refine ⟨1,by rw[if_neg ha],?_,by omega⟩
   rw[hany]; simp

/-- What is missing. -/
theorem missing_eq (hv:SOk v) {d:Desk} (hd:Dok v d):∃ r,loop (spec_l08Run_missing_F1_S1 v d.Waiting) (([]:List Int),d.Read)=some r ∧
  loop (impl_works_missing_K1_S1 d.Waiting v.Pieces) (([]:List Int),d.Read)=some r∧r.length≤20:=by
 have hn:=hv.n
 have hw:=hd.wl hv
 have key:∀ (m:Nat) (k:Int) (out:List Int),k+m=v.Pieces.length→0≤k→(out.length:Int)≤k→∃ r,loop (spec_l08Run_missing_F1_S1 v d.Waiting) (out,k)=some r ∧
   loop (impl_works_missing_K1_S1 d.Waiting v.Pieces) (out,k)=some r∧r.length≤20:=by
  intro m
  induction m with
  | zero =>
   intro k out hk h0 ho
   have hf:¬ (k<(v.Pieces.length:Int)):=by omega
   refine ⟨out,loop_R ?_,loop_R ?_,by omega⟩
   ·unfold spec_l08Run_missing_F1_S1 spec_l08Run_missing_F1_J1; simp[hf]
   ·unfold impl_works_missing_K1_S1 impl_works_missing_K1_J1 impl_size_string; simp[hf]
  | succ m ih =>
   intro k out hk h0 ho
   have ht:k<(v.Pieces.length:Int):=by omega
   have hwi:IntKind.wrap .i64 (k+1)=k+1:=w64 (by omega) (by omega)
   by_cases hm:k∈d.Waiting
   ·obtain ⟨r,h1,h2,h3⟩:=ih (k+1) out (by omega) (by omega) (by omega)
    refine ⟨r,?_,?_,h3⟩
    ·rw[loop_L (s':=(out,k+1))]
     ·exact h1
     ·unfold spec_l08Run_missing_F1_S1 spec_l08Run_missing_F1_J2
      simp[ht,has_eq (l:=d.Waiting) (by omega),hm,hwi]
    ·rw[loop_L (s':=(out,k+1))]
     ·exact h2
     ·unfold impl_works_missing_K1_S1 impl_works_missing_K1_J2 impl_size_string
      simp[ht,contains_eq (l:=d.Waiting) (by omega),hm,hwi]
   ·obtain ⟨r,h1,h2,h3⟩:=ih (k+1) (out++[k]) (by omega) (by omega) (by simp; omega)
    have ha:app out [k]=some (out++[k]):=appN (by simp; omega)
    refine ⟨r,?_,?_,h3⟩
    ·rw[loop_L (s':=(out++[k],k+1))]
     ·exact h1
     ·unfold spec_l08Run_missing_F1_S1 spec_l08Run_missing_F1_J2
      simp[ht,has_eq (l:=d.Waiting) (by omega),hm,hwi,ha]
    ·rw[loop_L (s':=(out++[k],k+1))]
     ·exact h2
     ·unfold impl_works_missing_K1_S1 impl_works_missing_K1_J2 impl_size_string
      simp[ht,contains_eq (l:=d.Waiting) (by omega),hm,hwi,ha]
 have h0:=hd.r0
 have h1:=hd.r1
 exact key (v.Pieces.length - d.Read.toNat) d.Read [] (by omega) h0 (by simpa using h0)

theorem j2_eq {deeds out:List Deed} (hl:deeds.length≤300) (ho:out.length≤100):∃ b c,spec_FinishDeeds_J2 deeds out=some (b,c)∧impl_FinishDeeds_K00_J2 deeds out=some (b,c)∧b.length≤101:=by
 have e:impl_FinishDeeds_K00_J2 deeds out=spec_FinishDeeds_J2 deeds out:=rfl
 rw[e]
 unfold spec_FinishDeeds_J2
 rw[appN (by simp; omega),Option.bind_some]
 split
 ·exact ⟨[],3,rfl,rfl,by simp⟩
 ·exact ⟨_,0,rfl,rfl,by simp; omega⟩

theorem s1_eq {deeds:List Deed} (hl:deeds.length≤300) {y:List Int} (hy:y.length≤20):∀ (m i:Nat) (out:List Deed),i+m=y.length→out.length≤20+2*i→∃ b c,loop (spec_FinishDeeds_S1 deeds y) (out,(i:Int))=some (b,c)∧loop (impl_FinishDeeds_K00_S1 deeds y) (out,(i:Int))=some (b,c)∧b.length≤101:=by
 intro m
 induction m with
 | zero =>
  intro i out hi ho
  obtain rfl:i=y.length:=by omega
  obtain ⟨b,c,h1,h2,h3⟩:=j2_eq hl (out:=out) (by omega)
  refine ⟨b,c,loop_R ?_,loop_R ?_,h3⟩
  ·unfold spec_FinishDeeds_S1; simp[h1]
  ·unfold impl_FinishDeeds_K00_S1; simp[h2]
 | succ m ih =>
  intro i out hi ho
  have hlt:i<y.length:=by omega
  have hx:ix y (i:Int)=some y[i]:=ix_lit (List.getElem?_eq_getElem hlt)
  have hwi:IntKind.wrap .i64 ((i:Int)+1)=((i+1:Nat):Int):=w1 hlt (by omega)
  obtain ⟨b,c,h1,h2,h3⟩:=ih (i+1) (out++[⟨1,y[i],y[i]⟩,⟨2,0,0⟩]) (by omega) (by simp; omega)
  have ha:app out [(⟨1,y[i],y[i]⟩:Deed),⟨2,0,0⟩]=some (out++[⟨1,y[i],y[i]⟩,⟨2,0,0⟩]):=appN (by simp; omega)
  refine ⟨b,c,?_,?_,h3⟩
  ·rw[loop_L (s':=(out++[⟨1,y[i],y[i]⟩,⟨2,0,0⟩],((i+1:Nat):Int)))]
   ·exact h1
   ·unfold spec_FinishDeeds_S1; simp only[ltT hlt,if_true,hx,Option.bind_some,ha,hwi]
  ·rw[loop_L (s':=(out++[⟨1,y[i],y[i]⟩,⟨2,0,0⟩],((i+1:Nat):Int)))]
   ·exact h2
   ·unfold impl_FinishDeeds_K00_S1; simp only[ltT hlt,if_true,hx,Option.bind_some,ha,hwi]

theorem s2_eq (hv:SOk v) {deeds:List Deed} (hl:deeds.length≤300) {d s:Desk} (hd:Dok v d) {w:List Parcel} (hw:w.length≤12) (codes:List Int) (n:Int):∀ (m i:Nat) (out:List Deed),i+m=w.length→out.length≤i→∃ b c,
  loop (spec_FinishDeeds_S2 v deeds (⟨v,⟨d,s,w⟩⟩,codes)) (out,(m:Int))=some (b,c)∧loop (impl_FinishDeeds_K00_S2 deeds (⟨⟨d,s,w⟩,v⟩,n)) (out,(i:Int))=some (b,c)∧b.length≤101:=by
 intro m
 induction m with
 | zero =>
  intro i out hi ho
  obtain rfl:i=w.length:=by omega
  obtain ⟨r,m1,m2,m3⟩:=missing_eq hv hd
  obtain ⟨b,c,h1,h2,h3⟩:=s1_eq hl m3 r.length 0 out (by omega) (by omega)
  have h1':loop (spec_FinishDeeds_S1 deeds r) (out,0)=some (b,c):=h1
  have h2':loop (impl_FinishDeeds_K00_S1 deeds r) (out,0)=some (b,c):=h2
  refine ⟨b,c,loop_R ?_,loop_R ?_,h3⟩
  ·unfold spec_FinishDeeds_S2 spec_FinishDeeds_J1 spec_l08Run_missing_F1; simp[m1,h1']
  ·unfold impl_FinishDeeds_K00_S2 impl_FinishDeeds_K00_J1 impl_works_missing_K1; simp[m2,h2']
 | succ m ih =>
  intro i out hi ho
  have hlt:i<w.length:=by omega
  have hwi:IntKind.wrap .i64 ((i:Int)+1)=((i+1:Nat):Int):=w1 hlt (by omega)
  have hwm:IntKind.wrap .i64 (((m+1:Nat):Int) - 1)=(m:Int):=by rw[w64 (by omega) (by omega)]; omega
  have hm0:decide (((m+1:Nat):Int)>0)=true:=decide_eq_true (by omega)
  obtain ⟨b,c,h1,h2,h3⟩:=ih (i+1) (out++[⟨4,0,0⟩]) (by omega) (by simp; omega)
  have ha:app out [(⟨4,0,0⟩:Deed)]=some (out++[⟨4,0,0⟩]):=appN (by simp; omega)
  refine ⟨b,c,?_,?_,h3⟩
  ·rw[loop_L (s':=(out++[⟨4,0,0⟩],(m:Int)))]
   ·exact h1
   ·unfold spec_FinishDeeds_S2; simp only[hm0,if_true,Option.bind_some,ha,hwm]
  ·rw[loop_L (s':=(out++[⟨4,0,0⟩],((i+1:Nat):Int)))]
   ·exact h2
   ·unfold impl_FinishDeeds_K00_S2; simp only[ltT hlt,if_true,Option.bind_some,ha,hwi]

theorem fin_eq (h:smStream v) {deeds:List Deed} (hl:deeds.length≤1048576):∃ (b:List Deed) (code:Int),spec_FinishDeeds v deeds=some (b,code)∧impl_FinishDeeds_K00 v deeds=some (b,code)∧b.length≤101:=by
 obtain ⟨c,h1,h2,h3⟩:=asked_eq h hl
 unfold spec_FinishDeeds impl_FinishDeeds_K00
 rw[h1,h2]
 by_cases h0:c=0
 ·subst h0
  obtain ⟨q1,q2,q3⟩:=h3 rfl
  obtain ⟨d,s,w,codes,d1,_,d3,_,r1,r2⟩:=play_eq q1 q2 q3
  obtain ⟨b,c,e1,e2,e3⟩:=s2_eq q1 q2 (s:=s) d1 d3.1 codes (dones codes) w.length 0 [] (by omega) (by simp)
  have e2':loop (impl_FinishDeeds_K00_S2 deeds (⟨⟨d,s,w⟩,v⟩,dones codes)) ([],0)=some (b,c):=e2
  refine ⟨b,c,?_,?_,e3⟩
  ·simp[r1,e1]
  ·simp[r2,e2']
 ·exact ⟨[],c,by simp[h0],by simp[h0],by simp⟩

def dk (j:Nat):Deed:=⟨1+3*j,2+3*j,3+3*j⟩
theorem mkD {n:Nat} (hn:n≤1000):∀ (m i:Nat) (M:List Deed),i+m=n→M.length=n→(∀ j,j<i→M[j]?=some (dk j))→∃ L,loop laws_markDeedS_K10_S1 (M,1+3*(i:Int),(i:Int))=some (1+3*(n:Int),L)∧L.length=n∧∀ j,j<n→L[j]?=some (dk j):=by
 intro m
 induction m with
 | zero =>
  intro i M hi hM hj
  obtain rfl:i=n:=by omega
  refine ⟨M,loop_R ?_,hM,hj⟩
  unfold laws_markDeedS_K10_S1 laws_markDeedS_K10_J1
  simp[hM]
 | succ m ih =>
  intro i M hi hM hj
  have hlt:i<M.length:=by omega
  have hx:ix M (i:Int)=some M[i]:=ix_lit (List.getElem?_eq_getElem hlt)
  have hwi:IntKind.wrap .i64 ((i:Int)+1)=((i+1:Nat):Int):=w1 hlt (by omega)
  have w1':IntKind.wrap .i64 (1+3*(i:Int)+1)=2+3*i:=by rw[w64 (by omega) (by omega)]; omega
  have w2':IntKind.wrap .i64 (2+3*(i:Int)+1)=3+3*i:=by rw[w64 (by omega) (by omega)]; omega
  have w3':IntKind.wrap .i64 (3+3*(i:Int)+1)=1+3*((i+1:Nat):Int):=by rw[w64 (by omega) (by omega)]; omega
  obtain ⟨L,h1,h2,h3⟩:=ih (i+1) (M.set i (dk i)) (by omega) (by simp[hM]) (fun j hji=>by
   by_cases hji':j=i
   ·subst hji'; rw[List.getElem?_set_self hlt]
   ·rw[List.getElem?_set_ne (by omega)]; exact hj j (by omega))
  refine ⟨L,?_,h2,h3⟩
  rw[loop_L (s':=(M.set i (dk i),1+3*((i+1:Nat):Int),((i+1:Nat):Int)))]
  ·exact h1
  ·unfold laws_markDeedS_K10_S1
   simp only[ltT hlt,if_true,hx,Option.bind_some,w1',w2',w3',hwi,Int.toNat_natCast,List.set_set]
   rfl

theorem hdD {n:Nat} (hn:n≤1000) {L:List Deed} (hL:L.length=n) (hj:∀ j,j<n→L[j]?=some (dk j)):∀ (m i:Nat),i+m=n→loop (laws_heldDeedS_S1 L) (1+3*(i:Int),(i:Int))=some (1+3*(n:Int)):=by
 intro m
 induction m with
 | zero =>
  intro i hi
  obtain rfl:i=n:=by omega
  refine loop_R ?_
  unfold laws_heldDeedS_S1 laws_heldDeedS_J1
  simp[hL]
 | succ m ih =>
  intro i hi
  have hlt:i<L.length:=by omega
  have hx:ix L (i:Int)=some (dk i):=ix_lit (hj i (by omega))
  have hwi:IntKind.wrap .i64 ((i:Int)+1)=((i+1:Nat):Int):=w1 hlt (by omega)
  have w1':IntKind.wrap .i64 (1+3*(i:Int)+1)=2+3*i:=by rw[w64 (by omega) (by omega)]; omega
  have w2':IntKind.wrap .i64 (2+3*(i:Int)+1)=3+3*i:=by rw[w64 (by omega) (by omega)]; omega
  have w3':IntKind.wrap .i64 (3+3*(i:Int)+1)=1+3*((i+1:Nat):Int):=by rw[w64 (by omega) (by omega)]; omega
  rw[loop_L (s':=(1+3*((i+1:Nat):Int),((i+1:Nat):Int)))]
  ·exact ih (i+1) (by omega)
  ·unfold laws_heldDeedS_S1
   simp only[ltT hlt,if_true,hx,Option.bind_some,w1',w2',w3',hwi]
   simp[dk]

theorem mark_held {b:List Deed} (hb:b.length≤1000):∃ L,laws_markDeedS_K10 b 1=some (1+3*(b.length:Int),L)∧laws_heldDeedS L 1=some (1+3*(b.length:Int)):=by
 obtain ⟨L,h1,h2,h3⟩:=mkD hb b.length 0 b (by omega) rfl (fun j hj=>by omega)
 have h4:=hdD hb h2 h3 b.length 0 (by omega)
 exact ⟨L,h1,h4⟩

theorem law_FinishDeeds {v:Stream} (h:bStream v) {deeds:List Deed} (hd:(bL bDeed) deeds):laws_FnExactFinishDeeds v deeds=some true:=by
 unfold laws_FnExactFinishDeeds
 obtain ⟨r,h1,h2,h3⟩:=laws_szStream_sz h 1048576 (by omega) (by omega)
 rw[h1,Option.bind_some]
 split
 ·rfl
 ·rename_i hr
  have hs:smStream v:=by
   rcases h3 with h3 | h3
   ·exact absurd (decide_eq_true h3) hr
   ·exact h3.2
  have hr0:0≤r:=by rcases h3 with h3 | h3; exact absurd (decide_eq_true h3) hr; exact h3.1
  obtain ⟨r2,g1,g2,g3⟩:=laws_szDeedS_sz hd r hr0 (by omega)
  rw[g1,Option.bind_some]
  split
  ·rfl
  ·rename_i hr2
   have hs2:(smL smT) deeds:=by
    rcases g3 with g3 | g3
    ·exact absurd (decide_eq_true g3) hr2
    ·exact g3.2
   obtain ⟨b,code,q1,q2,q4⟩:=fin_eq hs (deeds:=deeds) hs2.1
   have hb:smL smT b:=⟨by omega,fun _ _=>trivial⟩
   obtain ⟨k,k1,k2,k3⟩:=markStream_mk hs (k:=1) (by omega) (by omega)
   obtain ⟨k4,k5,k6,_⟩:=laws_markDeedS_K10_mk hs2 k.1 (by omega) (by omega)
   obtain ⟨L,hm,hd⟩:=mark_held (b:=b) (by omega)
   have e1:decide (k4.1<0)=false:=by simp; omega
   have e2:decide ((1:Int)+3*b.length<0)=false:=by simp; omega
   rw[laws_toStream_to hs,Option.bind_some,laws_toDeedS_to hs2,Option.bind_some,q1,Option.bind_some,laws_toStream_K0_to hs,Option.bind_some,laws_toDeedS_K0_to hs2,Option.bind_some,q2,Option.bind_some,laws_eqDeedS_eq hb,Option.bind_some,
    if_neg (by simp),Option.bind_some,laws_eqStream_eq hs,Option.bind_some,if_neg (by simp),Option.bind_some,laws_eqDeedS_eq hs2,Option.bind_some,if_neg (by simp),k1,Option.bind_some,k5,Option.bind_some,if_neg (by rw[e1]; simp),Option.bind_some,Option.bind_some,if_neg (by simp),hm,Option.bind_some,hd,Option.bind_some,
    if_neg (by rw[e2]; simp),if_neg (by simp),Option.bind_some,Option.bind_some,q2,Option.bind_some,laws_eqDeedS_eq hb,Option.bind_some,if_neg (by simp),Option.bind_some,if_neg (by rw[e2]; simp),if_neg (by simp)]
end Go.Proofs.YtbmjcddendnniaaGreat.law
namespace Go.Proofs.YtbmjcddendnniaaGreat.law
open Go Go.Proofs Go.Shelf Go.RowKit Go.Lib Go.Sort
section
variable {P:Program} {ρ:Ren}

theorem wpList_append_none {w:World} {ops:Array Oper} {rest:List Oper} {o:Oper} {a:Act} {Q:Exit→Act→World→Prop} (hgd:o.guard=none) (s x:Operand) (t:TypeId)
  (ho:o.op=.call { callee:=.builtin .append,args:=#[s,x],argTypes:=#[t,t] }) {e:TypeId} {i:TypeInfo} (ht:P.underlying t=some (.slice e)) (hi:P.info? e=some i)
  (A ad:Addr) (c:Nat) (hs:a.eval s=.slice (some A) 0 0) (hx:a.eval x=.slice (some ad) 0 c) (h:wpList P ops Q rest (a.put o.dst (.slice (some A) 0 0)) w):wpList P ops Q (o::rest) a w:=by
 refine wpList_plain hgd fun K hK=>?_
 have hr:(Builtin.append_ #[t,t] o.type #[.slice (some A) 0 0,.slice (some ad) 0 c]).run P w=.ok (.slice (some A) 0 0) w:=by
  simp[Builtin.append_,run_underlying ht,Go.sizeOf,typeInfo,hi,Builtin.lenOf,Builtin.firstCells,loadCells,loadCellsFrom,storeCells]
 unfold Oper.wp execOp
 simp only[ho,resolve,invoke,builtin,Sem.run_bind,Sem.run_pure,Result.andThen_ok,List.map_toArray,List.map_cons,List.map_nil,hs,hx,hr]
 exact hK _ _ h

set_option maxHeartbeats 2000000 in
set_option maxRecDepth 100000 in
theorem clone_zero0 (L:SlLaysN.n41 P ρ) (a:Addr) (c:Nat) (w:World) :
  Calls P (ρ.f 41) #[.slice (some a) 0 c] w fun e w'=>∃ A,e=.returned (.slice (some A) 0 0)∧Below w.heap.size w w':=by
 have mixed:=L.mixed; have t4:=L.t4; have a4:=L.a4; have z4:=L.z4; have v4:=L.v4; have t22:=L.t22; have a22:=L.a22; have z22:=L.z22; have v22:=L.v22; have t23:=L.t23; have a23:=L.a23; have z23:=L.z23; have v23:=L.v23
 obtain ⟨i0,hi,hz0,hz1,hz2⟩:=info_parts L.i23
 have q22:∀ (w:World) (a:Option Addr) (n c n' c':Nat),(binOp .eql (ρ.t 22) (.slice a n c) (.slice none n' c')).run P w=.ok (.bool a.isNone) w:=fun w a n c n' c'=>Lib.run_eql_slice_nil w _ _ a n c n' c' L.t22
 have u22:∀ w,Sem.run P (underlying (ρ.t 22)) w=.ok (TypeDesc.slice (ρ.t 23)) w:=run_underlying t22
 obtain ⟨_,_,FG⟩:=L.f41
 go_enter FG,SlBodyN.n41_ntmps ρ
 go_wp2_with (at_builtin; refine wpList_append_none rfl _ _ (ρ.t 22) rfl t22 hi _ _ _ rfl rfl ?_)
 go_wp2
 go_ret
 refine ⟨_,rfl,?_⟩
 exact (Below.refl _ w).alloc (Nat.le_refl _) _
end

theorem run_clear2 {P:Program} (w:World) (t e ty:TypeId) (z:Value) (ht:P.underlying t=some (.slice e)) (hv:∀ w,(zeroValue e).run P w=.ok z w) (h1:∀ u∈z.cells.toList,u.oneCell'=true) (b o n c:Nat) (hn:0<n)
  (hc:∀ j,j<n*z.cells.size→(w.cell? ⟨b,o+j,none⟩).isSome=true) (hf:∀ j,j<n*z.cells.size→w.frozen? ⟨b,o+j,none⟩=false) :
  (Builtin.clear_ #[t] ty #[.slice (some ⟨b,o,none⟩) n c]).run P w=.ok (.tuple #[]) (w.setCells b o (Builtin.zeroCells z.cells n).toList):=by
 have hl:(Builtin.zeroCells z.cells n).toList.length=n*z.cells.size:=by simp[Builtin.zeroCells]
 have hst:=run_storeCells_cells (P:=P) b o (Builtin.zeroCells z.cells n).toList 0 w (by intro j hj; rw[Nat.add_zero]; exact hc j (by omega)) (by intro j hj; rw[Nat.add_zero]; exact hf j (by omega)) (by
  intro v hv'
  simp only[Builtin.zeroCells,Array.toList_map,Array.toList_range,List.mem_map,List.mem_range] at hv'
  obtain ⟨k,hk,rfl⟩:=hv'
  have hs:0<z.cells.size:=by
   rcases Nat.eq_zero_or_pos z.cells.size with h | h
   ·rw[h,Nat.mul_zero] at hk; omega
   ·exact h
  refine h1 _ ?_
  have hm:=Nat.mod_lt k hs
  rw[getElem!_pos z.cells (k % z.cells.size) hm]
  simp)
 simp only[Nat.add_zero] at hst
 obtain ⟨m,rfl⟩:∃ m,n=m+1:=⟨n - 1,by omega⟩
 simp[Builtin.clear_,run_underlying ht,hv,hst]

set_option maxHeartbeats 4000000 in
set_option maxRecDepth 1000000 in
theorem del_walk (blk off cap n i j:Nat) (cur:Array Value) (T:TypeId) (w:World) (i0:TypeInfo) (hi0:Tryz.prog.info? 116=some i0) (hz1:i0.size=2) (hcur:w.heap[blk]?=some (.cells cur T (0,0))) (hcap:n≤cap) (hm:n≤9223372036854775807) (hfit:off+n*2≤cur.size) (hone:∀ k u,cur[k]?=some u→off≤k→k<off+n*2→u.oneCell'=true) (hij:i≤j) (hj:j≤n) :
  Calls Tryz.prog 82 #[.slice (some ⟨blk,off,none⟩) n cap,.int .i64 i,.int .i64 j] w fun e w'=>e=.returned (.slice (some ⟨blk,off,none⟩) (n - (j - i)) cap) ∧
   ((i=j∧w'=w)∨(i<j∧∃ (q:Nat) (Z:List Value),Z.length=(j - i)*2∧w'=((Go.Sort.ahead w q).setCells blk (off+i*2) ((cur.toList.drop (off+j*2)).take ((n - j)*2))).setCells blk (off+(i+(n - j))*2) Z)):=by
 by_cases heq:i=j
 ·subst heq
  have h0:Calls Tryz.prog 82 #[.slice (some ⟨blk,off,none⟩) n cap,.int .i64 i,.int .i64 i] w fun e w'=>e=.returned (.slice (some ⟨blk,off,none⟩) n cap)∧w'=w:=by
   clear hcur hone
   go_enter Tryz.func82,Tryz.ntmps82
   go_wp2
   all_goals (go_ret; exact ⟨rfl,rfl⟩)
  refine h0.mono ?_
  rintro e w' ⟨rfl,rfl⟩
  exact ⟨by rw[Nat.sub_self,Nat.sub_zero],.inl ⟨rfl,rfl⟩⟩
 ·have hlt:i<j:=by omega
  have t57:=Tryz.underlying59
  have mixed:Tryz.prog.follows .mixedOrders=true:=by kernel_rfl
  obtain ⟨news,hnews⟩:∃ news,news=(cur.toList.drop (off+j*2)).take ((n - j)*2):=⟨_,rfl⟩
  have hlen:news.length=(n - j)*2:=by rw[hnews]; simp; omega
  have hget:∀ t,t<(n - j)*2→news[t]?=cur[off+j*2+t]?:=by
   intro t ht
   rw[hnews,List.getElem?_take,if_pos ht,List.getElem?_drop,Array.getElem?_toList]
  obtain ⟨A,hA,hsrc⟩:∃ A:Addr,(if cap=j then some (⟨blk,off,none⟩:Addr) else some ⟨blk,off+j*2,none⟩)=some A∧Hid (∀ t u,news[t]?=some u→w.drew.cell? (A.add t)=some u):=by
   by_cases h:cap=j
   ·refine ⟨⟨blk,off,none⟩,by simp[h],fun t u hu=>?_⟩
    have h0:news.length=0:=by rw[hlen]; omega
    rw[List.length_eq_zero_iff.1 h0] at hu
    simp at hu
   ·refine ⟨⟨blk,off+j*2,none⟩,by simp[h],fun t u hu=>?_⟩
    have ht:t<(n - j)*2:=by
     have:=(List.getElem?_eq_some_iff.1 hu).1
     rwa [hlen] at this
    rw[hget t ht] at hu
    show w.cell? _=_
    simp[World.cell?,Addr.add_lit,hcur,hu]
  have s2:Hid (∀ u∈news,u.oneCell'=true):=by
   intro u hu
   obtain ⟨t,ht⟩:=List.getElem?_of_mem hu
   have h1:=(List.getElem?_eq_some_iff.1 ht).1
   rw[hget t (by omega)] at ht
   exact hone _ u ht (by omega) (by omega)
  have s3:Hid (∀ t,t<news.length→(w.drew.cell? ⟨blk,off+i*2+t,none⟩).isSome=true∧w.drew.frozen? ⟨blk,off+i*2+t,none⟩=false):=by
   intro t ht
   have:off+i*2+t<cur.size:=by omega
   refine ⟨?_,?_⟩
   ·show (w.cell? _).isSome=true
    simp[World.cell?,hcur,this]
   ·show w.frozen? _=false
    simp[World.frozen?,hcur]
  have s1:Hid (news.length=(n - j)*2):=hlen
  obtain ⟨W1,hW1⟩:∃ W1,W1=w.drew.setCells blk (off+i*2) news:=⟨_,rfl⟩
  have hcell1:∀ t,t<(j - i)*2→(W1.cell? ⟨blk,off+(i+(n - j))*2+t,none⟩).isSome=true:=by
   intro t ht
   rw[hW1,World.cell?_setCells_out _ _ _ _ _ (fun _ _=>.inr (by rw[hlen]; simp only; omega))]
   show (w.cell? _).isSome=true
   have:off+(i+(n - j))*2+t<cur.size:=by omega
   simp[World.cell?,hcur,this]
  have hfro1:∀ t,t<(j - i)*2→W1.frozen? ⟨blk,off+(i+(n - j))*2+t,none⟩=false:=by
   intro t ht
   rw[hW1,World.frozen?_setCells]
   show w.frozen? _=false
   simp[World.frozen?,hcur]
  have hcl:∀ ty,(Builtin.clear_ #[59] ty #[.slice (some ⟨blk,off+(i+(n - j))*2,none⟩) (n - (i+(n - j))) (cap - (i+(n - j)))]).run Tryz.prog W1=.ok (.tuple #[]) (W1.setCells blk (off+(i+(n - j))*2) (Builtin.zeroCells (Value.cells (Value.agg #[Value.int IntKind.i64 0,Value.slice none 0 0])) (n - (i+(n - j)))).toList) :=
   fun ty=>run_clear2 W1 59 116 ty _ t57 Tryz.zeroValue116 (by simp[Value.cells,Value.oneCell']) blk (off+(i+(n - j))*2) _ _ (by omega) (fun t ht=>hcell1 t (by simp[Value.cells] at ht; omega)) (fun t ht=>hfro1 t (by simp[Value.cells] at ht; omega))
  have hW:Hid (W1=w.drew.setCells blk (off+i*2) news):=hW1
  have hN:Hid (news=(cur.toList.drop (off+j*2)).take ((n - j)*2)):=hnews
  have hic:i≤cap:=by omega
  have hjc:j≤cap:=by omega
  clear hW1 hcur hone hget hnews hlen hcell1 hfro1
  go_enter Tryz.func82,Tryz.ntmps82
  go_wp2_with fail
  go_region_law_o (refine step_append_room rfl (.tmp 22) (.tmp 25) 59 rfl 116 i0 2 t57 hi0 hz1 blk off i cap (by simp[Act.eval,Act.put]) A (n - j) (cap - j) news (by simp[Act.eval,Act.put]; try exact hA) s1.out hsrc.out s2.out (by omega) s3.out ?_; rw[← hW.out])
  go_wp2
  go_ret
  refine ⟨by rw[show n - (j - i)=i+(n - j) by omega]; rfl,.inr ⟨hlt,1,_,?_,by rw[hW.out,hN.out]; rfl⟩⟩
  simp[Builtin.zeroCells]
  omega

set_option maxHeartbeats 4000000 in
set_option maxRecDepth 1000000 in
theorem del_none (p:Option Addr) (cap:Nat) (w:World):Calls Tryz.prog 82 #[.slice p 0 cap,.int .i64 0,.int .i64 0] w fun e w'=>e=.returned (.slice p 0 cap)∧w'=w:=by
 go_enter Tryz.func82,Tryz.ntmps82
 go_wp2
 all_goals (go_ret; exact ⟨rfl,rfl⟩)

theorem delI:∃ i0,Tryz.prog.info? 116=some i0∧i0.size=2:=by
 obtain ⟨i,h1,h2,_⟩:=(Ae.tyB_ok (Ae.Tree.all_get tyOk (show tyT.get 116=some ty116 from rfl))).i
 exact ⟨i,h1,h2⟩
theorem delD (blk off cap n i j:Nat) (cur:Array Value) (T:TypeId) (w:World) (h1:w.heap[blk]?=some (.cells cur T (0,0))) (h2:n≤cap) (h3:n≤9223372036854775807) (h4:off+n*2≤cur.size) (h5:∀ k u,cur[k]?=some u→off≤k→k<off+n*2→u.oneCell'=true) (h6:i≤j) (h7:j≤n) :
  Calls Tryz.prog 82 #[.slice (some ⟨blk,off,none⟩) n cap,.int .i64 i,.int .i64 j] w (Ae.DelPost blk off cap n i j cur w):=by
 obtain ⟨i0,a,b⟩:=delI
 exact del_walk blk off cap n i j cur T w i0 a b h1 h2 h3 h4 h5 h6 h7
end Go.Proofs.YtbmjcddendnniaaGreat.law
