import Derived.Test.YtmahhacghgkigaaGreatAeD
import Derived.Test.YtmahhacghgkigaaGreatAe4
import Derived.Test.YtmahhacghgkigaaGreatAeShelf
import Derived.Shelf.SlicesG.Delete
import Derived.WalkKit
import Derived.KernelRfl
set_option linter.unusedVariables false
set_option linter.unusedSimpArgs false
namespace Go.Proofs.YtmahhacghgkigaaGreat.law
open Go Go.Proofs Ae
set_option maxRecDepth 100000
set_option linter.unusedVariables false
noncomputable def szStr (x:List UInt8) (left:Int):Option Int:=some (IntKind.wrap .i64 (left - (x.length:Int)))
theorem szStr_step {o p:Option ((Int × Int) ⊕ Int)} (h:o=p):o=p:=h
theorem szStr_sz {x:List UInt8} (h:bS x):SzOk smS szStr x:=by
 intro left h0 h1
 have:=bS.len h
 refine ⟨_,rfl,?_,?_⟩
 ·rw[w64 (by omega) (by omega)]; omega
 ·rw[w64 (by omega) (by omega)]
  by_cases h:left - (x.length:Int)<0
  ·exact .inl h
  ·exact .inr ⟨by omega,by unfold smS; omega⟩
theorem laws_szBoolS_sz {a:List Bool} (h:(bL bB) a):SzOk (smL smT) laws_szBoolS a:=sz_flat (fun _=>rfl) h.len
theorem laws_szPushS_sz {a:List Push} (h:(bL bPush) a):SzOk (smL smT) laws_szPushS a:=sz_flat (fun _=>rfl) h.len
theorem laws_szPushSS_sz {a:List (List Push)} (h:(bL (bL bPush)) a):SzOk (smL (smL smT)) laws_szPushSS a :=
 sz_loop (sub:=laws_szPushS) (S:=laws_szPushSS_S1 a) (fun _ _=>rfl) (fun _=>rfl) h.len fun x hx=>laws_szPushS_sz (h.2 x hx)
theorem laws_szInt64S_sz {a:List Int} (h:(bL (bI .i64)) a):SzOk (smL smT) laws_szInt64S a:=sz_flat (fun _=>rfl) h.len
theorem laws_szInt64SS_sz {a:List (List Int)} (h:(bL (bL (bI .i64))) a):SzOk (smL (smL smT)) laws_szInt64SS a :=
 sz_loop (sub:=laws_szInt64S) (S:=laws_szInt64SS_S1 a) (fun _ _=>rfl) (fun _=>rfl) h.len fun x hx=>laws_szInt64S_sz (h.2 x hx)
theorem laws_szInt64SSS_sz {a:List (List (List Int))} (h:(bL (bL (bL (bI .i64)))) a):SzOk (smL (smL (smL smT))) laws_szInt64SSS a :=
 sz_loop (sub:=laws_szInt64SS) (S:=laws_szInt64SSS_S1 a) (fun _ _=>rfl) (fun _=>rfl) h.len fun x hx=>laws_szInt64SS_sz (h.2 x hx)
theorem laws_szChecker_sz {a:Checker} (h:bChecker a):SzOk smChecker laws_szChecker a:=by
 intro left h0 h1
 unfold laws_szChecker
 obtain ⟨y1,e1,l1,q1⟩:=laws_szBoolS_sz h.2.2.1 left h0 h1
 rw[e1,Option.bind_some]
 rcases q1 with q1 | ⟨p1,s1⟩
 ·exact ⟨-1,by rw[if_pos (by simpa using q1)],by omega,.inl (by omega)⟩
 rw[if_neg (by simp; omega)]
 obtain ⟨y2,e2,l2,q2⟩:=laws_szPushSS_sz h.2.2.2.1 y1 p1 (by omega)
 rw[e2,Option.bind_some]
 rcases q2 with q2 | ⟨p2,s2⟩
 ·exact ⟨-1,by rw[if_pos (by simpa using q2)],by omega,.inl (by omega)⟩
 rw[if_neg (by simp; omega)]
 obtain ⟨y3,e3,l3,q3⟩:=laws_szInt64SSS_sz h.2.2.2.2.1 y2 p2 (by omega)
 rw[e3,Option.bind_some]
 rcases q3 with q3 | ⟨p3,s3⟩
 ·exact ⟨-1,by rw[if_pos (by simpa using q3)],by omega,.inl (by omega)⟩
 rw[if_neg (by simp; omega)]
 obtain ⟨y4,e4,l4,q4⟩:=laws_szInt64SS_sz h.2.2.2.2.2 y3 p3 (by omega)
 rw[e4,Option.bind_some]
 rcases q4 with q4 | ⟨p4,s4⟩
 ·exact ⟨-1,by rw[if_pos (by simpa using q4)],by omega,.inl (by omega)⟩
 rw[if_neg (by simp; omega)]
 exact ⟨_,rfl,by omega,.inr ⟨by omega,⟨trivial,trivial,s1,s2,s3,s4⟩⟩⟩
theorem laws_szStringS_sz {a:List (List UInt8)} (h:(bL bS) a):SzOk (smL smS) laws_szStringS a :=
 sz_loop (sub:=szStr) (S:=laws_szStringS_S1 a) (fun left i=>szStr_step rfl) (fun _=>rfl) h.len fun x hx=>szStr_sz (h.2 x hx)
theorem laws_szStream_sz {a:Stream} (h:bStream a):SzOk smStream laws_szStream a:=by
 intro left h0 h1
 unfold laws_szStream
 obtain ⟨y1,e1,l1,q1⟩:=laws_szChecker_sz h.1 left h0 h1
 rw[e1,Option.bind_some]
 rcases q1 with q1 | ⟨p1,s1⟩
 ·exact ⟨-1,by rw[if_pos (by simpa using q1)],by omega,.inl (by omega)⟩
 rw[if_neg (by simp; omega)]
 obtain ⟨y2,e2,l2,q2⟩:=laws_szStringS_sz h.2 y1 p1 (by omega)
 rw[e2,Option.bind_some]
 rcases q2 with q2 | ⟨p2,s2⟩
 ·exact ⟨-1,by rw[if_pos (by simpa using q2)],by omega,.inl (by omega)⟩
 rw[if_neg (by simp; omega)]
 exact ⟨_,rfl,by omega,.inr ⟨by omega,⟨s1,s2⟩⟩⟩
theorem laws_szDeedS_sz {a:List Deed} (h:(bL bDeed) a):SzOk (smL smT) laws_szDeedS a:=sz_flat (fun _=>rfl) h.len
theorem laws_toBoolS_to {a:List Bool} (h:(smL smT) a):laws_toBoolS a=some a :=
 to_loop (sub:=some) (S:=laws_toBoolS_S1 a) (fun _ _=>rfl) rfl h.1 (fun _ _=>rfl)
theorem laws_toPush_to {a:Push} (h:smT a):laws_toPush a=some a:=by
 unfold laws_toPush
 rfl
theorem laws_toPushS_to {a:List Push} (h:(smL smT) a):laws_toPushS a=some a :=
 to_loop (sub:=laws_toPush) (S:=laws_toPushS_S1 a) (fun _ _=>rfl) rfl h.1 (fun x hx=>laws_toPush_to (h.2 x hx))
theorem laws_toPushSS_to {a:List (List Push)} (h:(smL (smL smT)) a):laws_toPushSS a=some a :=
 to_loop (sub:=laws_toPushS) (S:=laws_toPushSS_S1 a) (fun _ _=>rfl) rfl h.1 (fun x hx=>laws_toPushS_to (h.2 x hx))
theorem laws_toInt64S_to {a:List Int} (h:(smL smT) a):laws_toInt64S a=some a :=
 to_loop (sub:=some) (S:=laws_toInt64S_S1 a) (fun _ _=>rfl) rfl h.1 (fun _ _=>rfl)
theorem laws_toInt64SS_to {a:List (List Int)} (h:(smL (smL smT)) a):laws_toInt64SS a=some a :=
 to_loop (sub:=laws_toInt64S) (S:=laws_toInt64SS_S1 a) (fun _ _=>rfl) rfl h.1 (fun x hx=>laws_toInt64S_to (h.2 x hx))
theorem laws_toInt64SSS_to {a:List (List (List Int))} (h:(smL (smL (smL smT))) a):laws_toInt64SSS a=some a :=
 to_loop (sub:=laws_toInt64SS) (S:=laws_toInt64SSS_S1 a) (fun _ _=>rfl) rfl h.1 (fun x hx=>laws_toInt64SS_to (h.2 x hx))
theorem laws_toChecker_to {a:Checker} (h:smChecker a):laws_toChecker a=some a:=by
 unfold laws_toChecker
 rw[laws_toBoolS_to h.2.2.1,Option.bind_some]
 rw[laws_toPushSS_to h.2.2.2.1,Option.bind_some]
 rw[laws_toInt64SSS_to h.2.2.2.2.1,Option.bind_some]
 rw[laws_toInt64SS_to h.2.2.2.2.2,Option.bind_some]
theorem laws_toStringS_to {a:List (List UInt8)} (h:(smL smS) a):laws_toStringS a=some a :=
 to_loop (sub:=some) (S:=laws_toStringS_S1 a) (fun _ _=>rfl) rfl h.1 (fun _ _=>rfl)
theorem laws_toStream_to {a:Stream} (h:smStream a):laws_toStream a=some a:=by
 unfold laws_toStream
 rw[laws_toChecker_to h.1,Option.bind_some]
 rw[laws_toStringS_to h.2,Option.bind_some]
theorem laws_toDeed_to {a:Deed} (h:smT a):laws_toDeed a=some a:=by
 unfold laws_toDeed
 rfl
theorem laws_toDeedS_to {a:List Deed} (h:(smL smT) a):laws_toDeedS a=some a :=
 to_loop (sub:=laws_toDeed) (S:=laws_toDeedS_S1 a) (fun _ _=>rfl) rfl h.1 (fun x hx=>laws_toDeed_to (h.2 x hx))
theorem laws_eqBoolS_eq {a:List Bool} (h:(smL smT) a):laws_eqBoolS a a=some true :=
 eq_loop (sub:=(fun x y=>some (x == y))) (S:=laws_eqBoolS_S1 a a) (fun _=>rfl) rfl h.1 (fun _ _=>by simp)
theorem laws_eqPush_eq {a:Push} (h:smT a):laws_eqPush a a=some true:=by
 unfold laws_eqPush
 simp[]
theorem laws_eqPushS_eq {a:List Push} (h:(smL smT) a):laws_eqPushS a a=some true :=
 eq_loop (sub:=laws_eqPush) (S:=laws_eqPushS_S1 a a) (fun _=>rfl) rfl h.1 (fun x hx=>laws_eqPush_eq (h.2 x hx))
theorem laws_eqPushSS_eq {a:List (List Push)} (h:(smL (smL smT)) a):laws_eqPushSS a a=some true :=
 eq_loop (sub:=laws_eqPushS) (S:=laws_eqPushSS_S1 a a) (fun _=>rfl) rfl h.1 (fun x hx=>laws_eqPushS_eq (h.2 x hx))
theorem laws_eqInt64S_eq {a:List Int} (h:(smL smT) a):laws_eqInt64S a a=some true :=
 eq_loop (sub:=(fun x y=>some (x == y))) (S:=laws_eqInt64S_S1 a a) (fun _=>rfl) rfl h.1 (fun _ _=>by simp)
theorem laws_eqInt64SS_eq {a:List (List Int)} (h:(smL (smL smT)) a):laws_eqInt64SS a a=some true :=
 eq_loop (sub:=laws_eqInt64S) (S:=laws_eqInt64SS_S1 a a) (fun _=>rfl) rfl h.1 (fun x hx=>laws_eqInt64S_eq (h.2 x hx))
theorem laws_eqInt64SSS_eq {a:List (List (List Int))} (h:(smL (smL (smL smT))) a):laws_eqInt64SSS a a=some true :=
 eq_loop (sub:=laws_eqInt64SS) (S:=laws_eqInt64SSS_S1 a a) (fun _=>rfl) rfl h.1 (fun x hx=>laws_eqInt64SS_eq (h.2 x hx))
theorem laws_eqChecker_eq {a:Checker} (h:smChecker a):laws_eqChecker a a=some true:=by
 unfold laws_eqChecker
 simp[laws_eqBoolS_eq h.2.2.1,laws_eqPushSS_eq h.2.2.2.1,laws_eqInt64SSS_eq h.2.2.2.2.1,laws_eqInt64SS_eq h.2.2.2.2.2]
theorem laws_eqStringS_eq {a:List (List UInt8)} (h:(smL smS) a):laws_eqStringS a a=some true :=
 eq_loop (sub:=(fun x y=>some (x == y))) (S:=laws_eqStringS_S1 a a) (fun _=>rfl) rfl h.1 (fun _ _=>by simp)
theorem laws_eqStream_eq {a:Stream} (h:smStream a):laws_eqStream a a=some true:=by
 unfold laws_eqStream
 simp[laws_eqChecker_eq h.1,laws_eqStringS_eq h.2]
theorem laws_eqDeed_eq {a:Deed} (h:smT a):laws_eqDeed a a=some true:=by
 unfold laws_eqDeed
 simp[]
theorem laws_eqDeedS_eq {a:List Deed} (h:(smL smT) a):laws_eqDeedS a a=some true :=
 eq_loop (sub:=laws_eqDeed) (S:=laws_eqDeedS_S1 a a) (fun _=>rfl) rfl h.1 (fun x hx=>laws_eqDeed_eq (h.2 x hx))
end Go.Proofs.YtmahhacghgkigaaGreat.law
namespace Go.Proofs.YtmahhacghgkigaaGreat.law
open Go Go.Proofs Ae
set_option maxRecDepth 100000

theorem sym_ix (x:UInt8):spec_l01Symbol (x.toNat:Int)=some (fst? (· == x) [40,91,41,93,97,98]):=by
 unfold spec_l01Symbol
 refine loop_find (l:=([40,91,41,93,97,98]:List UInt8)) (· == x) (loop_R (by rfl)) fun i y hi=>?_
 have hlt:i<6:=(List.getElem?_eq_some_iff.1 hi).1
 unfold spec_l01Symbol_S1
 rw[if_pos (decide_eq_true (by omega)),chr_nat hi,Option.bind_some,w1 hlt (by decide),u8_eq]
theorem ix_ix (x:UInt8):strings_IndexByte [40,91,41,93,97,98] (x.toNat:Int)=some (fst? (· == x) [40,91,41,93,97,98]):=by
 unfold strings_IndexByte internal_stringslite_IndexByte ixByteM ixByte
 rw[indexByte_fst]
 simp
theorem word_S (w:List UInt8):impl_ValidWord_S1 w=spec_l01Ok_S1 w:=by
 funext i
 unfold impl_ValidWord_S1 spec_l01Ok_S1
 split
 ·refine bindC fun c hc=>?_
  obtain ⟨x,rfl⟩:=chr_some hc
  rw[ix_ix,sym_ix]
 ·rfl
theorem word_eq (w:List UInt8):impl_ValidWord w=spec_l01Ok w:=by
 unfold impl_ValidWord spec_l01Ok; rw[word_S]
theorem word_tot {w:List UInt8} (h:w.length≤9223372036854775807):∃ b,spec_l01Ok w=some b:=by
 unfold spec_l01Ok
 obtain ⟨r,h,_⟩:=loop_tot (step:=spec_l01Ok_S1 w) (n:=w.length) (fun _=>True) ⟨_,loop_R (by unfold spec_l01Ok_S1; rw[if_neg (by simp)]; rfl),trivial⟩ fun i hi=>by
  unfold spec_l01Ok_S1
  rw[if_pos (ltT hi),chr_nat' hi,Option.bind_some,sym_ix,Option.bind_some,w1 hi h]
  split
  ·exact .inr ⟨_,rfl,trivial⟩
  ·exact .inl rfl
 exact ⟨r,h⟩

def okL (l:List Int) (k n:Int):Bool:=((l.length:Int) == k)&&l.all fun x=>decide (x≥0)&&decide (x≤IntKind.wrap .i64 (n - 1))
theorem specL {l:List Int} (h:l.length≤1048576) (k n:Int):spec_l02List l k n=some (okL l k n):=by
 unfold spec_l02List okL
 by_cases hk:(l.length:Int)=k
 ·rw[if_neg (by simpa using hk),show ((l.length:Int) == k)=true by simpa using hk,Bool.true_and]
  rw[loop_allL (l:=l) (p:=fun x=>decide (x≥0)&&decide (x≤IntKind.wrap .i64 (n - 1))) (rt:=some true) (rf:=false) (loop_R (by unfold spec_l02List_S1; rw[if_neg (by simp)]; rfl)) fun i x hx=>by
   have hlt:=(List.getElem?_eq_some_iff.1 hx).1
   unfold spec_l02List_S1
   rw[if_pos (ltT hlt),ix_lit hx,Option.bind_some,w1 hlt (by omega)]
   unfold spec_l00In
   rw[Option.bind_some]
   cases (decide (x≥0)&&decide (x≤IntKind.i64.wrap (n - 1)))<;>rfl]
  split<;>simp_all
 ·rw[if_pos (by simpa using hk),show ((l.length:Int) == k)=false by simpa using hk,Bool.false_and]
theorem containsI {l:List Int} (h:l.length≤1048576) (f:Int→Option Bool) (p:Int→Bool) (hf:∀ x∈l,f x=some (p x)):slices_ContainsFunc_sint64_int64 l f=some (l.any p):=by
 unfold slices_ContainsFunc_sint64_int64 slices_IndexFunc_sint64_int64
 rw[loop_find (l:=l) p (loop_R (by unfold slices_IndexFunc_sint64_int64_S1; rw[if_neg (by simp)]; rfl)) fun i x hx=>by
  have hlt:=(List.getElem?_eq_some_iff.1 hx).1
  unfold slices_IndexFunc_sint64_int64_S1
  rw[if_pos (ltT hlt),ix_lit hx,Option.bind_some,hf x (List.mem_of_getElem? hx),Option.bind_some,w1 hlt (by omega)]]
 rw[Option.bind_some,fst?_any]
theorem containsS {l:List (List UInt8)} (h:l.length≤1048576) (f:List UInt8→Option Bool) (p:List UInt8→Bool) (hf:∀ x∈l,f x=some (p x)):slices_ContainsFunc_sstring_string l f=some (l.any p):=by
 unfold slices_ContainsFunc_sstring_string slices_IndexFunc_sstring_string
 rw[loop_find (l:=l) p (loop_R (by unfold slices_IndexFunc_sstring_string_S1; rw[if_neg (by simp)]; rfl)) fun i x hx=>by
  have hlt:=(List.getElem?_eq_some_iff.1 hx).1
  unfold slices_IndexFunc_sstring_string_S1
  rw[if_pos (ltT hlt),ix_lit hx,Option.bind_some,hf x (List.mem_of_getElem? hx),Option.bind_some,w1 hlt (by omega)]]
 rw[Option.bind_some,fst?_any]
theorem implL {l:List Int} (h:l.length≤1048576) (k:Int) (c:Checker):impl_ValidChecker_1 l k c=some (okL l k c.Accept.length):=by
 unfold impl_ValidChecker_1
 rw[containsI h (fun x=>impl_ValidChecker_1_1 x c) (fun x=>!(decide (x≥0)&&decide (x≤IntKind.wrap .i64 ((c.Accept.length:Int) - 1)))) fun x _=>rfl]
 unfold okL impl_size_int64
 rw[Option.bind_some,Option.bind_some,ite_some,Option.bind_some,ite_and]
 congr 2
 induction l with
 | nil=>rfl
 | cons a l ih =>
  rw[List.any_cons,List.all_cons,Bool.not_or,Bool.not_not,ih (by simp at h; omega)]

theorem chk_S2 {c:Checker} (h:smChecker c) (t:Int):impl_ValidChecker_S2 c t=spec_l02Ok_w0_7_S2 c t:=by
 funext k
 unfold impl_ValidChecker_S2 spec_l02Ok_w0_7_S2
 split
 ·refine bindC fun x hx=>bindC fun p hp=>?_
  unfold impl_Checker_isState impl_Checker_isMark impl_size_bool impl_within spec_l00In
  simp only[Option.bind_some,ite_some,ite_or,hx,hp]
  split
  ·rfl
  ·congr 1
   refine bindC fun r hr=>bindC fun l hl=>?_
   have hm:=((h.2.2.2.2.1).2 r (ix_mem hr)).2 l (ix_mem hl)
   rw[implL hm.1,specL hm.1]
 ·rfl
theorem chk_S1 {c:Checker} (h:smChecker c):impl_ValidChecker_S1 c (c.Accept.length:Int)=spec_l02Ok_w0_7_S1 c:=by
 funext k
 unfold impl_ValidChecker_S1 spec_l02Ok_w0_7_S1
 simp only[chk_S2 h]
 split
 ·refine bindC fun x hx=>?_
  congr 1
  funext b
  congr 1
  split
  ·rfl
  ·refine bindC fun l hl=>?_
   have hm:=(h.2.2.2.2.2).2 l (ix_mem hl)
   rw[implL hm.1,specL hm.1]
 ·rfl
theorem chk_eq {c:Checker} (h:smChecker c):impl_ValidChecker c=spec_l02Ok_w0_7 c:=by
 unfold impl_ValidChecker spec_l02Ok_w0_7
 unfold impl_Checker_isState impl_size_bool impl_within spec_l00In impl_size_simpl_Push impl_size_s_int64 impl_size_sint64
 simp only[Option.bind_some,ite_some,ite_or,chk_S1 h]
theorem chk_tot {c:Checker} (h:smChecker c):∃ b,spec_l02Ok_w0_7 c=some b:=by
 unfold spec_l02Ok_w0_7 spec_l00In
 simp only[Option.bind_some,ite_some,ite_or]
 split
 ·exact ⟨_,rfl⟩
 ·rename_i hg
  simp only[Bool.or_eq_true,not_or,bne_iff_ne,ne_eq,Decidable.not_not,Bool.not_eq_true] at hg
  obtain ⟨⟨⟨_,hC⟩,hR⟩,hI⟩:=hg
  have hA:=h.2.2.1.1
  obtain ⟨r,h1,_⟩:=loop_tot (step:=spec_l02Ok_w0_7_S1 c) (n:=c.Accept.length) (fun _=>True) ⟨_,loop_R (by unfold spec_l02Ok_w0_7_S1; rw[if_neg (by simp)]; rfl),trivial⟩ fun i hi=>by
   unfold spec_l02Ok_w0_7_S1
   have hc:i<c.Call.length:=by omega
   have hr:i<c.Return.length:=by omega
   have hn:i<c.Inner.length:=by omega
   have hm:=h.2.2.2.2.2.2 _ (List.getElem_mem hn)
   rw[if_pos (ltT hi),ix_some hc,Option.bind_some,ix_some hr,Option.bind_some,ite_some,Option.bind_some,ite_or,ix_some hn,Option.bind_some,specL hm.1,Option.bind_some,ite_some,Option.bind_some,ite_or]
   split
   ·exact .inr ⟨_,rfl,trivial⟩
   ·rename_i hg
    simp only[Bool.or_eq_true,not_or,bne_iff_ne,ne_eq,Decidable.not_not,Bool.not_eq_true] at hg
    obtain ⟨⟨h2,h3⟩,_⟩:=hg
    obtain ⟨r,h4,h5⟩:=loop_tot (step:=spec_l02Ok_w0_7_S2 c i) (n:=2) (fun r=>r=.inl ((i+1:Nat):Int)∨r=.inr false) ⟨_,loop_R (by unfold spec_l02Ok_w0_7_S2; rw[if_neg (by simp)]; rfl),.inl (by rw[w1 hi (by omega)])⟩ fun k hk=>by
     unfold spec_l02Ok_w0_7_S2
     have hmr:=(h.2.2.2.2.1.2 _ (List.getElem_mem hr)).2 (c.Return[i][k]'(by omega)) (List.getElem_mem _)
     have e1:ix c.Call (i:Int)=some c.Call[i]:=ix_some hc
     have e2:ix c.Call[i] (k:Int)=some (c.Call[i][k]'(by omega)):=ix_some _
     have e3:ix c.Return (i:Int)=some c.Return[i]:=ix_some hr
     have e4:ix c.Return[i] (k:Int)=some (c.Return[i][k]'(by omega)):=ix_some _
     unfold spec_l00In
     simp only[if_pos (decide_eq_true (show (k:Int)<2 by omega)),e1,e2,e3,e4,Option.bind_some,specL hmr.1,w1 hk (by decide),ite_some,ite_or]
     split
     ·exact .inr ⟨_,rfl,.inr rfl⟩
     ·exact .inl rfl
    rw[h4]
    rcases h5 with rfl | rfl
    ·exact .inl rfl
    ·exact .inr ⟨_,rfl,trivial⟩
  exact ⟨r,h1⟩
end Go.Proofs.YtmahhacghgkigaaGreat.law
namespace Go.Proofs.YtmahhacghgkigaaGreat.law
open Go Go.Proofs Ae
set_option maxRecDepth 100000

theorem loop_true {ρ:Type} {step:Int→Option (Int ⊕ ρ)} {n:Nat} {rt:ρ} (hst:∀ (i:Nat) y,i<n→step (i:Int)=some y→y=.inl ((i+1:Nat):Int)∨∃ r,y=.inr r∧r≠rt) :
  ∀ (k i:Nat),i+k=n→loop step (i:Int)=some rt→∀ j,i≤j→j<n→step (j:Int)=some (.inl ((j+1:Nat):Int)):=by
 intro k
 induction k with
 | zero=>intro i hi _ j h1 h2; omega
 | succ k ih =>
  intro i hi h j h1 h2
  have h0:step (i:Int)=some (.inl ((i+1:Nat):Int)):=by
   cases hs:step (i:Int) with
   | none=>rw[loop_eq,hs] at h; cases h
   | some y =>
    rcases hst i y (by omega) hs with rfl | ⟨r,rfl,hr⟩
    ·rfl
    ·rw[loop_R hs] at h; cases h; exact absurd rfl hr
  by_cases e:i=j
  ·subst e; exact h0
  ·rw[loop_L h0] at h
   exact ih (i+1) (by omega) h j (by omega) h2

theorem okL_iff {l:List Int} {k n:Int} (h0:0≤n) (h1:n≤1048576) (h:okL l k n=true):(l.length:Int)=k∧∀ x∈l,0≤x∧x<n:=by
 unfold okL at h
 rw[w64 (by omega) (by omega)] at h
 simp only[Bool.and_eq_true,beq_iff_eq,List.all_eq_true,decide_eq_true_eq] at h
 exact ⟨h.1,fun x hx=>by have:=h.2 x hx; omega⟩

/-- A right checker. -/
structure ChkV (c:Checker):Prop where
 n1:1≤c.Accept.length
 n2:c.Accept.length≤40
 k1:1≤c.Stack
 k2:c.Stack≤80
 s1:0≤c.Start
 s2:c.Start<c.Accept.length
 lc:c.Call.length=c.Accept.length
 lr:c.Return.length=c.Accept.length
 li:c.Inner.length=c.Accept.length
 call:∀ l∈c.Call,l.length=2∧∀ p∈l,0≤p.To∧p.To<c.Accept.length∧0≤p.Put∧p.Put<c.Stack
 ret:∀ l∈c.Return,l.length=2∧∀ r∈l,(r.length:Int)=c.Stack+1∧∀ x∈r,0≤x∧x<c.Accept.length
 inn:∀ l∈c.Inner,l.length=2∧∀ x∈l,0≤x∧x<c.Accept.length

theorem chk_V {c:Checker} (h:smChecker c) (hk:spec_l02Ok_w0_7 c=some true):ChkV c:=by
 unfold spec_l02Ok_w0_7 spec_l00In at hk
 simp only[Option.bind_some,ite_some,ite_or] at hk
 split at hk
 ·cases hk
 rename_i hg
 simp only[Bool.or_eq_true,not_or,bne_iff_ne,ne_eq,Decidable.not_not,Bool.not_eq_true,Bool.not_eq_false',Bool.and_eq_true,decide_eq_true_eq] at hg
 obtain ⟨⟨⟨⟨⟨hA,hK⟩,hS⟩,hC⟩,hR⟩,hI⟩:=hg
 rw[w64 (by omega) (by omega)] at hS
 have hA2:c.Accept.length≤40:=by omega
 have step:=loop_true (step:=spec_l02Ok_w0_7_S1 c) (n:=c.Accept.length) (rt:=true) (fun i y hi hy=>by
  unfold spec_l02Ok_w0_7_S1 at hy
  rw[if_pos (ltT hi)] at hy
  simp only[Option.bind_eq_some_iff] at hy
  obtain ⟨_,_,b1,_,b2,_,hy⟩:=hy
  split at hy
  ·cases hy; exact .inr ⟨false,rfl,by simp⟩
  ·-- the loop over both kinds
   have key:∀ (k:Nat) (j:Nat),j+k=2→loop (spec_l02Ok_w0_7_S2 c i) (j:Int)=some y→y=.inl ((i+1:Nat):Int)∨∃ r,y=.inr r∧r≠true:=by
    intro k
    induction k with
    | zero =>
     intro j hj hl
     obtain rfl:j=2:=by omega
     rw[loop_R (r:=.inl ((i+1:Nat):Int)) (by unfold spec_l02Ok_w0_7_S2 spec_l02Ok_w0_7_J2; rw[if_neg (by simp),w1 hi (by omega)]; rfl)] at hl
     cases hl; exact .inl rfl
    | succ k ih =>
     intro j hj hl
     cases hs:spec_l02Ok_w0_7_S2 c i j with
     | none=>rw[loop_eq,hs] at hl; cases hl
     | some z =>
      have hs':=hs
      unfold spec_l02Ok_w0_7_S2 at hs
      rw[if_pos (by simp; omega)] at hs
      simp only[Option.bind_eq_some_iff] at hs
      obtain ⟨_,_,_,_,_,_,_,_,_,_,hs⟩:=hs
      split at hs
      ·cases hs
       rw[loop_R hs'] at hl
       cases hl; exact .inr ⟨false,rfl,by simp⟩
      ·cases hs
       rw[loop_L hs',w1 (show j<2 by omega) (by decide)] at hl
       exact ih (j+1) (by omega) hl
   exact key 2 0 rfl hy) c.Accept.length 0 (by omega) hk
 have row:∀ i,i<c.Accept.length→(∃ l,c.Call[i]?=some l∧l.length=2∧∀ p∈l,0≤p.To∧p.To<c.Accept.length∧0≤p.Put∧p.Put<c.Stack) ∧
   (∃ l,c.Return[i]?=some l∧l.length=2∧∀ r∈l,(r.length:Int)=c.Stack+1∧∀ x∈r,0≤x∧x<c.Accept.length)∧(∃ l,c.Inner[i]?=some l∧l.length=2∧∀ x∈l,0≤x∧x<c.Accept.length):=by
  intro i hi
  have hst:=step i (by omega) hi
  unfold spec_l02Ok_w0_7_S1 at hst
  have hc:i<c.Call.length:=by omega
  have hr:i<c.Return.length:=by omega
  have hn:i<c.Inner.length:=by omega
  have hm:=h.2.2.2.2.2.2 _ (List.getElem_mem hn)
  rw[if_pos (ltT hi),ix_some hc,Option.bind_some,ix_some hr,Option.bind_some,ite_some,Option.bind_some,ite_or,ix_some hn,Option.bind_some,specL hm.1,Option.bind_some,ite_some,Option.bind_some,ite_or] at hst
  split at hst
  ·cases hst
  rename_i hg
  simp only[Bool.or_eq_true,not_or,bne_iff_ne,ne_eq,Decidable.not_not,Bool.not_eq_true,Bool.not_eq_false'] at hg
  obtain ⟨⟨h2,h3⟩,h4⟩:=hg
  have hO:=okL_iff (by omega) (by omega) h4
  have h2':c.Call[i].length=2:=by omega
  have h3':c.Return[i].length=2:=by omega
  have step2:=loop_true (step:=spec_l02Ok_w0_7_S2 c i) (n:=2) (rt:=.inl ((i+1:Nat):Int)) (fun k y hk2 hy=>by
   unfold spec_l02Ok_w0_7_S2 at hy
   rw[if_pos (by simp; omega)] at hy
   simp only[Option.bind_eq_some_iff] at hy
   obtain ⟨_,_,_,_,_,_,_,_,_,_,hy⟩:=hy
   split at hy
   ·cases hy; exact .inr ⟨_,rfl,by simp⟩
   ·cases hy; rw[w1 hk2 (by decide)]; exact .inl rfl) 2 0 rfl hst
  have cell:∀ k (hk2:k<2),(0≤(c.Call[i][k]'(by omega)).To∧(c.Call[i][k]'(by omega)).To<(c.Accept.length:Int)∧0≤(c.Call[i][k]'(by omega)).Put∧(c.Call[i][k]'(by omega)).Put<c.Stack) ∧
    (((c.Return[i][k]'(by omega)).length:Int)=c.Stack+1∧∀ x∈(c.Return[i][k]'(by omega)),0≤x∧x<c.Accept.length):=by
   intro k hk2
   have hs:=step2 k (by omega) hk2
   unfold spec_l02Ok_w0_7_S2 at hs
   have hmr:=(h.2.2.2.2.1.2 _ (List.getElem_mem hr)).2 (c.Return[i][k]'(by omega)) (List.getElem_mem _)
   have e1:ix c.Call (i:Int)=some c.Call[i]:=ix_some hc
   have e2:ix c.Call[i] (k:Int)=some (c.Call[i][k]'(by omega)):=ix_some _
   have e3:ix c.Return (i:Int)=some c.Return[i]:=ix_some hr
   have e4:ix c.Return[i] (k:Int)=some (c.Return[i][k]'(by omega)):=ix_some _
   unfold spec_l00In at hs
   simp only[if_pos (decide_eq_true (show (k:Int)<2 by omega)),e1,e2,e3,e4,Option.bind_some,specL hmr.1,w1 hk2 (by decide),ite_some,ite_or] at hs
   rw[w64 (n:=(c.Accept.length:Int) - 1) (by omega) (by omega),w64 (n:=c.Stack - 1) (by omega) (by omega),w64 (n:=c.Stack+1) (by omega) (by omega)] at hs
   split at hs
   ·cases hs
   rename_i hg
   simp only[Bool.or_eq_true,not_or,Bool.not_eq_true,Bool.not_eq_false',Bool.and_eq_true,decide_eq_true_eq] at hg
   obtain ⟨⟨g1,g2⟩,g3⟩:=hg
   exact ⟨⟨g1.1,by omega,g2.1,by omega⟩,okL_iff (by omega) (by omega) g3⟩
  have two:∀ {α:Type} (l:List α) (x:α),l.length=2→x∈l→∃ k,∃ (hk:k<l.length),k<2∧l[k]=x:=by
   intro α l x hl hx
   obtain ⟨k,hk,e⟩:=List.getElem_of_mem hx
   exact ⟨k,hk,by omega,e⟩
  refine ⟨⟨_,List.getElem?_eq_getElem hc,h2',fun p hp=>?_⟩,⟨_,List.getElem?_eq_getElem hr,h3',fun r hr'=>?_⟩,⟨_,List.getElem?_eq_getElem hn,by have:=hO.1; omega,hO.2⟩⟩
  ·obtain ⟨k,_,hk2,rfl⟩:=two _ p h2' hp
   exact (cell k hk2).1
  ·obtain ⟨k,_,hk2,rfl⟩:=two _ r h3' hr'
   exact (cell k hk2).2
 have mem:∀ {α:Type} (L:List α) (l:α),L.length=c.Accept.length→l∈L→∃ i,i<c.Accept.length∧L[i]?=some l:=by
  intro α L l hL hl
  obtain ⟨i,hi,e⟩:=List.getElem_of_mem hl
  exact ⟨i,by omega,by rw[List.getElem?_eq_getElem hi,e]⟩
 refine ⟨by omega,hA2,by omega,by omega,by omega,by omega,by omega,by omega,by omega,fun l hl=>?_,fun l hl=>?_,fun l hl=>?_⟩
 ·obtain ⟨i,hi,e⟩:=mem c.Call l (by omega) hl
  obtain ⟨l',e',h'⟩:=(row i hi).1
  rw[e] at e'; cases e'; exact h'
 ·obtain ⟨i,hi,e⟩:=mem c.Return l (by omega) hl
  obtain ⟨l',e',h'⟩:=(row i hi).2.1
  rw[e] at e'; cases e'; exact h'
 ·obtain ⟨i,hi,e⟩:=mem c.Inner l (by omega) hl
  obtain ⟨l',e',h'⟩:=(row i hi).2.2
  rw[e] at e'; cases e'; exact h'
end Go.Proofs.YtmahhacghgkigaaGreat.law
namespace Go.Proofs.YtmahhacghgkigaaGreat.law
open Go Go.Proofs Ae
set_option maxRecDepth 100000
theorem own_eq {l:List Int} (h:l.length≤2097152):spec_l00Own l=some l:=by
 unfold spec_l00Own app
 rw[if_pos (by unfold LIM; simp; omega)]
 rfl
theorem clone_eq {l:List Int} (h:l.length≤2097152):cloneI l=some l:=by
 unfold cloneI; rw[if_pos (by omega)]

theorem kind_eq (x:UInt8):impl_kindOf (x.toNat:Int)=remI .i64 (fst? (· == x) [40,91,41,93,97,98]) 2:=by
 unfold impl_kindOf
 rw[ix_ix,Option.bind_some]
 cases remI .i64 (fst? (· == x) [40,91,41,93,97,98]) 2<;>rfl

/-- A symbol moves a checker in the one sense as in the other. -/
theorem step_eq {c:Checker} {st:Int} {sk:List Int} (h:sk.length≤1048576) {x:UInt8} (hx:x=40∨x=91∨x=41∨x=93∨x=97∨x=98):spec_l02Step_w0_7ppp c st sk (x.toNat:Int)=impl_Checker_step c st sk (x.toNat:Int):=by
 have call:∀ (k:Int),spec_l01Symbol (x.toNat:Int)=some k→impl_kindOf (x.toNat:Int)=some k→impl_isCall (x.toNat:Int)=some true→k<2→spec_l02Step_w0_7ppp c st sk (x.toNat:Int)=impl_Checker_step c st sk (x.toNat:Int):=by
  intro k h1 h2 h3 h4
  unfold spec_l02Step_w0_7ppp impl_Checker_step
  rw[h1,h2,h3]
  simp only[Option.bind_some,decide_eq_true h4,if_true,own_eq (show sk.length≤2097152 by omega),clone_eq (show sk.length≤2097152 by omega)]
 have inner:∀ (k:Int),spec_l01Symbol (x.toNat:Int)=some (k+4)→impl_kindOf (x.toNat:Int)=some k→impl_isCall (x.toNat:Int)=some false→impl_isInner (x.toNat:Int)=some true→0≤k→k<2→spec_l02Step_w0_7ppp c st sk (x.toNat:Int)=impl_Checker_step c st sk (x.toNat:Int):=by
  intro k h1 h2 h3 h4 h5 h6
  unfold spec_l02Step_w0_7ppp impl_Checker_step
  rw[h1,h2,h3,h4]
  have e1:decide (k+4<2)=false:=decide_eq_false (by omega)
  have e2:decide (k+4<4)=false:=decide_eq_false (by omega)
  have e3:IntKind.wrap .i64 (k+4 - 4)=k:=by rw[w64 (by omega) (by omega)]; omega
  simp only[Option.bind_some,e1,e2,e3,Bool.false_and,Bool.false_eq_true,if_false,if_true]
 have ret:∀ (k:Int),spec_l01Symbol (x.toNat:Int)=some (k+2)→impl_kindOf (x.toNat:Int)=some k→impl_isCall (x.toNat:Int)=some false→impl_isInner (x.toNat:Int)=some false→0≤k→k<2→spec_l02Step_w0_7ppp c st sk (x.toNat:Int)=impl_Checker_step c st sk (x.toNat:Int):=by
  intro k h1 h2 h3 h4 h5 h6
  unfold spec_l02Step_w0_7ppp impl_Checker_step impl_Checker_step_J1
  rw[h1,h2,h3,h4]
  have e1:decide (k+2<2)=false:=decide_eq_false (by omega)
  have e2:decide (k+2<4)=true:=decide_eq_true (by omega)
  have e3:IntKind.wrap .i64 (k+2 - 2)=k:=by rw[w64 (by omega) (by omega)]; omega
  rcases List.eq_nil_or_concat sk with rfl | ⟨l,a,rfl⟩
  ·have e7:((([]:List Int).length:Int) == 0)=true:=rfl
   have e8:decide ((([]:List Int).length:Int)>0)=false:=rfl
   simp only[Option.bind_some,e1,e2,e3,e7,e8,Bool.and_self,Bool.false_eq_true,if_false,if_true]
  ·simp only[List.concat_eq_append] at h⊢
   have el:((l++[a]).length:Int) - 1=(l.length:Int):=by simp
   simp only[List.length_append,List.length_singleton] at h
   have e4:IntKind.wrap .i64 (((l++[a]).length:Int) - 1)=(l.length:Int):=by rw[el,w64 (by omega) (by omega)]
   have e5:ix (l++[a]) (l.length:Int)=some a:=ix_lit (by simp)
   have e6:cut (l++[a]) 0 (l.length:Int)=some l:=by
    unfold cut
    rw[if_pos ⟨by omega,by omega,by simp; omega⟩]
    simp
   have e7:(((l++[a]).length:Int) == 0)=false:=by simp; omega
   have e8:decide (((l++[a]).length:Int)>0)=true:=by simp
   simp only[Option.bind_some,e1,e2,e3,e4,e5,e6,e7,e8,own_eq (show l.length≤2097152 by omega),Bool.and_false,Bool.false_eq_true,if_false,if_true]
 rcases hx with rfl | rfl | rfl | rfl | rfl | rfl
 ·exact call 0 (by rw[sym_ix]; rfl) (by rw[kind_eq]; rfl) rfl (by omega)
 ·exact call 1 (by rw[sym_ix]; rfl) (by rw[kind_eq]; rfl) rfl (by omega)
 ·exact ret 0 (by rw[sym_ix]; rfl) (by rw[kind_eq]; rfl) rfl rfl (by omega) (by omega)
 ·exact ret 1 (by rw[sym_ix]; rfl) (by rw[kind_eq]; rfl) rfl rfl (by omega) (by omega)
 ·exact inner 0 (by rw[sym_ix]; rfl) (by rw[kind_eq]; rfl) rfl rfl (by omega) (by omega)
 ·exact inner 1 (by rw[sym_ix]; rfl) (by rw[kind_eq]; rfl) rfl rfl (by omega) (by omega)

theorem clone_some {l m:List Int} (h:cloneI l=some m):m=l:=by
 unfold cloneI at h
 split at h<;>cases h
 rfl
theorem step_len {c:Checker} {st:Int} {sk:List Int} {b:Int} {a:Int} {r:List Int} (h:impl_Checker_step c st sk b=some (a,r)):r.length≤sk.length+1:=by
 unfold impl_Checker_step impl_Checker_step_J1 at h
 simp only[Option.bind_eq_some_iff] at h
 obtain ⟨k,_,y,_,h⟩:=h
 split at h
 ·simp only[Option.bind_eq_some_iff] at h
  obtain ⟨_,_,_,_,l,hl,l2,hl2,h⟩:=h
  cases h
  obtain ⟨rfl,_⟩:=app_some hl2
  rw[clone_some hl]; simp
 ·simp only[Option.bind_eq_some_iff] at h
  obtain ⟨y2,_,h⟩:=h
  split at h
  ·simp only[Option.bind_eq_some_iff] at h
   obtain ⟨_,_,_,_,h⟩:=h
   cases h; omega
  ·split at h
   ·simp only[Option.bind_eq_some_iff] at h
    obtain ⟨_,_,l,hl,_,_,_,_,_,_,h⟩:=h
    cases h
    obtain ⟨h1,h2,h3,rfl⟩:=cut_some hl
    simp only[List.length_take,List.length_drop]
    omega
   ·simp only[Option.bind_eq_some_iff] at h
    obtain ⟨_,_,_,_,_,_,h⟩:=h
    cases h; omega

def okSym (x:UInt8):Prop:=x=40∨x=91∨x=41∨x=93∨x=97∨x=98

/-- A word moves a checker in the one sense as in the other. -/
theorem go_eq {c:Checker} {w:List UInt8} (hw:∀ x∈w,okSym x) {st:Int} {sk:List Int} (h:sk.length+w.length≤1048576):spec_l02Go_w0_7ppp c st sk w=impl_Checker_end c st sk w:=by
 have key:∀ (k i:Nat) (st:Int) (sk:List Int),i+k=w.length→sk.length+k≤1048576→loop (impl_Checker_run_F1_S1 c w) (st,sk,st,sk,(i:Int))=(loop (spec_l02Go_w0_7ppp_S1 c w) (st,sk,(i:Int))).map fun p=>((),p.1,p.2):=by
  intro k
  induction k with
  | zero =>
   intro i st sk hi _
   obtain rfl:i=w.length:=by omega
   have e1:loop (impl_Checker_run_F1_S1 c w) (st,sk,st,sk,(w.length:Int))=some ((),st,sk):=loop_R (by
    unfold impl_Checker_run_F1_S1; simp only; rw[if_neg (by simp)]; rfl)
   have e2:loop (spec_l02Go_w0_7ppp_S1 c w) (st,sk,(w.length:Int))=some (st,sk):=loop_R (by
    unfold spec_l02Go_w0_7ppp_S1; simp only; rw[if_neg (by simp)]; rfl)
   rw[e1,e2]; rfl
  | succ k ih =>
   intro i st sk hi hl
   have hlt:i<w.length:=by omega
   have hs:=step_eq (c:=c) (st:=st) (sk:=sk) (by omega) (hw w[i] (List.getElem_mem hlt))
   have hw1:=w1 hlt (show w.length≤9223372036854775807 by omega)
   have e1:impl_Checker_run_F1_S1 c w (st,sk,st,sk,(i:Int))=(impl_Checker_step c st sk (w[i].toNat:Int)).bind fun y=>some (.inl (y.1,y.2,y.1,y.2,((i+1:Nat):Int))):=by
    unfold impl_Checker_run_F1_S1 impl_Checker_end_1_F1
    simp only
    rw[if_pos (ltT hlt),chr_nat' hlt,Option.bind_some,hw1]
    rfl
   have e2:spec_l02Go_w0_7ppp_S1 c w (st,sk,(i:Int))=(impl_Checker_step c st sk (w[i].toNat:Int)).bind fun y=>some (.inl (y.1,y.2,((i+1:Nat):Int))):=by
    unfold spec_l02Go_w0_7ppp_S1
    simp only
    rw[if_pos (ltT hlt),chr_nat' hlt,Option.bind_some,hw1,hs]
   cases hy:impl_Checker_step c st sk (w[i].toNat:Int) with
   | none =>
    rw[hy] at e1 e2
    rw[loop_eq,e1,loop_eq (spec_l02Go_w0_7ppp_S1 c w),e2]
    rfl
   | some y =>
    obtain ⟨a,r⟩:=y
    rw[hy] at e1 e2
    rw[loop_L e1,loop_L e2]
    exact ih (i+1) a r (by omega) (by have:=step_len hy; omega)
 unfold spec_l02Go_w0_7ppp impl_Checker_end impl_Checker_run_F1 impl_Checker_end_1_F1
 have:=key w.length 0 st sk (by omega) h
 simp only[Option.bind_some]
 rw[show ((0:Nat):Int)=0 from rfl] at this
 rw[this]
 cases loop (spec_l02Go_w0_7ppp_S1 c w) (st,sk,0)<;>rfl
end Go.Proofs.YtmahhacghgkigaaGreat.law
namespace Go.Proofs.YtmahhacghgkigaaGreat.law
open Go Go.Proofs Ae
set_option maxRecDepth 100000

theorem word_ok {w:List UInt8} (hl:w.length≤1048576) (h:spec_l01Ok w=some true):∀ x∈w,okSym x:=by
 unfold spec_l01Ok at h
 have hst:=loop_true (step:=spec_l01Ok_S1 w) (n:=w.length) (rt:=true) (fun i y hi hy=>by
  unfold spec_l01Ok_S1 at hy
  rw[if_pos (ltT hi),chr_nat' hi,Option.bind_some,sym_ix,Option.bind_some,w1 hi (by omega)] at hy
  split at hy
  ·cases hy; exact .inr ⟨false,rfl,by simp⟩
  ·cases hy; exact .inl rfl)
 have hend:loop (spec_l01Ok_S1 w) ((0:Nat):Int)=some true:=h
 have hst:=hst w.length 0 (by omega) hend
 intro x hx
 obtain ⟨i,hi,rfl⟩:=List.getElem_of_mem hx
 have h1:=hst i (by omega) hi
 unfold spec_l01Ok_S1 at h1
 rw[if_pos (ltT hi),chr_nat' hi,Option.bind_some,sym_ix,Option.bind_some] at h1
 split at h1
 ·cases h1
 ·rename_i hn
  have h2:¬ fst? (· == w[i]) [40,91,41,93,97,98]<0:=by simpa using hn
  have h3:=fst?_any (· == w[i]) ([40,91,41,93,97,98]:List UInt8)
  rw[show decide ((fst? (· == w[i]) [40,91,41,93,97,98]:Int)≥0)=true by simpa using h2] at h3
  simp only[List.any_cons,List.any_nil,Bool.or_false,Eq.comm (a:=true),Bool.or_eq_true,beq_iff_eq] at h3
  unfold okSym
  rcases h3 with h | h | h | h | h | h<;>simp[← h]

def okStk (c:Checker) (sk:List Int):Prop:=∀ x∈sk,0≤x∧x<c.Stack

theorem sym_k {x:UInt8} (hx:okSym x):∃ k:Nat,k<6∧spec_l01Symbol (x.toNat:Int)=some (k:Int):=by
 rcases hx with rfl | rfl | rfl | rfl | rfl | rfl<;>rw[sym_ix]
 ·exact ⟨0,by omega,rfl⟩
 ·exact ⟨1,by omega,rfl⟩
 ·exact ⟨2,by omega,rfl⟩
 ·exact ⟨3,by omega,rfl⟩
 ·exact ⟨4,by omega,rfl⟩
 ·exact ⟨5,by omega,rfl⟩

theorem ix_in {α:Type} {l:List α} {i:Int} (h0:0≤i) (h1:i<l.length):∃ x,ix l i=some x∧x∈l:=by
 have hlt:i.toNat<l.length:=by omega
 refine ⟨l[i.toNat],?_,List.getElem_mem hlt⟩
 unfold ix
 rw[if_pos h0,List.getElem?_eq_getElem hlt]

/-- A right checker goes on from right places. -/
theorem step_tot {c:Checker} (hc:ChkV c) {st:Int} {sk:List Int} (h0:0≤st) (h1:st<c.Accept.length) (hk:okStk c sk) (hl:sk.length≤1048576) {x:UInt8} (hx:okSym x) :
  ∃ st' sk',spec_l02Step_w0_7ppp c st sk (x.toNat:Int)=some (st',sk')∧0≤st'∧st'<c.Accept.length∧okStk c sk'∧sk'.length≤sk.length+1:=by
 obtain ⟨k,hk6,hsym⟩:=sym_k hx
 unfold spec_l02Step_w0_7ppp
 rw[hsym,Option.bind_some]
 by_cases h2:k<2
 ·rw[if_pos (decide_eq_true (by omega))]
  obtain ⟨row,e1,m1⟩:=ix_in (l:=c.Call) h0 (by rw[hc.lc]; exact h1)
  obtain ⟨hr2,hrp⟩:=hc.call row m1
  obtain ⟨p,e2,m2⟩:=ix_in (l:=row) (i:=(k:Int)) (by omega) (by omega)
  obtain ⟨p1,p2,p3,p4⟩:=hrp p m2
  rw[e1,Option.bind_some,e2,Option.bind_some,own_eq (by omega),Option.bind_some]
  unfold app
  rw[if_pos (by unfold LIM; simp; omega),Option.bind_some]
  refine ⟨_,_,rfl,p1,p2,?_,by simp⟩
  intro y hy
  rcases List.mem_append.1 hy with hy | hy
  ·exact hk y hy
  ·rw[List.mem_singleton.1 hy]; exact ⟨p3,p4⟩
 ·rw[if_neg (by simp; omega)]
  by_cases h4:k<4
  ·obtain ⟨row,e1,m1⟩:=ix_in (l:=c.Return) h0 (by rw[hc.lr]; exact h1)
   obtain ⟨hr2,hrp⟩:=hc.ret row m1
   have hw2:IntKind.wrap .i64 ((k:Int) - 2)=(k:Int) - 2:=w64 (by omega) (by omega)
   obtain ⟨r,e2,m2⟩:=ix_in (l:=row) (i:=(k:Int) - 2) (by omega) (by omega)
   obtain ⟨hr3,hrx⟩:=hrp r m2
   rcases List.eq_nil_or_concat sk with rfl | ⟨l,a,rfl⟩
   ·obtain ⟨y,e3,m3⟩:=ix_in (l:=r) (i:=c.Stack) (by have:=hc.k1; omega) (by omega)
    rw[if_pos (by simp; omega),e1,Option.bind_some,hw2,e2,Option.bind_some,e3,Option.bind_some]
    exact ⟨_,_,rfl,(hrx y m3).1,(hrx y m3).2,hk,by simp⟩
   ·simp only[List.concat_eq_append] at hk hl ⊢
    simp only[List.length_append,List.length_singleton] at hl
    have ha:=hk a (by simp)
    have el:((l++[a]).length:Int) - 1=(l.length:Int):=by simp
    have e4:IntKind.wrap .i64 (((l++[a]).length:Int) - 1)=(l.length:Int):=by rw[el,w64 (by omega) (by omega)]
    have e5:ix (l++[a]) (l.length:Int)=some a:=ix_lit (by simp)
    have e6:cut (l++[a]) 0 (l.length:Int)=some l:=by
     unfold cut
     rw[if_pos ⟨by omega,by omega,by simp; omega⟩]
     simp
    obtain ⟨y,e3,m3⟩:=ix_in (l:=r) (i:=a) ha.1 (by omega)
    rw[if_neg (by simp; omega),if_pos (decide_eq_true (by omega))]
    simp only[e1,hw2,e2,e4,e5,e3,e6,Option.bind_some,own_eq (show l.length≤2097152 by omega)]
    exact ⟨_,_,rfl,(hrx y m3).1,(hrx y m3).2,fun z hz=>hk z (by simp[hz]),by simp; omega⟩
  ·rw[if_neg (by simp; omega),if_neg (by simp; omega)]
   obtain ⟨row,e1,m1⟩:=ix_in (l:=c.Inner) h0 (by rw[hc.li]; exact h1)
   obtain ⟨hr2,hrp⟩:=hc.inn row m1
   have hw2:IntKind.wrap .i64 ((k:Int) - 4)=(k:Int) - 4:=w64 (by omega) (by omega)
   obtain ⟨y,e2,m2⟩:=ix_in (l:=row) (i:=(k:Int) - 4) (by omega) (by omega)
   rw[e1,Option.bind_some,hw2,e2,Option.bind_some]
   exact ⟨_,_,rfl,(hrp y m2).1,(hrp y m2).2,hk,by omega⟩

/-- A right checker comes to the end of a word. -/
theorem go_tot {c:Checker} (hc:ChkV c) {w:List UInt8} (hw:∀ x∈w,okSym x) {st:Int} {sk:List Int} (h0:0≤st) (h1:st<c.Accept.length) (hk:okStk c sk) (hl:sk.length+w.length≤1048576) :
  ∃ st' sk',spec_l02Go_w0_7ppp c st sk w=some (st',sk')∧0≤st'∧st'<c.Accept.length∧okStk c sk'∧sk'.length≤sk.length+w.length:=by
 have key:∀ (k i:Nat) (st:Int) (sk:List Int),i+k=w.length→0≤st→st<c.Accept.length→okStk c sk→sk.length+k≤1048576 →
   ∃ st' sk',loop (spec_l02Go_w0_7ppp_S1 c w) (st,sk,(i:Int))=some (st',sk')∧0≤st'∧st'<c.Accept.length∧okStk c sk'∧sk'.length≤sk.length+k:=by
  intro k
  induction k with
  | zero =>
   intro i st sk hi h0 h1 hk hl
   obtain rfl:i=w.length:=by omega
   exact ⟨st,sk,loop_R (by unfold spec_l02Go_w0_7ppp_S1; simp only; rw[if_neg (by simp)]; rfl),h0,h1,hk,by omega⟩
  | succ k ih =>
   intro i st sk hi h0 h1 hk hl
   have hlt:i<w.length:=by omega
   obtain ⟨st',sk',e,k0,k1,k2,k3⟩:=step_tot hc h0 h1 hk (by omega) (hw w[i] (List.getElem_mem hlt))
   obtain ⟨a,b,e2,j0,j1,j2,j3⟩:=ih (i+1) st' sk' (by omega) k0 k1 k2 (by omega)
   refine ⟨a,b,?_,j0,j1,j2,by omega⟩
   rw[loop_L (s':=(st',sk',((i+1:Nat):Int))) (by
    unfold spec_l02Go_w0_7ppp_S1
    simp only
    rw[if_pos (ltT hlt),chr_nat' hlt,Option.bind_some,e,Option.bind_some,w1 hlt (by omega)])]
   exact e2
 exact key w.length 0 st sk (by omega) h0 h1 hk hl

end Go.Proofs.YtmahhacghgkigaaGreat.law
namespace Go.Proofs.YtmahhacghgkigaaGreat.law
open Go Go.Proofs Ae
set_option maxRecDepth 100000

theorem appN {α:Type} {l m:List α} (h:l.length+m.length≤1048576):app l m=some (l++m):=by unfold app; rw[if_pos (by unfold LIM; omega)]

theorem nodup_le:∀ (n:Nat) (l:List Int),l.Nodup→(∀ x∈l,0≤x∧x<(n:Int))→l.length≤n
 | 0,l,_,h=>by
  cases l with
  | nil=>exact Nat.le_refl _
  | cons a l=>have:=h a (by simp); omega
 | n+1,l,hd,h=>by
  by_cases hm:(n:Int)∈l
  ·have h1:=nodup_le n (l.erase (n:Int)) (hd.erase _) (fun x hx=>by
    obtain ⟨h2,h3⟩:=hd.mem_erase_iff.1 hx
    have:=h x h3
    omega)
   rw[List.length_erase_of_mem hm] at h1
   omega
  ·have h1:=nodup_le n l hd (fun x hx=>by
    have:=h x hx
    have:x≠(n:Int):=fun e=>hm (e▸hx)
    omega)
   omega

theorem has_eq {l:List Int} (h:l.length≤1048576) (n:Int):spec_l00Has l n=some (decide (n∈l)):=by
 unfold spec_l00Has
 rw[loop_allL (l:=l) (p:=fun x=>!(x == n)) (rt:=some false) (rf:=true) (loop_R (by unfold spec_l00Has_S1; rw[if_neg (by simp)]; rfl)) fun i x hx=>by
  have hlt:=(List.getElem?_eq_some_iff.1 hx).1
  unfold spec_l00Has_S1
  rw[if_pos (ltT hlt),ix_lit hx,Option.bind_some,w1 hlt (by omega)]
  cases (x == n)<;>rfl]
 split
 ·rename_i hh
  have:n∉l:=fun hm=>by
   have:=List.all_eq_true.1 hh n hm
   simp at this
  simp[this]
 ·rename_i hh
  have:n∈l:=Decidable.byContradiction fun hm=>hh (List.all_eq_true.2 fun x hx=>by
   have:x≠n:=fun e=>hm (e▸hx)
   simpa using this)
  simp[this]

theorem contains_eq {l:List Int} (h:l.length≤1048576) (n:Int):slices_Contains_sint64_int64 l n=some (decide (n∈l)):=by
 unfold slices_Contains_sint64_int64 slices_Index_sint64_int64
 rw[loop_find (l:=l) (fun x=>n == x) (loop_R (by unfold slices_Index_sint64_int64_S1; rw[if_neg (by simp)]; rfl)) fun i x hx=>by
  have hlt:=(List.getElem?_eq_some_iff.1 hx).1
  unfold slices_Index_sint64_int64_S1
  rw[if_pos (ltT hlt),ix_lit hx,Option.bind_some,w1 hlt (by omega)]]
 rw[Option.bind_some,fst?_any]
 congr 1
 by_cases hm:n∈l
 ·simp only[hm,decide_true,List.any_eq_true,beq_iff_eq]
  exact ⟨n,hm,rfl⟩
 ·simp only[hm,decide_false]
  rw[List.any_eq_false]
  intro x hx e
  exact hm ((beq_iff_eq.1 e)▸hx)

theorem put_done (l:List Int) (n:Int) (hl:l.length≤1000):∀ (suf pre o:List Int),l=pre++suf→o.length≤1+pre.length→loop (spec_l00Put_S1 l n) (o,true,(pre.length:Int))=some (o++suf)
 | [],pre,o,e,ho=>by
  have e':l.length=pre.length:=by rw[e]; simp
  refine loop_R ?_
  unfold spec_l00Put_S1 spec_l00Put_J1 spec_l00Put_J2
  simp[e']
 | x::s,pre,o,e,ho=>by
  have hx:l[pre.length]?=some x:=by rw[e]; simp
  have hlt:=(List.getElem?_eq_some_iff.1 hx).1
  have ih:=put_done l n hl s (pre++[x]) (o++[x]) (by rw[e]; simp) (by simp; omega)
  rw[loop_L (s':=(o++[x],true,((pre.length+1:Nat):Int)))]
  ·rw[List.length_append] at ih
   simpa using ih
  ·unfold spec_l00Put_S1 spec_l00Put_J3
   simp only[ltT hlt,if_true,Bool.not_true,Bool.false_eq_true,if_false,Option.bind_some,ix_lit hx,appN (l:=o) (m:=[x]) (by simp; omega),w1 hlt (show l.length≤9223372036854775807 by omega)]

theorem put_ok (l:List Int) (n:Int) (hl:l.length≤1000) (hn:n∉l):∀ (suf pre:List Int),l=pre++suf→∃ a b,l=a++b∧loop (spec_l00Put_S1 l n) (pre,false,(pre.length:Int))=some (a++n::b)
 | [],pre,e=>by
  have e':l=pre:=by simpa using e
  refine ⟨l,[],by simp,?_⟩
  refine loop_R ?_
  unfold spec_l00Put_S1 spec_l00Put_J1 spec_l00Put_J2
  subst e'
  simp[appN (l:=l) (m:=[n]) (by simp; omega)]
 | x::s,pre,e=>by
  have hx:l[pre.length]?=some x:=by rw[e]; simp
  have hlt:=(List.getElem?_eq_some_iff.1 hx).1
  have hne:x≠n:=fun h=>hn (h▸List.mem_of_getElem? hx)
  have hpl:pre.length≤1000:=by omega
  by_cases hge:x≥n
  ·have hgt:x>n:=by omega
   refine ⟨pre,x::s,e,?_⟩
   have:=put_done l n hl s (pre++[x]) (pre++[n]++[x]) (by rw[e]; simp) (by simp; omega)
   rw[loop_L (s':=(pre++[n]++[x],true,((pre.length+1:Nat):Int)))]
   ·rw[List.length_append] at this
    simpa using this
   ·unfold spec_l00Put_S1 spec_l00Put_J3
    simp only[ltT hlt,if_true,Bool.not_false,Option.bind_some,ix_lit hx,decide_eq_true hge,decide_eq_true hgt,appN (l:=pre) (m:=[n]) (by simp; omega),appN (l:=pre++[n]) (m:=[x]) (by simp; omega),w1 hlt (show l.length≤9223372036854775807 by omega)]
  ·obtain ⟨a,b,h1,h2⟩:=put_ok l n hl hn s (pre++[x]) (by rw[e]; simp)
   refine ⟨a,b,h1,?_⟩
   rw[loop_L (s':=(pre++[x],false,((pre.length+1:Nat):Int)))]
   ·rw[List.length_append] at h2
    simpa using h2
   ·unfold spec_l00Put_S1 spec_l00Put_J3
    simp only[ltT hlt,if_true,Bool.not_false,Option.bind_some,ix_lit hx,decide_eq_false hge,Bool.false_eq_true,if_false,appN (l:=pre) (m:=[x]) (by simp; omega),w1 hlt (show l.length≤9223372036854775807 by omega)]

theorem put_eq {l:List Int} {n:Int} (hl:l.length≤1000) (hn:n∉l):∃ r,spec_l00Put l n=some r∧r.Perm (l++[n]):=by
 obtain ⟨a,b,h1,h2⟩:=put_ok l n hl hn l [] (by simp)
 refine ⟨_,h2,?_⟩
 rw[h1]
 refine List.perm_middle.trans ?_
 exact (List.perm_append_singleton n (a++b)).symm
end Go.Proofs.YtmahhacghgkigaaGreat.law
namespace Go.Proofs.YtmahhacghgkigaaGreat.law
open Go Go.Proofs Ae
set_option maxRecDepth 100000

def Nx (c:Checker) (x y:Int):Prop:=∃ rr cl inn r0 r1 p0 p1,ix c.Return x=some rr∧ix rr 0=some r0∧ix rr 1=some r1∧ix c.Inner x=some inn∧ix c.Call x=some cl∧ix cl 0=some p0∧ix cl 1=some p1∧(y∈r0∨y∈r1∨y∈inn∨y=p0.To∨y=p1.To)

theorem mv {c:Checker} (hc:ChkV c) {x:Int} (h0:0≤x) (h1:x<c.Accept.length):∃ rr cl inn r0 r1 p0 p1,ix c.Return x=some rr∧ix rr 0=some r0∧ix rr 1=some r1∧ix c.Inner x=some inn∧ix c.Call x=some cl∧ix cl 0=some p0∧ix cl 1=some p1 ∧
  r0.length≤81∧r1.length≤81∧inn.length≤2∧(∀ y,Nx c x y↔(y∈r0∨y∈r1∨y∈inn∨y=p0.To∨y=p1.To))∧∀ y,(y∈r0∨y∈r1∨y∈inn∨y=p0.To∨y=p1.To)→0≤y∧y<(c.Accept.length:Int):=by
 obtain ⟨rr,e1,m1⟩:=ix_in (l:=c.Return) h0 (by rw[hc.lr]; exact h1)
 obtain ⟨inn,e2,m2⟩:=ix_in (l:=c.Inner) h0 (by rw[hc.li]; exact h1)
 obtain ⟨cl,e3,m3⟩:=ix_in (l:=c.Call) h0 (by rw[hc.lc]; exact h1)
 obtain ⟨l1,q1⟩:=hc.ret rr m1
 obtain ⟨l2,q2⟩:=hc.inn inn m2
 obtain ⟨l3,q3⟩:=hc.call cl m3
 obtain ⟨r0,f1,g1⟩:=ix_in (l:=rr) (i:=0) (by decide) (by omega)
 obtain ⟨r1,f2,g2⟩:=ix_in (l:=rr) (i:=1) (by decide) (by omega)
 obtain ⟨p0,f3,g3⟩:=ix_in (l:=cl) (i:=0) (by decide) (by omega)
 obtain ⟨p1,f4,g4⟩:=ix_in (l:=cl) (i:=1) (by decide) (by omega)
 have k2:=hc.k2
 obtain ⟨a0,b0⟩:=q1 r0 g1
 obtain ⟨a1,b1⟩:=q1 r1 g2
 have c0:=q3 p0 g3
 have c1:=q3 p1 g4
 refine ⟨rr,cl,inn,r0,r1,p0,p1,e1,f1,f2,e2,e3,f3,f4,by omega,by omega,by omega,fun y=>⟨?_,fun h=>⟨rr,cl,inn,r0,r1,p0,p1,e1,f1,f2,e2,e3,f3,f4,h⟩⟩,?_⟩
 ·rintro ⟨_,_,_,_,_,_,_,z1,z2,z3,z4,z5,z6,z7,h⟩
  rw[e1] at z1; cases z1
  rw[e2] at z4; cases z4
  rw[e3] at z5; cases z5
  rw[f1] at z2; cases z2
  rw[f2] at z3; cases z3
  rw[f3] at z6; cases z6
  rw[f4] at z7; cases z7
  exact h
 ·rintro y (h | h | h | rfl | rfl)
  ·exact b0 y h
  ·exact b1 y h
  ·exact q2 y h
  ·exact ⟨c0.1,c0.2.1⟩
  ·exact ⟨c1.1,c1.2.1⟩

inductive Rch (c:Checker) (s:Int):Int→Prop
 | refl:Rch c s s
 | step {x y} (h:Rch c s x) (k:Nx c x y):Rch c s y

structure Clo (c:Checker) (s:Int) (out:List Int):Prop where
 mem:∀ x,x∈out↔Rch c s x
 rng:∀ x∈out,0≤x∧x<(c.Accept.length:Int)
 len:out.length≤40

theorem clo_of {c:Checker} {s:Int} {out:List Int} (h0:s∈out) (h1:∀ x∈out,Rch c s x) (h2:∀ x∈out,∀ y,Nx c x y→y∈out) (h3:∀ x∈out,0≤x∧x<(c.Accept.length:Int)) (h4:out.length≤40):Clo c s out :=
 ⟨fun x=>⟨h1 x,fun hr=>by
  induction hr with
  | refl=>exact h0
  | step _ k ih=>exact h2 _ ih _ k⟩,h3,h4⟩

theorem add_loop {n:Nat} (hn40:n≤40) {next out0 todo0:List Int} (hl:next.length≤1000) (hn:∀ y∈next,0≤y∧y<(n:Int)) (hd:out0.Nodup) (hr:∀ y∈out0,0≤y∧y<(n:Int)) (ht:todo0.length≤1000) :
  ∃ out1 new,loop (spec_l02Used_F1_S2 next) (out0,todo0,0)=some (.inl (out1,todo0++new))∧out1.Perm (out0++new)∧out1.Nodup∧(∀ y∈new,y∈next)∧(∀ y∈next,y∈out1):=by
 obtain ⟨r,h1,h2⟩:=loop_inv (step:=spec_l02Used_F1_S2 next)
  (fun st=>∃ (k:Nat) (new:List Int),st.2.2=(k:Int)∧k≤next.length∧st.2.1=todo0++new∧st.1.Perm (out0++new)∧st.1.Nodup∧(∀ y∈new,y∈next)∧∀ j y,j<k→next[j]?=some y→y∈st.1)
  (fun st=>next.length - st.2.2.toNat)
  (fun r=>∃ out1 new,r=.inl (out1,todo0++new)∧out1.Perm (out0++new)∧out1.Nodup∧(∀ y∈new,y∈next)∧(∀ y∈next,y∈out1))
  (by
   rintro ⟨out,todo,i⟩ ⟨k,new,e1,e2,e3,hp,hnd,hnew,hall⟩
   simp only at e1 e3 hp hnd hall
   subst e1 e3
   have hrg:∀ y∈out,0≤y∧y<(n:Int):=fun y hy=>by
    rcases List.mem_append.1 (hp.mem_iff.1 hy) with h | h
    ·exact hr y h
    ·exact hn y (hnew y h)
   have hol:=nodup_le n out hnd hrg
   have hpl:=hp.length_eq
   rw[List.length_append] at hpl
   by_cases hk:k<next.length
   ·left
    have hx:next[k]?=some next[k]:=List.getElem?_eq_getElem hk
    generalize next[k]=x at hx
    have hxm:=List.mem_of_getElem? hx
    by_cases hm:x∈out
    ·refine ⟨(out,todo0++new,((k+1:Nat):Int)),?_,⟨k+1,new,rfl,hk,rfl,hp,hnd,hnew,?_⟩,?_⟩
     ·unfold spec_l02Used_F1_S2 spec_l02Used_F1_J4
      simp only[ltT hk,if_true,ix_lit hx,Option.bind_some,has_eq (l:=out) (by omega),hm,decide_true,Bool.not_true,Bool.false_eq_true,if_false,w1 hk (show next.length≤9223372036854775807 by omega)]
     ·intro j y hj hy
      by_cases hjk:j=k
      ·subst hjk; rw[hx] at hy; cases hy; exact hm
      ·exact hall j y (by omega) hy
     ·simp only[Int.toNat_natCast]; omega
    ·obtain ⟨r,hr1,hr2⟩:=put_eq (l:=out) (n:=x) (by omega) hm
     refine ⟨(r,todo0++(new++[x]),((k+1:Nat):Int)),?_,⟨k+1,new++[x],rfl,hk,rfl,?_,?_,?_,?_⟩,?_⟩
     ·unfold spec_l02Used_F1_S2 spec_l02Used_F1_J4
      simp only[ltT hk,if_true,ix_lit hx,Option.bind_some,has_eq (l:=out) (by omega),hm,decide_false,Bool.not_false,hr1,appN (l:=todo0++new) (m:=[x]) (by simp; omega),List.append_assoc,w1 hk (show next.length≤9223372036854775807 by omega)]
     ·exact hr2.trans (by rw[← List.append_assoc]; exact hp.append_right [x])
     ·exact hr2.nodup_iff.2 (List.nodup_append.2 ⟨hnd,by simp,fun a ha b hb=>by
       have:b=x:=by simpa using hb
       subst this
       exact fun e=>hm (e▸ha)⟩)
     ·intro y hy
      rcases List.mem_append.1 hy with h | h
      ·exact hnew y h
      ·rw[List.mem_singleton.1 h]; exact hxm
     ·intro j y hj hy
      refine hr2.mem_iff.2 (List.mem_append.2 ?_)
      by_cases hjk:j=k
      ·subst hjk; rw[hx] at hy; cases hy; exact .inr (by simp)
      ·exact .inl (hall j y (by omega) hy)
     ·simp only[Int.toNat_natCast]; omega
   ·right
    obtain rfl:k=next.length:=by omega
    refine ⟨.inl (out,todo0++new),?_,out,new,rfl,hp,hnd,hnew,fun y hy=>?_⟩
    ·unfold spec_l02Used_F1_S2 spec_l02Used_F1_J3
     simp only[ltF,Bool.false_eq_true,if_false,Option.map_some]
    ·obtain ⟨j,hj⟩:=List.getElem?_of_mem hy
     exact hall j y (List.getElem?_eq_some_iff.1 hj).1 hj)
  (out0,todo0,0) ⟨0,[],rfl,Nat.zero_le _,by simp,by simp,hd,by simp,fun j y hj=>by omega⟩
 obtain ⟨out1,new,rfl,h3⟩:=h2
 exact ⟨out1,new,h1,h3⟩
end Go.Proofs.YtmahhacghgkigaaGreat.law
namespace Go.Proofs.YtmahhacghgkigaaGreat.law
open Go Go.Proofs Ae
set_option maxRecDepth 100000

theorem own_eq' {l:List Int} (h:l.length≤1000):spec_l00Own l=some l:=by
 unfold spec_l00Own
 rw[appN (by simp; omega)]
 rfl

theorem cut1G {x:Int} {l:List Int}:cut (x::l) 1 ((x::l).length:Int)=some l:=by
 unfold cut
 rw[if_pos ⟨by decide,by simp only[List.length_cons]; omega,by omega⟩]
 simp only[List.length_cons,Int.toNat_natCast]
 rw[show (1:Int).toNat=1 from rfl,List.drop_succ_cons,List.drop_zero,show l.length+1 - 1=l.length by omega,List.take_length]

theorem specUsed {c:Checker} (hc:ChkV c) {s:Int} (h0:0≤s) (h1:s<c.Accept.length):∃ out,spec_l02Used_F1 c.Stack s c.Accept c.Call c.Return c.Inner=some out∧Clo c s out:=by
 unfold spec_l02Used_F1
 have h40:=hc.n2
 obtain ⟨r,e,hq⟩:=loop_inv (step:=spec_l02Used_F1_S1 c.Call c.Return c.Inner)
  (fun st=>st.1.Nodup∧(∀ x∈st.1,0≤x∧x<(c.Accept.length:Int))∧s∈st.1∧(∀ x∈st.1,Rch c s x)∧(∀ x∈st.2,x∈st.1)∧st.2.length≤st.1.length∧∀ x∈st.1,x∈st.2∨∀ y,Nx c x y→y∈st.1)
  (fun st=>2*(40 - st.1.length)+st.2.length)
  (fun r=>Clo c s r)
  (by
   rintro ⟨out,todo⟩ ⟨hd,hr,hs,hre,hts,htl,hcl⟩
   simp only at hd hr hs hre hts htl hcl
   have hol:=nodup_le _ out hd hr
   cases todo with
   | nil =>
    right
    refine ⟨out,?_,clo_of hs hre (fun x hx=>(hcl x hx).resolve_left (by simp)) hr (by omega)⟩
    unfold spec_l02Used_F1_S1 spec_l02Used_F1_J1
    simp
   | cons x ts =>
    left
    obtain ⟨x0,x1⟩:=hr x (hts x (by simp))
    obtain ⟨rr,cl,inn,r0,r1,p0,p1,z1,z2,z3,z4,z5,z6,z7,l0,l1,l2,hnx,hrg⟩:=mv hc x0 x1
    have hmem:∀ y,y∈inn++[p0.To]++r0++[p1.To]++r1↔Nx c x y:=by
     intro y
     rw[hnx]
     simp only[List.mem_append,List.mem_singleton]
     constructor
     ·rintro ((((h | h) | h) | h) | h)
      ·exact .inr (.inr (.inl h))
      ·exact .inr (.inr (.inr (.inl h)))
      ·exact .inl h
      ·exact .inr (.inr (.inr (.inr h)))
      ·exact .inr (.inl h)
     ·rintro (h | h | h | h | h)
      ·exact .inl (.inl (.inr h))
      ·exact .inr h
      ·exact .inl (.inl (.inl (.inl h)))
      ·exact .inl (.inl (.inl (.inr h)))
      ·exact .inl (.inr h)
    simp only[List.length_cons] at htl
    obtain ⟨out1,new,a1,a2,a3,a4,a5⟩:=add_loop (n:=c.Accept.length) h40 (next:=inn++[p0.To]++r0++[p1.To]++r1) (out0:=out) (todo0:=ts) (by simp; omega)
     (fun y hy=>hrg y ((hnx y).1 ((hmem y).1 hy))) hd hr (by omega)
    have hsub:∀ y∈out,y∈out1:=fun y hy=>a2.mem_iff.2 (List.mem_append.2 (.inl hy))
    have hrg1:∀ y∈out1,0≤y∧y<(c.Accept.length:Int):=fun y hy=>by
     rcases List.mem_append.1 (a2.mem_iff.1 hy) with h | h
     ·exact hr y h
     ·exact hrg y ((hnx y).1 ((hmem y).1 (a4 y h)))
    have hol1:=nodup_le _ out1 a3 hrg1
    have hpl:=a2.length_eq
    rw[List.length_append] at hpl
    refine ⟨(out1,ts++new),?_,⟨a3,hrg1,hsub s hs,?_,?_,?_,?_⟩,?_⟩
    ·unfold spec_l02Used_F1_S1
     simp only
     rw[if_pos (by simp),show ix (x::ts) 0=some x from rfl,Option.bind_some,cut1G,Option.bind_some,z4,Option.bind_some,own_eq' (by omega),Option.bind_some]
     rw[loop_L (s':=(inn++[p0.To]++r0,1)),loop_L (s':=(inn++[p0.To]++r0++[p1.To]++r1,2))]
     ·refine loop_R ?_
      unfold spec_l02Used_F1_S3 spec_l02Used_F1_J2
      simp only[a1]
      rfl
     ·unfold spec_l02Used_F1_S3
      simp only
      rw[if_pos (by decide),z5,Option.bind_some,z7,Option.bind_some,appN (by simp; omega),Option.bind_some,z1,Option.bind_some,z3,Option.bind_some,appN (by simp; omega),Option.bind_some]
      rfl
     ·unfold spec_l02Used_F1_S3
      simp only
      rw[if_pos (by decide),z5,Option.bind_some,z6,Option.bind_some,appN (by simp; omega),Option.bind_some,z1,Option.bind_some,z2,Option.bind_some,appN (by simp; omega),Option.bind_some]
      rfl
    ·intro y hy
     rcases List.mem_append.1 (a2.mem_iff.1 hy) with h | h
     ·exact hre y h
     ·exact .step (hre x (hts x (by simp))) ((hmem y).1 (a4 y h))
    ·intro y hy
     rcases List.mem_append.1 hy with h | h
     ·exact hsub y (hts y (by simp[h]))
     ·exact a2.mem_iff.2 (List.mem_append.2 (.inr h))
    ·simp only[List.length_append]; omega
    ·intro y hy
     rcases List.mem_append.1 (a2.mem_iff.1 hy) with h | h
     ·rcases hcl y h with h' | h'
      ·rcases List.mem_cons.1 h' with rfl | h''
       ·exact .inr fun z hz=>a5 z ((hmem z).2 hz)
       ·exact .inl (List.mem_append.2 (.inl h''))
      ·exact .inr fun z hz=>hsub z (h' z hz)
     ·exact .inl (List.mem_append.2 (.inr h))
    ·simp only[List.length_append,List.length_cons]; omega)
  ([s],[s]) ⟨by simp,by simpa using ⟨h0,h1⟩,by simp,by simpa using Rch.refl,by simp,by simp,by simp⟩
 exact ⟨r,e,hq⟩
end Go.Proofs.YtmahhacghgkigaaGreat.law
namespace Go.Proofs.YtmahhacghgkigaaGreat.law
open Go Go.Proofs Ae
set_option maxRecDepth 100000

theorem concat4 {a b d e:List Int} (ha:a.length≤100) (hb:b.length≤100) (hd:d.length≤100) (he:e.length≤100):slices_Concat_sint64_int64 [a,b,d,e]=some (a++b++d++e):=by
 have w:∀ n:Int,0≤n→n≤1000→IntKind.wrap .i64 n=n:=fun n h k=>w64 (by omega) (by omega)
 have st:∀ (k:Nat) (sz:Int) (x:List Int),([a,b,d,e]:List (List Int))[k]?=some x→0≤sz→sz≤400→x.length≤100→slices_Concat_sint64_int64_S2 [a,b,d,e] (sz,(k:Int))=some (.inl (sz+x.length,((k+1:Nat):Int))):=by
  intro k sz x hx h0 h1 h2
  have hlt:=(List.getElem?_eq_some_iff.1 hx).1
  unfold slices_Concat_sint64_int64_S2
  simp only
  rw[if_pos (ltT hlt),ix_lit hx,Option.bind_some,w _ (by omega) (by omega),if_neg (by simp; omega),w1 hlt (by simp)]
 have st2:∀ (k:Nat) (o x:List Int),([a,b,d,e]:List (List Int))[k]?=some x→o.length≤400→x.length≤100→slices_Concat_sint64_int64_S1 [a,b,d,e] (o,(k:Int))=some (.inl (o++x,((k+1:Nat):Int))):=by
  intro k o x hx h1 h2
  have hlt:=(List.getElem?_eq_some_iff.1 hx).1
  unfold slices_Concat_sint64_int64_S1
  simp only
  rw[if_pos (ltT hlt),ix_lit hx,Option.bind_some,appN (by omega),Option.bind_some,w1 hlt (by simp)]
 unfold slices_Concat_sint64_int64
 have s0:=st 0 0 a rfl (by omega) (by omega) ha
 have s1:=st 1 (0+a.length) b rfl (by omega) (by omega) hb
 have s2:=st 2 (0+a.length+b.length) d rfl (by omega) (by omega) hd
 have s3:=st 3 (0+a.length+b.length+d.length) e rfl (by omega) (by omega) he
 refine (loop_L s0).trans ((loop_L s1).trans ((loop_L s2).trans ((loop_L s3).trans ?_)))
 refine loop_R ?_
 unfold slices_Concat_sint64_int64_S2
 simp only
 rw[if_neg (by simp)]
 unfold slices_Concat_sint64_int64_J1 growN
 rw[if_pos ⟨rfl,by omega,by omega⟩,Option.bind_some]
 have t0:=st2 0 [] a rfl (by simp) ha
 have t1:=st2 1 ([]++a) b rfl (by simp; omega) hb
 have t2:=st2 2 ([]++a++b) d rfl (by simp; omega) hd
 have t3:=st2 3 ([]++a++b++d) e rfl (by simp; omega) he
 have t4:loop (slices_Concat_sint64_int64_S1 [a,b,d,e]) (([]:List Int),0)=some (a++b++d++e):=by
  refine (loop_L t0).trans ((loop_L t1).trans ((loop_L t2).trans ((loop_L t3).trans ?_)))
  refine loop_R ?_
  unfold slices_Concat_sint64_int64_S1 slices_Concat_sint64_int64_J2
  simp only
  rw[if_neg (by simp)]
  simp
 rw[t4]
 rfl

theorem addI {n:Nat} (hn40:n≤40) {next out0:List Int} {t:Int} (hl:next.length≤1000) (hn:∀ y∈next,0≤y∧y<(n:Int)) (hd:out0.Nodup) (hr:∀ y∈out0,0≤y∧y<(n:Int)) :
  ∃ new,loop (impl_Checker_used_S2 t next) (out0,0)=some (.inl (out0++new,IntKind.wrap .i64 (t+1)))∧(out0++new).Nodup∧(∀ y∈new,y∈next)∧(∀ y∈next,y∈out0++new):=by
 obtain ⟨r,h1,h2⟩:=loop_inv (step:=impl_Checker_used_S2 t next)
  (fun st=>∃ (k:Nat) (new:List Int),st.2=(k:Int)∧k≤next.length∧st.1=out0++new∧(out0++new).Nodup∧(∀ y∈new,y∈next)∧∀ j y,j<k→next[j]?=some y→y∈out0++new)
  (fun st=>next.length - st.2.toNat)
  (fun r=>∃ new,r=.inl (out0++new,IntKind.wrap .i64 (t+1))∧(out0++new).Nodup∧(∀ y∈new,y∈next)∧(∀ y∈next,y∈out0++new))
  (by
   rintro ⟨out,i⟩ ⟨k,new,e1,e2,e3,hnd,hnew,hall⟩
   simp only at e1 e3
   subst e1 e3
   have hrg:∀ y∈out0++new,0≤y∧y<(n:Int):=fun y hy=>by
    rcases List.mem_append.1 hy with h | h
    ·exact hr y h
    ·exact hn y (hnew y h)
   have hol:=nodup_le n (out0++new) hnd hrg
   by_cases hk:k<next.length
   ·left
    have hx:next[k]?=some next[k]:=List.getElem?_eq_getElem hk
    generalize next[k]=x at hx
    have hxm:=List.mem_of_getElem? hx
    by_cases hm:x∈out0++new
    ·refine ⟨(out0++new,((k+1:Nat):Int)),?_,⟨k+1,new,rfl,hk,rfl,hnd,hnew,?_⟩,?_⟩
     ·unfold impl_Checker_used_S2 impl_Checker_used_J3
      simp only
      rw[if_pos (ltT hk),ix_lit hx,Option.bind_some,contains_eq (by omega),Option.bind_some,decide_eq_true hm,if_neg (by decide),w1 hk (by omega)]
     ·intro j y hj hy
      by_cases hjk:j=k
      ·subst hjk; rw[hx] at hy; cases hy; exact hm
      ·exact hall j y (by omega) hy
     ·simp only[Int.toNat_natCast]; omega
    ·refine ⟨(out0++(new++[x]),((k+1:Nat):Int)),?_,⟨k+1,new++[x],rfl,hk,rfl,?_,?_,?_⟩,?_⟩
     ·unfold impl_Checker_used_S2 impl_Checker_used_J3
      simp only
      rw[if_pos (ltT hk),ix_lit hx,Option.bind_some,contains_eq (by omega),Option.bind_some,decide_eq_false hm,if_pos (by decide),appN (by rw[List.length_singleton]; omega),Option.bind_some,w1 hk (by omega),List.append_assoc]
     ·rw[← List.append_assoc]
      exact List.nodup_append.2 ⟨hnd,by simp,fun a ha b hb=>by
       have:b=x:=by simpa using hb
       subst this
       exact fun e=>hm (e▸ha)⟩
     ·intro y hy
      rcases List.mem_append.1 hy with h | h
      ·exact hnew y h
      ·rw[List.mem_singleton.1 h]; exact hxm
     ·intro j y hj hy
      rw[← List.append_assoc]
      refine List.mem_append.2 ?_
      by_cases hjk:j=k
      ·subst hjk; rw[hx] at hy; cases hy; exact .inr (by simp)
      ·exact .inl (hall j y (by omega) hy)
     ·simp only[Int.toNat_natCast]; omega
   ·right
    obtain rfl:k=next.length:=by omega
    refine ⟨.inl (out0++new,IntKind.wrap .i64 (t+1)),?_,new,rfl,hnd,hnew,fun y hy=>?_⟩
    ·unfold impl_Checker_used_S2 impl_Checker_used_J2
     simp only[ltF,Bool.false_eq_true,if_false,Option.map_some]
    ·obtain ⟨j,hj⟩:=List.getElem?_of_mem hy
     exact hall j y (List.getElem?_eq_some_iff.1 hj).1 hj)
  (out0,0) ⟨0,[],rfl,Nat.zero_le _,by simp,by simpa using hd,by simp,fun j y hj=>by omega⟩
 obtain ⟨new,rfl,h3⟩:=h2
 exact ⟨new,h1,h3⟩

theorem srt_mem {l:List Int} {x:Int}:x∈srt l↔x∈l:=by unfold srt; exact List.mem_mergeSort

theorem implUsed {c:Checker} (hc:ChkV c) {s:Int} (h0:0≤s) (h1:s<c.Accept.length):∃ out,impl_Checker_used (⟨c.Stack,s,c.Accept,c.Call,c.Return,c.Inner⟩:Checker)=some out∧Clo c s out:=by
 unfold impl_Checker_used
 have h40:=hc.n2
 obtain ⟨r,e,hq⟩:=loop_inv (step:=impl_Checker_used_S1 (⟨c.Stack,s,c.Accept,c.Call,c.Return,c.Inner⟩:Checker))
  (fun st=>∃ k:Nat,st.2=(k:Int)∧k≤st.1.length∧st.1.Nodup∧(∀ x∈st.1,0≤x∧x<(c.Accept.length:Int))∧s∈st.1∧(∀ x∈st.1,Rch c s x)∧∀ j x,j<k→st.1[j]?=some x→∀ y,Nx c x y→y∈st.1)
  (fun st=>40 - st.2.toNat)
  (fun r=>Clo c s r)
  (by
   rintro ⟨out,i⟩ ⟨k,e1,hk,hd,hr,hs,hre,hcl⟩
   simp only at e1 hk hd hr hs hre hcl
   subst e1
   have hol:=nodup_le _ out hd hr
   by_cases hlt:k<out.length
   ·left
    have hx:out[k]?=some out[k]:=List.getElem?_eq_getElem hlt
    generalize out[k]=x at hx
    have hxm:=List.mem_of_getElem? hx
    obtain ⟨x0,x1⟩:=hr x hxm
    obtain ⟨rr,cl,inn,r0,r1,p0,p1,z1,z2,z3,z4,z5,z6,z7,l0,l1,l2,hnx,hrg⟩:=mv hc x0 x1
    have hmem:∀ y,y∈r0++r1++inn++[p0.To,p1.To]↔Nx c x y:=by
     intro y
     rw[hnx]
     simp only[List.mem_append,List.mem_cons,List.not_mem_nil,or_false,or_assoc]
    obtain ⟨new,a1,a3,a4,a5⟩:=addI (n:=c.Accept.length) h40 (next:=r0++r1++inn++[p0.To,p1.To]) (out0:=out) (t:=(k:Int)) (by simp; omega)
     (fun y hy=>hrg y ((hnx y).1 ((hmem y).1 hy))) hd hr
    refine ⟨(out++new,((k+1:Nat):Int)),?_,⟨k+1,rfl,by simp only[List.length_append]; omega,a3,?_,List.mem_append.2 (.inl hs),?_,?_⟩,?_⟩
    ·unfold impl_Checker_used_S1
     simp only
     rw[if_pos (ltT hlt),ix_lit hx,Option.bind_some,z1,Option.bind_some,z2,Option.bind_some,Option.bind_some,z3,Option.bind_some,z4,Option.bind_some,z5,Option.bind_some,z6,Option.bind_some,Option.bind_some,z7,Option.bind_some,
      concat4 (by omega) (by omega) (by omega) (by simp),Option.bind_some,a1,w1 hlt (by omega)]
    ·intro y hy
     rcases List.mem_append.1 hy with h | h
     ·exact hr y h
     ·exact hrg y ((hnx y).1 ((hmem y).1 (a4 y h)))
    ·intro y hy
     rcases List.mem_append.1 hy with h | h
     ·exact hre y h
     ·exact .step (hre x hxm) ((hmem y).1 (a4 y h))
    ·intro j z hj hz y hy
     by_cases hjk:j=k
     ·subst hjk
      rw[List.getElem?_append_left hlt,hx] at hz
      cases hz
      exact a5 y ((hmem y).2 hy)
     ·rw[List.getElem?_append_left (by omega)] at hz
      exact List.mem_append.2 (.inl (hcl j z (by omega) hz y hy))
    ·simp only[Int.toNat_natCast]; omega
   ·right
    obtain rfl:k=out.length:=by omega
    refine ⟨srt out,?_,?_⟩
    ·unfold impl_Checker_used_S1 impl_Checker_used_J1
     simp only
     rw[if_neg (by simp),srtM,if_pos (by omega)]
     rfl
    ·have:=clo_of hs hre (fun x hx y hy=>by
      obtain ⟨j,hj⟩:=List.getElem?_of_mem hx
      exact hcl j x (List.getElem?_eq_some_iff.1 hj).1 hj y hy) hr (by omega)
     exact ⟨fun x=>srt_mem.trans (this.mem x),fun x hx=>hr x (srt_mem.1 hx),by rw[srt_len]; omega⟩)
  ([s],0) ⟨0,rfl,by simp,by simp,by simpa using ⟨h0,h1⟩,by simp,by simpa using Rch.refl,fun j x hj=>by omega⟩
 exact ⟨r,e,hq⟩
end Go.Proofs.YtmahhacghgkigaaGreat.law
namespace Go.Proofs.YtmahhacghgkigaaGreat.law
open Go Go.Proofs Ae
set_option maxRecDepth 100000

def acc (c:Checker) (x:Int):Bool:=(ix c.Accept x).getD false
theorem acc_ix {c:Checker} {x:Int} (h0:0≤x) (h1:x<c.Accept.length):ix c.Accept x=some (acc c x):=by
 obtain ⟨b,e,_⟩:=ix_in h0 h1
 unfold acc
 rw[e]; rfl

theorem any_mem {l m:List Int} (p:Int→Bool) (h:∀ x,x∈l↔x∈m):l.any p=m.any p:=by
 rw[Bool.eq_iff_iff,List.any_eq_true,List.any_eq_true]
 exact ⟨fun ⟨x,hx,hp⟩=>⟨x,(h x).1 hx,hp⟩,fun ⟨x,hx,hp⟩=>⟨x,(h x).2 hx,hp⟩⟩

/-- The lost states. -/
def lostL (f:Int→Bool):Nat→List Int
 | 0=>[]
 | n+1=>lostL f n++(if f (n:Int) then [] else [(n:Int)])
theorem lostL_succ (f:Int→Bool) (k:Nat):lostL f (k+1)=lostL f k++(if f (k:Int) then [] else [(k:Int)]):=rfl
theorem lostL_len (f:Int→Bool):∀ n,(lostL f n).length≤n
 | 0=>Nat.le_refl _
 | n+1=>by
  have:=lostL_len f n
  unfold lostL
  rw[List.length_append]
  split<;>simp<;>omega

theorem specIn {c:Checker} {out y:List Int} {s:Int} (hy:∀ x∈y,0≤x∧x<(c.Accept.length:Int)) (hl:y.length≤1000) :
  ∀ (suf pre:List Int) (b:Bool),y=pre++suf→loop (spec_l08Lost_w0_7_S2 c out s y) (b,(pre.length:Int))=spec_l08Lost_w0_7_J2 out s (b||suf.any (acc c))
 | [],pre,b,e=>by
  have e':y.length=pre.length:=by rw[e]; simp
  rw[loop_eq]
  unfold spec_l08Lost_w0_7_S2
  simp only[e',ltF,Bool.false_eq_true,if_false,List.any_nil,Bool.or_false]
  cases spec_l08Lost_w0_7_J2 out s b<;>rfl
 | x::t,pre,b,e=>by
  have hx:y[pre.length]?=some x:=by rw[e]; simp
  have hlt:=(List.getElem?_eq_some_iff.1 hx).1
  obtain ⟨x0,x1⟩:=hy x (List.mem_of_getElem? hx)
  have ih:=specIn (out:=out) (s:=s) hy hl t (pre++[x]) (b||acc c x) (by rw[e]; simp)
  rw[loop_L (s':=(b||acc c x,((pre.length+1:Nat):Int)))]
  ·rw[List.length_append] at ih
   rw[List.any_cons,← Bool.or_assoc]
   exact ih
  ·unfold spec_l08Lost_w0_7_S2
   simp only[ltT hlt,if_true,ix_lit hx,Option.bind_some,acc_ix x0 x1,w1 hlt (show y.length≤9223372036854775807 by omega)]
   cases b<;>simp

theorem lost_eq {c:Checker} (hc:ChkV c):∃ r,spec_l08Lost_w0_7 c=some r∧impl_Checker_lost c=some r∧r.length≤40:=by
 have h40:=hc.n2
 have hU:∀ k:Nat,∃ a b:List Int,k<c.Accept.length→spec_l02Used_F1 c.Stack (k:Int) c.Accept c.Call c.Return c.Inner=some a∧Clo c k a∧impl_Checker_used (⟨c.Stack,(k:Int),c.Accept,c.Call,c.Return,c.Inner⟩:Checker)=some b∧Clo c k b:=by
  intro k
  by_cases hk:k<c.Accept.length
  ·obtain ⟨a,h1,h2⟩:=specUsed hc (s:=(k:Int)) (by omega) (by omega)
   obtain ⟨b,h3,h4⟩:=implUsed hc (s:=(k:Int)) (by omega) (by omega)
   exact ⟨a,b,fun _=>⟨h1,h2,h3,h4⟩⟩
  ·exact ⟨[],[],fun h=>absurd h hk⟩
 obtain ⟨A,hA⟩:=Classical.axiomOfChoice hU
 obtain ⟨B,hB⟩:=Classical.axiomOfChoice hA
 let f:Int→Bool:=fun x=>(A x.toNat).any (acc c)
 have hf:∀ k:Nat,f (k:Int)=(A k).any (acc c):=fun k=>by show (A (k:Int).toNat).any _=_; rw[Int.toNat_natCast]
 have hsp:∀ k,k<c.Accept.length→spec_l08Lost_w0_7_S1 c (lostL f k,(k:Int))=some (.inl (lostL f (k+1),((k+1:Nat):Int))):=by
  intro k hk
  obtain ⟨h1,h2,h3,h4⟩:=hB k hk
  have hl:=lostL_len f k
  unfold spec_l08Lost_w0_7_S1
  simp only
  rw[if_pos (ltT hk),h1,Option.bind_some]
  have:=specIn (c:=c) (out:=lostL f k) (y:=A k) (s:=(k:Int)) h2.rng (by have:=h2.len; omega) (A k) [] false rfl
  refine this.trans ?_
  rw[Bool.false_or,← hf k]
  unfold spec_l08Lost_w0_7_J2 spec_l08Lost_w0_7_J3
  rw[lostL_succ]
  cases hfk:f (k:Int)
  ·simp only[Bool.not_false,if_true,Bool.false_eq_true,if_false]
   rw[appN (by rw[List.length_singleton]; omega),Option.bind_some,w1 hk (by omega)]
  ·simp only[Bool.not_true,Bool.false_eq_true,if_false,if_true,List.append_nil]
   rw[w1 hk (by omega)]
 have him:∀ k,k<c.Accept.length→impl_Checker_lost_S1 c (lostL f k,(k:Int))=some (.inl (lostL f (k+1),((k+1:Nat):Int))):=by
  intro k hk
  obtain ⟨h1,h2,h3,h4⟩:=hB k hk
  have hl:=lostL_len f k
  have hany:(B k).any (acc c)=f (k:Int):=by
   rw[hf k]
   exact any_mem _ fun x=>(h4.mem x).trans (h2.mem x).symm
  unfold impl_Checker_lost_S1
  simp only
  rw[if_pos (ltT hk),h3,Option.bind_some,containsI (by have:=h4.len; omega) _ (acc c) (fun x hx=>by
   unfold impl_Checker_lost_1
   rw[acc_ix (h4.rng x hx).1 (h4.rng x hx).2]; rfl),Option.bind_some,hany]
  unfold impl_Checker_lost_J2
  rw[lostL_succ]
  cases hfk:f (k:Int)
  ·simp only[Bool.not_false,if_true,Bool.false_eq_true,if_false]
   rw[appN (by rw[List.length_singleton]; omega),Option.bind_some,w1 hk (by omega)]
  ·simp only[Bool.not_true,Bool.false_eq_true,if_false,if_true,List.append_nil]
   rw[w1 hk (by omega)]
 have run:∀ (S:List Int × Int→Option ((List Int × Int) ⊕ List Int)),(∀ k,k<c.Accept.length→S (lostL f k,(k:Int))=some (.inl (lostL f (k+1),((k+1:Nat):Int))))→S (lostL f c.Accept.length,(c.Accept.length:Int))=some (.inr (lostL f c.Accept.length)) →
   loop S (([]:List Int),0)=some (lostL f c.Accept.length):=by
  intro S hS hE
  have key:∀ m k,k+m=c.Accept.length→loop S (lostL f k,(k:Int))=some (lostL f c.Accept.length):=by
   intro m
   induction m with
   | zero =>
    intro k hk
    obtain rfl:k=c.Accept.length:=by omega
    exact loop_R hE
   | succ m ih =>
    intro k hk
    rw[loop_L (hS k (by omega))]
    exact ih (k+1) (by omega)
  exact key c.Accept.length 0 (by omega)
 refine ⟨lostL f c.Accept.length,run _ hsp ?_,run _ him ?_,Nat.le_trans (lostL_len f _) h40⟩
 ·unfold spec_l08Lost_w0_7_S1 spec_l08Lost_w0_7_J1
  simp only[ltF,Bool.false_eq_true,if_false]; rfl
 ·unfold impl_Checker_lost_S1 impl_Checker_lost_J1
  simp only[ltF,Bool.false_eq_true,if_false]; rfl

end Go.Proofs.YtmahhacghgkigaaGreat.law
namespace Go.Proofs.YtmahhacghgkigaaGreat.law
open Go Go.Proofs Ae
set_option maxRecDepth 100000

theorem whole_eq {l:List (List UInt8)} (h:l.length≤20) (hb:∀ x∈l,x.length≤1048576):spec_l08Whole l=some l.flatten:=by
 have key:∀ k (i:Nat),i+k=l.length→loop (spec_l08Whole_S1 l) ((l.take i).flatten,(i:Int))=some l.flatten:=by
  intro k
  induction k with
  | zero =>
   intro i hi
   have hi':i=l.length:=by omega
   refine loop_R ?_
   unfold spec_l08Whole_S1
   simp only
   rw[hi',if_neg (by simp),List.take_length]
   rfl
  | succ k ih =>
   intro i hi
   have hlt:i<l.length:=by omega
   have h1:=flatS_len (l:=l.take i) (m:=1048576) fun x hx=>hb x (List.mem_of_mem_take hx)
   have h2:=hb l[i] (List.getElem_mem hlt)
   have hst:spec_l08Whole_S1 l ((l.take i).flatten,(i:Int))=some (.inl ((l.take (i+1)).flatten,((i+1:Nat):Int))):=by
    unfold spec_l08Whole_S1
    simp only
    rw[if_pos (ltT hlt),ix_some hlt,Option.bind_some]
    unfold app
    rw[List.length_take,Nat.min_eq_left (Nat.le_of_lt hlt)] at h1
    rw[if_pos (by unfold LIM; omega),Option.bind_some,w1 hlt (by omega),List.take_add_one,List.getElem?_eq_getElem hlt,List.flatten_append,show (some l[i]).toList.flatten=l[i] by simp]
   rw[loop_L hst]
   exact ih (i+1) (by omega)
 exact key l.length 0 (by omega)
theorem join_eq {l:List (List UInt8)} (h:l.length≤20) (hb:∀ x∈l,x.length≤1048576):joinS l []=some l.flatten:=by
 have:=flatS_len (l:=l) (m:=1048576) hb
 unfold joinS
 rw[join_flat,if_pos ⟨by omega,by omega⟩]

/-- What a stream has to be. -/
theorem stream_ok {v:Stream} (h:smStream v):∃ b,impl_ValidStream v=some b∧spec_l08Ok v=some b∧(b=true→v.Pieces.length≤20):=by
 obtain ⟨c,hc⟩:=chk_tot h.1
 unfold spec_l08Ok impl_ValidStream impl_size_string impl_within spec_l00In
 simp only[hc,chk_eq h.1,Option.bind_some,ite_some,ite_or,ite_and]
 cases c with
 | false=>exact ⟨false,by simp,by simp,by simp⟩
 | true =>
  have hpl:=h.2.1
  cases hr:(decide ((v.Pieces.length:Int)≥1)&&decide ((v.Pieces.length:Int)≤20)) with
  | false=>exact ⟨false,by simp,by simp,by simp⟩
  | true =>
   have h20:v.Pieces.length≤20:=by
    rw[Bool.and_eq_true,decide_eq_true_eq,decide_eq_true_eq] at hr; omega
   have hw:∀ x:List UInt8,x∈v.Pieces→spec_l01Ok x=some ((spec_l01Ok x).getD false):=fun x hx=>by
    obtain ⟨b,hb⟩:=word_tot (w:=x) (by have:=h.2.2 x hx; unfold smS at this; omega)
    rw[hb]; rfl
   have hbd:∀ x∈v.Pieces,x.length≤1048576:=h.2.2
   have hfl:=flatS_len (l:=v.Pieces) (m:=1048576) hbd
   obtain ⟨bw,hbw⟩:=word_tot (w:=v.Pieces.flatten) (by omega)
   have hlp:=loop_allL (l:=v.Pieces) (step:=spec_l08Ok_S1 v) (p:=fun x=>(spec_l01Ok x).getD false) (rt:=some bw) (rf:=false) (loop_R (by
    unfold spec_l08Ok_S1 spec_l08Ok_J1
    rw[if_neg (by simp),whole_eq h20 hbd,Option.bind_some,hbw]; rfl)) fun i x hx=>by
    have hlt:=(List.getElem?_eq_some_iff.1 hx).1
    unfold spec_l08Ok_S1
    rw[if_pos (ltT hlt),ix_lit hx,Option.bind_some,hw x (List.mem_of_getElem? hx),Option.bind_some,w1 hlt (by omega)]
    cases (spec_l01Ok x).getD false<;>rfl
   have hct:=containsS (l:=v.Pieces) (by omega) (fun x=>impl_ValidStream_1 x) (fun x=>!((spec_l01Ok x).getD false)) fun x hx=>by
    unfold impl_ValidStream_1; rw[word_eq,hw x hx]; rfl
   have hna:(!(v.Pieces.any fun x=>!((spec_l01Ok x).getD false)))=v.Pieces.all fun x=>(spec_l01Ok x).getD false:=by
    rw[List.all_eq_not_any_not]
   simp only[Bool.not_true,Bool.or_self,Bool.false_eq_true,if_false,if_true,hlp,hct,Option.bind_some,hna,join_eq h20 hbd,word_eq,hbw,Bool.and_self,ite_some]
   refine ⟨(v.Pieces.all fun x=>(spec_l01Ok x).getD false)&&bw,?_,?_,fun _=>h20⟩
   all_goals cases (v.Pieces.all fun x=>(spec_l01Ok x).getD false)<;>rfl

end Go.Proofs.YtmahhacghgkigaaGreat.law
namespace Go.Proofs.YtmahhacghgkigaaGreat.law
open Go Go.Proofs Ae
set_option maxRecDepth 100000

theorem uniq:∀ {a b:List Int},a.Pairwise (·≤·)→b.Pairwise (·≤·)→a.Perm b→a=b
 | [],b,_,_,h=>by rw[List.nil_perm.1 h]
 | x::a,[],_,_,h=>by have:=h.length_eq; simp at this
 | x::a,y::b,ha,hb,h=>by
  rw[List.pairwise_cons] at ha hb
  have h1:x∈y::b:=h.mem_iff.1 (List.mem_cons_self ..)
  have h2:y∈x::a:=h.mem_iff.2 (List.mem_cons_self ..)
  have e:x=y:=by
   rcases List.mem_cons.1 h1 with h1 | h1
   ·exact h1
   ·rcases List.mem_cons.1 h2 with h2 | h2
    ·exact h2.symm
    ·have:=ha.1 y h2; have:=hb.1 x h1; omega
  subst e
  rw[uniq ha.2 hb.2 ((List.perm_cons x).1 h)]

theorem srt_perm (l:List Int):(srt l).Perm l:=by unfold srt; exact List.mergeSort_perm _ _
theorem srt_le (l:List Int):(srt l).Pairwise (·≤·):=by
 unfold srt
 have:=List.pairwise_mergeSort (le:=fun (x y:Int)=>decide (x≤y)) (fun a b c h1 h2=>by simp at *; omega) (fun a b=>by simp; omega) l
 exact this.imp (fun h=>by simpa using h)

/-- Numbers that wait: rising, from r on, below n. -/
structure Wok (n:Nat) (r:Int) (W:List Int):Prop where
 lt:W.Pairwise (·<·)
 lo:∀ x∈W,r≤x
 hi:∀ x∈W,x<(n:Int)

theorem Wok.le {n:Nat} {r:Int} {W:List Int} (h:Wok n r W):W.Pairwise (·≤·):=h.lt.imp (fun h=>by omega)
theorem Wok.nd {n:Nat} {r:Int} {W:List Int} (h:Wok n r W):W.Nodup:=h.lt.imp (fun h=>by omega)
theorem Wok.len {n:Nat} {r:Int} {W:List Int} (h:Wok n r W) (h0:0≤r):W.length≤n:=nodup_le n W h.nd (fun x hx=>⟨Int.le_trans h0 (h.lo x hx),h.hi x hx⟩)

theorem put_ok2 (l:List Int) (n:Int) (hl:l.length≤1000) (hn:n∉l):∀ (suf pre:List Int),l=pre++suf→(∀ y∈pre,y<n)→∃ a b,l=a++b∧loop (spec_l00Put_S1 l n) (pre,false,(pre.length:Int))=some (a++n::b)∧(∀ y∈a,y<n)∧(∀ x,b.head?=some x→n<x)
 | [],pre,e,hp=>by
  have e':l=pre:=by simpa using e
  refine ⟨l,[],by simp,?_,by rw[e']; exact hp,by simp⟩
  refine loop_R ?_
  unfold spec_l00Put_S1 spec_l00Put_J1 spec_l00Put_J2
  subst e'
  simp[appN (l:=l) (m:=[n]) (by simp; omega)]
 | x::s,pre,e,hp=>by
  have hx:l[pre.length]?=some x:=by rw[e]; simp
  have hlt:=(List.getElem?_eq_some_iff.1 hx).1
  have hne:x≠n:=fun h=>hn (h▸List.mem_of_getElem? hx)
  have hpl:pre.length≤1000:=by omega
  by_cases hge:x≥n
  ·have hgt:x>n:=by omega
   refine ⟨pre,x::s,e,?_,hp,fun y hy=>by simp at hy; omega⟩
   have:=put_done l n hl s (pre++[x]) (pre++[n]++[x]) (by rw[e]; simp) (by simp; omega)
   rw[loop_L (s':=(pre++[n]++[x],true,((pre.length+1:Nat):Int)))]
   ·rw[List.length_append] at this
    simpa using this
   ·unfold spec_l00Put_S1 spec_l00Put_J3
    simp only[ltT hlt,if_true,Bool.not_false,Option.bind_some,ix_lit hx,decide_eq_true hge,decide_eq_true hgt,appN (l:=pre) (m:=[n]) (by simp; omega),appN (l:=pre++[n]) (m:=[x]) (by simp; omega),w1 hlt (show l.length≤9223372036854775807 by omega)]
  ·obtain ⟨a,b,h1,h2,h3,h4⟩:=put_ok2 l n hl hn s (pre++[x]) (by rw[e]; simp) (fun y hy=>by
    rcases List.mem_append.1 hy with hy | hy
    ·exact hp y hy
    ·rw[List.mem_singleton.1 hy]; omega)
   refine ⟨a,b,h1,?_,h3,h4⟩
   rw[loop_L (s':=(pre++[x],false,((pre.length+1:Nat):Int)))]
   ·rw[List.length_append] at h2
    simpa using h2
   ·unfold spec_l00Put_S1 spec_l00Put_J3
    simp only[ltT hlt,if_true,Bool.not_false,Option.bind_some,ix_lit hx,decide_eq_false hge,Bool.false_eq_true,if_false,appN (l:=pre) (m:=[x]) (by simp; omega),w1 hlt (show l.length≤9223372036854775807 by omega)]

/-- A number is put to its place. -/
theorem put_srt {N:Nat} {r n:Int} {W:List Int} (hW:Wok N r W) (hl:W.length≤1000) (hn:n∉W) (h0:r≤n) (h1:n<(N:Int)):∃ W2,spec_l00Put W n=some W2∧Wok N r W2∧W2.Perm (W++[n]):=by
 obtain ⟨a,b,e,h2,h3,h4⟩:=put_ok2 W n hl hn W [] (by simp) (by simp)
 refine ⟨a++n::b,h2,?_,?_⟩
 ·have hlt:=hW.lt
  rw[e,List.pairwise_append] at hlt
  obtain ⟨p1,p2,p3⟩:=hlt
  have hb:∀ y∈b,n<y:=by
   intro y hy
   cases b with
   | nil=>cases hy
   | cons x t =>
    have h5:=h4 x rfl
    rcases List.mem_cons.1 hy with rfl | hy
    ·exact h5
    ·have:=(List.pairwise_cons.1 p2).1 y hy; omega
  refine ⟨?_,fun x hx=>?_,fun x hx=>?_⟩
  ·rw[List.pairwise_append,List.pairwise_cons]
   refine ⟨p1,⟨hb,p2⟩,fun x hx y hy=>?_⟩
   rcases List.mem_cons.1 hy with rfl | hy
   ·exact h3 x hx
   ·exact p3 x hx y hy
  ·rcases List.mem_append.1 hx with hx | hx
   ·exact hW.lo x (by rw[e]; simp[hx])
   ·rcases List.mem_cons.1 hx with rfl | hx
    ·exact h0
    ·exact hW.lo x (by rw[e]; simp[hx])
  ·rcases List.mem_append.1 hx with hx | hx
   ·exact hW.hi x (by rw[e]; simp[hx])
   ·rcases List.mem_cons.1 hx with rfl | hx
    ·exact h1
    ·exact hW.hi x (by rw[e]; simp[hx])
 ·rw[e]
  refine List.perm_middle.trans ?_
  exact (List.perm_append_singleton n (a++b)).symm
end Go.Proofs.YtmahhacghgkigaaGreat.law
namespace Go.Proofs.YtmahhacghgkigaaGreat.law
open Go Go.Proofs Ae
set_option maxRecDepth 100000

/-- A right stream. -/
structure SOk (v:Stream):Prop where
 chk:ChkV v.Checker
 n:v.Pieces.length≤20
 w:∀ p∈v.Pieces,p.length≤60∧∀ x∈p,okSym x

/-- A right desk: how far it is, and what waits. -/
structure Dok (v:Stream) (d:Desk):Prop where
 r0:0≤d.Read
 r1:d.Read≤v.Pieces.length
 s0:0≤d.State
 s1:d.State<v.Checker.Accept.length
 k:okStk v.Checker d.Stack
 l:(d.Stack.length:Int)≤60*d.Read
 w:Wok v.Pieces.length d.Read d.Waiting

def Pok (v:Stream) (p:Parcel):Prop:=0≤p.First∧p.First+p.Texts.length≤(v.Pieces.length:Int)

variable {v:Stream}

theorem Dok.wl {d:Desk} (hv:SOk v) (h:Dok v d):d.Waiting.length≤20:=Nat.le_trans (h.w.len h.r0) hv.n
theorem Dok.sl {d:Desk} (hv:SOk v) (h:Dok v d):d.Stack.length≤1200:=by
 have h1:=h.l; have h2:=h.r1; have h3:=hv.n; omega

theorem cut1 {x:Int} {l:List Int}:cut (x::l) 1 ((x::l).length:Int)=some l:=by
 unfold cut
 rw[if_pos ⟨by omega,by simp; omega,by omega⟩]
 simp

/-- Pieces are read as long as the next one waits. -/
theorem come_read (hv:SOk v):∀ (n:Nat) (d:Desk),Dok v d→d.Waiting.length=n→∃ d2,Dok v d2 ∧
  loop (spec_l08Run_come_F1_S1 v) (d.Read,d.State,d.Stack,d.Waiting)=some ((),d2.Read,d2.State,d2.Stack,d2.Waiting) ∧
  loop (impl_works_comeIn_K10_S1 v.Checker.Stack v.Checker.Start v.Checker.Accept v.Checker.Call v.Checker.Return v.Checker.Inner v.Pieces) (d.Read,d.State,d.Stack,d.Waiting)=some ((),d2.Waiting,d2.Read,d2.State,d2.Stack)
 | 0,d,hd,hl=>by
  have hn:d.Waiting=[]:=List.eq_nil_of_length_eq_zero hl
  refine ⟨d,hd,loop_R ?_,loop_R ?_⟩
  ·unfold spec_l08Run_come_F1_S1 spec_l08Run_come_F1_J2; simp[hn]
  ·unfold impl_works_comeIn_K10_S1 impl_works_comeIn_K10_J2; simp[hn]
 | n+1,d,hd,hl=>by
  obtain ⟨R,St,Sk,W⟩:=d
  simp only at hl
  match W,hl with
  | x::W,hl =>
  have hw:=hd.w
  simp only at hw
  by_cases hx:x=R
  ·subst hx
   have hlt:=hw.hi x (List.mem_cons_self ..)
   have h0:=hd.r0
   simp only at h0
   obtain ⟨p,hp,hpm⟩:=ix_in (l:=v.Pieces) h0 hlt
   obtain ⟨hp60,hps⟩:=hv.w p hpm
   have hsl:=hd.sl hv
   simp only at hsl
   obtain ⟨st',sk',g1,g2,g3,g4,g5⟩:=go_tot hv.chk hps hd.s0 hd.s1 hd.k (by simp only; omega)
   simp only at g1 g5
   have g6:=go_eq (c:=v.Checker) hps (st:=St) (sk:=Sk) (by omega)
   have hn20:=hv.n
   have hw1:IntKind.wrap .i64 (x+1)=x+1:=w64 (by omega) (by omega)
   have hwl:=hd.wl hv
   simp only[List.length_cons] at hwl
   have hd2:Dok v ⟨x+1,st',sk',W⟩:=by
    refine ⟨by simp only; omega,by simp only; omega,g2,g3,g4,?_,?_⟩
    ·have:=hd.l; simp only at this ⊢; omega
    ·have hp:=List.pairwise_cons.1 hw.lt
     exact ⟨hp.2,fun y hy=>by have:=hp.1 y hy; show x+1≤y; omega,fun y hy=>hw.hi y (List.mem_cons_of_mem _ hy)⟩
   obtain ⟨d2,k1,k2,k3⟩:=come_read hv n ⟨x+1,st',sk',W⟩ hd2 (by simpa using hl)
   refine ⟨d2,k1,?_,?_⟩
   ·rw[loop_L (s':=(x+1,st',sk',W))]
    ·exact k2
    ·unfold spec_l08Run_come_F1_S1
     simp only[cut1]
     have e1:ix (x::W) 0=some x:=rfl
     simp only[e1,Option.bind_some,own_eq (show Sk.length≤2097152 by omega),hp,g1,own_eq (show W.length≤2097152 by omega),hw1]
     simp
   ·rw[loop_L (s':=(x+1,st',sk',W))]
    ·exact k3
    ·unfold impl_works_comeIn_K10_S1
     simp only[cut1]
     have e1:ix (x::W) 0=some x:=rfl
     have g7:impl_Checker_end v.Checker St Sk p=some (st',sk'):=by rw[← g6]; exact g1
     simp only[e1,Option.bind_some,hp,g7,hw1]
     simp
  ·refine ⟨⟨R,St,Sk,x::W⟩,hd,loop_R ?_,loop_R ?_⟩
   ·unfold spec_l08Run_come_F1_S1 spec_l08Run_come_F1_J2
    have e1:ix (x::W) 0=some x:=rfl
    simp only[e1,Option.bind_some]
    simp[hx]
   ·unfold impl_works_comeIn_K10_S1 impl_works_comeIn_K10_J2
    have e1:ix (x::W) 0=some x:=rfl
    simp only[e1,Option.bind_some]
    simp[hx]

theorem wok_small {n:Nat} {r:Int} {W:List Int} (hn:n≤20) (h:Wok n r W) (h0:0≤r):W.length≤20:=Nat.le_trans (h.len h0) hn

/-- A parcel comes in. -/
theorem come_eq (hv:SOk v) {d:Desk} (hd:Dok v d) {p:Parcel} (hp:Pok v p) (e1 e2:Int) (e3 e4:List Int) (e5:List Parcel) (f1 f2:Int) (f3 f4:List Int) (f5:List Parcel):∃ d2,Dok v d2 ∧
  spec_l08Run_come_F1 v d.Read d.State d.Stack d.Waiting e1 e2 e3 e4 e5 p=some ((),d2.Read,d2.State,d2.Stack,d2.Waiting) ∧
  impl_works_comeIn_K10 d.Read d.State d.Stack d.Waiting f1 f2 f3 f4 f5 v.Checker.Stack v.Checker.Start v.Checker.Accept v.Checker.Call v.Checker.Return v.Checker.Inner v.Pieces p=some ((),d2.Waiting,d2.Read,d2.State,d2.Stack):=by
 have hn:=hv.n
 have hr0:=hd.r0
 have key:∀ (k i:Nat) (W W':List Int),i+k=p.Texts.length→Wok v.Pieces.length d.Read W→W'.Perm W→∃ d2,Dok v d2 ∧
   loop (spec_l08Run_come_F1_S2 v d.Read d.State d.Stack p) (W,(i:Int))=some ((),d2.Read,d2.State,d2.Stack,d2.Waiting) ∧
   loop (impl_works_comeIn_K10_S2 d.Read d.State d.Stack v.Checker.Stack v.Checker.Start v.Checker.Accept v.Checker.Call v.Checker.Return v.Checker.Inner v.Pieces p (p.Texts.length:Int)) (W',(i:Int))=some ((),d2.Waiting,d2.Read,d2.State,d2.Stack):=by
  intro k
  induction k with
  | zero =>
   intro i W W' hi hW hP
   obtain rfl:i=p.Texts.length:=by omega
   have hwl:=wok_small hn hW hr0
   have hs:srt W'=W:=uniq (srt_le W') hW.le ((srt_perm W').trans hP)
   obtain ⟨d2,k1,k2,k3⟩:=come_read hv W.length ⟨d.Read,d.State,d.Stack,W⟩ ⟨hd.r0,hd.r1,hd.s0,hd.s1,hd.k,hd.l,hW⟩ rfl
   refine ⟨d2,k1,loop_R ?_,loop_R ?_⟩
   ·unfold spec_l08Run_come_F1_S2 spec_l08Run_come_F1_J1
    simp only at k2
    simp[k2]
   ·unfold impl_works_comeIn_K10_S2 impl_works_comeIn_K10_J1 srtM
    have:W'.length<549755813888:=by have:=hP.length_eq; omega
    simp only at k3
    simp[if_pos this,hs,k3]
  | succ k ih =>
   intro i W W' hi hW hP
   have hlt:i<p.Texts.length:=by omega
   have hwl:=wok_small hn hW hr0
   have hwl':W'.length≤20:=by rw[hP.length_eq]; exact hwl
   obtain ⟨hp0,hp1⟩:=hp
   have hw1:IntKind.wrap .i64 (p.First+(i:Int))=p.First+(i:Int):=w64 (by omega) (by omega)
   have hwi:IntKind.wrap .i64 ((i:Int)+1)=((i+1:Nat):Int):=w1 hlt (by omega)
   have hmem:(p.First+(i:Int)∈W')↔(p.First+(i:Int)∈W):=hP.mem_iff
   by_cases hge:p.First+(i:Int)≥d.Read
   ·by_cases hin:p.First+(i:Int)∈W
    ·obtain ⟨d2,k1,k2,k3⟩:=ih (i+1) W W' (by omega) hW hP
     refine ⟨d2,k1,?_,?_⟩
     ·rw[loop_L (s':=(W,((i+1:Nat):Int)))]
      ·exact k2
      ·unfold spec_l08Run_come_F1_S2 spec_l08Run_come_F1_J3
       simp only[ltT hlt,if_true,hw1,decide_eq_true hge,has_eq (show W.length≤1048576 by omega),Option.bind_some,hin,decide_true,Bool.not_true,Bool.false_eq_true,if_false,hwi]
     ·rw[loop_L (s':=(W',((i+1:Nat):Int)))]
      ·exact k3
      ·unfold impl_works_comeIn_K10_S2 impl_works_comeIn_K10_J3
       simp only[ltT hlt,if_true,hw1,decide_eq_true hge,contains_eq (show W'.length≤1048576 by omega),Option.bind_some,hmem.2 hin,decide_true,Bool.not_true,Bool.false_eq_true,if_false,hwi]
    ·obtain ⟨W2,q1,q2,q3⟩:=put_srt hW (by omega) hin hge (by omega)
     have hin':¬ p.First+(i:Int)∈W':=fun h=>hin (hmem.1 h)
     obtain ⟨d2,k1,k2,k3⟩:=ih (i+1) W2 (W'++[p.First+(i:Int)]) (by omega) q2 ((List.Perm.append_right _ hP).trans q3.symm)
     refine ⟨d2,k1,?_,?_⟩
     ·rw[loop_L (s':=(W2,((i+1:Nat):Int)))]
      ·exact k2
      ·unfold spec_l08Run_come_F1_S2 spec_l08Run_come_F1_J3
       simp only[ltT hlt,if_true,hw1,decide_eq_true hge,has_eq (show W.length≤1048576 by omega),Option.bind_some,decide_eq_false hin,Bool.not_false,own_eq (show W.length≤2097152 by omega),q1,hwi]
     ·rw[loop_L (s':=(W'++[p.First+(i:Int)],((i+1:Nat):Int)))]
      ·exact k3
      ·unfold impl_works_comeIn_K10_S2 impl_works_comeIn_K10_J3
       simp only[ltT hlt,if_true,hw1,decide_eq_true hge,contains_eq (show W'.length≤1048576 by omega),Option.bind_some,decide_eq_false hin',Bool.not_false,appN (l:=W') (m:=[p.First+(i:Int)]) (by simp; omega),hwi]
   ·obtain ⟨d2,k1,k2,k3⟩:=ih (i+1) W W' (by omega) hW hP
    refine ⟨d2,k1,?_,?_⟩
    ·rw[loop_L (s':=(W,((i+1:Nat):Int)))]
     ·exact k2
     ·unfold spec_l08Run_come_F1_S2 spec_l08Run_come_F1_J3
      simp only[ltT hlt,if_true,hw1,decide_eq_false hge,Bool.false_eq_true,if_false,Option.bind_some,hwi]
    ·rw[loop_L (s':=(W',((i+1:Nat):Int)))]
     ·exact k3
     ·unfold impl_works_comeIn_K10_S2 impl_works_comeIn_K10_J3
      simp only[ltT hlt,if_true,hw1,decide_eq_false hge,Bool.false_eq_true,if_false,Option.bind_some,hwi]
 obtain ⟨d2,k1,k2,k3⟩:=key p.Texts.length 0 d.Waiting d.Waiting (by omega) hd.w (List.Perm.refl _)
 exact ⟨d2,k1,k2,by unfold impl_works_comeIn_K10 impl_size_string; exact k3⟩
end Go.Proofs.YtmahhacghgkigaaGreat.law
namespace Go.Proofs.YtmahhacghgkigaaGreat.law
open Go Go.Proofs Ae
set_option maxRecDepth 100000
variable {v:Stream}

def Wir (v:Stream) (w:List Parcel):Prop:=w.length≤12∧∀ p∈w,Pok v p
def Dd (x:Deed):Prop:=1≤x.Kind∧x.Kind≤6∧0≤x.A∧x.A≤999∧0≤x.B∧x.B≤999

theorem cut_take {α:Type} {l:List α} {i:Nat} (h:i≤l.length):cut l 0 (i:Int)=some (l.take i):=by
 unfold cut
 rw[if_pos ⟨by omega,by omega,by omega⟩]
 simp
theorem cut_drop {α:Type} {l:List α} {i:Nat} (h:i≤l.length):cut l (i:Int) (l.length:Int)=some (l.drop i):=by
 unfold cut
 rw[if_pos ⟨by omega,by omega,by omega⟩]
 congr 1
 rw[List.take_of_length_le (by simp)]
 rfl

theorem del_eq {w:List Parcel} {i:Nat} (h:i<w.length) (hw:w.length≤12) :
  delL w (i:Int) (IntKind.wrap .i64 ((i:Int)+1))=some (w.take i++w.drop (i+1)) ∧
  cut w (IntKind.wrap .i64 ((i:Int)+1)) (w.length:Int)=some (w.drop (i+1))∧cut w 0 (i:Int)=some (w.take i) ∧
  app ([]:List Parcel) (w.drop (i+1))=some (w.drop (i+1))∧app ([]:List Parcel) (w.take i)=some (w.take i)∧app (w.take i) (w.drop (i+1))=some (w.take i++w.drop (i+1)):=by
 have e:IntKind.wrap .i64 ((i:Int)+1)=((i+1:Nat):Int):=w1 h (by omega)
 refine ⟨?_,by rw[e]; exact cut_drop (by omega),cut_take (by omega),?_,?_,?_⟩
 ·unfold delL
  rw[e,if_pos ⟨by omega,by omega,by omega⟩]
  rfl
 ·have:=appN (l:=([]:List Parcel)) (m:=w.drop (i+1)) (by simp; omega); simpa using this
 ·have:=appN (l:=([]:List Parcel)) (m:=w.take i) (by simp; omega); simpa using this
 ·exact appN (by simp; omega)

theorem Wir.del {w:List Parcel} (h:Wir v w) (i:Nat):Wir v (w.take i++w.drop (i+1)):=by
 refine ⟨by have:=h.1; simp; omega,fun p hp=>?_⟩
 rcases List.mem_append.1 hp with hp | hp
 ·exact h.2 p (List.mem_of_mem_take hp)
 ·exact h.2 p (List.mem_of_mem_drop hp)

/-- A deed is done. -/
theorem do_eq (hv:SOk v) {d s:Desk} (hd:Dok v d) (hs:Dok v s) {w:List Parcel} (hw:Wir v w) {x:Deed} (hx:Dd x):∃ code d2 s2 w2,Dok v d2∧Dok v s2∧Wir v w2 ∧
  spec_l08Run_do_F1 v d.Read d.State d.Stack d.Waiting s.Read s.State s.Stack s.Waiting w x=some (code,d2.Read,d2.State,d2.Stack,d2.Waiting,s2.Read,s2.State,s2.Stack,s2.Waiting,w2) ∧
  impl_works_do_K10 d.Read d.State d.Stack d.Waiting s.Read s.State s.Stack s.Waiting w v.Checker.Stack v.Checker.Start v.Checker.Accept v.Checker.Call v.Checker.Return v.Checker.Inner v.Pieces x=some (code,d2.Waiting,s2.Waiting,w2,d2.Read,d2.State,d2.Stack,s2.Read,s2.State,s2.Stack):=by
 obtain ⟨K,A,B⟩:=x
 obtain ⟨k1,k6,a0,a9,b0,b9⟩:=hx
 simp only at k1 k6 a0 a9 b0 b9
 have hn:=hv.n
 have hdl:=hd.sl hv
 have hdw:=hd.wl hv
 have hsl:=hs.sl hv
 have hsw:=hs.wl hv
 unfold spec_l08Run_do_F1 impl_works_do_K10
 by_cases h1:K=1
 ·subst h1
  unfold spec_l08Run_do_F1_J1 impl_works_do_K10_J1 impl_size_string
  by_cases h2:A>B∨B≥(v.Pieces.length:Int)
  ·refine ⟨2,d,s,w,hd,hs,hw,?_,?_⟩
   ·have:((decide ((A:Int)>B))||(decide ((B:Int)≥(v.Pieces.length:Int))))=true:=by
     rw[Bool.or_eq_true,decide_eq_true_eq,decide_eq_true_eq]; exact h2
    simp[this]
   ·by_cases h3:A>B
    ·simp[h3]
    ·have h4:=h2.resolve_left h3
     simp[h3,h4]
  ·have h3:¬ A>B:=fun h=>h2 (.inl h)
   have h4:¬ B≥(v.Pieces.length:Int):=fun h=>h2 (.inr h)
   by_cases h5:w.length=12
   ·exact ⟨3,d,s,w,hd,hs,hw,by simp[h3,h4,h5],by simp[h3,h4,h5]⟩
   ·have hb1:IntKind.wrap .i64 (B+1)=B+1:=w64 (by omega) (by omega)
    have hc:cut v.Pieces A (B+1)=some ((v.Pieces.drop A.toNat).take ((B+1).toNat - A.toNat)):=by
     unfold cut; rw[if_pos ⟨a0,by omega,by omega⟩]
    have hcl:((v.Pieces.drop A.toNat).take ((B+1).toNat - A.toNat)).length=(B+1).toNat - A.toNat:=by simp; omega
    generalize hL:(v.Pieces.drop A.toNat).take ((B+1).toNat - A.toNat)=L at hc hcl
    have ha1:app ([]:List (List UInt8)) L=some L:=by
     have:=appN (l:=([]:List (List UInt8))) (m:=L) (by simp; omega); simpa using this
    have hwl:=hw.1
    have ha2:app w [(⟨A,L⟩:Parcel)]=some (w++[⟨A,L⟩]):=appN (by simp; omega)
    have h5':¬ ((w.length:Int)=12):=by omega
    refine ⟨0,d,s,w++[⟨A,L⟩],hd,hs,⟨by simp; omega,fun p hp=>?_⟩,?_,?_⟩
    ·rcases List.mem_append.1 hp with hp | hp
     ·exact hw.2 p hp
     ·rw[List.mem_singleton.1 hp]
      exact ⟨a0,by simp only; omega⟩
    ·simp[h3,h4,h5',hb1,hc,ha1,ha2]
    ·simp[h3,h4,h5',hb1,hc,ha2]
 ·by_cases h5:K=5
  ·subst h5
   unfold spec_l08Run_do_F1_J1 impl_works_do_K10_J1 spec_l08Copy_F1 impl_Desk_copied_K1
   refine ⟨0,d,d,w,hd,hd,hw,?_,?_⟩
   ·simp[own_eq (show d.Stack.length≤2097152 by omega),own_eq (show d.Waiting.length≤2097152 by omega)]
   ·simp[clone_eq (show d.Stack.length≤2097152 by omega),clone_eq (show d.Waiting.length≤2097152 by omega)]
  ·by_cases h6:K=6
   ·subst h6
    unfold spec_l08Run_do_F1_J1 impl_works_do_K10_J1 spec_l08Copy_F2 impl_Desk_copied_K1
    refine ⟨0,s,s,w,hs,hs,hw,?_,?_⟩
    ·simp[own_eq (show s.Stack.length≤2097152 by omega),own_eq (show s.Waiting.length≤2097152 by omega)]
    ·simp[clone_eq (show s.Stack.length≤2097152 by omega),clone_eq (show s.Waiting.length≤2097152 by omega)]
   ·unfold spec_l08Run_wire_F1 impl_size_impl_Parcel
    by_cases hA:A≥(w.length:Int)
    ·refine ⟨2,d,s,w,hd,hs,hw,?_,?_⟩
     ·simp[h1,h5,h6,hA]
     ·simp[h1,h5,h6,hA]
    ·obtain ⟨i,rfl⟩:∃ i:Nat,A=i:=⟨A.toNat,by omega⟩
     have hi:i<w.length:=by omega
     obtain ⟨e1,e2,e3,e4,e5,e6⟩:=del_eq hi hw.1
     have hxw:ix w (i:Int)=some w[i]:=ix_lit (List.getElem?_eq_getElem hi)
     have hpk:=hw.2 w[i] (List.getElem_mem hi)
     have hA':¬ w.length≤i:=by omega
     unfold spec_l08Run_wire_F1_J1 spec_l08Run_wire_F1_J2 impl_works_do_K10_J2 impl_works_do_K10_J1
     have hKs:K=2∨K=3∨K=4:=by omega
     rcases hKs with rfl | rfl | rfl
     ·obtain ⟨d2,c1,c2,c3⟩:=come_eq hv hd hpk s.Read s.State s.Stack s.Waiting w s.Read s.State s.Stack s.Waiting (w.take i++w.drop (i+1))
      refine ⟨0,d2,s,w.take i++w.drop (i+1),c1,hs,hw.del i,?_,?_⟩
      ·simp[hA',hxw,c2,e2,e3,e4,e5,e6]
      ·simp[hA',hxw,c3,e1]
     ·obtain ⟨d2,c1,c2,c3⟩:=come_eq hv hd hpk s.Read s.State s.Stack s.Waiting w s.Read s.State s.Stack s.Waiting w
      refine ⟨0,d2,s,w,c1,hs,hw,?_,?_⟩
      ·simp[hA',hxw,c2]
      ·simp[hA',hxw,c3]
     ·refine ⟨0,d,s,w.take i++w.drop (i+1),hd,hs,hw.del i,?_,?_⟩
      ·simp[hA',hxw,e2,e3,e4,e5,e6]
      ·simp[hA',hxw,e1]

/-- How many codes are 0. -/
def dones (l:List Int):Int:=((l.filter (· == 0)).length:Int)

/-- All deeds are done. -/
theorem play_eq (hv:SOk v) {deeds:List Deed} (hl:deeds.length≤300) (hx:∀ x∈deeds,Dd x):∃ d s w codes,Dok v d∧Dok v s∧Wir v w∧codes.length=deeds.length ∧
  spec_l08Play_K00 v deeds=some (⟨v,⟨d,s,w⟩⟩,codes)∧impl_after_K00 v deeds=some (⟨⟨d,s,w⟩,v⟩,dones codes):=by
 have key:∀ (k i:Nat) (d s:Desk) (w:List Parcel) (codes:List Int),i+k=deeds.length→codes.length=i→Dok v d→Dok v s→Wir v w→∃ d2 s2 w2 codes2,Dok v d2∧Dok v s2∧Wir v w2∧codes2.length=deeds.length ∧
   loop (spec_l08Play_K00_S1 v deeds) (d.Read,d.State,d.Stack,d.Waiting,s.Read,s.State,s.Stack,s.Waiting,w,codes,(i:Int))=some (⟨v,⟨d2,s2,w2⟩⟩,codes2) ∧
   loop (impl_after_K00_S1 deeds ⟨⟨⟨0,v.Checker.Start,[],[]⟩,⟨0,v.Checker.Start,[],[]⟩,[]⟩,v⟩) (d.Read,d.State,d.Stack,d.Waiting,s.Read,s.State,s.Stack,s.Waiting,w,dones codes,(i:Int))=some (⟨⟨d2,s2,w2⟩,v⟩,dones codes2):=by
  intro k
  induction k with
  | zero =>
   intro i d s w codes hi hc hd hs hw
   obtain rfl:i=deeds.length:=by omega
   refine ⟨d,s,w,codes,hd,hs,hw,hc,loop_R ?_,loop_R ?_⟩
   ·unfold spec_l08Play_K00_S1 spec_l08Play_K00_J1; simp
   ·unfold impl_after_K00_S1 impl_after_K00_J1; simp
  | succ k ih =>
   intro i d s w codes hi hc hd hs hw
   have hlt:i<deeds.length:=by omega
   obtain ⟨code,d2,s2,w2,q1,q2,q3,q4,q5⟩:=do_eq hv hd hs hw (hx deeds[i] (List.getElem_mem hlt))
   obtain ⟨d3,s3,w3,codes3,r1,r2,r3,r4,r5,r6⟩:=ih (i+1) d2 s2 w2 (codes++[code]) (by omega) (by simp[hc]) q1 q2 q3
   have hxi:ix deeds (i:Int)=some deeds[i]:=ix_lit (List.getElem?_eq_getElem hlt)
   have hwi:IntKind.wrap .i64 ((i:Int)+1)=((i+1:Nat):Int):=w1 hlt (by omega)
   refine ⟨d3,s3,w3,codes3,r1,r2,r3,r4,?_,?_⟩
   ·rw[loop_L (s':=(d2.Read,d2.State,d2.Stack,d2.Waiting,s2.Read,s2.State,s2.Stack,s2.Waiting,w2,codes++[code],((i+1:Nat):Int)))]
    ·exact r5
    ·unfold spec_l08Play_K00_S1
     simp only[ltT hlt,if_true,hxi,Option.bind_some,q4,appN (l:=codes) (m:=[code]) (by simp; omega),hwi]
   ·rw[loop_L (s':=(d2.Read,d2.State,d2.Stack,d2.Waiting,s2.Read,s2.State,s2.Stack,s2.Waiting,w2,dones (codes++[code]),((i+1:Nat):Int)))]
    ·exact r6
    ·unfold impl_after_K00_S1 impl_after_K00_J2
     simp only[ltT hlt,if_true,hxi,Option.bind_some,q5,hwi]
     by_cases h0:code=0
     ·subst h0
      have:IntKind.wrap .i64 (dones codes+1)=dones (codes++[0]):=by
       have hle:=List.length_filter_le (· == (0:Int)) codes
       unfold dones
       rw[w64 (by omega) (by omega)]
       simp
      simp[this]
     ·have:dones (codes++[code])=dones codes:=by unfold dones; simp[h0]
      simp[h0,this]
 have h0:Dok v ⟨0,v.Checker.Start,[],[]⟩:=by
  refine ⟨Int.le_refl _,?_,hv.chk.s1,hv.chk.s2,?_,?_,⟨List.Pairwise.nil,?_,?_⟩⟩
  ·show (0:Int)≤_; omega
  ·intro y hy; cases hy
  ·show ((0:Nat):Int)≤60*0; omega
  ·intro y hy; cases hy
  ·intro y hy; cases hy
 obtain ⟨d,s,w,codes,r1,r2,r3,r4,r5,r6⟩:=key deeds.length 0 _ _ [] [] (by omega) rfl h0 h0 ⟨by simp,by intro p hp; cases hp⟩
 exact ⟨d,s,w,codes,r1,r2,r3,r4,by unfold spec_l08Play_K00 spec_l08Begin_K0; exact r5,by unfold impl_after_K00 impl_newWorks_K0; exact r6⟩
end Go.Proofs.YtmahhacghgkigaaGreat.law
namespace Go.Proofs.YtmahhacghgkigaaGreat.law
open Go Go.Proofs Ae
set_option maxRecDepth 100000
variable {v:Stream}

theorem word60 {w:List UInt8} (hl:w.length≤1048576) (h:spec_l01Ok w=some true):w.length≤60:=by
 unfold spec_l01Ok at h
 have hst:=loop_true (step:=spec_l01Ok_S1 w) (n:=w.length) (rt:=true) (fun i y hi hy=>by
  unfold spec_l01Ok_S1 at hy
  rw[if_pos (ltT hi),chr_nat' hi,Option.bind_some,sym_ix,Option.bind_some,w1 hi (by omega)] at hy
  split at hy
  ·cases hy; exact .inr ⟨false,rfl,by simp⟩
  ·cases hy; exact .inl rfl)
 have hst:=hst w.length 0 (by omega) h
 have hend:∀ (k i:Nat),i+k=w.length→loop (spec_l01Ok_S1 w) (i:Int)=some (decide ((w.length:Int)≤60)):=by
  intro k
  induction k with
  | zero =>
   intro i hi
   obtain rfl:i=w.length:=by omega
   exact loop_R (by unfold spec_l01Ok_S1 spec_l01Ok_J1; simp)
  | succ k ih =>
   intro i hi
   rw[loop_L (hst i (by omega) (by omega))]
   exact ih (i+1) (by omega)
 have h2:=hend w.length 0 (by omega)
 have h3:loop (spec_l01Ok_S1 w) ((0:Nat):Int)=some true:=h
 rw[h2] at h3
 have h4:decide ((w.length:Int)≤60)=true:=Option.some.inj h3
 have:=of_decide_eq_true h4
 omega

theorem sok_of (h:smStream v) (hk:spec_l08Ok v=some true):SOk v:=by
 obtain ⟨b,_,h2,h3⟩:=stream_ok h
 rw[hk] at h2
 cases h2
 have hn:=h3 rfl
 have hp:=h.2
 unfold spec_l08Ok at hk
 simp only[Option.bind_eq_some_iff] at hk
 obtain ⟨c,hc,b2,hb2,hk⟩:=hk
 cases c with
 | false=>simp at hb2; subst hb2; simp at hk
 | true =>
  cases b2 with
  | true=>simp at hk
  | false =>
   simp only[Bool.false_eq_true,if_false] at hk
   refine ⟨chk_V h.1 hc,hn,?_⟩
   have hst:=loop_true (step:=spec_l08Ok_S1 v) (n:=v.Pieces.length) (rt:=true) (fun i y hi hy=>by
    unfold spec_l08Ok_S1 at hy
    rw[if_pos (ltT hi),ix_lit (List.getElem?_eq_getElem hi),Option.bind_some,w1 hi (by omega)] at hy
    rw[Option.bind_eq_some_iff] at hy
    obtain ⟨q,_,hy⟩:=hy
    split at hy
    ·cases hy; exact .inr ⟨false,rfl,by simp⟩
    ·cases hy; exact .inl rfl)
   have hst:=hst v.Pieces.length 0 (by omega) hk
   intro p hpm
   obtain ⟨i,hi,rfl⟩:=List.getElem_of_mem hpm
   have h1:=hst i (by omega) hi
   unfold spec_l08Ok_S1 at h1
   rw[if_pos (ltT hi),ix_lit (List.getElem?_eq_getElem hi),Option.bind_some,Option.bind_eq_some_iff] at h1
   obtain ⟨q,hq,h1⟩:=h1
   cases q with
   | false=>simp at h1
   | true =>
    have hlen:v.Pieces[i].length≤1048576:=hp.2 _ hpm
    exact ⟨word60 hlen hq,word_ok hlen hq⟩

instance (d:Deed):Decidable (Dd d):=by unfold Dd; exact inferInstance
def vd (d:Deed):Bool:=decide (Dd d)&&((d.Kind == 1)||(((d.Kind == 2)||(d.Kind == 3)||(d.Kind == 4)||(d.A == 0))&&(d.B == 0)))

theorem deed_tot (d:Deed):spec_l08Deed d=some (vd d)∧impl_ValidDeed d=some (vd d):=by
 obtain ⟨K,A,B⟩:=d
 have hA:(∃ a,(decide (A≥0)&&decide (A≤999))=a):=⟨_,rfl⟩
 unfold spec_l08Deed impl_ValidDeed impl_deedWord impl_within spec_l00In spec_l08Words vd Dd
 by_cases hk:1≤K∧K≤6
 ·have hK:K=1∨K=2∨K=3∨K=4∨K=5∨K=6:=by omega
  by_cases ha:0≤A∧A≤999
  ·by_cases hb:0≤B∧B≤999
   ·obtain ⟨a1,a2⟩:=ha
    obtain ⟨b1,b2⟩:=hb
    rcases hK with rfl | rfl | rfl | rfl | rfl | rfl<;>simp[a1,a2,b1,b2,ix]
    all_goals (by_cases h0:A=0<;>simp[h0])
   ·have hb':(decide (B≥0)&&decide (B≤999))=false:=by
     rw[Bool.and_eq_false_iff,decide_eq_false_iff_not,decide_eq_false_iff_not]; omega
    obtain ⟨a1,a2⟩:=ha
    rcases hK with rfl | rfl | rfl | rfl | rfl | rfl<;>simp[a1,a2,hb',hb]
  ·have ha':(decide (A≥0)&&decide (A≤999))=false:=by
    rw[Bool.and_eq_false_iff,decide_eq_false_iff_not,decide_eq_false_iff_not]; omega
   have ha2:¬ (0≤A∧A≤999∧0≤B∧B≤999):=fun h=>ha ⟨h.1,h.2.1⟩
   rcases hK with rfl | rfl | rfl | rfl | rfl | rfl<;>simp[ha',ha2]
 ·have hk':(decide (K≥1)&&decide (K≤6))=false:=by
   rw[Bool.and_eq_false_iff,decide_eq_false_iff_not,decide_eq_false_iff_not]; omega
  have hk2:¬ (1≤K∧K≤6∧0≤A∧A≤999∧0≤B∧B≤999):=fun h=>hk ⟨h.1,h.2.1⟩
  have h1:¬ K=1:=by omega
  have h2:¬ K=2:=by omega
  have h3:¬ K=3:=by omega
  have h4:¬ K=4:=by omega
  have h5:¬ K=5:=by omega
  have h6:¬ K=6:=by omega
  simp[hk',hk2,h1,h2,h3,h4,h5,h6]

theorem vd_dd {d:Deed} (h:vd d=true):Dd d:=by
 unfold vd at h
 rw[Bool.and_eq_true,decide_eq_true_eq] at h
 exact h.1

theorem containsD {l:List Deed} (h:l.length≤1048576) (f:Deed→Option Bool) (p:Deed→Bool) (hf:∀ x∈l,f x=some (p x)):slices_ContainsFunc_simpl_Deed_impl_Deed l f=some (l.any p):=by
 unfold slices_ContainsFunc_simpl_Deed_impl_Deed slices_IndexFunc_simpl_Deed_impl_Deed
 rw[loop_find (l:=l) p (loop_R (by unfold slices_IndexFunc_simpl_Deed_impl_Deed_S1; rw[if_neg (by simp)]; rfl)) fun i x hx=>by
  have hlt:=(List.getElem?_eq_some_iff.1 hx).1
  unfold slices_IndexFunc_simpl_Deed_impl_Deed_S1
  rw[if_pos (ltT hlt),ix_lit hx,Option.bind_some,hf x (List.mem_of_getElem? hx),Option.bind_some,w1 hlt (by omega)]]
 rw[Option.bind_some,fst?_any]

/-- A stream and deeds are looked at. -/
theorem asked_eq (h:smStream v) {deeds:List Deed} (hl:deeds.length≤1048576):∃ c,spec_l08Asked v deeds=some c∧impl_deedsCode v deeds=some c∧(c=0→SOk v∧deeds.length≤300∧∀ x∈deeds,Dd x):=by
 obtain ⟨b,h1,h2,h3⟩:=stream_ok h
 unfold spec_l08Asked impl_deedsCode
 rw[h1,h2]
 cases b with
 | false=>exact ⟨1,by simp,by simp,by omega⟩
 | true =>
  have hc:=containsD hl (fun x=>impl_deedsCode_1 x) (fun x=>!(vd x)) (fun x _=>by unfold impl_deedsCode_1; rw[(deed_tot x).2]; rfl)
  have hlp:=loop_allL (l:=deeds) (step:=spec_l08Asked_S1 deeds) (p:=fun x=>vd x) (rt:=some (if deeds.length>300 then 2 else 0)) (rf:=(1:Int)) (loop_R (by
   unfold spec_l08Asked_S1 spec_l08Asked_J1
   rw[if_neg (by simp)]
   by_cases h300:deeds.length>300
   ·simp[h300]; omega
   ·simp[h300]; omega)) fun i x hx=>by
   have hlt:=(List.getElem?_eq_some_iff.1 hx).1
   unfold spec_l08Asked_S1
   rw[if_pos (ltT hlt),ix_lit hx,Option.bind_some,(deed_tot x).1,Option.bind_some,w1 hlt (by omega)]
   cases vd x<;>rfl
  simp only[Option.bind_some,Bool.not_true,Bool.false_eq_true,if_false,hc,hlp]
  by_cases ha:deeds.all (fun x=>vd x)=true
  ·have hany:deeds.any (fun x=>!(vd x))=false:=by
    rw[List.any_eq_false]
    intro x hx
    have:=List.all_eq_true.1 ha x hx
    simp[this]
   refine ⟨if deeds.length>300 then 2 else 0,by rw[if_pos ha],?_,fun h0=>⟨sok_of h h2,?_,fun x hx=>vd_dd (List.all_eq_true.1 ha x hx)⟩⟩
   ·rw[hany]
    by_cases h300:deeds.length>300
    ·simp[h300]; omega
    ·simp[h300]; omega
   ·by_cases h300:deeds.length>300
    ·rw[if_pos h300] at h0; cases h0
    ·omega
  ·have hany:deeds.any (fun x=>!(vd x))=true:=by
    rw[List.any_eq_true]
    have:¬ ∀ x∈deeds,vd x=true:=fun h=>ha (List.all_eq_true.2 h)
    rw[Classical.not_forall] at this
    obtain ⟨x,hx⟩:=this
    rw[Classical.not_imp] at hx
    exact ⟨x,hx.1,by simpa using hx.2⟩
   refine ⟨1,by rw[if_neg ha],?_,by omega⟩
   rw[hany]; simp

theorem verdict_eq (hv:SOk v) {d:Desk} (hd:Dok v d) (e2 e3:Int) (e4 e5:List Int) (e6:List Parcel):∃ r,spec_l08Run_verdict_F1 v d.Read d.State d.Stack d.Waiting e2 e3 e4 e5 e6=some r ∧
  impl_works_verdict_K1 d.Read d.State d.Stack d.Waiting e2 e3 e4 e5 e6 v.Checker.Stack v.Checker.Start v.Checker.Accept v.Checker.Call v.Checker.Return v.Checker.Inner v.Pieces=some r:=by
 obtain ⟨b,hb,_⟩:=ix_in hd.s0 hd.s1
 obtain ⟨r,h1,h2,h3⟩:=lost_eq hv.chk
 have h2':impl_Checker_lost ⟨v.Checker.Stack,v.Checker.Start,v.Checker.Accept,v.Checker.Call,v.Checker.Return,v.Checker.Inner⟩=some r:=h2
 unfold spec_l08Run_verdict_F1 impl_works_verdict_K1 impl_size_string
 by_cases hr:d.Read=(v.Pieces.length:Int)
 ·cases b
  ·exact ⟨2,by simp[hr,hb],by simp[hr,hb]⟩
  ·exact ⟨1,by simp[hr,hb],by simp[hr,hb]⟩
 ·by_cases hm:d.State∈r
  ·exact ⟨2,by simp[hr,h1,has_eq (l:=r) (by omega),hm],by simp[hr,h2',contains_eq (l:=r) (by omega),hm]⟩
  ·exact ⟨0,by simp[hr,h1,has_eq (l:=r) (by omega),hm],by simp[hr,h2',contains_eq (l:=r) (by omega),hm]⟩

theorem verd_eq (h:smStream v) {deeds:List Deed} (hl:deeds.length≤1048576):∃ r,spec_VerdictAfter v deeds=some r∧impl_VerdictAfter v deeds=some r:=by
 obtain ⟨c,h1,h2,h3⟩:=asked_eq h hl
 unfold spec_VerdictAfter impl_VerdictAfter
 rw[h1,h2]
 by_cases h0:c=0
 ·subst h0
  obtain ⟨q1,q2,q3⟩:=h3 rfl
  obtain ⟨d,s,w,codes,d1,_,_,_,r1,r2⟩:=play_eq q1 q2 q3
  obtain ⟨r,m1,m2⟩:=verdict_eq q1 d1 s.Read s.State s.Stack s.Waiting w
  exact ⟨(r,0),by simp[r1,m1],by simp[r2,m2]⟩
 ·exact ⟨(0,c),by simp[h0],by simp[h0]⟩

theorem law_VerdictAfter {v:Stream} (h:bStream v) {deeds:List Deed} (hd:(bL bDeed) deeds):laws_FnExactVerdictAfter v deeds=some true:=by
 unfold laws_FnExactVerdictAfter
 obtain ⟨r,h1,h2,h3⟩:=laws_szStream_sz h 1048576 (by omega) (by omega)
 rw[h1,Option.bind_some]
 split
 ·rfl
 ·rename_i hr
  have hs:smStream v:=by
   rcases h3 with h3 | h3
   ·exact absurd (decide_eq_true h3) hr
   ·exact h3.2
  have hr0:0≤r:=by rcases h3 with h3 | h3; exact absurd (decide_eq_true h3) hr; exact h3.1
  obtain ⟨r2,g1,g2,g3⟩:=laws_szDeedS_sz hd r hr0 (by omega)
  rw[g1,Option.bind_some]
  split
  ·rfl
  ·rename_i hr2
   have hs2:(smL smT) deeds:=by
    rcases g3 with g3 | g3
    ·exact absurd (decide_eq_true g3) hr2
    ·exact g3.2
   obtain ⟨q,k1,k2⟩:=verd_eq hs (deeds:=deeds) hs2.1
   simp only[laws_toStream_to hs,laws_toDeedS_to hs2,Option.bind_some,k1,k2,laws_eqStream_eq hs,laws_eqDeedS_eq hs2]
   simp
end Go.Proofs.YtmahhacghgkigaaGreat.law
namespace Go.Proofs.YtmahhacghgkigaaGreat.law
open Go Go.Proofs Go.Shelf Go.RowKit Go.Lib Go.Sort
section
variable {P:Program} {ρ:Ren}

theorem wpList_append_none {w:World} {ops:Array Oper} {rest:List Oper} {o:Oper} {a:Act} {Q:Exit→Act→World→Prop} (hgd:o.guard=none) (s x:Operand) (t:TypeId)
  (ho:o.op=.call { callee:=.builtin .append,args:=#[s,x],argTypes:=#[t,t] }) {e:TypeId} {i:TypeInfo} (ht:P.underlying t=some (.slice e)) (hi:P.info? e=some i)
  (A ad:Addr) (c:Nat) (hs:a.eval s=.slice (some A) 0 0) (hx:a.eval x=.slice (some ad) 0 c) (h:wpList P ops Q rest (a.put o.dst (.slice (some A) 0 0)) w):wpList P ops Q (o::rest) a w:=by
 refine wpList_plain hgd fun K hK=>?_
 have hr:(Builtin.append_ #[t,t] o.type #[.slice (some A) 0 0,.slice (some ad) 0 c]).run P w=.ok (.slice (some A) 0 0) w:=by
  simp[Builtin.append_,run_underlying ht,Go.sizeOf,typeInfo,hi,Builtin.lenOf,Builtin.firstCells,loadCells,loadCellsFrom,storeCells]
 unfold Oper.wp execOp
 simp only[ho,resolve,invoke,builtin,Sem.run_bind,Sem.run_pure,Result.andThen_ok,List.map_toArray,List.map_cons,List.map_nil,hs,hx,hr]
 exact hK _ _ h

set_option maxHeartbeats 2000000 in
set_option maxRecDepth 100000 in
theorem clone_zero0 (L:SlLaysN.n41 P ρ) (a:Addr) (c:Nat) (w:World) :
  Calls P (ρ.f 41) #[.slice (some a) 0 c] w fun e w'=>∃ A,e=.returned (.slice (some A) 0 0)∧Below w.heap.size w w':=by
 have mixed:=L.mixed; have t4:=L.t4; have a4:=L.a4; have z4:=L.z4; have v4:=L.v4; have t22:=L.t22; have a22:=L.a22; have z22:=L.z22; have v22:=L.v22; have t23:=L.t23; have a23:=L.a23; have z23:=L.z23; have v23:=L.v23
 obtain ⟨i0,hi,hz0,hz1,hz2⟩:=info_parts L.i23
 have q22:∀ (w:World) (a:Option Addr) (n c n' c':Nat),(binOp .eql (ρ.t 22) (.slice a n c) (.slice none n' c')).run P w=.ok (.bool a.isNone) w:=fun w a n c n' c'=>Lib.run_eql_slice_nil w _ _ a n c n' c' L.t22
 have u22:∀ w,Sem.run P (underlying (ρ.t 22)) w=.ok (TypeDesc.slice (ρ.t 23)) w:=run_underlying t22
 obtain ⟨_,_,FG⟩:=L.f41
 go_enter FG,SlBodyN.n41_ntmps ρ
 go_wp2_with (at_builtin; refine wpList_append_none rfl _ _ (ρ.t 22) rfl t22 hi _ _ _ rfl rfl ?_)
 go_wp2
 go_ret
 refine ⟨_,rfl,?_⟩
 exact (Below.refl _ w).alloc (Nat.le_refl _) _
end

theorem run_clear2 {P:Program} (w:World) (t e ty:TypeId) (z:Value) (ht:P.underlying t=some (.slice e)) (hv:∀ w,(zeroValue e).run P w=.ok z w) (h1:∀ u∈z.cells.toList,u.oneCell'=true) (b o n c:Nat) (hn:0<n)
  (hc:∀ j,j<n*z.cells.size→(w.cell? ⟨b,o+j,none⟩).isSome=true) (hf:∀ j,j<n*z.cells.size→w.frozen? ⟨b,o+j,none⟩=false) :
  (Builtin.clear_ #[t] ty #[.slice (some ⟨b,o,none⟩) n c]).run P w=.ok (.tuple #[]) (w.setCells b o (Builtin.zeroCells z.cells n).toList):=by
 have hl:(Builtin.zeroCells z.cells n).toList.length=n*z.cells.size:=by simp[Builtin.zeroCells]
 have hst:=run_storeCells_cells (P:=P) b o (Builtin.zeroCells z.cells n).toList 0 w (by intro j hj; rw[Nat.add_zero]; exact hc j (by omega)) (by intro j hj; rw[Nat.add_zero]; exact hf j (by omega)) (by
  intro v hv'
  simp only[Builtin.zeroCells,Array.toList_map,Array.toList_range,List.mem_map,List.mem_range] at hv'
  obtain ⟨k,hk,rfl⟩:=hv'
  have hs:0<z.cells.size:=by
   rcases Nat.eq_zero_or_pos z.cells.size with h | h
   ·rw[h,Nat.mul_zero] at hk; omega
   ·exact h
  refine h1 _ ?_
  have hm:=Nat.mod_lt k hs
  rw[getElem!_pos z.cells (k % z.cells.size) hm]
  simp)
 simp only[Nat.add_zero] at hst
 obtain ⟨m,rfl⟩:∃ m,n=m+1:=⟨n - 1,by omega⟩
 simp[Builtin.clear_,run_underlying ht,hv,hst]

set_option maxHeartbeats 4000000 in
set_option maxRecDepth 1000000 in
theorem del_walk (blk off cap n i j:Nat) (cur:Array Value) (T:TypeId) (w:World) (i0:TypeInfo) (hi0:Tryz.prog.info? 114=some i0) (hz1:i0.size=2) (hcur:w.heap[blk]?=some (.cells cur T (0,0))) (hcap:n≤cap) (hm:n≤9223372036854775807) (hfit:off+n*2≤cur.size) (hone:∀ k u,cur[k]?=some u→off≤k→k<off+n*2→u.oneCell'=true) (hij:i≤j) (hj:j≤n) :
  Calls Tryz.prog 75 #[.slice (some ⟨blk,off,none⟩) n cap,.int .i64 i,.int .i64 j] w fun e w'=>e=.returned (.slice (some ⟨blk,off,none⟩) (n - (j - i)) cap) ∧
   ((i=j∧w'=w)∨(i<j∧∃ (q:Nat) (Z:List Value),Z.length=(j - i)*2∧w'=((Go.Sort.ahead w q).setCells blk (off+i*2) ((cur.toList.drop (off+j*2)).take ((n - j)*2))).setCells blk (off+(i+(n - j))*2) Z)):=by
 by_cases heq:i=j
 ·subst heq
  have h0:Calls Tryz.prog 75 #[.slice (some ⟨blk,off,none⟩) n cap,.int .i64 i,.int .i64 i] w fun e w'=>e=.returned (.slice (some ⟨blk,off,none⟩) n cap)∧w'=w:=by
   clear hcur hone
   go_enter Tryz.func75,Tryz.ntmps75
   go_wp2
   all_goals (go_ret; exact ⟨rfl,rfl⟩)
  refine h0.mono ?_
  rintro e w' ⟨rfl,rfl⟩
  exact ⟨by rw[Nat.sub_self,Nat.sub_zero],.inl ⟨rfl,rfl⟩⟩
 ·have hlt:i<j:=by omega
  have t57:=Tryz.underlying80
  have mixed:Tryz.prog.follows .mixedOrders=true:=by kernel_rfl
  obtain ⟨news,hnews⟩:∃ news,news=(cur.toList.drop (off+j*2)).take ((n - j)*2):=⟨_,rfl⟩
  have hlen:news.length=(n - j)*2:=by rw[hnews]; simp; omega
  have hget:∀ t,t<(n - j)*2→news[t]?=cur[off+j*2+t]?:=by
   intro t ht
   rw[hnews,List.getElem?_take,if_pos ht,List.getElem?_drop,Array.getElem?_toList]
  obtain ⟨A,hA,hsrc⟩:∃ A:Addr,(if cap=j then some (⟨blk,off,none⟩:Addr) else some ⟨blk,off+j*2,none⟩)=some A∧Hid (∀ t u,news[t]?=some u→w.drew.cell? (A.add t)=some u):=by
   by_cases h:cap=j
   ·refine ⟨⟨blk,off,none⟩,by simp[h],fun t u hu=>?_⟩
    have h0:news.length=0:=by rw[hlen]; omega
    rw[List.length_eq_zero_iff.1 h0] at hu
    simp at hu
   ·refine ⟨⟨blk,off+j*2,none⟩,by simp[h],fun t u hu=>?_⟩
    have ht:t<(n - j)*2:=by
     have:=(List.getElem?_eq_some_iff.1 hu).1
     rwa [hlen] at this
    rw[hget t ht] at hu
    show w.cell? _=_
    simp[World.cell?,Addr.add_lit,hcur,hu]
  have s2:Hid (∀ u∈news,u.oneCell'=true):=by
   intro u hu
   obtain ⟨t,ht⟩:=List.getElem?_of_mem hu
   have h1:=(List.getElem?_eq_some_iff.1 ht).1
   rw[hget t (by omega)] at ht
   exact hone _ u ht (by omega) (by omega)
  have s3:Hid (∀ t,t<news.length→(w.drew.cell? ⟨blk,off+i*2+t,none⟩).isSome=true∧w.drew.frozen? ⟨blk,off+i*2+t,none⟩=false):=by
   intro t ht
   have:off+i*2+t<cur.size:=by omega
   refine ⟨?_,?_⟩
   ·show (w.cell? _).isSome=true
    simp[World.cell?,hcur,this]
   ·show w.frozen? _=false
    simp[World.frozen?,hcur]
  have s1:Hid (news.length=(n - j)*2):=hlen
  obtain ⟨W1,hW1⟩:∃ W1,W1=w.drew.setCells blk (off+i*2) news:=⟨_,rfl⟩
  have hcell1:∀ t,t<(j - i)*2→(W1.cell? ⟨blk,off+(i+(n - j))*2+t,none⟩).isSome=true:=by
   intro t ht
   rw[hW1,World.cell?_setCells_out _ _ _ _ _ (fun _ _=>.inr (by rw[hlen]; simp only; omega))]
   show (w.cell? _).isSome=true
   have:off+(i+(n - j))*2+t<cur.size:=by omega
   simp[World.cell?,hcur,this]
  have hfro1:∀ t,t<(j - i)*2→W1.frozen? ⟨blk,off+(i+(n - j))*2+t,none⟩=false:=by
   intro t ht
   rw[hW1,World.frozen?_setCells]
   show w.frozen? _=false
   simp[World.frozen?,hcur]
  have hcl:∀ ty,(Builtin.clear_ #[80] ty #[.slice (some ⟨blk,off+(i+(n - j))*2,none⟩) (n - (i+(n - j))) (cap - (i+(n - j)))]).run Tryz.prog W1=.ok (.tuple #[]) (W1.setCells blk (off+(i+(n - j))*2) (Builtin.zeroCells (Value.cells (Value.agg #[Value.int IntKind.i64 0,Value.slice none 0 0])) (n - (i+(n - j)))).toList) :=
   fun ty=>run_clear2 W1 80 114 ty _ t57 Tryz.zeroValue114 (by simp[Value.cells,Value.oneCell']) blk (off+(i+(n - j))*2) _ _ (by omega) (fun t ht=>hcell1 t (by simp[Value.cells] at ht; omega)) (fun t ht=>hfro1 t (by simp[Value.cells] at ht; omega))
  have hW:Hid (W1=w.drew.setCells blk (off+i*2) news):=hW1
  have hN:Hid (news=(cur.toList.drop (off+j*2)).take ((n - j)*2)):=hnews
  have hic:i≤cap:=by omega
  have hjc:j≤cap:=by omega
  clear hW1 hcur hone hget hnews hlen hcell1 hfro1
  go_enter Tryz.func75,Tryz.ntmps75
  go_wp2_with fail
  go_region_law_o (refine step_append_room rfl (.tmp 22) (.tmp 25) 80 rfl 114 i0 2 t57 hi0 hz1 blk off i cap (by simp[Act.eval,Act.put]) A (n - j) (cap - j) news (by simp[Act.eval,Act.put]; try exact hA) s1.out hsrc.out s2.out (by omega) s3.out ?_; rw[← hW.out])
  go_wp2
  go_ret
  refine ⟨by rw[show n - (j - i)=i+(n - j) by omega]; rfl,.inr ⟨hlt,1,_,?_,by rw[hW.out,hN.out]; rfl⟩⟩
  simp[Builtin.zeroCells]
  omega

set_option maxHeartbeats 4000000 in
set_option maxRecDepth 1000000 in
theorem del_none (p:Option Addr) (cap:Nat) (w:World):Calls Tryz.prog 75 #[.slice p 0 cap,.int .i64 0,.int .i64 0] w fun e w'=>e=.returned (.slice p 0 cap)∧w'=w:=by
 go_enter Tryz.func75,Tryz.ntmps75
 go_wp2
 all_goals (go_ret; exact ⟨rfl,rfl⟩)

theorem delI:∃ i0,Tryz.prog.info? 114=some i0∧i0.size=2:=by
 obtain ⟨i,h1,h2,_⟩:=(Ae.tyB_ok (Ae.Tree.all_get tyOk (show tyT.get 114=some ty114 from rfl))).i
 exact ⟨i,h1,h2⟩
theorem delD (blk off cap n i j:Nat) (cur:Array Value) (T:TypeId) (w:World) (h1:w.heap[blk]?=some (.cells cur T (0,0))) (h2:n≤cap) (h3:n≤9223372036854775807) (h4:off+n*2≤cur.size) (h5:∀ k u,cur[k]?=some u→off≤k→k<off+n*2→u.oneCell'=true) (h6:i≤j) (h7:j≤n) :
  Calls Tryz.prog 75 #[.slice (some ⟨blk,off,none⟩) n cap,.int .i64 i,.int .i64 j] w (Ae.DelPost blk off cap n i j cur w):=by
 obtain ⟨i0,a,b⟩:=delI
 exact del_walk blk off cap n i j cur T w i0 a b h1 h2 h3 h4 h5 h6 h7
end Go.Proofs.YtmahhacghgkigaaGreat.law
