import Derived.Test.YthmmfhdpkddniaaGreatDoorGl
import Derived.Test.YthmmfhdpkddniaaGreatDoorFm
import Derived.Test.YthmmfhdpkddniaaGreatDoorXv
import Derived.Test.YthmmfhdpkddniaaGreatDoorSc
set_option linter.unusedSimpArgs false
set_option linter.unusedVariables false
namespace Go.Proofs.YthmmfhdpkddniaaGreatDoor
section
variable {β:Type} {d:β} {c:β→β→Int} {R:β→β→Prop} {tag:β→Nat}
inductive Bls (R:β→β→Prop) (s:Nat):List β→List β→Prop
 | last {T M:List β}:T.length≤s→M.Perm T→M.Pairwise R→Bls R s T M
 | cons {T M M':List β}:s<T.length→M.Perm (T.take s)→M.Pairwise R→Bls R s (T.drop s) M'→Bls R s T (M++M')
theorem Bls.perm {s:Nat} {T M:List β} (h:Bls R s T M):M.Perm T:=by
 induction h with
 | last _ h _=>exact h
 | @cons T _ _ _ h1 _ _ ih=>rw [← List.take_append_drop s T]; exact h1.append ih
theorem Bls.cut {s:Nat} {T M:List β} (h:Bls R s T M) (hs:s≤T.length):∃ M1 M',M=M1++M'∧M1.Perm (T.take s)∧M1.Pairwise R∧Bls R s (T.drop s) M':=by
 cases h with
 | last h1 h2 h3 =>
   refine ⟨M,[],(List.append_nil _).symm,by rw [List.take_of_length_le h1]; exact h2,h3,.last (by rw [List.length_drop]; omega) ?_ .nil⟩
   rw [List.drop_of_length_le h1]
 | cons h1 h2 h3 h4=>exact ⟨_,_,rfl,h2,h3,h4⟩
theorem Bls.join {s:Nat} {T M M':List β} (hs:s≤T.length) (h1:M.Perm (T.take s)) (h2:M.Pairwise R) (h3:Bls R s (T.drop s) M'):Bls R s T (M++M'):=by
 by_cases h:s<T.length
 · exact .cons h h1 h2 h3
 · have hp:=h3.perm
   rw [List.drop_of_length_le (by omega)] at hp
   have hp:=hp.eq_nil
   subst hp
   rw [List.append_nil]
   rw [List.take_of_length_le (by omega)] at h1
   exact .last (by omega) h1 h2
theorem insB_bls {s n:Nat} (hs:0<s):∀ {k a:Nat} {A T:List β},a=A.length→n=A.length+T.length→n≤a+k→Ords R tag c T→T.Pairwise (fun y z=>tag y<tag z)→∃ M,insB d c s n k a (A++T)=A++M∧Bls R s T M
 | 0,a,A,T,ha,hn,hk,hO,hT=>by
   obtain ⟨M,h1,h2,h3⟩:=insS_app (d:=d) (c:=c) (R:=R) (tag:=tag) (A:=A) (T:=T) (B:=[]) (a:=a) (b:=n) ha hn hO hT
   rw [List.append_nil,List.append_nil] at h1
   exact ⟨M,h1,.last (by omega) h2 h3⟩
 | k+1,a,A,T,ha,hn,hk,hO,hT=>by
   unfold insB
   split
   · have pt:=List.pairwise_append.1 ((List.take_append_drop s T).symm ▸ hT)
     obtain ⟨M,h1,h2,h3⟩:=insS_app (d:=d) (c:=c) (R:=R) (tag:=tag) (A:=A) (T:=T.take s) (B:=T.drop s) (a:=a) (b:=a+s) ha (by rw [List.length_take]; omega) (hO.sub fun y hy=>List.mem_of_mem_take hy) pt.1
     have h1:insS d c a (a+s) (A++T)=A++M++T.drop s:=by rw [List.append_assoc,List.take_append_drop] at h1; exact h1
     have hl:M.length=s:=by rw [h2.length_eq,List.length_take]; omega
     rw [h1]
     obtain ⟨M',h4,h5⟩:=insB_bls (s:=s) (n:=n) hs (k:=k) (a:=a+s) (A:=A++M) (T:=T.drop s) (by rw [List.length_append]; omega) (by rw [List.length_append,List.length_drop]; omega) (by omega) (hO.sub fun y hy=>List.mem_of_mem_drop hy) pt.2.1
     exact ⟨M++M',by rw [h4,List.append_assoc],.join (by omega) h2 h3 h5⟩
   · obtain ⟨M,h1,h2,h3⟩:=insS_app (d:=d) (c:=c) (R:=R) (tag:=tag) (A:=A) (T:=T) (B:=[]) (a:=a) (b:=n) ha hn hO hT
     rw [List.append_nil,List.append_nil] at h1
     exact ⟨M,h1,.last (by omega) h2 h3⟩
theorem symB_bls {s n:Nat} (hs:0<s):∀ {k a:Nat} {A T M:List β},a=A.length→n=A.length+T.length→n≤a+k→Ords R tag c T→T.Pairwise (fun y z=>tag y<tag z)→Bls R s T M→∃ M',symB d c s n k a (A++M)=A++M'∧Bls R (2 * s) T M'
 | 0,a,A,T,M,ha,hn,hk,hO,hT,hM=>by
   unfold symB
   rw [if_neg (by omega)]
   cases hM with
   | last h1 h2 h3=>exact ⟨M,rfl,.last (by omega) h2 h3⟩
   | cons h1=>omega
 | k+1,a,A,T,M,ha,hn,hk,hO,hT,hM=>by
   have hlM:=hM.perm.length_eq
   unfold symB
   by_cases h2s:a+2 * s≤n
   · rw [if_pos h2s]
     obtain ⟨M1,M',rfl,p1,q1,b1⟩:=hM.cut (by omega)
     obtain ⟨M2,M3,rfl,p2,q2,b2⟩:=b1.cut (by rw [List.length_drop]; omega)
     have l1:M1.length=s:=by rw [p1.length_eq,List.length_take]; omega
     have l2:M2.length=s:=by rw [p2.length_eq,List.length_take,List.length_drop]; omega
     have e12:T.take (2 * s)=T.take s++(T.drop s).take s:=by rw [show 2 * s=s+s by omega,List.take_add]
     have pt:=List.pairwise_append.1 ((List.take_append_drop s T).symm ▸ hT)
     have m1:∀ y,y∈M1→y∈T.take s:=fun y hy=>p1.mem_iff.1 hy
     have m2:∀ y,y∈M2→y∈T.drop s:=fun y hy=>List.mem_of_mem_take (p2.mem_iff.1 hy)
     obtain ⟨Q,g1,g2,g3⟩:=symS_app (d:=d) (c:=c) (R:=R) (tag:=tag) (n:=2 * s) (A:=A) (L:=M1) (K:=M2) (B:=M3) (a:=a) (m:=a+s) (b:=a+2 * s) ha (by omega) (by omega) (by omega) (by omega) (by omega)
       (hO.sub fun y hy=>by
         rcases List.mem_append.1 hy with h | h
         · exact List.mem_of_mem_take (m1 y h)
         · exact List.mem_of_mem_drop (m2 y h)) q1 q2 (fun y hy z hz=>pt.2.2 y (m1 y hy) z (m2 z hz))
     have e:A++(M1++(M2++M3))=A++M1++M2++M3:=by simp
     rw [e,g1]
     have ed:T.drop (2 * s)=(T.drop s).drop s:=by rw [List.drop_drop,show s+s=2 * s by omega]
     have lQ:Q.length=2 * s:=by rw [g2.length_eq,List.length_append]; omega
     have pt2:=List.pairwise_append.1 ((List.take_append_drop (2 * s) T).symm ▸ hT)
     obtain ⟨M',h4,h5⟩:=symB_bls (s:=s) (n:=n) hs (k:=k) (a:=a+2 * s) (A:=A++Q) (T:=T.drop (2 * s)) (M:=M3) (by rw [List.length_append]; omega) (by rw [List.length_append,List.length_drop]; omega) (by omega) (hO.sub fun y hy=>List.mem_of_mem_drop hy) pt2.2.1 (by rw [ed]; exact b2)
     refine ⟨Q++M',by rw [h4,List.append_assoc],.join (by omega) ?_ g3 h5⟩
     rw [e12]
     exact g2.trans (p1.append p2)
   · rw [if_neg h2s]
     by_cases h1s:a+s<n
     · rw [if_pos h1s]
       obtain ⟨M1,M2,rfl,p1,q1,b1⟩:=hM.cut (by omega)
       have l1:M1.length=s:=by rw [p1.length_eq,List.length_take]; omega
       have p2:=b1.perm
       have q2:M2.Pairwise R:=by
         cases b1 with
         | last _ _ h=>exact h
         | cons h=>rw [List.length_drop] at h; omega
       have l2:M2.length=T.length - s:=by rw [p2.length_eq,List.length_drop]
       have pt:=List.pairwise_append.1 ((List.take_append_drop s T).symm ▸ hT)
       obtain ⟨Q,g1,g2,g3⟩:=symS_app (d:=d) (c:=c) (R:=R) (tag:=tag) (n:=n - a) (A:=A) (L:=M1) (K:=M2) (B:=[]) (a:=a) (m:=a+s) (b:=n) ha (by omega) (by omega) (by omega) (by omega) (by omega)
         (hO.sub fun y hy=>by
           rcases List.mem_append.1 hy with h | h
           · exact List.mem_of_mem_take (p1.mem_iff.1 h)
           · exact List.mem_of_mem_drop (p2.mem_iff.1 h)) q1 q2 (fun y hy z hz=>pt.2.2 y (p1.mem_iff.1 hy) z (p2.mem_iff.1 hz))
       have e:A++(M1++M2)=A++M1++M2++[]:=by simp
       rw [e,g1,List.append_nil]
       refine ⟨Q,rfl,.last (by omega) ?_ g3⟩
       rw [← List.take_append_drop s T]
       exact g2.trans (p1.append p2)
     · rw [if_neg h1s]
       cases hM with
       | last h1 h2 h3=>exact ⟨M,rfl,.last (by omega) h2 h3⟩
       | cons h1=>omega
theorem symA_bls {n:Nat}:∀ {k s:Nat} {T M:List β},0<s→n=T.length→n≤s+k→Ords R tag c T→T.Pairwise (fun y z=>tag y<tag z)→Bls R s T M→(symA d c n k s M).Pairwise R
 | 0,s,T,M,hs,hn,hk,hO,hT,hM=>by
   unfold symA
   cases hM with
   | last _ _ h=>exact h
   | cons h=>omega
 | k+1,s,T,M,hs,hn,hk,hO,hT,hM=>by
   unfold symA
   by_cases h:s<n
   · rw [if_pos h]
     obtain ⟨M',h1,h2⟩:=symB_bls (d:=d) (c:=c) (R:=R) (tag:=tag) (s:=s) (n:=n) hs (k:=n) (a:=0) (A:=[]) (T:=T) (M:=M) rfl (by simpa using hn) (by omega) hO hT hM
     rw [List.nil_append,List.nil_append] at h1
     rw [h1]
     exact symA_bls (k:=k) (s:=2 * s) (T:=T) (M:=M') (by omega) hn (by omega) hO hT h2
   · rw [if_neg h]
     cases hM with
     | last _ _ h=>exact h
     | cons h=>omega
theorem stable_sortedN {l:List β} (hO:Ords R tag c l) (ht:l.Pairwise (fun y z=>tag y<tag z)):(stableS d c l).Pairwise R:=by
 obtain ⟨M,h1,h2⟩:=insB_bls (d:=d) (c:=c) (R:=R) (tag:=tag) (s:=20) (n:=l.length) (by decide) (k:=l.length) (a:=0) (A:=[]) (T:=l) rfl (by simp) (by omega) hO ht
 rw [List.nil_append,List.nil_append] at h1
 unfold stableS
 rw [h1]
 exact symA_bls (by decide) rfl (by omega) hO ht h2
theorem stable_two [DecidableEq β] {l:List β} (key:β→Nat) (hn:l.Nodup) (hk:∀ x∈l,key x=1∨key x=2) (hc:∀ x∈l,∀ y∈l,(c x y<0 ↔ key x<key y)) :
   stableS d c l=l.filter (fun x=>decide (key x=1))++l.filter fun x=>decide (key x=2):=by
 have htag:l.Pairwise fun x y=>l.idxOf x<l.idxOf y:=by
   rw [List.pairwise_iff_getElem]
   intro i j hi hj hij
   rw [hn.idxOf_getElem,hn.idxOf_getElem]
   exact hij
 have hO:Ords (fun x y=>key x<key y∨key x=key y∧l.idxOf x<l.idxOf y) (fun x=>l.idxOf x) c l:=
   ⟨fun x y z _ _ _ h1 h2=>by omega,fun x _ h=>by omega,fun x y _ _ h1 h2=>by omega,fun x y hx hy h1=>by rw [hc y hy x hx]; omega⟩
 have h1:=stable_sortedN (d:=d) hO htag
 have hf:∀ t,(l.filter fun x=>decide (key x=t)).Pairwise fun x y=>key x<key y∨key x=key y∧l.idxOf x<l.idxOf y:=fun t=>by
   refine (List.Pairwise.imp_of_mem (fun {a b} ha hb hab=>?_) (htag.sublist List.filter_sublist))
   have e1:=of_decide_eq_true (List.mem_filter.1 ha).2
   have e2:=of_decide_eq_true (List.mem_filter.1 hb).2
   exact .inr ⟨e1.trans e2.symm,hab⟩
 have h2:(l.filter (fun x=>decide (key x=1))++l.filter fun x=>decide (key x=2)).Pairwise fun x y=>key x<key y∨key x=key y∧l.idxOf x<l.idxOf y:=
   List.pairwise_append.2 ⟨hf 1,hf 2,fun a ha b hb=>by
     have e1:=of_decide_eq_true (List.mem_filter.1 ha).2
     have e2:=of_decide_eq_true (List.mem_filter.1 hb).2
     exact .inl (by omega)⟩
 have hp:(l.filter (fun x=>decide (key x=1))++l.filter fun x=>decide (key x=2)).Perm l:=by
   have h3:(l.filter fun x=>decide (key x=2))=l.filter fun x=>!decide (key x=1):=List.filter_congr fun x hx=>by
     rcases hk x hx with h | h <;> rw [h] <;> rfl
   rw [h3]
   exact List.filter_append_perm _ _
 exact List.Perm.eq_of_pairwise (fun a b _ _ h1 h2=>by omega) h1 h2 ((stable_perm d c l).trans hp.symm)
end
end Go.Proofs.YthmmfhdpkddniaaGreatDoor
namespace Go.Proofs.YthmmfhdpkddniaaGreatDoor
open Go.RowKit
abbrev DXw0 (b0:Nat) (X:XP):=Ob b0 (.cells #[.pointer (some ⟨X.g,0,none⟩)] 26 (0,0))
set_option maxRecDepth 20000 in
set_option maxHeartbeats 4000000 in
theorem chs1_x (X:XP) (A:PK) (j:Nat) (hX:XOK X A) (hI:PKI j A) (a b:Cho) (hao:okP a.at) (hbo:okP b.at) (ia ib:Nat) (ra rb:Bk) (hraq:X.bs[ia]?=some ra) (hrab:bkM X.bs a.at=some ra.b) (hrbq:X.bs[ib]?=some rb) (hrbb:bkM X.bs b.at=some rb.b) (b0:Nat) (hla:ra.asked.length≤1000∧rb.asked.length≤1000)  (w:World) (HS:S w [(XI X A),DXw0 b0 X]):Calls Tryz.prog 137 #[.agg #[.int .i64 (a.pc),.int .i64 (a.bg),.int .i64 (a.ln)],.agg #[.int .i64 (b.pc),.int .i64 (b.bg),.int .i64 (b.ln)],.pointer (some ⟨b0,0,none⟩)] w fun e w'=>e=.returned (.int .i64 (sg ((ra.asked.length:Nat):Int) ((rb.asked.length:Nat):Int)))∧S w' ([(XI X A),DXw0 b0 X]++[Old w (fps [(XI X A),DXw0 b0 X])]):=by
 have H0:=HS.beginI
 have hn24:=hI.n24
 have hn1:=hI.n1
 have hpz1:=hI.pz1
 have hpz2:=hI.pz2
 have hla1:=hI.la1
 have hla2:=hI.la2
 have hadl:=hI.hadl
 have hwl:=hI.wishl
 replace H0:S _ [_,_,_,_,_,_,_,_,_]:=S.unbig (L:=[_,_,_,_,_,_,_]) H0
 obtain ⟨hla1,hlb1⟩:=hla
 refine enter 29 Tryz.func137 rfl rfl rfl ?_
 refine g_wk [(0,_),(1,_),(2,_)] ?_
 refine w_s ?_
 refine l_of (s_box H0 (wt0 rfl) rfl rfl rfl rfl ?_)
 intro g1 wq2 H3
 refine l_of (s_box H3 (wt0 rfl) rfl rfl rfl rfl ?_)
 intro g4 wq5 H6
 refine w_k2 ?_
 refine g_seq ?_
 refine g_any [] (fun wx=>S wx [Ob g4 (.cells #[.int .i64 (b.pc),.int .i64 (b.bg),.int .i64 (b.ln)] 44 (0,0)),Ob g1 (.cells #[.int .i64 (a.pc),.int .i64 (a.bg),.int .i64 (a.ln)] 44 (0,0)),Ob X.g (.cells #[.map (some X.mg),.int .i64 ((A.n:Int)),.int .i64 ((A.pz:Int)),.int .i64 ((A.la:Int)),.string (A.seed),.bool A.ino,.slice X.hp A.had.length X.hc,.slice X.wp A.wish.length X.wc,.map (some X.bg)] 85 (0,0)),Rw 4 1 X.hp A.had.length X.hc (fl boolL A.had),Rw 40 2 X.wp A.wish.length X.wc (fl wisL A.wish),Mp (Value.int .i64) ptV okI X.mg (mtM X.ms),(Lst MtI X.ms),Mp plK ptV okP X.bg (bkM X.bs),(Lst BkI X.bs),DXw0 b0 X,Old w (fps [(XI X A),DXw0 b0 X])]) [] (by kernel_rfl) H6 (fun wq7 H8=>?_)
 refine w_t 0 rfl H8 (fun _ H=>xl H 9) ?_
 refine w_t 1 rfl H8 (fun _ _=>xn) ?_
 refine w_t 2 rfl H8 (fun _ _=>xf 8) ?_
 refine w_t 3 rfl H8 (fun _ H=>xl H 2) ?_
 refine w_t (v:=.agg #[.int .i64 (a.pc),.int .i64 (a.bg),.int .i64 (a.ln)]) 4 rfl H8 (fun _ H=>x_loadA H 1 rfl rfl Tryz.underlying44 rfl sz44 rfl rfl rfl) ?_
 refine w_t 11 rfl H8 (fun _ H=>xl H 9) ?_
 refine w_t 12 rfl H8 (fun _ _=>xn) ?_
 refine w_t 13 rfl H8 (fun _ _=>xf 8) ?_
 refine w_t 14 rfl H8 (fun _ H=>xl H 2) ?_
 refine w_t (v:=.agg #[.int .i64 (b.pc),.int .i64 (b.bg),.int .i64 (b.ln)]) 15 rfl H8 (fun _ H=>x_loadA H 0 rfl rfl Tryz.underlying44 rfl sz44 rfl rfl rfl) ?_
 refine a_one (i:=5) (by kernel_rfl) rfl ?_
 refine s_call0 H8 (wt0 rfl) (x_call' rfl rfl cl47) (at_x a _) rfl rfl ?_
 intro wq9 H10
 refine a_k H10 ?_
 refine w_t (v:=.pointer (some ⟨ra.b,0,none⟩)) 6 rfl H10 (fun _ H=>ex_cast (x_lookup1 (x:=a.at) placeT H 7 rfl rfl rfl rfl (hao) ze98) (optP_s hrab)) ?_
 refine w_t 7 rfl H10 (fun _ _=>xn) ?_
 refine w_t 8 rfl H10 (fun _ _=>xf 1) ?_
 refine w_t (v:=.slice ra.ap ra.asked.length ra.ac) 9 rfl H10 (fun _ H=>x_loadC rfl rfl Tryz.underlying59 rfl (H.bkCell (k:=8) rfl hraq (c:=1) rfl)) ?_
 refine w_t 10 rfl H10 (fun _ _=>x_q) ?_
 refine a_one (i:=16) (by kernel_rfl) rfl ?_
 refine s_call0 H10 (wt0 rfl) (x_call' rfl rfl cl47) (at_x b _) rfl rfl ?_
 intro wq11 H12
 refine a_k H12 ?_
 refine w_t (v:=.pointer (some ⟨rb.b,0,none⟩)) 17 rfl H12 (fun _ H=>ex_cast (x_lookup1 (x:=b.at) placeT H 7 rfl rfl rfl rfl (hbo) ze98) (optP_s hrbb)) ?_
 refine w_t 18 rfl H12 (fun _ _=>xn) ?_
 refine w_t 19 rfl H12 (fun _ _=>xf 1) ?_
 refine w_t (v:=.slice rb.ap rb.asked.length rb.ac) 20 rfl H12 (fun _ H=>x_loadC rfl rfl Tryz.underlying59 rfl (H.bkCell (k:=8) rfl hrbq (c:=1) rfl)) ?_
 refine w_t 21 rfl H12 (fun _ _=>x_q) ?_
 refine a_one (i:=22) (by kernel_rfl) rfl ?_
 refine s_cl (cmp_s (ra.asked.length:Int) (rb.asked.length:Int) _) ?_
 rintro _ wq13 ⟨rfl,H14⟩
 replace H14:=H12.ab0 H14
 have hsg9:=sg_le (ra.asked.length:Int) (rb.asked.length:Int)
 refine b_ret rfl rfl ?_
 refine a_k H14 ?_
 refine a_one (i:=23) (by kernel_rfl) rfl ?_
 refine s_v xa ?_
 refine a_k H14 ?_
 refine a_done (by kernel_rfl) ?_
 refine w_0 ?_
 refine g_wk [(5,_)] ?_
 refine g_ret ?_
 refine fin_r [.tmp 5] [.int .i64 ((sg (ra.asked.length:Int) (rb.asked.length:Int)))] ?_
 exact ⟨rfl,((S.big (L:=[_,_,_,_,_,_,_]) (H14.tk [2,3,4,5,6,7,8,9,10])).tk [1,0,2]).tk [1,0,2]⟩
theorem mV_cho (l:List Cho):mV choK l=fl choL l:=by
 unfold mV fl
 rfl
theorem chs1_ok:callable Tryz.prog 137=true:=by kernel_rfl
theorem sg_neg2 {a b:Nat}:sg (a:Int) (b:Int)<0 ↔ a<b:=by
 unfold sg
 split
 · omega
 · split <;> omega
theorem sortCho {X:XP} {A:PK} {j:Nat} (hX:XOK X A) (hI:PKI j A) (b0:Nat) (z:List Cho) (hn:z.Nodup) (hz:∀ x∈z,A.isB x∧A.freeC x=false∧((ofL A.asked x).length=1∨(ofL A.asked x).length=2)) (hl:z.length≤100000) (po:Option Addr) (co:Nat) (w:World) (HS:S w [Rw 44 3 po z.length co (fl choL z),Big [(XI X A),Ob b0 (.cells #[.pointer (some ⟨X.g,0,none⟩)] 26 (0,0))]]) :
   Calls Tryz.prog 136 #[.slice po z.length co,.func (.func 137) #[] #[.pointer (some ⟨b0,0,none⟩)]] w fun e w'=>e=.returned (.tuple #[])∧S w' ([Rw 44 3 po z.length co (fl choL (z.filter (fun c=>decide ((ofL A.asked c).length=1))++z.filter fun c=>decide ((ofL A.asked c).length=2))),Big [(XI X A),Ob b0 (.cells #[.pointer (some ⟨X.g,0,none⟩)] 26 (0,0))]]++[Old w (fps [Rw 44 3 po z.length co (fl choL z),Big [(XI X A),Ob b0 (.cells #[.pointer (some ⟨X.g,0,none⟩)] 26 (0,0))]])]):=by
 have hc:Cmps Tryz.prog 137 #[] #[.pointer (some ⟨b0,0,none⟩)] (Big [(XI X A),Ob b0 (.cells #[.pointer (some ⟨X.g,0,none⟩)] 26 (0,0))]) choK (fun x y=>sg (((ofL A.asked x).length:Nat):Int) (((ofL A.asked y).length:Nat):Int)) z:=by
   refine ⟨chs1_ok,fun x hx y hy w1 h1=>?_⟩
   obtain ⟨hxB,hxf,hxl⟩:=hz x hx
   obtain ⟨hyB,hyf,hyl⟩:=hz y hy
   obtain ⟨ia,ra,hraq,hrak,hrab,_⟩:=hX.bok.get hxB hxf
   obtain ⟨ib,rb,hrbq,hrbk,hrbb,_⟩:=hX.bok.get hyB hyf
   have ea:=(hX.bok.ent hxB hraq hrak).2
   have eb:=(hX.bok.ent hyB hrbq hrbk).2
   have h2:=S.unbig (L:=[_,_]) h1
   have h3:=chs1_x X A j hX hI x y (okP_blk hI ⟨hxB.1,hxB.2.1⟩ hxB.2.2) (okP_blk hI ⟨hyB.1,hyB.2.1⟩ hyB.2.2) ia ib ra rb hraq hrab hrbq hrbb b0 (by rw [ea,eb]; omega) w1 (by exact h2)
   rw [ea,eb] at h3
   refine h3.mono ?_
   rintro e w' ⟨rfl,hs⟩
   refine ⟨rfl,?_⟩
   have e2:fps [Big [(XI X A),Ob b0 (.cells #[.pointer (some ⟨X.g,0,none⟩)] 26 (0,0))]]=fps [(XI X A),Ob b0 (.cells #[.pointer (some ⟨X.g,0,none⟩)] 26 (0,0))]:=by
     funext g
     refine propext ⟨fun ⟨it,h1,h3⟩=>?_,fun h=>⟨Big [(XI X A),Ob b0 (.cells #[.pointer (some ⟨X.g,0,none⟩)] 26 (0,0))],List.mem_singleton.2 rfl,h⟩⟩
     rw [List.mem_singleton] at h1; subst h1; exact h3
   rw [e2]
   exact S.big (L:=[_,_]) hs
 have h:=sortStable_s (⟨0,0,0⟩:Cho) choK (fun c=>#[.int .i64 c.pc,.int .i64 c.bg,.int .i64 c.ln]) (fun _=>rfl) (fun _=>rfl) (fun _=>rfl) z z.length rfl po co (by omega) _ 137 #[] #[.pointer (some ⟨b0,0,none⟩)] (Big [(XI X A),Ob b0 (.cells #[.pointer (some ⟨X.g,0,none⟩)] 26 (0,0))]) hc w (by rw [mV_cho]; exact HS)
 rw [mV_cho,mV_cho,stable_two (fun c=>(ofL A.asked c).length) hn (fun x hx=>(hz x hx).2.2) (fun x _ y _=>sg_neg2)] at h
 exact h
end Go.Proofs.YthmmfhdpkddniaaGreatDoor
