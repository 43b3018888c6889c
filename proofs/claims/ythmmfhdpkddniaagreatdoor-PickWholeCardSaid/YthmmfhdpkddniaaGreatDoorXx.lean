import Derived.Test.YthmmfhdpkddniaaGreatDoorFm
import Derived.Test.YthmmfhdpkddniaaGreatDoorXw
set_option maxRecDepth 20000
set_option maxHeartbeats 4000000
set_option linter.unusedSimpArgs false
set_option linter.unusedVariables false
namespace Go.Proofs.YthmmfhdpkddniaaGreatDoor
open Go.RowKit
theorem cl135:callable Tryz.prog 135=true:=by kernel_rfl
theorem cl136:callable Tryz.prog 136=true:=by kernel_rfl
theorem free_stop {A:PK} {cd:List Int} {ii:Nat} {i:Int} {pr l:List Cho} {n m:Nat} (h:cd[ii]?=some i) (hp:pr=(A.blocks i).take n) (hl:l=((cd.take ii).flatMap A.freeL++pr.filter (fun c=>!bitAt A.had i && A.freeC c)).take m) (hm:m≤l.length):l=(cd.flatMap A.freeL).take m:=by
 obtain ⟨h1,h2⟩:=List.getElem?_eq_some_iff.1 h
 have e:cd.flatMap A.freeL=((cd.take ii).flatMap A.freeL++pr.filter (fun c=>!bitAt A.had i && A.freeC c))++(((A.blocks i).drop n).filter (fun c=>!bitAt A.had i && A.freeC c)++(cd.drop (ii+1)).flatMap A.freeL):=by
   conv=>lhs; rw [← List.take_append_drop ii cd,List.flatMap_append,List.drop_eq_getElem_cons h1,List.flatMap_cons,h2]
   have e2:A.freeL i=pr.filter (fun c=>!bitAt A.had i && A.freeC c)++((A.blocks i).drop n).filter (fun c=>!bitAt A.had i && A.freeC c):=by
     rw [hp,← List.filter_append,List.take_append_drop]; rfl
   rw [e2]
   simp only [List.append_assoc]
 rw [e,List.take_append_of_le_length]
 · exact hl
 · rw [hl,List.length_take] at hm; omega
theorem take_min {α:Type} {l:List α} {m k:Nat} (h:k=min m l.length):l.take k=l.take m:=by
 by_cases hm:m≤l.length
 · rw [h,Nat.min_eq_left hm]
 · rw [h,Nat.min_eq_right (by omega),List.take_length,List.take_of_length_le (by omega)]
theorem two_len {A:PK} {z:List Cho} (hz:∀ x∈z,A.isB x∧A.freeC x=false∧((ofL A.asked x).length=1∨(ofL A.asked x).length=2)):(z.filter (fun c=>decide ((ofL A.asked c).length=1))++z.filter fun c=>decide ((ofL A.asked c).length=2)).length=z.length:=by
 have h3:(z.filter fun c=>decide ((ofL A.asked c).length=2))=z.filter fun c=>!decide ((ofL A.asked c).length=1):=List.filter_congr fun x hx=>by
   rcases (hz x hx).2.2 with h | h <;> rw [h] <;> rfl
 rw [h3]
 exact (List.filter_append_perm _ _).length_eq
theorem end_open {A:PK} (h:A.endB=true) {i:Int} (hi:0≤i∧i<(A.n:Int)) (ho:A.openB i=true) {c:Cho} (hc:c∈A.blocks i):A.freeC c=false:=by
 unfold PK.endB at h
 have h1:=List.all_eq_true.1 h i (mem_idxs.2 hi)
 rw [ho] at h1
 have h1:(false || (A.blocks i).all fun c=>!A.freeC c)=true:=h1
 rw [Bool.false_or] at h1
 have h2:=List.all_eq_true.1 h1 c hc
 simpa using h2
theorem cand_open {A:PK} {p:Pee} {i:Int} (h:i∈A.cand p):(0≤i∧i<(A.n:Int))∧bitAt A.had i=false∧A.openB i=true:=by
 obtain ⟨h1,h2⟩:=mem_cand.1 h
 refine ⟨h1,(candB_open h2).1,?_⟩
 unfold PK.candB at h2
 simp only [Bool.and_eq_true] at h2
 exact h2.1.1
theorem end_z {A:PK} {p:Pee} {k:Int} (h:A.endB=true) {z:List Cho} (hz:z=(A.cand p).flatMap (fun i=>(A.blocks i).filter (fun c=>!decide (c∈A.here) && decide ((ofL A.asked c).length<3) && !decide (k∈ofL A.asked c)))):z.Nodup∧(∀ x∈z,A.isB x∧A.freeC x=false∧((ofL A.asked x).length=1∨(ofL A.asked x).length=2))∧(z.filter (fun c=>decide ((ofL A.asked c).length=1))++z.filter fun c=>decide ((ofL A.asked c).length=2))=A.endL k (A.cand p) 1++A.endL k (A.cand p) 2:=by
 subst hz
 refine ⟨flat_blocks (cand_nodup A p) fun _=>(fun c=>!decide (c∈A.here) && decide ((ofL A.asked c).length<3) && !decide (k∈ofL A.asked c)),fun x hx=>?_,?_⟩
 · obtain ⟨h1,h2,h3⟩:=(mem_flat (q:=fun _=>(fun c=>!decide (c∈A.here) && decide ((ofL A.asked c).length<3) && !decide (k∈ofL A.asked c)))).1 hx
   obtain ⟨h4,h5,h6⟩:=cand_open h1
   have h7:=end_open h h4 h6 h2
   refine ⟨⟨h4.1,h4.2,h2⟩,h7,?_⟩
   simp only [Bool.and_eq_true,Bool.not_eq_eq_eq_not,Bool.not_true,decide_eq_false_iff_not,decide_eq_true_eq] at h3
   have h8:ofL A.asked x ≠ []:=fun e=>by
     have:=freeC_iff.2 ⟨h3.1.1,e⟩
     rw [h7] at this; cases this
   have h9:=List.length_pos_iff.2 h8
   omega
 · have key:∀ t,t=1∨t=2→((A.cand p).flatMap (fun i=>(A.blocks i).filter (fun c=>!decide (c∈A.here) && decide ((ofL A.asked c).length<3) && !decide (k∈ofL A.asked c)))).filter (fun c=>decide ((ofL A.asked c).length=t))=A.endL k (A.cand p) t:=fun t ht=>by
     rw [List.filter_flatMap]
     unfold PK.endL
     congr 1
     funext i
     rw [List.filter_filter]
     refine List.filter_congr fun c _=>?_
     unfold PK.endB1
     rcases ht with rfl | rfl
     · by_cases h9:(ofL A.asked c).length=1
       · simp [h9]
       · simp [h9]
     · by_cases h9:(ofL A.asked c).length=2
       · simp [h9]
       · simp [h9]
   rw [key 1 (.inl rfl),key 2 (.inr rfl)]
theorem chosen_x (X:XP) (A:PK) (j:Nat) (hX:XOK X A) (hI:PKI j A) (q:Nat) (m:Mt) (hmq:X.ms[q]?=some m) (k:Int) (hmk:m.k=k) (hmb:mtM X.ms k=some m.b) (hk1:1≤k∧k≤1000) (most:Int) (hmo:0≤most∧okI most) (hj:j≤100000)  (w:World) (HS:S w [(XI X A)]):Calls Tryz.prog 107 #[.pointer (some ⟨X.g,0,none⟩),.int .i64 k,.int .i64 most] w fun e w'=>∃ p' c',e=.returned (.slice p' (A.lookP m.pe most).length c')∧S w' ([Rw 44 3 p' (A.lookP m.pe most).length c' (fl choL (A.lookP m.pe most)),(XI X A)]++[Old w (fps [(XI X A)])]):=by
 have H0:=HS.beginI
 have hn24:=hI.n24
 have hn1:=hI.n1
 have hpz1:=hI.pz1
 have hpz2:=hI.pz2
 have hla1:=hI.la1
 have hla2:=hI.la2
 have hadl:=hI.hadl
 have hwl:=hI.wishl
 replace H0:S _ [_,_,_,_,_,_,_,_]:=S.unbig (L:=[_,_,_,_,_,_,_]) H0
 have hal9:=hI.al
 have hma:=hX.ask m (List.mem_of_getElem? hmq)
 rw [hmk] at hma
 have hml9:m.asked.length≤A.asked.length:=by rw [hma]; exact mine_len A.asked k
 unfold okI at hmo
 replace H0:=H0.nilMarks
 refine enter_m 125 Tryz.func107 rfl rfl rfl ?_
 have hL:¬ LetsOut (bodyPostM (WF none) 9 Tryz.prog Tryz.f107 fun e w'=>∃ p' c',e=.returned (.slice p' (A.lookP m.pe most).length c')∧S w' ([Rw 44 3 p' (A.lookP m.pe most).length c' (fl choL (A.lookP m.pe most)),(XI X A)]++[Old w (fps [(XI X A)])])):=by
  rintro ⟨_,_,h⟩
  simp only [bodyPostM,reduceCtorEq,false_and,and_false,exists_false,or_false,or_self,exists_const] at h
 refine g_wk [(0,_),(1,_),(2,_)] ?_
 refine R.g_seq ?_
 refine R.g_region ?_
 refine R.l_of rfl (fun h=>hL h) (s_box H0 (wt0 rfl) rfl rfl rfl rfl ?_)
 intro g1 wq2 H3
 refine R.l_of rfl (fun h=>hL h) (s_box H3 (wt0 rfl) rfl rfl rfl rfl ?_)
 intro g4 wq5 H6
 refine R.l_of rfl (fun h=>hL h) (s_box H6 (wt0 rfl) rfl rfl rfl rfl ?_)
 intro g7 wq8 H9
 refine R.l_of rfl (fun h=>hL h) (s_alloc H9 (wt0 rfl) rfl rfl rfl ze35 ?_)
 intro g10 wq11 H12
 refine R.g_nil ?_
 refine w_0 ?_
 refine R.g_seq ?_
 refine R.g_any [] (fun wx=>S wx [Ob g10 (.cells #[.slice none 0 0] 35 (0,0)),Ob g7 (.cells #[.int .i64 most] 3 (0,0)),Ob g4 (.cells #[.int .i64 k] 3 (0,0)),Ob g1 (.cells #[.pointer (some ⟨X.g,0,none⟩)] 26 (0,0)),Marks [],Ob X.g (.cells #[.map (some X.mg),.int .i64 ((A.n:Int)),.int .i64 ((A.pz:Int)),.int .i64 ((A.la:Int)),.string (A.seed),.bool A.ino,.slice X.hp A.had.length X.hc,.slice X.wp A.wish.length X.wc,.map (some X.bg)] 85 (0,0)),Rw 4 1 X.hp A.had.length X.hc (fl boolL A.had),Rw 40 2 X.wp A.wish.length X.wc (fl wisL A.wish),Mp (Value.int .i64) ptV okI X.mg (mtM X.ms),(Lst MtI X.ms),Mp plK ptV okP X.bg (bkM X.bs),(Lst BkI X.bs),Old w (fps [(XI X A)])]) [] (by kernel_rfl) (by kernel_rfl) (fun h=>hL h) H12 (fun wq13 H14=>?_)
 refine a_take (v:=.pointer (some ⟨X.g,0,none⟩)) 0 rfl (wt0 rfl) rfl rfl rfl (by kernel_rfl) (by kernel_rfl) (by kernel_rfl) (by kernel_rfl) H14 (fun wx H=>x_load1 H 3 rfl rfl Tryz.underlying26 rfl rfl rfl) ?_
 refine a_take (v:=.pointer (some ⟨X.g,0,none⟩)) 1 rfl (wt0 rfl) rfl rfl rfl (by kernel_rfl) (by kernel_rfl) (by kernel_rfl) (by kernel_rfl) H14 (fun wx H=>x_nilCheck rfl rfl) ?_
 refine a_take (v:=.pointer (some ⟨X.g,0,none⟩)) 2 rfl (wt0 rfl) rfl rfl rfl (by kernel_rfl) (by kernel_rfl) (by kernel_rfl) (by kernel_rfl) H14 (fun wx H=>x_fieldAddr rfl rfl fo85_0 rfl) ?_
 refine a_take (v:=.pointer (some ⟨X.g,0,none⟩)) 3 rfl (wt0 rfl) rfl rfl rfl (by kernel_rfl) (by kernel_rfl) (by kernel_rfl) (by kernel_rfl) H14 (fun wx H=>x_fieldAddr rfl rfl fo82_0 rfl) ?_
 refine a_take (v:=.map (some X.mg)) 4 rfl (wt0 rfl) rfl rfl rfl (by kernel_rfl) (by kernel_rfl) (by kernel_rfl) (by kernel_rfl) H14 (fun wx H=>x_load1 H 5 rfl rfl Tryz.underlying80 rfl rfl rfl) ?_
 refine a_take (v:=.int .i64 k) 5 rfl (wt0 rfl) rfl rfl rfl (by kernel_rfl) (by kernel_rfl) (by kernel_rfl) (by kernel_rfl) H14 (fun wx H=>x_load1 H 2 rfl rfl Tryz.underlying3 rfl rfl rfl) ?_
 refine a_take (v:=.pointer (some ⟨m.b,0,none⟩)) 6 rfl (wt0 rfl) rfl rfl rfl (by kernel_rfl) (by kernel_rfl) (by kernel_rfl) (by kernel_rfl) H14 (fun wx H=>ex_cast (x_lookup1 (x:=k) (intTy Tryz.underlying80 Tryz.underlying3) H 8 rfl rfl rfl rfl (⟨by omega,by omega⟩) ze79) (optP_s hmb)) ?_
 refine a_one (i:=7) (by kernel_rfl) rfl ?_
 refine s_v xa ?_
 refine a_k H14 ?_
 refine a_done (by kernel_rfl) ?_
 refine w_0 ?_
 refine R.g_seq ?_
 refine R.g_cut (ι:=Int) (fun mv=>[(3,.pointer (some ⟨g1,0,none⟩)),(4,.pointer (some ⟨g4,0,none⟩)),(5,.pointer (some ⟨g7,0,none⟩)),(6,.pointer (some ⟨g10,0,none⟩)),(7,.pointer (some ⟨m.b,0,none⟩))]) (fun mv wx=>(mv=(A.mostV m.pe most))∧S wx [Ob g10 (.cells #[.slice none 0 0] 35 (0,0)),Ob g7 (.cells #[.int .i64 mv] 3 (0,0)),Ob g4 (.cells #[.int .i64 k] 3 (0,0)),Ob g1 (.cells #[.pointer (some ⟨X.g,0,none⟩)] 26 (0,0)),Marks [],Ob X.g (.cells #[.map (some X.mg),.int .i64 ((A.n:Int)),.int .i64 ((A.pz:Int)),.int .i64 ((A.la:Int)),.string (A.seed),.bool A.ino,.slice X.hp A.had.length X.hc,.slice X.wp A.wish.length X.wc,.map (some X.bg)] 85 (0,0)),Rw 4 1 X.hp A.had.length X.hc (fl boolL A.had),Rw 40 2 X.wp A.wish.length X.wc (fl wisL A.wish),Mp (Value.int .i64) ptV okI X.mg (mtM X.ms),(Lst MtI X.ms),Mp plK ptV okP X.bg (bkM X.bs),(Lst BkI X.bs),Old w (fps [(XI X A)])]) ?_ ?_
 ·
  refine R.g_seq ?_
  refine R.g_region ?_
  refine R.w_v (fun h=>hL h) xm ?_
  refine R.w_v (fun h=>hL h) xn ?_
  refine R.w_v (fun h=>hL h) x_f ?_
  refine R.w_v (fun h=>hL h) (v:=.bool m.sn) (x_loadC rfl rfl Tryz.underlying4 rfl (H14.mtCell (k:=9) rfl hmq (c:=4) rfl)) ?_
  refine R.g_nil ?_
  refine w_0 ?_
  refine g_wk [(3,_),(4,_),(5,_),(6,_),(7,_),(27,_)] ?_
  rcases Bool.eq_false_or_eq_true (m.sn) with hb15 | hb15
  ·
   refine R.g_cond_t rfl hb15 ?_
   refine R.g_any [] (fun wx=>S wx [Ob g10 (.cells #[.slice none 0 0] 35 (0,0)),Ob g7 (.cells #[.int .i64 most] 3 (0,0)),Ob g4 (.cells #[.int .i64 k] 3 (0,0)),Ob g1 (.cells #[.pointer (some ⟨X.g,0,none⟩)] 26 (0,0)),Marks [],Ob X.g (.cells #[.map (some X.mg),.int .i64 ((A.n:Int)),.int .i64 ((A.pz:Int)),.int .i64 ((A.la:Int)),.string (A.seed),.bool A.ino,.slice X.hp A.had.length X.hc,.slice X.wp A.wish.length X.wc,.map (some X.bg)] 85 (0,0)),Rw 4 1 X.hp A.had.length X.hc (fl boolL A.had),Rw 40 2 X.wp A.wish.length X.wc (fl wisL A.wish),Mp (Value.int .i64) ptV okI X.mg (mtM X.ms),(Lst MtI X.ms),Mp plK ptV okP X.bg (bkM X.bs),(Lst BkI X.bs),Old w (fps [(XI X A)])]) [8] (by kernel_rfl) (by kernel_rfl) (fun h=>hL h) H14 (fun wq16 H17=>?_)
   refine a_take (v:=.int .i64 most) 0 rfl (wt0 rfl) rfl rfl rfl (by kernel_rfl) (by kernel_rfl) (by kernel_rfl) (by kernel_rfl) H17 (fun wx H=>x_load1 H 1 rfl rfl Tryz.underlying3 rfl rfl rfl) ?_
   refine a_take (v:=.pointer (some ⟨m.b,0,none⟩)) 1 rfl (wt0 rfl) rfl rfl rfl (by kernel_rfl) (by kernel_rfl) (by kernel_rfl) (by kernel_rfl) H17 (fun wx H=>x_move rfl rfl) ?_
   refine a_take (v:=.pointer (some ⟨m.b,0,none⟩)) 2 rfl (wt0 rfl) rfl rfl rfl (by kernel_rfl) (by kernel_rfl) (by kernel_rfl) (by kernel_rfl) H17 (fun wx H=>x_nilCheck rfl rfl) ?_
   refine a_take (v:=.pointer (some ⟨m.b,5,none⟩)) 3 rfl (wt0 rfl) rfl rfl rfl (by kernel_rfl) (by kernel_rfl) (by kernel_rfl) (by kernel_rfl) H17 (fun wx H=>x_fieldAddr rfl rfl fo88_5 rfl) ?_
   refine a_take (v:=.slice m.ap m.asked.length m.ac) 4 rfl (wt0 rfl) rfl rfl rfl (by kernel_rfl) (by kernel_rfl) (by kernel_rfl) (by kernel_rfl) H17 (fun wx H=>x_loadC rfl rfl Tryz.underlying35 rfl (H.mtCell (k:=9) rfl hmq (c:=5) rfl)) ?_
   refine a_take (v:=.int .i64 ((m.asked.length:Int))) 5 rfl (wt0 rfl) rfl rfl rfl (by kernel_rfl) (by kernel_rfl) (by kernel_rfl) (by kernel_rfl) H17 (fun wx H=>x_lenl rfl rfl Tryz.underlying35) ?_
   refine a_take (v:=.int .i64 (1 - (m.asked.length:Int))) 6 rfl (wt0 rfl) rfl rfl rfl (by kernel_rfl) (by kernel_rfl) (by kernel_rfl) (by kernel_rfl) H17 (fun wx H=>x_bin rfl rfl rfl (b_sub (w64 (by omega)))) ?_
   refine a_take (v:=.int .i64 (min most (1 - (m.asked.length:Int)))) 7 rfl (wt0 rfl) rfl rfl rfl (by kernel_rfl) (by kernel_rfl) (by kernel_rfl) (by kernel_rfl) H17 (fun wx H=>x_min rfl rfl rfl) ?_
   refine a_one (i:=8) (by kernel_rfl) rfl ?_
   refine s_store H17 1 (wt0 rfl) rfl rfl rfl rfl rfl sz3 rfl rfl (cs':=#[.int .i64 (min most (1 - (m.asked.length:Int)))]) rfl ?_
   intro wq18 H19
   refine a_kt rfl ?_
   refine a_done (by kernel_rfl) ?_
   refine w_0 ?_
   refine g_mid (min most (1 - (m.asked.length:Int))) ?_ ?_
   · exact ⟨rfl,rfl,rfl,rfl,rfl,trivial⟩
   · exact ⟨(by unfold PK.mostV; rw [show m.pe.sn=m.sn from rfl,show m.pe.k=k from hmk,← hma,hb15]; simp only [if_true,if_false,Bool.false_eq_true]; try omega),(H19.tk [0,1,2,3,4,5,6,7,8,9,10,11,12])⟩
  ·
   refine R.g_cond_f rfl hb15 ?_
   refine R.g_skip ?_
   refine w_0 ?_
   refine g_mid (most) ?_ ?_
   · exact ⟨rfl,rfl,rfl,rfl,rfl,trivial⟩
   · exact ⟨(by unfold PK.mostV; rw [show m.pe.sn=m.sn from rfl,show m.pe.k=k from hmk,← hma,hb15]; simp only [if_true,if_false,Bool.false_eq_true]; try omega),(H14.tk [0,1,2,3,4,5,6,7,8,9,10,11,12])⟩
 rintro mv wq20 ⟨hmv,H21⟩
 refine g_wk [(3,_),(4,_),(5,_),(6,_),(7,_)] ?_
 refine R.g_seq ?_
 refine R.g_region ?_
 refine R.l_of rfl (fun h=>hL h) (s_alloc H21 (wt0 rfl) rfl rfl rfl ze35 ?_)
 intro g22 wq23 H24
 refine R.g_nil ?_
 refine w_0 ?_
 refine R.g_seq ?_
 refine R.g_region ?_
 refine R.w_v (fun h=>hL h) (xl H24 4) ?_
 refine R.w_v (fun h=>hL h) xm ?_
 have H27:S _ [_,_,_,_,_,_,_,_]:=S.big (L:=[_,_,_,_,_,_,_]) (H24.tk [6,7,8,9,10,11,12,0,1,2,3,4,5,13])
 refine R.l_of rfl (fun h=>hL h) (s_call (wt0 rfl) (x_call' rfl rfl cl135) (cand_x X A j hX hI q m hmq _ (H27.tk [0])) ?_)
 rintro _ wq28 ⟨pn25,cn26,rfl,H29⟩
 replace H29:S _ [_,_,_,_,_,_,_,_,_]:=H27.abI (new:=[_,_]) [0] H29 rfl
 have hcl9:=cand_len A m.pe
 have H30:S _ [_,_,_,_,_,_,_,_,_,_,_,_,_,_,_]:=S.unbig (L:=[_,_,_,_,_,_,_]) (H29.tk [1,0,2,3,4,5,6,7,8])
 refine b_ret rfl rfl ?_
 refine R.w_v (fun h=>hL h) xa ?_
 refine R.g_nil ?_
 refine w_0 ?_
 iterate 2 refine R.g_seq ?_
 refine R.g_region ?_
 refine R.w_v (fun h=>hL h) (xl H30 12) ?_
 have H31:S _ [_,_,_,_,_,_,_,_,_]:=S.big (L:=[_,_,_,_,_,_,_]) (H30.tk [0,1,2,3,4,5,6,7,8,9,10,11,12,13,14])
 refine R.l_of rfl (fun h=>hL h) (s_call (wt0 rfl) (x_call' rfl rfl cl60) (ending_x X A j hX hI _ (H31.tk [0])) ?_)
 rintro _ wq32 ⟨rfl,H33⟩
 replace H33:S _ [_,_,_,_,_,_,_,_,_]:=H31.abI (new:=[_]) [0] H33 rfl
 have H34:S _ [_,_,_,_,_,_,_,_,_,_,_,_,_,_,_]:=S.unbig (L:=[_,_,_,_,_,_,_]) (H33.tk [0,1,2,3,4,5,6,7,8])
 refine b_ret rfl rfl ?_
 refine R.w_v (fun h=>hL h) (v:=.bool (!(A.endB))) (x_not (b:=A.endB) rfl rfl) ?_
 refine R.g_nil ?_
 refine w_0 ?_
 rcases Bool.eq_false_or_eq_true (A.endB) with hb35 | hb35
 ·
  refine R.g_cond_f rfl (neg_of hb35) ?_
  refine R.g_skip ?_
  refine w_0 ?_
  iterate 2 refine R.g_seq ?_
  refine R.g_region ?_
  refine R.w_v (fun h=>hL h) xm ?_
  refine R.w_v (fun h=>hL h) x_q ?_
  refine R.w_v (fun h=>hL h) xm ?_
  refine R.g_nil ?_
  refine w_0 ?_
  refine R.g_block ?_
  refine g_loopD (ι:=Nat × Option Addr × Nat × List Cho × List Nat) (fun (ii,pq,cq,oz,Ds)=>[(3,.pointer (some ⟨g1,0,none⟩)),(4,.pointer (some ⟨g4,0,none⟩)),(5,.pointer (some ⟨g7,0,none⟩)),(6,.pointer (some ⟨g10,0,none⟩)),(8,.pointer (some ⟨g22,0,none⟩)),(71,.slice pn25 ((A.cand m.pe).length) cn26),(72,.int .i64 (((A.cand m.pe).length:Int))),(73,.int .i64 ((ii:Int)))]) (fun (ii,pq,cq,oz,Ds)=>Ds.map mark) (fun (ii,pq,cq,oz,Ds) wx=>(ii≤(A.cand m.pe).length)∧(oz=((A.cand m.pe).take ii).flatMap (fun i=>(A.blocks i).filter (fun c=>!decide (c∈A.here) && decide ((ofL A.asked c).length<3) && !decide (k∈ofL A.asked c))))∧(oz.length≤8 * ii)∧S wx [Rw 44 3 pq oz.length cq (fl choL oz),Ob X.g (.cells #[.map (some X.mg),.int .i64 ((A.n:Int)),.int .i64 ((A.pz:Int)),.int .i64 ((A.la:Int)),.string (A.seed),.bool A.ino,.slice X.hp A.had.length X.hc,.slice X.wp A.wish.length X.wc,.map (some X.bg)] 85 (0,0)),Rw 4 1 X.hp A.had.length X.hc (fl boolL A.had),Rw 40 2 X.wp A.wish.length X.wc (fl wisL A.wish),Mp (Value.int .i64) ptV okI X.mg (mtM X.ms),(Lst MtI X.ms),Mp plK ptV okP X.bg (bkM X.bs),(Lst BkI X.bs),Rw 3 1 pn25 ((A.cand m.pe).length) cn26 (fl intL (A.cand m.pe)),Ob g22 (.cells #[.slice pq oz.length cq] 35 (0,0)),Ob g10 (.cells #[.slice none 0 0] 35 (0,0)),Ob g7 (.cells #[.int .i64 mv] 3 (0,0)),Ob g4 (.cells #[.int .i64 k] 3 (0,0)),Ob g1 (.cells #[.pointer (some ⟨X.g,0,none⟩)] 26 (0,0)),Marks Ds,Old w (fps [(XI X A)])]) (fun (ii,pq,cq,oz,Ds)=>((A.cand m.pe).length) - ii) (0,none,0,[],[]) ⟨rfl,rfl,rfl,rfl,rfl,rfl,rfl,rfl,trivial⟩ rfl ⟨Nat.zero_le _,(by rw [List.take_zero,List.flatMap_nil]),(Nat.zero_le _),((S.nilFl H34 44 3 choL).tk [0,1,2,3,4,5,6,7,8,9,10,11,12,13,14,15])⟩ ?_
  rintro ⟨ii,pq,cq,oz,Ds⟩ wq36 ⟨hii,hoz,hol,H37⟩
  refine g_wk [(3,_),(4,_),(5,_),(6,_),(8,_),(71,_),(72,_),(73,_)] ?_
  refine R.g_seq ?_
  refine R.g_region ?_
  refine R.w_v (fun h=>hL h) (x_bin rfl rfl rfl b_lss) ?_
  refine R.g_nil ?_
  refine w_0 ?_
  refine R.g_seq ?_
  by_cases hb38:((ii:Int):Int)<((A.cand m.pe).length:Int)
  ·
   refine R.g_cond_t rfl (decide_eq_true hb38) ?_
   refine R.g_skip ?_
   refine w_0 ?_
   refine R.g_seq ?_
   refine R.g_block ?_
   refine R.g_seq ?_
   refine R.g_region ?_
   refine R.w_v (fun h=>hL h) (x_i ii (H37.rr 8)) ?_
   obtain ⟨x39,hx39⟩:=(H37.rr 8).exL intE ii
   obtain ⟨hxc9,hhd9,hop9⟩:=cand_open (List.mem_of_getElem? hx39)
   refine R.w_v (fun h=>hL h) (x_r ii (H37.rr 8) (intE.flAt1 hx39 rfl)) ?_
   refine R.w_v (fun h=>hL h) xa ?_
   refine R.g_nil ?_
   refine w_0 ?_
   refine R.g_seq ?_
   refine R.g_region ?_
   refine R.w_v (fun h=>hL h) (xl H37 13) ?_
   refine R.w_v (fun h=>hL h) xm ?_
   refine R.l_of rfl (fun h=>hL h) (s_call (wt0 rfl) (x_call' rfl rfl cl59) (all_s X.g x39 _) ?_)
   rintro _ wq42 ⟨ba40,bi41,rfl,H43⟩
   replace H43:S _ [_,_,_,_,_,_,_,_,_,_,_,_,_,_,_,_,_,_]:=H37.ab (new:=[_,_]) H43 rfl
   refine b_ret rfl rfl ?_
   refine R.g_nil ?_
   refine w_0 ?_
   refine R.g_block ?_
   have H44:S _ [_,_,_,_,_,_,_,_,_,_,_,_,_,_,_,_]:=S.big (L:=[_,_,_]) (H43.tk [0,1,3,2,4,5,6,7,8,9,10,11,12,13,14,15,16,17])
   have H45:=S.noI (H44.tk [0,1,2,3,4,5,6,7,8,9,10,11,12,13,14,15])
   refine g_rangeJ (α:=Cho) (ι:=Nat) (encs:=encC) (base:=(Big [Ob ba40 (.cells #[.pointer (some ⟨X.g,0,none⟩)] 26 (0,0)),Ob bi41 (.cells #[.int .i64 x39] 3 (0,0)),Ob X.g (.cells #[.map (some X.mg),.int .i64 ((A.n:Int)),.int .i64 ((A.pz:Int)),.int .i64 ((A.la:Int)),.string (A.seed),.bool A.ino,.slice X.hp A.had.length X.hc,.slice X.wp A.wish.length X.wc,.map (some X.bg)] 85 (0,0))])) (by omega) rfl cl115 (all_it (X:=X) (i:=x39) hI) (fun _=>rfl) rfl (fun pre Lx=>∃ (p3:Option Addr),∃ (c3:Nat),∃ (l3:List Cho),(l3=((A.cand m.pe).take ii).flatMap (fun i=>(A.blocks i).filter (fun c=>!decide (c∈A.here) && decide ((ofL A.asked c).length<3) && !decide (k∈ofL A.asked c)))++(pre).filter (fun c=>!decide (c∈A.here) && decide ((ofL A.asked c).length<3) && !decide (k∈ofL A.asked c))∧l3.length≤8 * ii+(pre).length)∧Lx=[Rw 44 3 p3 l3.length c3 (fl choL l3),Rw 4 1 X.hp A.had.length X.hc (fl boolL A.had),Rw 40 2 X.wp A.wish.length X.wc (fl wisL A.wish),Mp (Value.int .i64) ptV okI X.mg (mtM X.ms),(Lst MtI X.ms),Mp plK ptV okP X.bg (bkM X.bs),(Lst BkI X.bs),Rw 3 1 pn25 ((A.cand m.pe).length) cn26 (fl intL (A.cand m.pe)),Ob g22 (.cells #[.slice p3 l3.length c3] 35 (0,0)),Ob g10 (.cells #[.slice none 0 0] 35 (0,0)),Ob g7 (.cells #[.int .i64 mv] 3 (0,0)),Ob g4 (.cells #[.int .i64 k] 3 (0,0)),Ob g1 (.cells #[.pointer (some ⟨X.g,0,none⟩)] 26 (0,0)),Marks Ds,Old w (fps [(XI X A)])]) (fun cc pre Lx=>False) (fun p ia=>[(3,.pointer (some ⟨g1,0,none⟩)),(4,.pointer (some ⟨g4,0,none⟩)),(8,.pointer (some ⟨g22,0,none⟩)),(15,.pointer (some ⟨ia,0,none⟩))]) (fun p ia=>[Ob ia (.cells #[.int .i64 (p.pc),.int .i64 (p.bg),.int .i64 (p.ln)] 44 (0,0))]) (fun _ _ _ _ _=>trivial) ⟨pq,cq,oz,⟨by rw [List.filter_nil,List.append_nil]; exact hoz,hol⟩,rfl⟩ H45 ?_ ?_ ?_ ?_
   ·
    rintro l1 p Ly W46 H47
    have hL:¬ LetsOut (fun (_:Exit) (_:Act) (_:World)=>False):=fun ⟨_,_,h⟩=>h
    refine g_wk [(3,_),(4,_),(8,_),(80,_)] ?_
    refine R.g_region ?_
    refine R.l_of rfl (fun h=>hL h) (s_alloc H47 (wt0 rfl) rfl rfl rfl ze44 ?_)
    intro g48 wq49 H50
    refine R.l_of rfl (fun h=>hL h) (s_store H50 0 (wt0 rfl) rfl rfl rfl rfl rfl sz44 rfl rfl (cs':=#[.int .i64 (p.pc),.int .i64 (p.bg),.int .i64 (p.ln)]) rfl ?_)
    intro wq51 H52
    refine R.g_nil ?_
    refine w_0 ?_
    exact rw_assign g48 ⟨rfl,rfl,rfl,rfl,trivial⟩ H52
   ·
    rintro l1 pr x ia II Kx _ W53 ⟨p3,c3,l3,hJ,rfl⟩ hphi H54
    have H55:=S.unbig (L:=[_]) (H54.tk [3,0,1,2,4,5,6,7,8,9,10,11,12,13,14,15,16,17,18])
    refine g_wk [(3,_),(4,_),(8,_),(15,_)] ?_
    obtain ⟨q9,hpr9,hxq9⟩:=hphi
    have hxm9:x∈A.blocks x39:=List.mem_of_getElem? hxq9
    have hpl9:pr.length≤8:=by rw [hpr9]; have h9:=(blocks_len hI x39).2; rw [List.length_take]; omega
    have hl39:=hJ.2
    have hxB9:A.isB x:=isB_of hxc9.1 hxc9.2 hxm9
    obtain ⟨ir,r,hrq,hrk,hrb,hrf⟩:=hX.bok.get hxB9 (end_open hb35 hxc9 hop9 hxm9)
    have hre9:=hX.bok.ent hxB9 hrq hrk
    have hrl9:=ofL_len A.asked x
    rw [← hre9.2] at hrl9
    have hal8:=hI.al
    have H56:S _ [_,_,_,_,_,_,_,_,_,_,_,_,_,_,_,_,_,_,_,_,_]:=S.unbig (H55.tk [1,0,2,3,4,5,6,7,8,9,10,11,12,13,14,15,16,17,18])
    refine R.g_block ?_
    refine R.g_seq ?_
    refine R.g_any [] (fun wx=>S wx [Ob ba40 (.cells #[.pointer (some ⟨X.g,0,none⟩)] 26 (0,0)),Ob bi41 (.cells #[.int .i64 x39] 3 (0,0)),Ob X.g (.cells #[.map (some X.mg),.int .i64 ((A.n:Int)),.int .i64 ((A.pz:Int)),.int .i64 ((A.la:Int)),.string (A.seed),.bool A.ino,.slice X.hp A.had.length X.hc,.slice X.wp A.wish.length X.wc,.map (some X.bg)] 85 (0,0)),Ob ia (.cells #[.int .i64 (x.pc),.int .i64 (x.bg),.int .i64 (x.ln)] 44 (0,0)),II,Kx,Rw 44 3 p3 l3.length c3 (fl choL l3),Rw 4 1 X.hp A.had.length X.hc (fl boolL A.had),Rw 40 2 X.wp A.wish.length X.wc (fl wisL A.wish),Mp (Value.int .i64) ptV okI X.mg (mtM X.ms),(Lst MtI X.ms),Mp plK ptV okP X.bg (bkM X.bs),(Lst BkI X.bs),Rw 3 1 pn25 ((A.cand m.pe).length) cn26 (fl intL (A.cand m.pe)),Ob g22 (.cells #[.slice p3 l3.length c3] 35 (0,0)),Ob g10 (.cells #[.slice none 0 0] 35 (0,0)),Ob g7 (.cells #[.int .i64 mv] 3 (0,0)),Ob g4 (.cells #[.int .i64 k] 3 (0,0)),Ob g1 (.cells #[.pointer (some ⟨X.g,0,none⟩)] 26 (0,0)),Marks Ds,Old w (fps [(XI X A)])]) [] (by kernel_rfl) (by kernel_rfl) (fun ⟨_,_,h⟩=>h) H56 (fun wq57 H58=>?_)
    refine a_take (v:=.pointer (some ⟨X.g,0,none⟩)) 0 rfl (wt0 rfl) rfl rfl rfl (by kernel_rfl) (by kernel_rfl) (by kernel_rfl) (by kernel_rfl) H58 (fun wx H=>x_load1 H 18 rfl rfl Tryz.underlying26 rfl rfl rfl) ?_
    refine a_take (v:=.pointer (some ⟨X.g,0,none⟩)) 1 rfl (wt0 rfl) rfl rfl rfl (by kernel_rfl) (by kernel_rfl) (by kernel_rfl) (by kernel_rfl) H58 (fun wx H=>x_nilCheck rfl rfl) ?_
    refine a_take (v:=.pointer (some ⟨X.g,8,none⟩)) 2 rfl (wt0 rfl) rfl rfl rfl (by kernel_rfl) (by kernel_rfl) (by kernel_rfl) (by kernel_rfl) H58 (fun wx H=>x_fieldAddr rfl rfl fo85_8 rfl) ?_
    refine a_take (v:=.map (some X.bg)) 3 rfl (wt0 rfl) rfl rfl rfl (by kernel_rfl) (by kernel_rfl) (by kernel_rfl) (by kernel_rfl) H58 (fun wx H=>x_load1 H 2 rfl rfl Tryz.underlying83 rfl rfl rfl) ?_
    refine a_take (v:=.agg #[.int .i64 (x.pc),.int .i64 (x.bg),.int .i64 (x.ln)]) 4 rfl (wt0 rfl) rfl rfl rfl (by kernel_rfl) (by kernel_rfl) (by kernel_rfl) (by kernel_rfl) H58 (fun wx H=>x_loadA H 3 rfl rfl Tryz.underlying44 rfl sz44 rfl rfl rfl) ?_
    refine a_one (i:=5) (by kernel_rfl) rfl ?_
    refine s_cl (at_x x _) ?_
    rintro _ wq59 ⟨rfl,H60⟩
    replace H60:=H58.ab0 H60
    refine b_ret rfl rfl ?_
    refine a_k H60 ?_
    refine a_take (v:=.pointer (some ⟨r.b,0,none⟩)) 6 rfl (wt0 rfl) rfl rfl rfl (by kernel_rfl) (by kernel_rfl) (by kernel_rfl) (by kernel_rfl) H60 (fun wx H=>ex_cast (x_lookup1 (x:=x.at) placeT H 11 rfl rfl rfl rfl ((okP_blk hI hxc9 hxm9)) ze98) (optP_s hrb)) ?_
    refine a_one (i:=7) (by kernel_rfl) rfl ?_
    refine s_v xa ?_
    refine a_k H60 ?_
    refine a_done (by kernel_rfl) ?_
    refine w_0 ?_
    refine R.g_seq ?_
    refine R.g_any [] (fun wx=>S wx [Ob ba40 (.cells #[.pointer (some ⟨X.g,0,none⟩)] 26 (0,0)),Ob bi41 (.cells #[.int .i64 x39] 3 (0,0)),Ob X.g (.cells #[.map (some X.mg),.int .i64 ((A.n:Int)),.int .i64 ((A.pz:Int)),.int .i64 ((A.la:Int)),.string (A.seed),.bool A.ino,.slice X.hp A.had.length X.hc,.slice X.wp A.wish.length X.wc,.map (some X.bg)] 85 (0,0)),Ob ia (.cells #[.int .i64 (x.pc),.int .i64 (x.bg),.int .i64 (x.ln)] 44 (0,0)),II,Kx,Rw 44 3 p3 l3.length c3 (fl choL l3),Rw 4 1 X.hp A.had.length X.hc (fl boolL A.had),Rw 40 2 X.wp A.wish.length X.wc (fl wisL A.wish),Mp (Value.int .i64) ptV okI X.mg (mtM X.ms),(Lst MtI X.ms),Mp plK ptV okP X.bg (bkM X.bs),(Lst BkI X.bs),Rw 3 1 pn25 ((A.cand m.pe).length) cn26 (fl intL (A.cand m.pe)),Ob g22 (.cells #[.slice p3 l3.length c3] 35 (0,0)),Ob g10 (.cells #[.slice none 0 0] 35 (0,0)),Ob g7 (.cells #[.int .i64 mv] 3 (0,0)),Ob g4 (.cells #[.int .i64 k] 3 (0,0)),Ob g1 (.cells #[.pointer (some ⟨X.g,0,none⟩)] 26 (0,0)),Marks Ds,Old w (fps [(XI X A)])]) [] (by kernel_rfl) (by kernel_rfl) (fun ⟨_,_,h⟩=>h) H60 (fun wq61 H62=>?_)
    refine a_take (v:=.pointer (some ⟨r.b,0,none⟩)) 0 rfl (wt0 rfl) rfl rfl rfl (by kernel_rfl) (by kernel_rfl) (by kernel_rfl) (by kernel_rfl) H62 (fun wx H=>x_move rfl rfl) ?_
    refine a_take (v:=.pointer (some ⟨r.b,0,none⟩)) 1 rfl (wt0 rfl) rfl rfl rfl (by kernel_rfl) (by kernel_rfl) (by kernel_rfl) (by kernel_rfl) H62 (fun wx H=>x_nilCheck rfl rfl) ?_
    refine a_take (v:=.pointer (some ⟨r.b,0,none⟩)) 2 rfl (wt0 rfl) rfl rfl rfl (by kernel_rfl) (by kernel_rfl) (by kernel_rfl) (by kernel_rfl) H62 (fun wx H=>x_fieldAddr rfl rfl fo103_0 rfl) ?_
    refine a_take (v:=.bool r.here) 3 rfl (wt0 rfl) rfl rfl rfl (by kernel_rfl) (by kernel_rfl) (by kernel_rfl) (by kernel_rfl) H62 (fun wx H=>x_loadC rfl rfl Tryz.underlying4 rfl (H.bkCell (k:=12) rfl hrq (c:=0) rfl)) ?_
    refine a_take (v:=.bool (!(r.here))) 4 rfl (wt0 rfl) rfl rfl rfl (by kernel_rfl) (by kernel_rfl) (by kernel_rfl) (by kernel_rfl) H62 (fun wx H=>x_not (b:=r.here) rfl rfl) ?_
    refine a_take (v:=.bool (!(r.here))) 5 rfl (wt0 rfl) rfl rfl rfl (by kernel_rfl) (by kernel_rfl) (by kernel_rfl) (by kernel_rfl) H62 (fun wx H=>x_move rfl rfl) ?_
    rcases Bool.eq_false_or_eq_true (r.here) with hb63 | hb63
    ·
     refine a_not 6 rfl (wn1 rfl rfl rfl rfl (neg_of hb63)) rfl rfl rfl (by kernel_rfl) (by kernel_rfl) (by kernel_rfl) (by kernel_rfl) H62 ?_
     refine a_not 7 rfl (wn1 rfl rfl rfl rfl (neg_of hb63)) rfl rfl rfl (by kernel_rfl) (by kernel_rfl) (by kernel_rfl) (by kernel_rfl) H62 ?_
     refine a_not 8 rfl (wn1 rfl rfl rfl rfl (neg_of hb63)) rfl rfl rfl (by kernel_rfl) (by kernel_rfl) (by kernel_rfl) (by kernel_rfl) H62 ?_
     refine a_not 9 rfl (wn1 rfl rfl rfl rfl (neg_of hb63)) rfl rfl rfl (by kernel_rfl) (by kernel_rfl) (by kernel_rfl) (by kernel_rfl) H62 ?_
     refine a_not 10 rfl (wn1 rfl rfl rfl rfl (neg_of hb63)) rfl rfl rfl (by kernel_rfl) (by kernel_rfl) (by kernel_rfl) (by kernel_rfl) H62 ?_
     refine a_not 11 rfl (wn1 rfl rfl rfl rfl (neg_of hb63)) rfl rfl rfl (by kernel_rfl) (by kernel_rfl) (by kernel_rfl) (by kernel_rfl) H62 ?_
     refine a_take (v:=.bool false) 12 rfl (wt0 rfl) rfl rfl rfl (by kernel_rfl) (by kernel_rfl) (by kernel_rfl) (by kernel_rfl) H62 (fun wx H=>x_pick_f rfl rfl (neg_of hb63) rfl) ?_
     refine a_take (v:=.bool false) 13 rfl (wt0 rfl) rfl rfl rfl (by kernel_rfl) (by kernel_rfl) (by kernel_rfl) (by kernel_rfl) H62 (fun wx H=>x_move rfl rfl) ?_
     refine a_not 14 rfl (wn1 rfl rfl rfl rfl rfl) rfl rfl rfl (by kernel_rfl) (by kernel_rfl) (by kernel_rfl) (by kernel_rfl) H62 ?_
     refine a_not 15 rfl (wn1 rfl rfl rfl rfl rfl) rfl rfl rfl (by kernel_rfl) (by kernel_rfl) (by kernel_rfl) (by kernel_rfl) H62 ?_
     refine a_not 16 rfl (wn1 rfl rfl rfl rfl rfl) rfl rfl rfl (by kernel_rfl) (by kernel_rfl) (by kernel_rfl) (by kernel_rfl) H62 ?_
     refine a_not 17 rfl (wn1 rfl rfl rfl rfl rfl) rfl rfl rfl (by kernel_rfl) (by kernel_rfl) (by kernel_rfl) (by kernel_rfl) H62 ?_
     refine a_not 18 rfl (wn1 rfl rfl rfl rfl rfl) rfl rfl rfl (by kernel_rfl) (by kernel_rfl) (by kernel_rfl) (by kernel_rfl) H62 ?_
     refine a_one (i:=19) (by kernel_rfl) rfl ?_
     refine s_not (wn1 rfl rfl rfl rfl rfl) rfl rfl ?_
     refine a_k H62 ?_
     refine a_not 20 rfl (wn1 rfl rfl rfl rfl rfl) rfl rfl rfl (by kernel_rfl) (by kernel_rfl) (by kernel_rfl) (by kernel_rfl) H62 ?_
     refine a_take (v:=.bool false) 21 rfl (wt0 rfl) rfl rfl rfl (by kernel_rfl) (by kernel_rfl) (by kernel_rfl) (by kernel_rfl) H62 (fun wx H=>x_pick_f rfl rfl rfl rfl) ?_
     refine a_done (by kernel_rfl) ?_
     refine w_0 ?_
     refine g_wk [(8,_),(15,_),(109,_)] ?_
     refine R.g_cond_f rfl rfl ?_
     refine R.g_skip ?_
     refine w_0 ?_
     have H64:S _ [_,_,_,_,_,_,_,_,_,_,_,_,_,_,_,_,_,_,_]:=S.big (L:=[_,_,_]) (H62.tk [0,1,2,3,4,5,6,7,8,9,10,11,12,13,14,15,16,17,18,19,20])
     exact rj_next ⟨p3,c3,l3,⟨(by rw [filt_f (by show ¬ (!decide (x∈A.here) && decide ((ofL A.asked x).length<3) && !decide (k∈ofL A.asked x))=true; rw [← hre9.1,← hre9.2]; simp [hb63]; try omega)]; exact hJ.1),(by simp only [List.length_append,List.length_cons,List.length_nil]; omega)⟩,rfl⟩ (H64.tk [0,2,3,4,5,6,7,8,9,10,11,12,13,14,15,16,17,18])
    ·
     refine a_take (v:=.pointer (some ⟨r.b,0,none⟩)) 6 rfl (wt1 rfl rfl rfl rfl (neg_of hb63)) rfl rfl rfl (by kernel_rfl) (by kernel_rfl) (by kernel_rfl) (by kernel_rfl) H62 (fun wx H=>x_move rfl rfl) ?_
     refine a_take (v:=.pointer (some ⟨r.b,0,none⟩)) 7 rfl (wt1 rfl rfl rfl rfl (neg_of hb63)) rfl rfl rfl (by kernel_rfl) (by kernel_rfl) (by kernel_rfl) (by kernel_rfl) H62 (fun wx H=>x_nilCheck rfl rfl) ?_
     refine a_take (v:=.pointer (some ⟨r.b,1,none⟩)) 8 rfl (wt1 rfl rfl rfl rfl (neg_of hb63)) rfl rfl rfl (by kernel_rfl) (by kernel_rfl) (by kernel_rfl) (by kernel_rfl) H62 (fun wx H=>x_fieldAddr rfl rfl fo103_1 rfl) ?_
     refine a_take (v:=.slice r.ap r.asked.length r.ac) 9 rfl (wt1 rfl rfl rfl rfl (neg_of hb63)) rfl rfl rfl (by kernel_rfl) (by kernel_rfl) (by kernel_rfl) (by kernel_rfl) H62 (fun wx H=>x_loadC rfl rfl Tryz.underlying59 rfl (H.bkCell (k:=12) rfl hrq (c:=1) rfl)) ?_
     refine a_take (v:=.int .i64 ((r.asked.length:Int))) 10 rfl (wt1 rfl rfl rfl rfl (neg_of hb63)) rfl rfl rfl (by kernel_rfl) (by kernel_rfl) (by kernel_rfl) (by kernel_rfl) H62 (fun wx H=>x_lenl rfl rfl Tryz.underlying59) ?_
     refine a_take (v:=.bool (decide (((r.asked.length:Int):Int)<3))) 11 rfl (wt1 rfl rfl rfl rfl (neg_of hb63)) rfl rfl rfl (by kernel_rfl) (by kernel_rfl) (by kernel_rfl) (by kernel_rfl) H62 (fun wx H=>x_bin rfl rfl rfl b_lss) ?_
     refine a_take (v:=.bool (decide (((r.asked.length:Int):Int)<3))) 12 rfl (wt0 rfl) rfl rfl rfl (by kernel_rfl) (by kernel_rfl) (by kernel_rfl) (by kernel_rfl) H62 (fun wx H=>x_pick_t rfl rfl (neg_of hb63) rfl) ?_
     refine a_take (v:=.bool (decide (((r.asked.length:Int):Int)<3))) 13 rfl (wt0 rfl) rfl rfl rfl (by kernel_rfl) (by kernel_rfl) (by kernel_rfl) (by kernel_rfl) H62 (fun wx H=>x_move rfl rfl) ?_
     by_cases hb65:((r.asked.length:Int):Int)<3
     ·
      refine a_take (v:=.pointer (some ⟨r.b,0,none⟩)) 14 rfl (wt1 rfl rfl rfl rfl (decide_eq_true hb65)) rfl rfl rfl (by kernel_rfl) (by kernel_rfl) (by kernel_rfl) (by kernel_rfl) H62 (fun wx H=>x_move rfl rfl) ?_
      refine a_take (v:=.pointer (some ⟨r.b,0,none⟩)) 15 rfl (wt1 rfl rfl rfl rfl (decide_eq_true hb65)) rfl rfl rfl (by kernel_rfl) (by kernel_rfl) (by kernel_rfl) (by kernel_rfl) H62 (fun wx H=>x_nilCheck rfl rfl) ?_
      refine a_take (v:=.pointer (some ⟨r.b,1,none⟩)) 16 rfl (wt1 rfl rfl rfl rfl (decide_eq_true hb65)) rfl rfl rfl (by kernel_rfl) (by kernel_rfl) (by kernel_rfl) (by kernel_rfl) H62 (fun wx H=>x_fieldAddr rfl rfl fo103_1 rfl) ?_
      refine a_take (v:=.slice r.ap r.asked.length r.ac) 17 rfl (wt1 rfl rfl rfl rfl (decide_eq_true hb65)) rfl rfl rfl (by kernel_rfl) (by kernel_rfl) (by kernel_rfl) (by kernel_rfl) H62 (fun wx H=>x_loadC rfl rfl Tryz.underlying59 rfl (H.bkCell (k:=12) rfl hrq (c:=1) rfl)) ?_
      refine a_take (v:=.int .i64 k) 18 rfl (wt1 rfl rfl rfl rfl (decide_eq_true hb65)) rfl rfl rfl (by kernel_rfl) (by kernel_rfl) (by kernel_rfl) (by kernel_rfl) H62 (fun wx H=>x_load1 H 17 rfl rfl Tryz.underlying3 rfl rfl rfl) ?_
      refine a_one (i:=19) (by kernel_rfl) rfl ?_
      refine s_call (wt1 rfl rfl rfl rfl (decide_eq_true hb65)) (x_call' rfl rfl cl51) (cont_i r.asked r.ap r.asked.length r.ac k (by omega) _ (H62.bkAsk (k:=12) rfl hrq)) ?_
      rintro _ wq66 ⟨rfl,H67⟩
      replace H67:=H62.ab0 H67
      refine b_ret rfl rfl ?_
      refine a_k H67 ?_
      refine a_take (v:=.bool (!((decide (k∈r.asked))))) 20 rfl (wt1 rfl rfl rfl rfl (decide_eq_true hb65)) rfl rfl rfl (by kernel_rfl) (by kernel_rfl) (by kernel_rfl) (by kernel_rfl) H67 (fun wx H=>x_not (b:=(decide (k∈r.asked))) rfl rfl) ?_
      refine a_take (v:=.bool (!((decide (k∈r.asked))))) 21 rfl (wt0 rfl) rfl rfl rfl (by kernel_rfl) (by kernel_rfl) (by kernel_rfl) (by kernel_rfl) H67 (fun wx H=>x_pick_t rfl rfl (decide_eq_true hb65) rfl) ?_
      refine a_done (by kernel_rfl) ?_
      refine w_0 ?_
      refine g_wk [(8,_),(15,_),(109,_)] ?_
      rcases Bool.eq_false_or_eq_true ((decide (k∈r.asked))) with hb68 | hb68
      ·
       refine R.g_cond_f rfl (neg_of hb68) ?_
       refine R.g_skip ?_
       refine w_0 ?_
       have H69:S _ [_,_,_,_,_,_,_,_,_,_,_,_,_,_,_,_,_,_,_]:=S.big (L:=[_,_,_]) (H67.tk [0,1,2,3,4,5,6,7,8,9,10,11,12,13,14,15,16,17,18,19,20])
       exact rj_next ⟨p3,c3,l3,⟨(by rw [filt_f (by show ¬ (!decide (x∈A.here) && decide ((ofL A.asked x).length<3) && !decide (k∈ofL A.asked x))=true; rw [← hre9.1,← hre9.2]; simp [hb63,hb65,hb68]; try omega)]; exact hJ.1),(by simp only [List.length_append,List.length_cons,List.length_nil]; omega)⟩,rfl⟩ (H69.tk [0,2,3,4,5,6,7,8,9,10,11,12,13,14,15,16,17,18])
      ·
       refine R.g_cond_t rfl (neg_of hb68) ?_
       refine R.g_region ?_
       refine R.w_v (fun ⟨_,_,h⟩=>h) (xl H67 14) ?_
       refine R.w_v (fun ⟨_,_,h⟩=>h) (v:=.agg #[.int .i64 (x.pc),.int .i64 (x.bg),.int .i64 (x.ln)]) (x_loadA H67 3 rfl rfl Tryz.underlying44 rfl sz44 rfl rfl rfl) ?_
       refine R.l_of rfl (fun ⟨_,_,h⟩=>h) (s_buildSlice H67 (wt0 rfl) rfl rfl rfl (vs:=[.agg #[.int .i64 (x.pc),.int .i64 (x.bg),.int .i64 (x.ln)]]) rfl Tryz.underlying35 sz44 ze44 rfl rfl (cells:=#[.int .i64 (x.pc),.int .i64 (x.bg),.int .i64 (x.ln)]) (by kernel_rfl) ?_)
       intro g70 wq71 H72
       have hln77a:=(H72.rr 7).lenL choE
       have hln77:(l3++[x]).length=l3.length+1:=by simp only [List.length_append,List.length_cons,List.length_nil] <;> omega
       refine R.l_of rfl (fun ⟨_,_,h⟩=>h) (s_appBn (m:=1) (l:=l3) (l2:=[x]) choE H72 7 (j0:=0) rfl rfl ⟨rfl,Nat.le_refl _⟩ (wt0 rfl) rfl rfl rfl rfl rfl rfl Tryz.underlying35 inf44 rfl (by decide) (by omega) ?_)
       intro p73 c74 wq75 H76
       refine R.l_of rfl (fun ⟨_,_,h⟩=>h) (s_store H76 15 (wt0 rfl) rfl rfl rfl rfl rfl sz35 rfl rfl (cs':=#[.slice p73 ((l3++[x]).length) c74]) rfl ?_)
       intro wq78 H79
       refine R.g_nil ?_
       refine w_0 ?_
       have H80:S _ [_,_,_,_,_,_,_,_,_,_,_,_,_,_,_,_,_,_,_,_]:=S.big (L:=[_,_,_]) (H79.tk [1,2,3,0,4,5,6,7,8,9,10,11,12,13,14,15,16,17,18,19,20,21])
       exact rj_next ⟨p73,c74,(l3++[x]),⟨(by rw [filt_t (by show (!decide (x∈A.here) && decide ((ofL A.asked x).length<3) && !decide (k∈ofL A.asked x))=true; rw [← hre9.1,← hre9.2]; simp [hb63,hb65,hb68]; try omega),← List.append_assoc,← hJ.1]),(by simp only [List.length_append,List.length_cons,List.length_nil]; omega)⟩,rfl⟩ (H80.tk [0,3,4,5,6,7,8,9,10,11,12,13,14,15,16,17,18,19])
     ·
      refine a_not 14 rfl (wn1 rfl rfl rfl rfl (decide_eq_false hb65)) rfl rfl rfl (by kernel_rfl) (by kernel_rfl) (by kernel_rfl) (by kernel_rfl) H62 ?_
      refine a_not 15 rfl (wn1 rfl rfl rfl rfl (decide_eq_false hb65)) rfl rfl rfl (by kernel_rfl) (by kernel_rfl) (by kernel_rfl) (by kernel_rfl) H62 ?_
      refine a_not 16 rfl (wn1 rfl rfl rfl rfl (decide_eq_false hb65)) rfl rfl rfl (by kernel_rfl) (by kernel_rfl) (by kernel_rfl) (by kernel_rfl) H62 ?_
      refine a_not 17 rfl (wn1 rfl rfl rfl rfl (decide_eq_false hb65)) rfl rfl rfl (by kernel_rfl) (by kernel_rfl) (by kernel_rfl) (by kernel_rfl) H62 ?_
      refine a_not 18 rfl (wn1 rfl rfl rfl rfl (decide_eq_false hb65)) rfl rfl rfl (by kernel_rfl) (by kernel_rfl) (by kernel_rfl) (by kernel_rfl) H62 ?_
      refine a_one (i:=19) (by kernel_rfl) rfl ?_
      refine s_not (wn1 rfl rfl rfl rfl (decide_eq_false hb65)) rfl rfl ?_
      refine a_k H62 ?_
      refine a_not 20 rfl (wn1 rfl rfl rfl rfl (decide_eq_false hb65)) rfl rfl rfl (by kernel_rfl) (by kernel_rfl) (by kernel_rfl) (by kernel_rfl) H62 ?_
      refine a_take (v:=.bool false) 21 rfl (wt0 rfl) rfl rfl rfl (by kernel_rfl) (by kernel_rfl) (by kernel_rfl) (by kernel_rfl) H62 (fun wx H=>x_pick_f rfl rfl (decide_eq_false hb65) rfl) ?_
      refine a_done (by kernel_rfl) ?_
      refine w_0 ?_
      refine g_wk [(8,_),(15,_),(109,_)] ?_
      refine R.g_cond_f rfl rfl ?_
      refine R.g_skip ?_
      refine w_0 ?_
      have H81:S _ [_,_,_,_,_,_,_,_,_,_,_,_,_,_,_,_,_,_,_]:=S.big (L:=[_,_,_]) (H62.tk [0,1,2,3,4,5,6,7,8,9,10,11,12,13,14,15,16,17,18,19,20])
      exact rj_next ⟨p3,c3,l3,⟨(by rw [filt_f (by show ¬ (!decide (x∈A.here) && decide ((ofL A.asked x).length<3) && !decide (k∈ofL A.asked x))=true; rw [← hre9.1,← hre9.2]; simp [hb63,hb65]; try omega)]; exact hJ.1),(by simp only [List.length_append,List.length_cons,List.length_nil]; omega)⟩,rfl⟩ (H81.tk [0,2,3,4,5,6,7,8,9,10,11,12,13,14,15,16,17,18])
   ·
    rintro D xs _ W82 hxs ⟨p3,c3,l3,hJ,rfl⟩ H83
    have H84:S _ [_,_,_,_,_,_,_,_,_,_,_,_,_,_,_,_,_,_,_]:=S.unbig (H83.tk [1,0,2,3,4,5,6,7,8,9,10,11,12,13,14,15,16])
    have H85:S _ [_,_,_,_,_,_,_,_,_,_,_,_,_,_,_,_,_,_]:=S.consMark (H84.tk [3,0,1,2,4,5,6,7,8,9,10,11,12,13,14,15,16,17,18]) (k:=16) rfl
    refine w_k3 ?_
    refine R.g_region ?_
    refine R.w_v (fun h=>hL h) (v:=.int .i64 (((ii+1:Nat):Int))) (x_bin rfl rfl rfl (b_add (by rw [w64 (by omega)]; omega))) ?_
    refine R.w_v (fun h=>hL h) xm ?_
    refine R.g_nil ?_
    refine w_0 ?_
    refine g_roundD (i:=(ii,pq,cq,oz,Ds)) ((ii+1),p3,c3,l3,(D :: Ds)) ?_ rfl ?_ ?_
    · exact ⟨rfl,rfl,rfl,rfl,rfl,rfl,rfl,rfl,trivial⟩
    · exact ⟨by omega,(by rw [hxs] at hJ; rw [flat_snoc hx39]; exact hJ.1),(by have h9:=hJ.2; rw [hxs] at h9; have h8:=(blocks_len hI x39).2; omega),(H85.tk [3,2,4,5,6,7,8,9,10,11,12,13,14,15,16,17])⟩
    · (try dsimp only); omega
   · rintro D cc pr _ W _ h; exact h.elim
  ·
   refine R.g_cond_f rfl (decide_eq_false hb38) ?_
   refine R.g_exit ?_
   rw [List.take_of_length_le (l:=A.cand m.pe) (by omega)] at hoz
   obtain ⟨hzn9,hzz9,hze9⟩:=end_z (p:=m.pe) (k:=k) hb35 hoz
   refine w_k4 ?_
   refine R.g_seq ?_
   refine R.g_region ?_
   refine R.w_v (fun h=>hL h) (xl H37 9) ?_
   refine R.w_v (fun h=>hL h) (v:=.func (.func 137) #[] #[.pointer (some ⟨g1,0,none⟩)]) (x_makeFunc rfl rfl rfl) ?_
   have H88:S _ [_,_,_,_,_,_,_,_,_,_]:=S.big (L:=[_,_,_,_,_,_,_]) (H37.tk [1,2,3,4,5,6,7,0,8,9,10,11,12,13,14,15])
   have H89:S _ [_,_,_,_,_,_,_,_,_]:=S.big (L:=[_,_]) (H88.tk [0,7,1,2,3,4,5,6,8,9])
   refine R.l_of rfl (fun h=>hL h) (s_call (wt0 rfl) (x_call' rfl rfl cl136) (sortCho hX hI g1 oz hzn9 hzz9 (by omega) pq cq _ (H89.tk [1,0])) ?_)
   rintro _ wq90 ⟨rfl,H91⟩
   replace H91:S _ [_,_,_,_,_,_,_,_,_]:=H89.abI (new:=[_,_]) [1,0] H91 rfl
   have H92:S _ [_,_,_,_,_,_,_,_,_,_]:=S.unbig (H91.tk [1,0,2,3,4,5,6,7,8])
   have H93:S _ [_,_,_,_,_,_,_,_,_,_,_,_,_,_,_,_]:=S.unbig (L:=[_,_,_,_,_,_,_]) (H92.tk [0,1,2,3,4,5,6,7,8,9])
   have hzl9:(oz.filter (fun c=>decide ((ofL A.asked c).length=1))++oz.filter fun c=>decide ((ofL A.asked c).length=2)).length=oz.length:=two_len hzz9
   have H94:S wq90 [Ob X.g (.cells #[.map (some X.mg),.int .i64 ((A.n:Int)),.int .i64 ((A.pz:Int)),.int .i64 ((A.la:Int)),.string (A.seed),.bool A.ino,.slice X.hp A.had.length X.hc,.slice X.wp A.wish.length X.wc,.map (some X.bg)] 85 (0,0)),Rw 4 1 X.hp A.had.length X.hc (fl boolL A.had),Rw 40 2 X.wp A.wish.length X.wc (fl wisL A.wish),Mp (Value.int .i64) ptV okI X.mg (mtM X.ms),(Lst MtI X.ms),Mp plK ptV okP X.bg (bkM X.bs),(Lst BkI X.bs),Ob g1 (.cells #[.pointer (some ⟨X.g,0,none⟩)] 26 (0,0)),Rw 44 3 pq ((oz.filter (fun c=>decide ((ofL A.asked c).length=1))++oz.filter fun c=>decide ((ofL A.asked c).length=2)).length) cq (fl choL (oz.filter (fun c=>decide ((ofL A.asked c).length=1))++oz.filter fun c=>decide ((ofL A.asked c).length=2))),Rw 3 1 pn25 ((A.cand m.pe).length) cn26 (fl intL (A.cand m.pe)),Ob g22 (.cells #[.slice pq ((oz.filter (fun c=>decide ((ofL A.asked c).length=1))++oz.filter fun c=>decide ((ofL A.asked c).length=2)).length) cq] 35 (0,0)),Ob g10 (.cells #[.slice none 0 0] 35 (0,0)),Ob g7 (.cells #[.int .i64 mv] 3 (0,0)),Ob g4 (.cells #[.int .i64 k] 3 (0,0)),Marks Ds,Old w (fps [(XI X A)])]:=by rw [hzl9]; exact H93
   refine b_ret rfl rfl ?_
   refine R.g_nil ?_
   refine w_0 ?_
   refine R.g_seq ?_
   refine R.g_region ?_
   refine R.w_v (fun h=>hL h) (xl H94 10) ?_
   refine R.w_v (fun h=>hL h) (xl H94 12) ?_
   refine R.w_v (fun h=>hL h) (xl H94 10) ?_
   refine R.w_v (fun h=>hL h) x_q ?_
   refine R.w_v (fun h=>hL h) (v:=.int .i64 (min mv ((oz.filter (fun c=>decide ((ofL A.asked c).length=1))++oz.filter fun c=>decide ((ofL A.asked c).length=2)).length:Int))) (x_min rfl rfl rfl) ?_
   refine R.w_v (fun h=>hL h) (v:=.int .i64 (max 0 (min mv ((oz.filter (fun c=>decide ((ofL A.asked c).length=1))++oz.filter fun c=>decide ((ofL A.asked c).length=2)).length:Int)))) (x_max rfl rfl rfl) ?_
   have hnc:=(H94.rr 8).2.1
   refine R.w_v (fun h=>hL h) (v:=.slice pq ((max 0 (min mv ((oz.filter (fun c=>decide ((ofL A.asked c).length=1))++oz.filter fun c=>decide ((ofL A.asked c).length=2)).length:Int))).toNat) cq) (ex_cast (x_sliceH ((max 0 (min mv ((oz.filter (fun c=>decide ((ofL A.asked c).length=1))++oz.filter fun c=>decide ((ofL A.asked c).length=2)).length:Int))).toNat) rfl rfl rfl Tryz.underlying35 sz44 (by omega)) (by rw [cutP0])) ?_
   refine R.l_of rfl (fun h=>hL h) (s_store H94 11 (wt0 rfl) rfl rfl rfl rfl rfl sz35 rfl rfl (cs':=#[.slice pq ((max 0 (min mv ((oz.filter (fun c=>decide ((ofL A.asked c).length=1))++oz.filter fun c=>decide ((ofL A.asked c).length=2)).length:Int))).toNat) cq]) rfl ?_)
   intro wq95 H96
   refine R.g_nil ?_
   refine w_0 ?_
   refine g_wk [(6,_)] ?_
   refine R.g_ret ?_
   refine fin_marks (H96.tk [14,0,1,2,3,4,5,6,7,8,9,10,11,12,13,15]) [.cell 6 35] [.slice pq ((max 0 (min mv ((oz.filter (fun c=>decide ((ofL A.asked c).length=1))++oz.filter fun c=>decide ((ofL A.asked c).length=2)).length:Int))).toNat) cq] rfl (fun W' hW=>⟨⟨⟨_,rfl,run_load1 Tryz.underlying35 rfl (hW.cell (k:=11) rfl rfl)⟩,trivial⟩,?_⟩)
   replace hW:S W' [Ob X.g (.cells #[.map (some X.mg),.int .i64 ((A.n:Int)),.int .i64 ((A.pz:Int)),.int .i64 ((A.la:Int)),.string (A.seed),.bool A.ino,.slice X.hp A.had.length X.hc,.slice X.wp A.wish.length X.wc,.map (some X.bg)] 85 (0,0)),Rw 4 1 X.hp A.had.length X.hc (fl boolL A.had),Rw 40 2 X.wp A.wish.length X.wc (fl wisL A.wish),Mp (Value.int .i64) ptV okI X.mg (mtM X.ms),(Lst MtI X.ms),Mp plK ptV okP X.bg (bkM X.bs),(Lst BkI X.bs),Ob g1 (.cells #[.pointer (some ⟨X.g,0,none⟩)] 26 (0,0)),Rw 44 3 pq ((oz.filter (fun c=>decide ((ofL A.asked c).length=1))++oz.filter fun c=>decide ((ofL A.asked c).length=2)).length) cq (fl choL (oz.filter (fun c=>decide ((ofL A.asked c).length=1))++oz.filter fun c=>decide ((ofL A.asked c).length=2))),Rw 3 1 pn25 ((A.cand m.pe).length) cn26 (fl intL (A.cand m.pe)),Ob g22 (.cells #[.slice pq ((oz.filter (fun c=>decide ((ofL A.asked c).length=1))++oz.filter fun c=>decide ((ofL A.asked c).length=2)).length) cq] 35 (0,0)),Ob g10 (.cells #[.slice pq ((max 0 (min mv ((oz.filter (fun c=>decide ((ofL A.asked c).length=1))++oz.filter fun c=>decide ((ofL A.asked c).length=2)).length:Int))).toNat) cq] 35 (0,0)),Ob g7 (.cells #[.int .i64 mv] 3 (0,0)),Ob g4 (.cells #[.int .i64 k] 3 (0,0)),Old w (fps [(XI X A)])]:=hW
   have hV:(A.lookP m.pe most)=(oz.filter (fun c=>decide ((ofL A.asked c).length=1))++oz.filter fun c=>decide ((ofL A.asked c).length=2)).take mv.toNat:=by rw [hze9,hmv]; unfold PK.lookP; rw [if_pos hb35,show m.pe.k=k from hmk]
   have hk9:((max 0 (min mv ((oz.filter (fun c=>decide ((ofL A.asked c).length=1))++oz.filter fun c=>decide ((ofL A.asked c).length=2)).length:Int))).toNat)=min mv.toNat (oz.filter (fun c=>decide ((ofL A.asked c).length=1))++oz.filter fun c=>decide ((ofL A.asked c).length=2)).length:=by omega
   have hln9:(A.lookP m.pe most).length=((max 0 (min mv ((oz.filter (fun c=>decide ((ofL A.asked c).length=1))++oz.filter fun c=>decide ((ofL A.asked c).length=2)).length:Int))).toNat):=by rw [hV,List.length_take,hk9]
   have h9:=((S.big (L:=[_,_,_,_,_,_,_]) (hW.tk [0,1,2,3,4,5,6,8,14])).tk [1,0,2])
   rw [hln9,hV,← take_min hk9]
   exact ⟨_,_,rfl,rowTake choE h9 (by omega)⟩
 ·
  refine R.g_cond_t rfl (neg_of hb35) ?_
  iterate 2 refine R.g_seq ?_
  refine R.g_region ?_
  refine R.w_v (fun h=>hL h) xm ?_
  refine R.w_v (fun h=>hL h) x_q ?_
  refine R.w_v (fun h=>hL h) xm ?_
  refine R.g_nil ?_
  refine w_0 ?_
  refine R.g_block ?_
  refine g_loopD (ι:=Nat × Option Addr × Nat × List Cho × List Nat) (fun (ii,pq,cq,oz,Ds)=>[(3,.pointer (some ⟨g1,0,none⟩)),(5,.pointer (some ⟨g7,0,none⟩)),(6,.pointer (some ⟨g10,0,none⟩)),(8,.pointer (some ⟨g22,0,none⟩)),(42,.slice pn25 ((A.cand m.pe).length) cn26),(43,.int .i64 (((A.cand m.pe).length:Int))),(44,.int .i64 ((ii:Int)))]) (fun (ii,pq,cq,oz,Ds)=>Ds.map mark) (fun (ii,pq,cq,oz,Ds) wx=>(ii≤(A.cand m.pe).length)∧(oz=(((A.cand m.pe).take ii).flatMap A.freeL).take mv.toNat)∧(oz.length≤8 * ii)∧S wx [Rw 44 3 pq oz.length cq (fl choL oz),Ob X.g (.cells #[.map (some X.mg),.int .i64 ((A.n:Int)),.int .i64 ((A.pz:Int)),.int .i64 ((A.la:Int)),.string (A.seed),.bool A.ino,.slice X.hp A.had.length X.hc,.slice X.wp A.wish.length X.wc,.map (some X.bg)] 85 (0,0)),Rw 4 1 X.hp A.had.length X.hc (fl boolL A.had),Rw 40 2 X.wp A.wish.length X.wc (fl wisL A.wish),Mp (Value.int .i64) ptV okI X.mg (mtM X.ms),(Lst MtI X.ms),Mp plK ptV okP X.bg (bkM X.bs),(Lst BkI X.bs),Rw 3 1 pn25 ((A.cand m.pe).length) cn26 (fl intL (A.cand m.pe)),Ob g22 (.cells #[.slice pq oz.length cq] 35 (0,0)),Ob g10 (.cells #[.slice none 0 0] 35 (0,0)),Ob g7 (.cells #[.int .i64 mv] 3 (0,0)),Ob g4 (.cells #[.int .i64 k] 3 (0,0)),Ob g1 (.cells #[.pointer (some ⟨X.g,0,none⟩)] 26 (0,0)),Marks Ds,Old w (fps [(XI X A)])]) (fun (ii,pq,cq,oz,Ds)=>((A.cand m.pe).length) - ii) (0,none,0,[],[]) ⟨rfl,rfl,rfl,rfl,rfl,rfl,rfl,trivial⟩ rfl ⟨Nat.zero_le _,(by rw [List.take_zero,List.flatMap_nil,List.take_nil]),(Nat.zero_le _),((S.nilFl H34 44 3 choL).tk [0,1,2,3,4,5,6,7,8,9,10,11,12,13,14,15])⟩ ?_
  rintro ⟨ii,pq,cq,oz,Ds⟩ wq97 ⟨hii,hoz,hol,H98⟩
  refine g_wk [(3,_),(5,_),(6,_),(8,_),(42,_),(43,_),(44,_)] ?_
  refine R.g_seq ?_
  refine R.g_region ?_
  refine R.w_v (fun h=>hL h) (x_bin rfl rfl rfl b_lss) ?_
  refine R.g_nil ?_
  refine w_0 ?_
  refine R.g_seq ?_
  by_cases hb99:((ii:Int):Int)<((A.cand m.pe).length:Int)
  ·
   refine R.g_cond_t rfl (decide_eq_true hb99) ?_
   refine R.g_skip ?_
   refine w_0 ?_
   refine R.g_seq ?_
   refine R.g_block ?_
   refine R.g_seq ?_
   refine R.g_region ?_
   refine R.w_v (fun h=>hL h) (x_i ii (H98.rr 8)) ?_
   obtain ⟨x100,hx100⟩:=(H98.rr 8).exL intE ii
   obtain ⟨hxc9,hhd9,hop9⟩:=cand_open (List.mem_of_getElem? hx100)
   refine R.w_v (fun h=>hL h) (x_r ii (H98.rr 8) (intE.flAt1 hx100 rfl)) ?_
   refine R.w_v (fun h=>hL h) xa ?_
   refine R.g_nil ?_
   refine w_0 ?_
   refine R.g_seq ?_
   refine R.g_region ?_
   refine R.w_v (fun h=>hL h) (xl H98 13) ?_
   refine R.w_v (fun h=>hL h) xm ?_
   refine R.l_of rfl (fun h=>hL h) (s_call (wt0 rfl) (x_call' rfl rfl cl59) (all_s X.g x100 _) ?_)
   rintro _ wq103 ⟨ba101,bi102,rfl,H104⟩
   replace H104:S _ [_,_,_,_,_,_,_,_,_,_,_,_,_,_,_,_,_,_]:=H98.ab (new:=[_,_]) H104 rfl
   refine b_ret rfl rfl ?_
   refine R.g_nil ?_
   refine w_0 ?_
   refine R.g_block ?_
   have H105:S _ [_,_,_,_,_,_,_,_,_,_,_,_,_,_,_,_]:=S.big (L:=[_,_,_]) (H104.tk [0,1,3,2,4,5,6,7,8,9,10,11,12,13,14,15,16,17])
   have H106:=S.noI (H105.tk [0,1,2,3,4,5,6,7,8,9,10,11,12,13,14,15])
   refine g_rangeJ (α:=Cho) (ι:=Nat) (encs:=encC) (base:=(Big [Ob ba101 (.cells #[.pointer (some ⟨X.g,0,none⟩)] 26 (0,0)),Ob bi102 (.cells #[.int .i64 x100] 3 (0,0)),Ob X.g (.cells #[.map (some X.mg),.int .i64 ((A.n:Int)),.int .i64 ((A.pz:Int)),.int .i64 ((A.la:Int)),.string (A.seed),.bool A.ino,.slice X.hp A.had.length X.hc,.slice X.wp A.wish.length X.wc,.map (some X.bg)] 85 (0,0))])) (by omega) rfl cl115 (all_it (X:=X) (i:=x100) hI) (fun _=>rfl) rfl (fun pre Lx=>∃ (p3:Option Addr),∃ (c3:Nat),∃ (l3:List Cho),(l3=(((A.cand m.pe).take ii).flatMap A.freeL++(pre).filter (fun c=>!bitAt A.had x100 && A.freeC c)).take mv.toNat∧l3.length≤8 * ii+(pre).length)∧Lx=[Rw 44 3 p3 l3.length c3 (fl choL l3),Rw 4 1 X.hp A.had.length X.hc (fl boolL A.had),Rw 40 2 X.wp A.wish.length X.wc (fl wisL A.wish),Mp (Value.int .i64) ptV okI X.mg (mtM X.ms),(Lst MtI X.ms),Mp plK ptV okP X.bg (bkM X.bs),(Lst BkI X.bs),Rw 3 1 pn25 ((A.cand m.pe).length) cn26 (fl intL (A.cand m.pe)),Ob g22 (.cells #[.slice p3 l3.length c3] 35 (0,0)),Ob g10 (.cells #[.slice none 0 0] 35 (0,0)),Ob g7 (.cells #[.int .i64 mv] 3 (0,0)),Ob g4 (.cells #[.int .i64 k] 3 (0,0)),Ob g1 (.cells #[.pointer (some ⟨X.g,0,none⟩)] 26 (0,0)),Marks Ds,Old w (fps [(XI X A)])]) (fun cc pre Lx=>(cc=.ret∧∃ (p3:Option Addr),∃ (c3:Nat),∃ (l3:List Cho),(l3=((A.cand m.pe).flatMap A.freeL).take mv.toNat∧l3.length≤8 * ii+8)∧Lx=[Rw 44 3 p3 l3.length c3 (fl choL l3),Rw 4 1 X.hp A.had.length X.hc (fl boolL A.had),Rw 40 2 X.wp A.wish.length X.wc (fl wisL A.wish),Mp (Value.int .i64) ptV okI X.mg (mtM X.ms),(Lst MtI X.ms),Mp plK ptV okP X.bg (bkM X.bs),(Lst BkI X.bs),Rw 3 1 pn25 ((A.cand m.pe).length) cn26 (fl intL (A.cand m.pe)),Ob g22 (.cells #[.slice p3 l3.length c3] 35 (0,0)),Ob g10 (.cells #[.slice p3 l3.length c3] 35 (0,0)),Ob g7 (.cells #[.int .i64 mv] 3 (0,0)),Ob g4 (.cells #[.int .i64 k] 3 (0,0)),Ob g1 (.cells #[.pointer (some ⟨X.g,0,none⟩)] 26 (0,0)),Marks Ds,Old w (fps [(XI X A)])])) (fun p ia=>[(3,.pointer (some ⟨g1,0,none⟩)),(5,.pointer (some ⟨g7,0,none⟩)),(6,.pointer (some ⟨g10,0,none⟩)),(8,.pointer (some ⟨g22,0,none⟩)),(12,.pointer (some ⟨ia,0,none⟩))]) (fun p ia=>[Ob ia (.cells #[.int .i64 (p.pc),.int .i64 (p.bg),.int .i64 (p.ln)] 44 (0,0))]) (fun _ _ _ _ _=>trivial) ⟨pq,cq,oz,⟨by rw [List.filter_nil,List.append_nil]; exact hoz,hol⟩,rfl⟩ H106 ?_ ?_ ?_ ?_
   ·
    rintro l1 p Ly W107 H108
    have hL:¬ LetsOut (fun (_:Exit) (_:Act) (_:World)=>False):=fun ⟨_,_,h⟩=>h
    refine g_wk [(3,_),(5,_),(6,_),(8,_),(51,_)] ?_
    refine R.g_region ?_
    refine R.l_of rfl (fun h=>hL h) (s_alloc H108 (wt0 rfl) rfl rfl rfl ze44 ?_)
    intro g109 wq110 H111
    refine R.l_of rfl (fun h=>hL h) (s_store H111 0 (wt0 rfl) rfl rfl rfl rfl rfl sz44 rfl rfl (cs':=#[.int .i64 (p.pc),.int .i64 (p.bg),.int .i64 (p.ln)]) rfl ?_)
    intro wq112 H113
    refine R.g_nil ?_
    refine w_0 ?_
    exact rw_assign g109 ⟨rfl,rfl,rfl,rfl,rfl,trivial⟩ H113
   ·
    rintro l1 pr x ia II Kx _ W114 ⟨p3,c3,l3,hJ,rfl⟩ hphi H115
    have H116:=S.unbig (L:=[_]) (H115.tk [3,0,1,2,4,5,6,7,8,9,10,11,12,13,14,15,16,17,18])
    refine g_wk [(3,_),(5,_),(6,_),(8,_),(12,_)] ?_
    obtain ⟨q9,hpr9,hxq9⟩:=hphi
    have hxm9:x∈A.blocks x100:=List.mem_of_getElem? hxq9
    have hpl9:pr.length≤8:=by rw [hpr9]; have h9:=(blocks_len hI x100).2; rw [List.length_take]; omega
    have hl39:=hJ.2
    have H117:S _ [_,_,_,_,_,_,_,_,_,_,_,_,_,_,_,_,_,_,_,_,_]:=S.unbig (H116.tk [1,0,2,3,4,5,6,7,8,9,10,11,12,13,14,15,16,17,18])
    refine R.g_block ?_
    iterate 2 refine R.g_seq ?_
    refine R.g_region ?_
    refine R.w_v (fun ⟨_,_,h⟩=>h) (xl H117 14) ?_
    refine R.w_v (fun ⟨_,_,h⟩=>h) x_q ?_
    refine R.w_v (fun ⟨_,_,h⟩=>h) (xl H117 16) ?_
    refine R.w_v (fun ⟨_,_,h⟩=>h) (x_bin rfl rfl rfl b_geq) ?_
    refine R.g_nil ?_
    refine w_0 ?_
    by_cases hb118:(mv:Int)≤(l3.length:Int)
    ·
     refine R.g_cond_t rfl (decide_eq_true hb118) ?_
     refine R.g_seq ?_
     refine R.g_region ?_
     refine R.w_v (fun ⟨_,_,h⟩=>h) (xl H117 14) ?_
     refine R.l_of rfl (fun ⟨_,_,h⟩=>h) (s_store H117 15 (wt0 rfl) rfl rfl rfl rfl rfl sz35 rfl rfl (cs':=#[.slice p3 l3.length c3]) rfl ?_)
     intro wq119 H120
     refine R.g_nil ?_
     refine w_0 ?_
     refine R.g_ret ?_
     refine w_k2 ?_
     have H121:S _ [_,_,_,_,_,_,_,_,_,_,_,_,_,_,_,_,_,_,_]:=S.big (L:=[_,_,_]) (H120.tk [0,1,2,3,4,5,6,7,8,9,10,11,12,13,14,15,16,17,18,19,20])
     exact rj_ret (⟨rfl,p3,c3,l3,⟨free_stop hx100 hpr9 hJ.1 (by omega),(by omega)⟩,rfl⟩) (H121.tk [0,2,3,4,5,6,7,8,9,10,11,12,13,14,15,16,17,18])
    ·
     refine R.g_cond_f rfl (decide_eq_false hb118) ?_
     refine R.g_skip ?_
     refine w_0 ?_
     refine R.g_seq ?_
     refine R.g_any [] (fun wx=>S wx [Ob ba101 (.cells #[.pointer (some ⟨X.g,0,none⟩)] 26 (0,0)),Ob bi102 (.cells #[.int .i64 x100] 3 (0,0)),Ob X.g (.cells #[.map (some X.mg),.int .i64 ((A.n:Int)),.int .i64 ((A.pz:Int)),.int .i64 ((A.la:Int)),.string (A.seed),.bool A.ino,.slice X.hp A.had.length X.hc,.slice X.wp A.wish.length X.wc,.map (some X.bg)] 85 (0,0)),Ob ia (.cells #[.int .i64 (x.pc),.int .i64 (x.bg),.int .i64 (x.ln)] 44 (0,0)),II,Kx,Rw 44 3 p3 l3.length c3 (fl choL l3),Rw 4 1 X.hp A.had.length X.hc (fl boolL A.had),Rw 40 2 X.wp A.wish.length X.wc (fl wisL A.wish),Mp (Value.int .i64) ptV okI X.mg (mtM X.ms),(Lst MtI X.ms),Mp plK ptV okP X.bg (bkM X.bs),(Lst BkI X.bs),Rw 3 1 pn25 ((A.cand m.pe).length) cn26 (fl intL (A.cand m.pe)),Ob g22 (.cells #[.slice p3 l3.length c3] 35 (0,0)),Ob g10 (.cells #[.slice none 0 0] 35 (0,0)),Ob g7 (.cells #[.int .i64 mv] 3 (0,0)),Ob g4 (.cells #[.int .i64 k] 3 (0,0)),Ob g1 (.cells #[.pointer (some ⟨X.g,0,none⟩)] 26 (0,0)),Marks Ds,Old w (fps [(XI X A)])]) [] (by kernel_rfl) (by kernel_rfl) (fun ⟨_,_,h⟩=>h) H117 (fun wq122 H123=>?_)
     refine a_take (v:=.pointer (some ⟨X.g,0,none⟩)) 0 rfl (wt0 rfl) rfl rfl rfl (by kernel_rfl) (by kernel_rfl) (by kernel_rfl) (by kernel_rfl) H123 (fun wx H=>x_load1 H 18 rfl rfl Tryz.underlying26 rfl rfl rfl) ?_
     refine a_take (v:=.pointer (some ⟨X.g,0,none⟩)) 1 rfl (wt0 rfl) rfl rfl rfl (by kernel_rfl) (by kernel_rfl) (by kernel_rfl) (by kernel_rfl) H123 (fun wx H=>x_nilCheck rfl rfl) ?_
     refine a_take (v:=.pointer (some ⟨X.g,8,none⟩)) 2 rfl (wt0 rfl) rfl rfl rfl (by kernel_rfl) (by kernel_rfl) (by kernel_rfl) (by kernel_rfl) H123 (fun wx H=>x_fieldAddr rfl rfl fo85_8 rfl) ?_
     refine a_take (v:=.map (some X.bg)) 3 rfl (wt0 rfl) rfl rfl rfl (by kernel_rfl) (by kernel_rfl) (by kernel_rfl) (by kernel_rfl) H123 (fun wx H=>x_load1 H 2 rfl rfl Tryz.underlying83 rfl rfl rfl) ?_
     refine a_take (v:=.agg #[.int .i64 (x.pc),.int .i64 (x.bg),.int .i64 (x.ln)]) 4 rfl (wt0 rfl) rfl rfl rfl (by kernel_rfl) (by kernel_rfl) (by kernel_rfl) (by kernel_rfl) H123 (fun wx H=>x_loadA H 3 rfl rfl Tryz.underlying44 rfl sz44 rfl rfl rfl) ?_
     refine a_one (i:=5) (by kernel_rfl) rfl ?_
     refine s_cl (at_x x _) ?_
     rintro _ wq124 ⟨rfl,H125⟩
     replace H125:=H123.ab0 H125
     refine b_ret rfl rfl ?_
     refine a_k H125 ?_
     refine a_take (v:=(optP ((bkM X.bs) x.at))) 6 rfl (wt0 rfl) rfl rfl rfl (by kernel_rfl) (by kernel_rfl) (by kernel_rfl) (by kernel_rfl) H125 (fun wx H=>ex_cast (x_lookup1 (x:=x.at) placeT H 11 rfl rfl rfl rfl ((okP_blk hI hxc9 hxm9)) ze98) (rfl)) ?_
     refine a_take (v:=.bool (!(((bkM X.bs) x.at).isSome))) 7 rfl (wt0 rfl) rfl rfl rfl (by kernel_rfl) (by kernel_rfl) (by kernel_rfl) (by kernel_rfl) H125 (fun wx H=>x_bin rfl rfl rfl (b_eqPO Tryz.underlying98)) ?_
     refine a_done (by kernel_rfl) ?_
     refine w_0 ?_
     refine g_wk [(6,_),(8,_),(12,_),(64,_)] ?_
     rcases Bool.eq_false_or_eq_true (((bkM X.bs) x.at).isSome) with hb126 | hb126
     ·
      refine R.g_cond_f rfl (neg_of hb126) ?_
      refine R.g_skip ?_
      refine w_0 ?_
      have H127:S _ [_,_,_,_,_,_,_,_,_,_,_,_,_,_,_,_,_,_,_]:=S.big (L:=[_,_,_]) (H125.tk [0,1,2,3,4,5,6,7,8,9,10,11,12,13,14,15,16,17,18,19,20])
      exact rj_next ⟨p3,c3,l3,⟨(by rw [filt_f (by show ¬ (!bitAt A.had x100 && A.freeC x)=true; rw [hhd9,freeC_of hX hxm9 hb126]; decide)]; exact hJ.1),(by simp only [List.length_append,List.length_cons,List.length_nil]; omega)⟩,rfl⟩ (H127.tk [0,2,3,4,5,6,7,8,9,10,11,12,13,14,15,16,17,18])
     ·
      refine R.g_cond_t rfl (neg_of hb126) ?_
      refine R.g_region ?_
      refine R.w_v (fun ⟨_,_,h⟩=>h) (xl H125 14) ?_
      refine R.w_v (fun ⟨_,_,h⟩=>h) (v:=.agg #[.int .i64 (x.pc),.int .i64 (x.bg),.int .i64 (x.ln)]) (x_loadA H125 3 rfl rfl Tryz.underlying44 rfl sz44 rfl rfl rfl) ?_
      refine R.l_of rfl (fun ⟨_,_,h⟩=>h) (s_buildSlice H125 (wt0 rfl) rfl rfl rfl (vs:=[.agg #[.int .i64 (x.pc),.int .i64 (x.bg),.int .i64 (x.ln)]]) rfl Tryz.underlying35 sz44 ze44 rfl rfl (cells:=#[.int .i64 (x.pc),.int .i64 (x.bg),.int .i64 (x.ln)]) (by kernel_rfl) ?_)
      intro g128 wq129 H130
      have hln135a:=(H130.rr 7).lenL choE
      have hln135:(l3++[x]).length=l3.length+1:=by simp only [List.length_append,List.length_cons,List.length_nil] <;> omega
      refine R.l_of rfl (fun ⟨_,_,h⟩=>h) (s_appBn (m:=1) (l:=l3) (l2:=[x]) choE H130 7 (j0:=0) rfl rfl ⟨rfl,Nat.le_refl _⟩ (wt0 rfl) rfl rfl rfl rfl rfl rfl Tryz.underlying35 inf44 rfl (by decide) (by omega) ?_)
      intro p131 c132 wq133 H134
      refine R.l_of rfl (fun ⟨_,_,h⟩=>h) (s_store H134 15 (wt0 rfl) rfl rfl rfl rfl rfl sz35 rfl rfl (cs':=#[.slice p131 ((l3++[x]).length) c132]) rfl ?_)
      intro wq136 H137
      refine R.g_nil ?_
      refine w_0 ?_
      have H138:S _ [_,_,_,_,_,_,_,_,_,_,_,_,_,_,_,_,_,_,_,_]:=S.big (L:=[_,_,_]) (H137.tk [1,2,3,0,4,5,6,7,8,9,10,11,12,13,14,15,16,17,18,19,20,21])
      exact rj_next ⟨p131,c132,(l3++[x]),⟨(by rw [filt_t (by show (!bitAt A.had x100 && A.freeC x)=true; rw [hhd9,freeC_of hX hxm9 hb126]; rfl),← List.append_assoc]; exact take_room hJ.1 (by omega)),(by simp only [List.length_append,List.length_cons,List.length_nil]; omega)⟩,rfl⟩ (H138.tk [0,3,4,5,6,7,8,9,10,11,12,13,14,15,16,17,18,19])
   ·
    rintro D xs _ W139 hxs ⟨p3,c3,l3,hJ,rfl⟩ H140
    have H141:S _ [_,_,_,_,_,_,_,_,_,_,_,_,_,_,_,_,_,_,_]:=S.unbig (H140.tk [1,0,2,3,4,5,6,7,8,9,10,11,12,13,14,15,16])
    have H142:S _ [_,_,_,_,_,_,_,_,_,_,_,_,_,_,_,_,_,_]:=S.consMark (H141.tk [3,0,1,2,4,5,6,7,8,9,10,11,12,13,14,15,16,17,18]) (k:=16) rfl
    refine w_k3 ?_
    refine R.g_region ?_
    refine R.w_v (fun h=>hL h) (v:=.int .i64 (((ii+1:Nat):Int))) (x_bin rfl rfl rfl (b_add (by rw [w64 (by omega)]; omega))) ?_
    refine R.w_v (fun h=>hL h) xm ?_
    refine R.g_nil ?_
    refine w_0 ?_
    refine g_roundD (i:=(ii,pq,cq,oz,Ds)) ((ii+1),p3,c3,l3,(D :: Ds)) ?_ rfl ?_ ?_
    · exact ⟨rfl,rfl,rfl,rfl,rfl,rfl,rfl,trivial⟩
    · exact ⟨by omega,(by rw [hxs] at hJ; rw [flat_snoc hx100]; exact hJ.1),(by have h9:=hJ.2; rw [hxs] at h9; have h8:=(blocks_len hI x100).2; omega),(H142.tk [3,2,4,5,6,7,8,9,10,11,12,13,14,15,16,17])⟩
    · (try dsimp only); omega
   ·
    rintro D cc pr _ W143 _ ⟨rfl,p3,c3,l3,hst,rfl⟩ H144
    have H145:S _ [_,_,_,_,_,_,_,_,_,_,_,_,_,_,_,_,_,_,_]:=S.unbig (H144.tk [1,0,2,3,4,5,6,7,8,9,10,11,12,13,14,15,16])
    have H146:S _ [_,_,_,_,_,_,_,_,_,_,_,_,_,_,_,_,_,_]:=S.consMark (H145.tk [3,0,1,2,4,5,6,7,8,9,10,11,12,13,14,15,16,17,18]) (k:=16) rfl
    refine gw_ret ?_
    refine w_k7 ?_
    refine fin_marks (H146.tk [16,0,1,2,3,4,5,6,7,8,9,10,11,12,13,14,15,17]) [.cell 6 35] [.slice p3 l3.length c3] rfl (fun W' hW=>⟨⟨⟨_,rfl,run_load1 Tryz.underlying35 rfl (hW.cell (k:=12) rfl rfl)⟩,trivial⟩,?_⟩)
    replace hW:S W' [Ob ba101 (.cells #[.pointer (some ⟨X.g,0,none⟩)] 26 (0,0)),Ob bi102 (.cells #[.int .i64 x100] 3 (0,0)),Ob X.g (.cells #[.map (some X.mg),.int .i64 ((A.n:Int)),.int .i64 ((A.pz:Int)),.int .i64 ((A.la:Int)),.string (A.seed),.bool A.ino,.slice X.hp A.had.length X.hc,.slice X.wp A.wish.length X.wc,.map (some X.bg)] 85 (0,0)),Rw 44 3 p3 l3.length c3 (fl choL l3),Rw 4 1 X.hp A.had.length X.hc (fl boolL A.had),Rw 40 2 X.wp A.wish.length X.wc (fl wisL A.wish),Mp (Value.int .i64) ptV okI X.mg (mtM X.ms),(Lst MtI X.ms),Mp plK ptV okP X.bg (bkM X.bs),(Lst BkI X.bs),Rw 3 1 pn25 ((A.cand m.pe).length) cn26 (fl intL (A.cand m.pe)),Ob g22 (.cells #[.slice p3 l3.length c3] 35 (0,0)),Ob g10 (.cells #[.slice p3 l3.length c3] 35 (0,0)),Ob g7 (.cells #[.int .i64 mv] 3 (0,0)),Ob g4 (.cells #[.int .i64 k] 3 (0,0)),Ob g1 (.cells #[.pointer (some ⟨X.g,0,none⟩)] 26 (0,0)),Old w (fps [(XI X A)])]:=hW
    have hV:(A.lookP m.pe most)=l3:=by rw [hst.1]; unfold PK.lookP; rw [if_neg (by rw [hb35]; decide),← hmv]
    rw [hV]
    exact ⟨_,_,rfl,((S.big (L:=[_,_,_,_,_,_,_]) (hW.tk [2,4,5,6,7,8,9,3,16])).tk [1,0,2])⟩
  ·
   refine R.g_cond_f rfl (decide_eq_false hb99) ?_
   refine R.g_exit ?_
   rw [List.take_of_length_le (l:=A.cand m.pe) (by omega)] at hoz
   refine w_k4 ?_
   refine R.g_seq ?_
   refine R.g_region ?_
   refine R.w_v (fun h=>hL h) (xl H98 9) ?_
   refine R.l_of rfl (fun h=>hL h) (s_store H98 10 (wt0 rfl) rfl rfl rfl rfl rfl sz35 rfl rfl (cs':=#[.slice pq oz.length cq]) rfl ?_)
   intro wq147 H148
   refine R.g_nil ?_
   refine w_0 ?_
   refine R.g_ret ?_
   refine w_0 ?_
   refine fin_marks (H148.tk [14,0,1,2,3,4,5,6,7,8,9,10,11,12,13,15]) [.cell 6 35] [.slice pq oz.length cq] rfl (fun W' hW=>⟨⟨⟨_,rfl,run_load1 Tryz.underlying35 rfl (hW.cell (k:=10) rfl rfl)⟩,trivial⟩,?_⟩)
   replace hW:S W' [Rw 44 3 pq oz.length cq (fl choL oz),Ob X.g (.cells #[.map (some X.mg),.int .i64 ((A.n:Int)),.int .i64 ((A.pz:Int)),.int .i64 ((A.la:Int)),.string (A.seed),.bool A.ino,.slice X.hp A.had.length X.hc,.slice X.wp A.wish.length X.wc,.map (some X.bg)] 85 (0,0)),Rw 4 1 X.hp A.had.length X.hc (fl boolL A.had),Rw 40 2 X.wp A.wish.length X.wc (fl wisL A.wish),Mp (Value.int .i64) ptV okI X.mg (mtM X.ms),(Lst MtI X.ms),Mp plK ptV okP X.bg (bkM X.bs),(Lst BkI X.bs),Rw 3 1 pn25 ((A.cand m.pe).length) cn26 (fl intL (A.cand m.pe)),Ob g22 (.cells #[.slice pq oz.length cq] 35 (0,0)),Ob g10 (.cells #[.slice pq oz.length cq] 35 (0,0)),Ob g7 (.cells #[.int .i64 mv] 3 (0,0)),Ob g4 (.cells #[.int .i64 k] 3 (0,0)),Ob g1 (.cells #[.pointer (some ⟨X.g,0,none⟩)] 26 (0,0)),Old w (fps [(XI X A)])]:=hW
   have hV:(A.lookP m.pe most)=oz:=by rw [hoz]; unfold PK.lookP; rw [if_neg (by rw [hb35]; decide),← hmv]
   rw [hV]
   exact ⟨_,_,rfl,((S.big (L:=[_,_,_,_,_,_,_]) (hW.tk [1,2,3,4,5,6,7,0,14])).tk [1,0,2])⟩
end Go.Proofs.YthmmfhdpkddniaaGreatDoor
