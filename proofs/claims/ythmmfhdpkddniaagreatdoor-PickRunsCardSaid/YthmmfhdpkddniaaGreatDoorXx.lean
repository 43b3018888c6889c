import Derived.Test.YthmmfhdpkddniaaGreatDoorXw
set_option maxRecDepth 20000
set_option maxHeartbeats 4000000
set_option linter.all false
namespace Go.Proofs.YthmmfhdpkddniaaGreatDoor
open Go.RowKit
theorem QN:aI Tryz.prog 135=true:=by kernel_rfl
theorem QM:aI Tryz.prog 136=true:=by kernel_rfl
theorem FY {A:PK} {cd:List Int} {ii:Nat} {i:Int} {pr l:List aV} {n m:Nat} (h:cd[ii]?=some i) (hp:pr=(A.blocks i).take n) (hl:l=((cd.take ii).flatMap A.freeL++pr.filter (fun c=>!aF A.had i && A.freeC c)).take m) (hm:m≤l.length):l=(cd.flatMap A.freeL).take m:=by
 obtain ⟨h1,h2⟩:=List.getElem?_eq_some_iff.1 h
 have e:cd.flatMap A.freeL=((cd.take ii).flatMap A.freeL++pr.filter (fun c=>!aF A.had i && A.freeC c))++(((A.blocks i).drop n).filter (fun c=>!aF A.had i && A.freeC c)++(cd.drop (ii+1)).flatMap A.freeL):=by
   conv=>lhs; rw [← List.take_append_drop ii cd,List.flatMap_append,List.drop_eq_getElem_cons h1,List.flatMap_cons,h2]
   have e2:A.freeL i=pr.filter (fun c=>!aF A.had i && A.freeC c)++((A.blocks i).drop n).filter (fun c=>!aF A.had i && A.freeC c):=by
     rw [hp,← List.filter_append,List.take_append_drop]; rfl
   rw [e2]
   simp only [List.append_assoc]
 rw [e,List.take_append_of_le_length]
 · exact hl
 · rw [hl,List.length_take] at hm; omega
theorem HJ {α:Type} {l:List α} {m k:Nat} (h:k=min m l.length):l.take k=l.take m:=by
 by_cases hm:m≤l.length
 · rw [h,Nat.min_eq_left hm]
 · rw [h,Nat.min_eq_right (by omega),List.take_length,List.take_of_length_le (by omega)]
theorem JJ {A:PK} {z:List aV} (hz:∀ x∈z,A.isB x∧A.freeC x=false∧((cn A.asked x).length=1∨(cn A.asked x).length=2)):(z.filter (fun c=>decide ((cn A.asked c).length=1))++z.filter fun c=>decide ((cn A.asked c).length=2)).length=z.length:=by
 have h3:(z.filter fun c=>decide ((cn A.asked c).length=2))=z.filter fun c=>!decide ((cn A.asked c).length=1):=List.filter_congr fun x hx=>by
   rcases (hz x hx).2.2 with h | h <;> rw [h] <;> rfl
 rw [h3]
 exact (List.filter_append_perm _ _).length_eq
theorem BC {A:PK} (h:A.endB=true) {i:Int} (hi:0≤i∧i<(A.n:Int)) (ho:A.openB i=true) {c:aV} (hc:c∈A.blocks i):A.freeC c=false:=by
 unfold PK.endB at h
 have h1:=List.all_eq_true.1 h i (uq.2 hi)
 rw [ho] at h1
 have h1:(false || (A.blocks i).all fun c=>!A.freeC c)=true:=h1
 rw [Bool.false_or] at h1
 have h2:=List.all_eq_true.1 h1 c hc
 simpa using h2
theorem u5 {A:PK} {p:fV} {i:Int} (h:i∈A.cand p):(0≤i∧i<(A.n:Int))∧aF A.had i=false∧A.openB i=true:=by
 obtain ⟨h1,h2⟩:=qs.1 h
 refine ⟨h1,(tp h2).1,?_⟩
 unfold PK.candB at h2
 simp only [Bool.and_eq_true] at h2
 exact h2.1.1
theorem QD {A:PK} {p:fV} {k:Int} (h:A.endB=true) {z:List aV} (hz:z=(A.cand p).flatMap (fun i=>(A.blocks i).filter (fun c=>!decide (c∈A.here) && decide ((cn A.asked c).length<3) && !decide (k∈cn A.asked c)))):z.Nodup∧(∀ x∈z,A.isB x∧A.freeC x=false∧((cn A.asked x).length=1∨(cn A.asked x).length=2))∧(z.filter (fun c=>decide ((cn A.asked c).length=1))++z.filter fun c=>decide ((cn A.asked c).length=2))=A.endL k (A.cand p) 1++A.endL k (A.cand p) 2:=by
 subst hz
 refine ⟨mE (o4 A p) fun _=>(fun c=>!decide (c∈A.here) && decide ((cn A.asked c).length<3) && !decide (k∈cn A.asked c)),fun x hx=>?_,?_⟩
 · obtain ⟨h1,h2,h3⟩:=(qq (q:=fun _=>(fun c=>!decide (c∈A.here) && decide ((cn A.asked c).length<3) && !decide (k∈cn A.asked c)))).1 hx
   obtain ⟨h4,h5,h6⟩:=u5 h1
   have h7:=BC h h4 h6 h2
   refine ⟨⟨h4.1,h4.2,h2⟩,h7,?_⟩
   simp only [Bool.and_eq_true,Bool.not_eq_eq_eq_not,Bool.not_true,decide_eq_false_iff_not,decide_eq_true_eq] at h3
   have h8:cn A.asked x ≠ []:=fun e=>by
     have:=iS.2 ⟨h3.1.1,e⟩
     rw [h7] at this; cases this
   have h9:=List.length_pos_iff.2 h8
   omega
 have key:∀ t,t=1∨t=2→((A.cand p).flatMap (fun i=>(A.blocks i).filter (fun c=>!decide (c∈A.here) && decide ((cn A.asked c).length<3) && !decide (k∈cn A.asked c)))).filter (fun c=>decide ((cn A.asked c).length=t))=A.endL k (A.cand p) t:=fun t ht=>by
   rw [List.filter_flatMap]
   unfold PK.endL
   congr 1
   funext i
   rw [List.filter_filter]
   refine List.filter_congr fun c _=>?_
   unfold PK.endB1
   rcases ht with rfl | rfl
   · by_cases h9:(cn A.asked c).length=1
     · simp [h9]
     simp [h9]
   · by_cases h9:(cn A.asked c).length=2
     · simp [h9]
     simp [h9]
 rw [key 1 (.inl rfl),key 2 (.inr rfl)]
theorem Jb (X:XP) (A:PK) (j:Nat) (hX:di X A) (hI:bQ j A) (q:Nat) (m:Mt) (hmq:X.ms[q]?=some m) (k:Int) (hmk:m.k=k) (hmb:gV X.ms k=some m.b) (hk1:1≤k∧k≤1000) (most:Int) (hmo:0≤most∧cO most) (hj:j≤100000)  (w:World) (HS:S w [(XI X A)]):Calls Tryz.prog 107 #[vP X.g,vI k,vI most] w fun e w'=>∃ p' c',e=.returned (.slice p' (A.lookP m.pe most).length c')∧S w' ([Rw 44 3 p' (A.lookP m.pe most).length c' (fl aO (A.lookP m.pe most)),(XI X A)]++[aB w (aT [(XI X A)])]):=by
 have H0:=HS.bu
 have h8:=hI.a8
 have hal9:=hI.al
 have hma:=hX.ask m (List.mem_of_getElem? hmq)
 rw [hmk] at hma
 have hml9:m.asked.length≤A.asked.length:=by rw [hma]; exact iK A.asked k
 unfold cO at hmo
 replace H0:=H0.nilMarks
 refine qJ 125 Tryz.func107 rfl rfl rfl ?_
 have hL:¬ LetsOut (bodyPostM (WF none) 9 Tryz.prog Tryz.f107 fun e w'=>∃ p' c',e=.returned (.slice p' (A.lookP m.pe most).length c')∧S w' ([Rw 44 3 p' (A.lookP m.pe most).length c' (fl aO (A.lookP m.pe most)),(XI X A)]++[aB w (aT [(XI X A)])])):=by
  rintro ⟨_,_,h⟩
  simp only [bodyPostM,reduceCtorEq,false_and,and_false,exists_false,or_false,or_self,exists_const] at h
 refine ah [0,1,2] ?_
 refine R.g_seq ?_
 refine R.g_region ?_
 refine R.l_of rfl (fun h=>hL h) (fq H0 ?_)
 intro g1 e9 H3
 refine R.l_of rfl (fun h=>hL h) (fq H3 ?_)
 intro g4 e8 H6
 refine R.l_of rfl (fun h=>hL h) (fq H6 ?_)
 intro g7 e7 H9
 refine R.l_of rfl (fun h=>hL h) (cA H9 MQ ?_)
 intro h3 y5 e6
 refine R.g_nil ?_
 refine aR ?_
 refine R.g_seq ?_
 refine R.g_aS [] [] (fun h=>hL h) e6 (fun y4 g0=>?_)
 refine eY 0 3 g0 ?_
 refine aU 1 g0 ?_
 refine aU 2 g0 ?_
 refine aU 3 g0 ?_
 refine eY 4 5 g0 ?_
 refine eY 5 2 g0 ?_
 refine bT (v:=vP m.b) 6 rfl g0 (fun _ H=>aH (bU (x:=k) (iG Tryz.underlying80 Tryz.underlying3) H 8 rfl rfl rfl rfl (⟨by omega,by omega⟩) vz) (hG hmb)) ?_
 refine bG (i:=7) ?_
 refine iW xa ?_
 refine bF g0 ?_
 refine fP ?_
 refine aR ?_
 refine R.g_seq ?_
 refine R.g_cut (ι:=Int) (fun mv=>[(3,vP g1),(4,vP g4),(5,vP g7),(6,vP h3),(7,vP m.b)]) (fun mv wx=>(mv=(A.mostV m.pe most))∧S wx [Ob h3 (.cells #[.slice none 0 0] 35 (0,0)),Ob g7 (.cells #[vI mv] 3 (0,0)),Ob g4 (.cells #[vI k] 3 (0,0)),Ob g1 (.cells #[vP X.g] 26 (0,0)),jc [],X0 X A,X1 X A,X2 X A,X3 X,bM fA X.ms,X5 X,bM g_ X.bs,aB w (aT [(XI X A)])]) ?_ ?_
 ·
  refine R.g_seq ?_
  refine R.g_region ?_
  refine R.w_v (fun h=>hL h) xm ?_
  refine R.w_v (fun h=>hL h) xn ?_
  refine R.w_v (fun h=>hL h) yq ?_
  refine R.w_v (fun h=>hL h) (v:=.bool m.sn) (f_ rfl rfl Tryz.underlying4 rfl (g0.mtCell (k:=9) rfl hmq (c:=4) rfl)) ?_
  refine R.g_nil ?_
  refine aR ?_
  refine ah [3,4,5,6,7,27] ?_
  rcases ef (m.sn) with h7 | h7
  ·
   refine R.g_cond_t rfl h7 ?_
   refine R.g_aS [] [8] (fun h=>hL h) g0 (fun y3 g5=>?_)
   refine eY 0 1 g5 ?_
   refine aU 1 g5 ?_
   refine aU 2 g5 ?_
   refine aU 3 g5 ?_
   refine bT (v:=.slice m.ap m.asked.length m.ac) 4 rfl g5 (fun _ H=>f_ rfl rfl Tryz.underlying35 rfl (H.mtCell (k:=9) rfl hmq (c:=5) rfl)) ?_
   refine bT 5 rfl g5 (fun _ _=>Aw) ?_
   refine bT (v:=vI (1 - (m.asked.length:Int))) 6 rfl g5 (fun _ _=>ai rfl rfl rfl (vj (jD (by omega)))) ?_
   refine bT (v:=vI (min most (1 - (m.asked.length:Int)))) 7 rfl g5 (fun _ _=>yL rfl rfl rfl) ?_
   refine bG (i:=8) ?_
   refine b_ g5 1 (bh rfl) rfl rfl rfl rfl rfl si rfl rfl (cs':=#[vI (min most (1 - (m.asked.length:Int)))]) rfl ?_
   intro y2 e5
   refine m_ rfl ?_
   refine fP ?_
   refine aR ?_
   refine iu (min most (1 - (m.asked.length:Int))) ?_ ?_
   · exact ⟨rfl,rfl,rfl,rfl,rfl,trivial⟩
   exact ⟨(by unfold PK.mostV; rw [show m.pe.sn=m.sn from rfl,show m.pe.k=k from hmk,← hma,h7]; simp only [if_true,if_false,Bool.false_eq_true]; try omega),(e5.tk [0,1,2,3,4,5,6,7,8,9,10,11,12])⟩
  refine R.g_cond_f rfl h7 ?_
  refine R.g_skip ?_
  refine aR ?_
  refine iu (most) ?_ ?_
  · exact ⟨rfl,rfl,rfl,rfl,rfl,trivial⟩
  exact ⟨(by unfold PK.mostV; rw [show m.pe.sn=m.sn from rfl,show m.pe.k=k from hmk,← hma,h7]; simp only [if_true,if_false,Bool.false_eq_true]; try omega),(g0.tk [0,1,2,3,4,5,6,7,8,9,10,11,12])⟩
 rintro mv y1 ⟨hmv,e4⟩
 refine ah [3,4,5,6,7] ?_
 refine R.g_seq ?_
 refine R.g_region ?_
 refine R.l_of rfl (fun h=>hL h) (cA e4 MQ ?_)
 intro h4 y0 r2
 refine R.g_nil ?_
 refine aR ?_
 refine R.g_seq ?_
 refine R.g_region ?_
 refine R.w_v (fun h=>hL h) (xl r2 4) ?_
 refine R.w_v (fun h=>hL h) xm ?_
 have r1:=r2.b7 [6,7,8,9,10,11,12,0,1,2,3,4,5,13]
 refine R.l_of rfl (fun h=>hL h) (bR (bh rfl) (aP rfl rfl QN) (Pg X A j hX hI q m hmq _ (r1.tk [0])) ?_)
 rintro _ v9 ⟨pn25,cn26,rfl,b0⟩
 replace b0:=r1.aI2 [0] b0
 have hcl9:=km A m.pe
 have r0:=b0.ub [1,0,2,3,4,5,6,7,8]
 refine bW ?_
 refine R.w_v (fun h=>hL h) xa ?_
 refine R.g_nil ?_
 refine aR ?_
 iterate 2 refine R.g_seq ?_
 refine R.g_region ?_
 refine R.w_v (fun h=>hL h) (xl r0 12) ?_
 refine R.l_of rfl (fun h=>hL h) (fZ r0 [0,1,2,3,4,5,6,7,8,9,10,11,12,13,14] (BA X A j hX hI _) ?_)
 intro v8 q8
 refine R.w_v (fun h=>hL h) (v:=.bool (!(A.endB))) (cj (b:=A.endB) rfl rfl) ?_
 refine R.g_nil ?_
 refine aR ?_
 rcases ef (A.endB) with h0 | h0
 ·
  refine R.g_cond_f rfl (aa h0) ?_
  refine R.g_skip ?_
  refine aR ?_
  iterate 2 refine R.g_seq ?_
  refine R.g_region ?_
  refine R.w_v (fun h=>hL h) xm ?_
  refine R.w_v (fun h=>hL h) Aw ?_
  refine R.w_v (fun h=>hL h) xm ?_
  refine R.g_nil ?_
  refine aR ?_
  refine R.g_block ?_
  refine vL (ι:=Nat × Option Addr × Nat × List aV × List Nat) (fun (ii,pq,cq,oz,Ds)=>[(3,vP g1),(4,vP g4),(5,vP g7),(6,vP h3),(8,vP h4),(71,.slice pn25 ((A.cand m.pe).length) cn26),(72,vI (((A.cand m.pe).length:Int))),(73,vI ii)]) (fun (ii,pq,cq,oz,Ds)=>Ds.map vX) (fun (ii,pq,cq,oz,Ds) wx=>(ii≤(A.cand m.pe).length)∧(oz=((A.cand m.pe).take ii).flatMap (fun i=>(A.blocks i).filter (fun c=>!decide (c∈A.here) && decide ((cn A.asked c).length<3) && !decide (k∈cn A.asked c))))∧(oz.length≤8 * ii)∧S wx [Rw 44 3 pq oz.length cq (fl aO oz),X0 X A,X1 X A,X2 X A,X3 X,bM fA X.ms,X5 X,bM g_ X.bs,Rw 3 1 pn25 ((A.cand m.pe).length) cn26 (fl cg (A.cand m.pe)),Ob h4 (.cells #[.slice pq oz.length cq] 35 (0,0)),Ob h3 (.cells #[.slice none 0 0] 35 (0,0)),Ob g7 (.cells #[vI mv] 3 (0,0)),Ob g4 (.cells #[vI k] 3 (0,0)),Ob g1 (.cells #[vP X.g] 26 (0,0)),jc Ds,aB w (aT [(XI X A)])]) (fun (ii,pq,cq,oz,Ds)=>((A.cand m.pe).length) - ii) (0,none,0,[],[]) ⟨rfl,rfl,rfl,rfl,rfl,rfl,rfl,rfl,trivial⟩ rfl ⟨Nat.zero_le _,(by rw [List.take_zero,List.flatMap_nil]),(Nat.zero_le _),((S.nilFl q8 44 3 aO).tk [0,1,2,3,4,5,6,7,8,9,10,11,12,13,14,15])⟩ ?_
  rintro ⟨ii,pq,cq,oz,Ds⟩ v7 ⟨hii,hoz,hol,x0⟩
  refine ah [3,4,5,6,8,71,72,73] ?_
  refine R.g_seq ?_
  refine R.g_region ?_
  refine R.w_v (fun h=>hL h) (ai rfl rfl rfl dG) ?_
  refine R.g_nil ?_
  refine aR ?_
  refine R.g_seq ?_
  by_cases x7:((ii:Int):Int)<((A.cand m.pe).length:Int)
  ·
   refine R.g_cond_t rfl (dt x7) ?_
   refine R.g_skip ?_
   refine aR ?_
   refine R.g_seq ?_
   refine R.g_block ?_
   refine R.g_seq ?_
   refine R.g_region ?_
   refine R.w_v (fun h=>hL h) (iH ii (x0.rr 8)) ?_
   obtain ⟨x2,g8⟩:=(x0.rr 8).exL bE ii
   obtain ⟨hxc9,hhd9,hop9⟩:=u5 (List.mem_of_getElem? g8)
   refine R.w_v (fun h=>hL h) (nX ii (x0.rr 8) (bE.flAt1 g8 rfl)) ?_
   refine R.w_v (fun h=>hL h) xa ?_
   refine R.g_nil ?_
   refine aR ?_
   refine R.g_seq ?_
   refine R.g_region ?_
   refine R.w_v (fun h=>hL h) (xl x0 13) ?_
   refine R.w_v (fun h=>hL h) xm ?_
   refine R.l_of rfl (fun h=>hL h) (bR (bh rfl) (aP rfl rfl yy) (rO X.g x2 _) ?_)
   rintro _ v6 ⟨ba40,bi41,rfl,w9⟩
   replace w9:=x0.ab2 w9
   refine bW ?_
   refine R.g_nil ?_
   refine aR ?_
   refine R.g_block ?_
   have e3:=w9.b3 [0,1,3,2,4,5,6,7,8,9,10,11,12,13,14,15,16,17]
   have e2:=S.noI (e3.tk [0,1,2,3,4,5,6,7,8,9,10,11,12,13,14,15])
   refine jg (α:=aV) (ι:=Nat) (encs:=vY) (base:=(fN [Ob ba40 (.cells #[vP X.g] 26 (0,0)),Ob bi41 (.cells #[vI x2] 3 (0,0)),X0 X A])) (by omega) rfl rM (mJ (X:=X) (i:=x2) hI) (fun _=>rfl) rfl (fun pre Lx=>∃ (p3:Option Addr),∃ (c3:Nat),∃ (l3:List aV),(l3=((A.cand m.pe).take ii).flatMap (fun i=>(A.blocks i).filter (fun c=>!decide (c∈A.here) && decide ((cn A.asked c).length<3) && !decide (k∈cn A.asked c)))++(pre).filter (fun c=>!decide (c∈A.here) && decide ((cn A.asked c).length<3) && !decide (k∈cn A.asked c))∧l3.length≤8 * ii+(pre).length)∧Lx=[Rw 44 3 p3 l3.length c3 (fl aO l3),X1 X A,X2 X A,X3 X,bM fA X.ms,X5 X,bM g_ X.bs,Rw 3 1 pn25 ((A.cand m.pe).length) cn26 (fl cg (A.cand m.pe)),Ob h4 (.cells #[.slice p3 l3.length c3] 35 (0,0)),Ob h3 (.cells #[.slice none 0 0] 35 (0,0)),Ob g7 (.cells #[vI mv] 3 (0,0)),Ob g4 (.cells #[vI k] 3 (0,0)),Ob g1 (.cells #[vP X.g] 26 (0,0)),jc Ds,aB w (aT [(XI X A)])]) (fun cc pre Lx=>False) (fun p ia=>[(3,vP g1),(4,vP g4),(8,vP h4),(15,vP ia)]) (fun p ia=>[Ob ia (.cells #[vI p.pc,vI p.bg,vI p.ln] 44 (0,0))]) (fun _ _ _ _ _=>trivial) ⟨pq,cq,oz,⟨by rw [List.filter_nil,List.append_nil]; exact hoz,hol⟩,rfl⟩ e2 ?_ ?_ ?_ ?_
   ·
    rintro l1 p Ly XR e1
    have hL:¬ LetsOut (fun (_:Exit) (_:Act) (_:World)=>False):=fun ⟨_,_,h⟩=>h
    refine ah [3,4,8,80] ?_
    refine R.g_region ?_
    refine R.l_of rfl (fun h=>hL h) (cA e1 gX ?_)
    intro y6 v5 e0
    refine R.l_of rfl (fun h=>hL h) (b_ e0 0 (bh rfl) rfl rfl rfl rfl rfl dE rfl rfl (cs':=#[vI p.pc,vI p.bg,vI p.ln]) rfl ?_)
    intro v4 a9
    refine R.g_nil ?_
    refine aR ?_
    exact iD y6 ⟨rfl,rfl,rfl,rfl,trivial⟩ a9
   ·
    rintro l1 pr x ia II Kx _ XQ ⟨p3,c3,l3,hJ,rfl⟩ hphi a7
    have a6:=S.unbig (L:=[_]) (a7.tk [3,0,1,2,4,5,6,7,8,9,10,11,12,13,14,15,16,17,18])
    refine ah [3,4,8,15] ?_
    obtain ⟨q9,hpr9,hxq9⟩:=hphi
    have hxm9:x∈A.blocks x2:=List.mem_of_getElem? hxq9
    have hpl9:pr.length≤8:=by rw [hpr9]; have h9:=(cZ hI x2).2; rw [List.length_take]; omega
    have c8:=hJ.2
    have hxB9:A.isB x:=Cs hxc9.1 hxc9.2 hxm9
    obtain ⟨ir,r,hrq,hrk,hrb,hrf⟩:=hX.bok.get hxB9 (BC h0 hxc9 hop9 hxm9)
    have hre9:=hX.bok.ent hxB9 hrq hrk
    have hrl9:=kY A.asked x
    rw [← hre9.2] at hrl9
    have hal8:=hI.al
    have a5:S _ [_,_,_,_,_,_,_,_,_,_,_,_,_,_,_,_,_,_,_,_,_]:=S.unbig (a6.tk [1,0,2,3,4,5,6,7,8,9,10,11,12,13,14,15,16,17,18])
    refine R.g_block ?_
    refine R.g_seq ?_
    refine R.g_aS [] [] (fun ⟨_,_,h⟩=>h) a5 (fun v3 x4=>?_)
    refine eY 0 18 x4 ?_
    refine aU 1 x4 ?_
    refine aU 2 x4 ?_
    refine eY 3 2 x4 ?_
    refine bT 4 rfl x4 (fun _ H=>fS H 3) ?_
    refine bG (i:=5) ?_
    refine aG (sr x _) ?_
    rintro _ v2 ⟨rfl,x3⟩
    replace x3:=x4.ab0 x3
    refine bW ?_
    refine bF x3 ?_
    refine bT (v:=vP r.b) 6 rfl x3 (fun _ H=>aH (bU (x:=x.at) jp H 11 rfl rfl rfl rfl ((jQ hI hxc9 hxm9)) vw) (hG hrb)) ?_
    refine bG (i:=7) ?_
    refine iW xa ?_
    refine bF x3 ?_
    refine fP ?_
    refine aR ?_
    refine R.g_seq ?_
    refine R.g_aS [] [] (fun ⟨_,_,h⟩=>h) x3 (fun v1 H2=>?_)
    refine aU 0 H2 ?_
    refine aU 1 H2 ?_
    refine aU 2 H2 ?_
    refine bT (v:=.bool r.here) 3 rfl H2 (fun _ H=>f_ rfl rfl Tryz.underlying4 rfl (H.bkCell (k:=12) rfl hrq (c:=0) rfl)) ?_
    refine bT (v:=.bool (!(r.here))) 4 rfl H2 (fun _ _=>cj (b:=r.here) rfl rfl) ?_
    refine aU 5 H2 ?_
    rcases ef (r.here) with H5 | H5
    ·
     refine jH 6 rfl (nY rfl rfl rfl rfl (aa H5)) rfl rfl rfl (by kernel_rfl) (by kernel_rfl) (by kernel_rfl) (by kernel_rfl) H2 ?_
     refine jH 7 rfl (nY rfl rfl rfl rfl (aa H5)) rfl rfl rfl (by kernel_rfl) (by kernel_rfl) (by kernel_rfl) (by kernel_rfl) H2 ?_
     refine jH 8 rfl (nY rfl rfl rfl rfl (aa H5)) rfl rfl rfl (by kernel_rfl) (by kernel_rfl) (by kernel_rfl) (by kernel_rfl) H2 ?_
     refine jH 9 rfl (nY rfl rfl rfl rfl (aa H5)) rfl rfl rfl (by kernel_rfl) (by kernel_rfl) (by kernel_rfl) (by kernel_rfl) H2 ?_
     refine jH 10 rfl (nY rfl rfl rfl rfl (aa H5)) rfl rfl rfl (by kernel_rfl) (by kernel_rfl) (by kernel_rfl) (by kernel_rfl) H2 ?_
     refine jH 11 rfl (nY rfl rfl rfl rfl (aa H5)) rfl rfl rfl (by kernel_rfl) (by kernel_rfl) (by kernel_rfl) (by kernel_rfl) H2 ?_
     refine bT 12 rfl H2 (fun _ _=>pf (aa H5)) ?_
     refine aU 13 H2 ?_
     refine jH 14 rfl (nY rfl rfl rfl rfl rfl) rfl rfl rfl (by kernel_rfl) (by kernel_rfl) (by kernel_rfl) (by kernel_rfl) H2 ?_
     refine jH 15 rfl (nY rfl rfl rfl rfl rfl) rfl rfl rfl (by kernel_rfl) (by kernel_rfl) (by kernel_rfl) (by kernel_rfl) H2 ?_
     refine jH 16 rfl (nY rfl rfl rfl rfl rfl) rfl rfl rfl (by kernel_rfl) (by kernel_rfl) (by kernel_rfl) (by kernel_rfl) H2 ?_
     refine jH 17 rfl (nY rfl rfl rfl rfl rfl) rfl rfl rfl (by kernel_rfl) (by kernel_rfl) (by kernel_rfl) (by kernel_rfl) H2 ?_
     refine jH 18 rfl (nY rfl rfl rfl rfl rfl) rfl rfl rfl (by kernel_rfl) (by kernel_rfl) (by kernel_rfl) (by kernel_rfl) H2 ?_
     refine bG (i:=19) ?_
     refine ku rfl ?_
     refine bF H2 ?_
     refine jH 20 rfl (nY rfl rfl rfl rfl rfl) rfl rfl rfl (by kernel_rfl) (by kernel_rfl) (by kernel_rfl) (by kernel_rfl) H2 ?_
     refine bT 21 rfl H2 (fun _ _=>pf rfl) ?_
     refine fP ?_
     refine aR ?_
     refine ah [8,15,109] ?_
     refine R.g_cond_f rfl rfl ?_
     refine R.g_skip ?_
     refine aR ?_
     have a3:=H2.b3 [0,1,2,3,4,5,6,7,8,9,10,11,12,13,14,15,16,17,18,19,20]
     exact fb ⟨p3,c3,l3,⟨(by rw [jM (by show ¬ (!decide (x∈A.here) && decide ((cn A.asked x).length<3) && !decide (k∈cn A.asked x))=true; rw [← hre9.1,← hre9.2]; simp [H5]; try omega)]; exact hJ.1),(by simp only [List.length_append,List.length_cons,List.length_nil]; omega)⟩,rfl⟩ (a3.tk [0,2,3,4,5,6,7,8,9,10,11,12,13,14,15,16,17,18])
    refine jO (v:=vP r.b) 6 rfl (cU rfl rfl rfl rfl (aa H5)) rfl rfl rfl (by kernel_rfl) (by kernel_rfl) (by kernel_rfl) (by kernel_rfl) H2 (fun wx H=>bY rfl rfl) ?_
    refine jO (v:=vP r.b) 7 rfl (cU rfl rfl rfl rfl (aa H5)) rfl rfl rfl (by kernel_rfl) (by kernel_rfl) (by kernel_rfl) (by kernel_rfl) H2 (fun wx H=>fm rfl rfl) ?_
    refine jO (v:=.pointer (some ⟨r.b,1,none⟩)) 8 rfl (cU rfl rfl rfl rfl (aa H5)) rfl rfl rfl (by kernel_rfl) (by kernel_rfl) (by kernel_rfl) (by kernel_rfl) H2 (fun wx H=>c_ rfl rfl Ew rfl) ?_
    refine jO (v:=.slice r.ap r.asked.length r.ac) 9 rfl (cU rfl rfl rfl rfl (aa H5)) rfl rfl rfl (by kernel_rfl) (by kernel_rfl) (by kernel_rfl) (by kernel_rfl) H2 (fun wx H=>f_ rfl rfl Tryz.underlying59 rfl (H.bkCell (k:=12) rfl hrq (c:=1) rfl)) ?_
    refine jO (v:=vI r.asked.length) 10 rfl (cU rfl rfl rfl rfl (aa H5)) rfl rfl rfl (by kernel_rfl) (by kernel_rfl) (by kernel_rfl) (by kernel_rfl) H2 (fun wx H=>GP rfl rfl Tryz.underlying59) ?_
    refine jO (v:=.bool (decide (((r.asked.length:Int):Int)<3))) 11 rfl (cU rfl rfl rfl rfl (aa H5)) rfl rfl rfl (by kernel_rfl) (by kernel_rfl) (by kernel_rfl) (by kernel_rfl) H2 (fun wx H=>ai rfl rfl rfl dG) ?_
    refine bT 12 rfl H2 (fun _ _=>pt (aa H5)) ?_
    refine aU 13 H2 ?_
    by_cases H4:((r.asked.length:Int):Int)<3
    ·
     refine jO (v:=vP r.b) 14 rfl (cU rfl rfl rfl rfl (dt H4)) rfl rfl rfl (by kernel_rfl) (by kernel_rfl) (by kernel_rfl) (by kernel_rfl) H2 (fun wx H=>bY rfl rfl) ?_
     refine jO (v:=vP r.b) 15 rfl (cU rfl rfl rfl rfl (dt H4)) rfl rfl rfl (by kernel_rfl) (by kernel_rfl) (by kernel_rfl) (by kernel_rfl) H2 (fun wx H=>fm rfl rfl) ?_
     refine jO (v:=.pointer (some ⟨r.b,1,none⟩)) 16 rfl (cU rfl rfl rfl rfl (dt H4)) rfl rfl rfl (by kernel_rfl) (by kernel_rfl) (by kernel_rfl) (by kernel_rfl) H2 (fun wx H=>c_ rfl rfl Ew rfl) ?_
     refine jO (v:=.slice r.ap r.asked.length r.ac) 17 rfl (cU rfl rfl rfl rfl (dt H4)) rfl rfl rfl (by kernel_rfl) (by kernel_rfl) (by kernel_rfl) (by kernel_rfl) H2 (fun wx H=>f_ rfl rfl Tryz.underlying59 rfl (H.bkCell (k:=12) rfl hrq (c:=1) rfl)) ?_
     refine jO (v:=vI k) 18 rfl (cU rfl rfl rfl rfl (dt H4)) rfl rfl rfl (by kernel_rfl) (by kernel_rfl) (by kernel_rfl) (by kernel_rfl) H2 (fun wx H=>gi H 17 rfl rfl Tryz.underlying3 rfl rfl rfl) ?_
     refine bG (i:=19) ?_
     refine bR (cU rfl rfl rfl rfl (dt H4)) (aP rfl rfl P5) (Ho r.asked r.ap r.asked.length r.ac k (by omega) _ (H2.bkAsk (k:=12) rfl hrq)) ?_
     rintro _ v0 ⟨rfl,g3⟩
     replace g3:=H2.ab0 g3
     refine bW ?_
     refine bF g3 ?_
     refine jO (v:=.bool (!((decide (k∈r.asked))))) 20 rfl (cU rfl rfl rfl rfl (dt H4)) rfl rfl rfl (by kernel_rfl) (by kernel_rfl) (by kernel_rfl) (by kernel_rfl) g3 (fun wx H=>cj (b:=(decide (k∈r.asked))) rfl rfl) ?_
     refine bT 21 rfl g3 (fun _ _=>pt (dt H4)) ?_
     refine fP ?_
     refine aR ?_
     refine ah [8,15,109] ?_
     rcases ef ((decide (k∈r.asked))) with h6 | h6
     ·
      refine R.g_cond_f rfl (aa h6) ?_
      refine R.g_skip ?_
      refine aR ?_
      have a2:=g3.b3 [0,1,2,3,4,5,6,7,8,9,10,11,12,13,14,15,16,17,18,19,20]
      exact fb ⟨p3,c3,l3,⟨(by rw [jM (by show ¬ (!decide (x∈A.here) && decide ((cn A.asked x).length<3) && !decide (k∈cn A.asked x))=true; rw [← hre9.1,← hre9.2]; simp [H5,H4,h6]; try omega)]; exact hJ.1),(by simp only [List.length_append,List.length_cons,List.length_nil]; omega)⟩,rfl⟩ (a2.tk [0,2,3,4,5,6,7,8,9,10,11,12,13,14,15,16,17,18])
     refine R.g_cond_t rfl (aa h6) ?_
     refine R.g_region ?_
     refine R.w_v (fun ⟨_,_,h⟩=>h) (xl g3 14) ?_
     refine R.w_v (fun ⟨_,_,h⟩=>h) (fS g3 3) ?_
     refine R.l_of rfl (fun ⟨_,_,h⟩=>h) (iU g3 (bh rfl) rfl rfl rfl (vs:=[.agg #[vI x.pc,vI x.bg,vI x.ln]]) rfl Tryz.underlying35 dE gX rfl rfl (cells:=#[vI x.pc,vI x.bg,vI x.ln]) (by kernel_rfl) ?_)
     intro o1 u9 q7
     have hln77a:=(q7.rr 7).lenL cN
     have hln77:(l3++[x]).length=l3.length+1:=by simp only [List.length_append,List.length_cons,List.length_nil] <;> omega
     refine R.l_of rfl (fun ⟨_,_,h⟩=>h) (t6 (m:=1) (l:=l3) (l2:=[x]) cN q7 7 (j0:=0) rfl rfl ⟨rfl,Nat.le_refl _⟩ (bh rfl) rfl rfl rfl rfl rfl rfl Tryz.underlying35 kN rfl (by decide) (by omega) ?_)
     intro q3 q5 u0 d4
     refine R.l_of rfl (fun ⟨_,_,h⟩=>h) (b_ d4 15 (bh rfl) rfl rfl rfl rfl rfl Cd rfl rfl (cs':=#[.slice q3 ((l3++[x]).length) q5]) rfl ?_)
     intro r7 d3
     refine R.g_nil ?_
     refine aR ?_
     have d2:=d3.b3 [1,2,3,0,4,5,6,7,8,9,10,11,12,13,14,15,16,17,18,19,20,21]
     exact fb ⟨q3,q5,(l3++[x]),⟨(by rw [lO (by show (!decide (x∈A.here) && decide ((cn A.asked x).length<3) && !decide (k∈cn A.asked x))=true; rw [← hre9.1,← hre9.2]; simp [H5,H4,h6]; try omega),← List.append_assoc,← hJ.1]),(by simp only [List.length_append,List.length_cons,List.length_nil]; omega)⟩,rfl⟩ (d2.tk [0,3,4,5,6,7,8,9,10,11,12,13,14,15,16,17,18,19])
    refine jH 14 rfl (nY rfl rfl rfl rfl (df H4)) rfl rfl rfl (by kernel_rfl) (by kernel_rfl) (by kernel_rfl) (by kernel_rfl) H2 ?_
    refine jH 15 rfl (nY rfl rfl rfl rfl (df H4)) rfl rfl rfl (by kernel_rfl) (by kernel_rfl) (by kernel_rfl) (by kernel_rfl) H2 ?_
    refine jH 16 rfl (nY rfl rfl rfl rfl (df H4)) rfl rfl rfl (by kernel_rfl) (by kernel_rfl) (by kernel_rfl) (by kernel_rfl) H2 ?_
    refine jH 17 rfl (nY rfl rfl rfl rfl (df H4)) rfl rfl rfl (by kernel_rfl) (by kernel_rfl) (by kernel_rfl) (by kernel_rfl) H2 ?_
    refine jH 18 rfl (nY rfl rfl rfl rfl (df H4)) rfl rfl rfl (by kernel_rfl) (by kernel_rfl) (by kernel_rfl) (by kernel_rfl) H2 ?_
    refine bG (i:=19) ?_
    refine ku (df H4) ?_
    refine bF H2 ?_
    refine jH 20 rfl (nY rfl rfl rfl rfl (df H4)) rfl rfl rfl (by kernel_rfl) (by kernel_rfl) (by kernel_rfl) (by kernel_rfl) H2 ?_
    refine bT 21 rfl H2 (fun _ _=>pf (df H4)) ?_
    refine fP ?_
    refine aR ?_
    refine ah [8,15,109] ?_
    refine R.g_cond_f rfl rfl ?_
    refine R.g_skip ?_
    refine aR ?_
    have d1:=H2.b3 [0,1,2,3,4,5,6,7,8,9,10,11,12,13,14,15,16,17,18,19,20]
    exact fb ⟨p3,c3,l3,⟨(by rw [jM (by show ¬ (!decide (x∈A.here) && decide ((cn A.asked x).length<3) && !decide (k∈cn A.asked x))=true; rw [← hre9.1,← hre9.2]; simp [H5,H4]; try omega)]; exact hJ.1),(by simp only [List.length_append,List.length_cons,List.length_nil]; omega)⟩,rfl⟩ (d1.tk [0,2,3,4,5,6,7,8,9,10,11,12,13,14,15,16,17,18])
   ·
    rintro D xs _ o9 hxs ⟨p3,c3,l3,hJ,rfl⟩ d0
    have j2:S _ [_,_,_,_,_,_,_,_,_,_,_,_,_,_,_,_,_,_,_]:=S.unbig (d0.tk [1,0,2,3,4,5,6,7,8,9,10,11,12,13,14,15,16])
    have j1:S _ [_,_,_,_,_,_,_,_,_,_,_,_,_,_,_,_,_,_]:=S.consMark (j2.tk [3,0,1,2,4,5,6,7,8,9,10,11,12,13,14,15,16,17,18]) (k:=16) rfl
    refine aC ?_
    refine R.g_region ?_
    refine R.w_v (fun h=>hL h) (v:=vI (((ii+1:Nat):Int))) (ai rfl rfl rfl (dY (by rw [jD (by omega)]; omega))) ?_
    refine R.w_v (fun h=>hL h) xm ?_
    refine R.g_nil ?_
    refine aR ?_
    refine nw (i:=(ii,pq,cq,oz,Ds)) ((ii+1),p3,c3,l3,(D :: Ds)) ?_ rfl ?_ ?_
    · exact ⟨rfl,rfl,rfl,rfl,rfl,rfl,rfl,rfl,trivial⟩
    · exact ⟨by omega,(by rw [hxs] at hJ; rw [qY g8]; exact hJ.1),(by have h9:=hJ.2; rw [hxs] at h9; have h8:=(cZ hI x2).2; omega),(j1.tk [3,2,4,5,6,7,8,9,10,11,12,13,14,15,16,17])⟩
    (try dsimp only); omega
   rintro D cc pr _ W _ h; exact h.elim
  refine R.g_cond_f rfl (df x7) ?_
  refine R.g_exit ?_
  rw [List.take_of_length_le (l:=A.cand m.pe) (by omega)] at hoz
  obtain ⟨hzn9,hzz9,hze9⟩:=QD (p:=m.pe) (k:=k) h0 hoz
  refine aE ?_
  refine R.g_seq ?_
  refine R.g_region ?_
  refine R.w_v (fun h=>hL h) (xl x0 9) ?_
  refine R.w_v (fun h=>hL h) (v:=.func (.func 137) #[] #[vP g1]) (h_ rfl rfl rfl) ?_
  have i9:=x0.b7 [1,2,3,4,5,6,7,0,8,9,10,11,12,13,14,15]
  have q6:S _ [_,_,_,_,_,_,_,_,_]:=S.big (L:=[_,_]) (i9.tk [0,7,1,2,3,4,5,6,8,9])
  refine R.l_of rfl (fun h=>hL h) (bR (bh rfl) (aP rfl rfl QM) (JU hX hI g1 oz hzn9 hzz9 (by omega) pq cq _ (q6.tk [1,0])) ?_)
  rintro _ c7 ⟨rfl,w8⟩
  replace w8:=q6.aI2 [1,0] w8
  have i8:S _ [_,_,_,_,_,_,_,_,_,_]:=S.unbig (w8.tk [1,0,2,3,4,5,6,7,8])
  have i5:=i8.ub [0,1,2,3,4,5,6,7,8,9]
  have hzl9:(oz.filter (fun c=>decide ((cn A.asked c).length=1))++oz.filter fun c=>decide ((cn A.asked c).length=2)).length=oz.length:=JJ hzz9
  have x9:S c7 [X0 X A,X1 X A,X2 X A,X3 X,bM fA X.ms,X5 X,bM g_ X.bs,Ob g1 (.cells #[vP X.g] 26 (0,0)),Rw 44 3 pq ((oz.filter (fun c=>decide ((cn A.asked c).length=1))++oz.filter fun c=>decide ((cn A.asked c).length=2)).length) cq (fl aO (oz.filter (fun c=>decide ((cn A.asked c).length=1))++oz.filter fun c=>decide ((cn A.asked c).length=2))),Rw 3 1 pn25 ((A.cand m.pe).length) cn26 (fl cg (A.cand m.pe)),Ob h4 (.cells #[.slice pq ((oz.filter (fun c=>decide ((cn A.asked c).length=1))++oz.filter fun c=>decide ((cn A.asked c).length=2)).length) cq] 35 (0,0)),Ob h3 (.cells #[.slice none 0 0] 35 (0,0)),Ob g7 (.cells #[vI mv] 3 (0,0)),Ob g4 (.cells #[vI k] 3 (0,0)),jc Ds,aB w (aT [(XI X A)])]:=by rw [hzl9]; exact i5
  refine bW ?_
  refine R.g_nil ?_
  refine aR ?_
  refine R.g_seq ?_
  refine R.g_region ?_
  refine R.w_v (fun h=>hL h) (xl x9 10) ?_
  refine R.w_v (fun h=>hL h) (xl x9 12) ?_
  refine R.w_v (fun h=>hL h) (xl x9 10) ?_
  refine R.w_v (fun h=>hL h) Aw ?_
  refine R.w_v (fun h=>hL h) (v:=vI (min mv ((oz.filter (fun c=>decide ((cn A.asked c).length=1))++oz.filter fun c=>decide ((cn A.asked c).length=2)).length:Int))) (yL rfl rfl rfl) ?_
  refine R.w_v (fun h=>hL h) (v:=vI (max 0 (min mv ((oz.filter (fun c=>decide ((cn A.asked c).length=1))++oz.filter fun c=>decide ((cn A.asked c).length=2)).length:Int)))) (Mk rfl rfl rfl) ?_
  have hnc:=(x9.rr 8).2.1
  refine R.w_v (fun h=>hL h) (v:=.slice pq ((max 0 (min mv ((oz.filter (fun c=>decide ((cn A.asked c).length=1))++oz.filter fun c=>decide ((cn A.asked c).length=2)).length:Int))).toNat) cq) (aH (ui ((max 0 (min mv ((oz.filter (fun c=>decide ((cn A.asked c).length=1))++oz.filter fun c=>decide ((cn A.asked c).length=2)).length:Int))).toNat) rfl rfl rfl Tryz.underlying35 dE (by omega)) (by rw [DJ])) ?_
  refine R.l_of rfl (fun h=>hL h) (b_ x9 11 (bh rfl) rfl rfl rfl rfl rfl Cd rfl rfl (cs':=#[.slice pq ((max 0 (min mv ((oz.filter (fun c=>decide ((cn A.asked c).length=1))++oz.filter fun c=>decide ((cn A.asked c).length=2)).length:Int))).toNat) cq]) rfl ?_)
  intro r4 i4
  refine R.g_nil ?_
  refine aR ?_
  refine ah [6] ?_
  refine R.g_ret ?_
  refine lx (i4.tk [14,0,1,2,3,4,5,6,7,8,9,10,11,12,13,15]) [.cell 6 35] [.slice pq ((max 0 (min mv ((oz.filter (fun c=>decide ((cn A.asked c).length=1))++oz.filter fun c=>decide ((cn A.asked c).length=2)).length:Int))).toNat) cq] rfl (fun W' hW=>⟨⟨⟨_,rfl,dp Tryz.underlying35 rfl (hW.cell (k:=11) rfl rfl)⟩,trivial⟩,?_⟩)
  replace hW:S W' [X0 X A,X1 X A,X2 X A,X3 X,bM fA X.ms,X5 X,bM g_ X.bs,Ob g1 (.cells #[vP X.g] 26 (0,0)),Rw 44 3 pq ((oz.filter (fun c=>decide ((cn A.asked c).length=1))++oz.filter fun c=>decide ((cn A.asked c).length=2)).length) cq (fl aO (oz.filter (fun c=>decide ((cn A.asked c).length=1))++oz.filter fun c=>decide ((cn A.asked c).length=2))),Rw 3 1 pn25 ((A.cand m.pe).length) cn26 (fl cg (A.cand m.pe)),Ob h4 (.cells #[.slice pq ((oz.filter (fun c=>decide ((cn A.asked c).length=1))++oz.filter fun c=>decide ((cn A.asked c).length=2)).length) cq] 35 (0,0)),Ob h3 (.cells #[.slice pq ((max 0 (min mv ((oz.filter (fun c=>decide ((cn A.asked c).length=1))++oz.filter fun c=>decide ((cn A.asked c).length=2)).length:Int))).toNat) cq] 35 (0,0)),Ob g7 (.cells #[vI mv] 3 (0,0)),Ob g4 (.cells #[vI k] 3 (0,0)),aB w (aT [(XI X A)])]:=hW
  have hV:(A.lookP m.pe most)=(oz.filter (fun c=>decide ((cn A.asked c).length=1))++oz.filter fun c=>decide ((cn A.asked c).length=2)).take mv.toNat:=by rw [hze9,hmv]; unfold PK.lookP; rw [if_pos h0,show m.pe.k=k from hmk]
  have q4:((max 0 (min mv ((oz.filter (fun c=>decide ((cn A.asked c).length=1))++oz.filter fun c=>decide ((cn A.asked c).length=2)).length:Int))).toNat)=min mv.toNat (oz.filter (fun c=>decide ((cn A.asked c).length=1))++oz.filter fun c=>decide ((cn A.asked c).length=2)).length:=by omega
  have hln9:(A.lookP m.pe most).length=((max 0 (min mv ((oz.filter (fun c=>decide ((cn A.asked c).length=1))++oz.filter fun c=>decide ((cn A.asked c).length=2)).length:Int))).toNat):=by rw [hV,List.length_take,q4]
  have h9:=((S.big (L:=[_,_,_,_,_,_,_]) (hW.tk [0,1,2,3,4,5,6,8,14])).tk [1,0,2])
  rw [hln9,hV,← HJ q4]
  exact ⟨_,_,rfl,Ea cN h9 (by omega)⟩
 refine R.g_cond_t rfl (aa h0) ?_
 iterate 2 refine R.g_seq ?_
 refine R.g_region ?_
 refine R.w_v (fun h=>hL h) xm ?_
 refine R.w_v (fun h=>hL h) Aw ?_
 refine R.w_v (fun h=>hL h) xm ?_
 refine R.g_nil ?_
 refine aR ?_
 refine R.g_block ?_
 refine vL (ι:=Nat × Option Addr × Nat × List aV × List Nat) (fun (ii,pq,cq,oz,Ds)=>[(3,vP g1),(5,vP g7),(6,vP h3),(8,vP h4),(42,.slice pn25 ((A.cand m.pe).length) cn26),(43,vI (((A.cand m.pe).length:Int))),(44,vI ii)]) (fun (ii,pq,cq,oz,Ds)=>Ds.map vX) (fun (ii,pq,cq,oz,Ds) wx=>(ii≤(A.cand m.pe).length)∧(oz=(((A.cand m.pe).take ii).flatMap A.freeL).take mv.toNat)∧(oz.length≤8 * ii)∧S wx [Rw 44 3 pq oz.length cq (fl aO oz),X0 X A,X1 X A,X2 X A,X3 X,bM fA X.ms,X5 X,bM g_ X.bs,Rw 3 1 pn25 ((A.cand m.pe).length) cn26 (fl cg (A.cand m.pe)),Ob h4 (.cells #[.slice pq oz.length cq] 35 (0,0)),Ob h3 (.cells #[.slice none 0 0] 35 (0,0)),Ob g7 (.cells #[vI mv] 3 (0,0)),Ob g4 (.cells #[vI k] 3 (0,0)),Ob g1 (.cells #[vP X.g] 26 (0,0)),jc Ds,aB w (aT [(XI X A)])]) (fun (ii,pq,cq,oz,Ds)=>((A.cand m.pe).length) - ii) (0,none,0,[],[]) ⟨rfl,rfl,rfl,rfl,rfl,rfl,rfl,trivial⟩ rfl ⟨Nat.zero_le _,(by rw [List.take_zero,List.flatMap_nil,List.take_nil]),(Nat.zero_le _),((S.nilFl q8 44 3 aO).tk [0,1,2,3,4,5,6,7,8,9,10,11,12,13,14,15])⟩ ?_
 rintro ⟨ii,pq,cq,oz,Ds⟩ r3 ⟨hii,hoz,hol,g9⟩
 refine ah [3,5,6,8,42,43,44] ?_
 refine R.g_seq ?_
 refine R.g_region ?_
 refine R.w_v (fun h=>hL h) (ai rfl rfl rfl dG) ?_
 refine R.g_nil ?_
 refine aR ?_
 refine R.g_seq ?_
 by_cases x6:((ii:Int):Int)<((A.cand m.pe).length:Int)
 ·
  refine R.g_cond_t rfl (dt x6) ?_
  refine R.g_skip ?_
  refine aR ?_
  refine R.g_seq ?_
  refine R.g_block ?_
  refine R.g_seq ?_
  refine R.g_region ?_
  refine R.w_v (fun h=>hL h) (iH ii (g9.rr 8)) ?_
  obtain ⟨H7,h2⟩:=(g9.rr 8).exL bE ii
  obtain ⟨hxc9,hhd9,hop9⟩:=u5 (List.mem_of_getElem? h2)
  refine R.w_v (fun h=>hL h) (nX ii (g9.rr 8) (bE.flAt1 h2 rfl)) ?_
  refine R.w_v (fun h=>hL h) xa ?_
  refine R.g_nil ?_
  refine aR ?_
  refine R.g_seq ?_
  refine R.g_region ?_
  refine R.w_v (fun h=>hL h) (xl g9 13) ?_
  refine R.w_v (fun h=>hL h) xm ?_
  refine R.l_of rfl (fun h=>hL h) (bR (bh rfl) (aP rfl rfl yy) (rO X.g H7 _) ?_)
  rintro _ q2 ⟨ba101,bi102,rfl,x1⟩
  replace x1:=g9.ab2 x1
  refine bW ?_
  refine R.g_nil ?_
  refine aR ?_
  refine R.g_block ?_
  have m5:=x1.b3 [0,1,3,2,4,5,6,7,8,9,10,11,12,13,14,15,16,17]
  have m4:=S.noI (m5.tk [0,1,2,3,4,5,6,7,8,9,10,11,12,13,14,15])
  refine jg (α:=aV) (ι:=Nat) (encs:=vY) (base:=(fN [Ob ba101 (.cells #[vP X.g] 26 (0,0)),Ob bi102 (.cells #[vI H7] 3 (0,0)),X0 X A])) (by omega) rfl rM (mJ (X:=X) (i:=H7) hI) (fun _=>rfl) rfl (fun pre Lx=>∃ (p3:Option Addr),∃ (c3:Nat),∃ (l3:List aV),(l3=(((A.cand m.pe).take ii).flatMap A.freeL++(pre).filter (fun c=>!aF A.had H7 && A.freeC c)).take mv.toNat∧l3.length≤8 * ii+(pre).length)∧Lx=[Rw 44 3 p3 l3.length c3 (fl aO l3),X1 X A,X2 X A,X3 X,bM fA X.ms,X5 X,bM g_ X.bs,Rw 3 1 pn25 ((A.cand m.pe).length) cn26 (fl cg (A.cand m.pe)),Ob h4 (.cells #[.slice p3 l3.length c3] 35 (0,0)),Ob h3 (.cells #[.slice none 0 0] 35 (0,0)),Ob g7 (.cells #[vI mv] 3 (0,0)),Ob g4 (.cells #[vI k] 3 (0,0)),Ob g1 (.cells #[vP X.g] 26 (0,0)),jc Ds,aB w (aT [(XI X A)])]) (fun cc pre Lx=>(cc=.ret∧∃ (p3:Option Addr),∃ (c3:Nat),∃ (l3:List aV),(l3=((A.cand m.pe).flatMap A.freeL).take mv.toNat∧l3.length≤8 * ii+8)∧Lx=[Rw 44 3 p3 l3.length c3 (fl aO l3),X1 X A,X2 X A,X3 X,bM fA X.ms,X5 X,bM g_ X.bs,Rw 3 1 pn25 ((A.cand m.pe).length) cn26 (fl cg (A.cand m.pe)),Ob h4 (.cells #[.slice p3 l3.length c3] 35 (0,0)),Ob h3 (.cells #[.slice p3 l3.length c3] 35 (0,0)),Ob g7 (.cells #[vI mv] 3 (0,0)),Ob g4 (.cells #[vI k] 3 (0,0)),Ob g1 (.cells #[vP X.g] 26 (0,0)),jc Ds,aB w (aT [(XI X A)])])) (fun p ia=>[(3,vP g1),(5,vP g7),(6,vP h3),(8,vP h4),(12,vP ia)]) (fun p ia=>[Ob ia (.cells #[vI p.pc,vI p.bg,vI p.ln] 44 (0,0))]) (fun _ _ _ _ _=>trivial) ⟨pq,cq,oz,⟨by rw [List.filter_nil,List.append_nil]; exact hoz,hol⟩,rfl⟩ m4 ?_ ?_ ?_ ?_
  ·
   rintro l1 p Ly i3 m3
   have hL:¬ LetsOut (fun (_:Exit) (_:Act) (_:World)=>False):=fun ⟨_,_,h⟩=>h
   refine ah [3,5,6,8,51] ?_
   refine R.g_region ?_
   refine R.l_of rfl (fun h=>hL h) (cA m3 gX ?_)
   intro c9 q1 m2
   refine R.l_of rfl (fun h=>hL h) (b_ m2 0 (bh rfl) rfl rfl rfl rfl rfl dE rfl rfl (cs':=#[vI p.pc,vI p.bg,vI p.ln]) rfl ?_)
   intro q0 m1
   refine R.g_nil ?_
   refine aR ?_
   exact iD c9 ⟨rfl,rfl,rfl,rfl,rfl,trivial⟩ m1
  ·
   rintro l1 pr x ia II Kx _ i1 ⟨p3,c3,l3,hJ,rfl⟩ hphi m0
   have k9:=S.unbig (L:=[_]) (m0.tk [3,0,1,2,4,5,6,7,8,9,10,11,12,13,14,15,16,17,18])
   refine ah [3,5,6,8,12] ?_
   obtain ⟨q9,hpr9,hxq9⟩:=hphi
   have hxm9:x∈A.blocks H7:=List.mem_of_getElem? hxq9
   have hpl9:pr.length≤8:=by rw [hpr9]; have h9:=(cZ hI H7).2; rw [List.length_take]; omega
   have c8:=hJ.2
   have g2:S _ [_,_,_,_,_,_,_,_,_,_,_,_,_,_,_,_,_,_,_,_,_]:=S.unbig (k9.tk [1,0,2,3,4,5,6,7,8,9,10,11,12,13,14,15,16,17,18])
   refine R.g_block ?_
   iterate 2 refine R.g_seq ?_
   refine R.g_region ?_
   refine R.w_v (fun ⟨_,_,h⟩=>h) (xl g2 14) ?_
   refine R.w_v (fun ⟨_,_,h⟩=>h) Aw ?_
   refine R.w_v (fun ⟨_,_,h⟩=>h) (xl g2 16) ?_
   refine R.w_v (fun ⟨_,_,h⟩=>h) (ai rfl rfl rfl nm) ?_
   refine R.g_nil ?_
   refine aR ?_
   by_cases g6:(mv:Int)≤(l3.length:Int)
   ·
    refine R.g_cond_t rfl (dt g6) ?_
    refine R.g_seq ?_
    refine R.g_region ?_
    refine R.w_v (fun ⟨_,_,h⟩=>h) (xl g2 14) ?_
    refine R.l_of rfl (fun ⟨_,_,h⟩=>h) (b_ g2 15 (bh rfl) rfl rfl rfl rfl rfl Cd rfl rfl (cs':=#[.slice p3 l3.length c3]) rfl ?_)
    intro n2 k7
    refine R.g_nil ?_
    refine aR ?_
    refine R.g_ret ?_
    refine ae ?_
    have k6:=k7.b3 [0,1,2,3,4,5,6,7,8,9,10,11,12,13,14,15,16,17,18,19,20]
    exact wv (⟨rfl,p3,c3,l3,⟨FY h2 hpr9 hJ.1 (by omega),(by omega)⟩,rfl⟩) (k6.tk [0,2,3,4,5,6,7,8,9,10,11,12,13,14,15,16,17,18])
   refine R.g_cond_f rfl (df g6) ?_
   refine R.g_skip ?_
   refine aR ?_
   refine R.g_seq ?_
   refine R.g_aS [] [] (fun ⟨_,_,h⟩=>h) g2 (fun n1 h5=>?_)
   refine eY 0 18 h5 ?_
   refine aU 1 h5 ?_
   refine aU 2 h5 ?_
   refine eY 3 2 h5 ?_
   refine bT 4 rfl h5 (fun _ H=>fS H 3) ?_
   refine bG (i:=5) ?_
   refine aG (sr x _) ?_
   rintro _ n0 ⟨rfl,H8⟩
   replace H8:=h5.ab0 H8
   refine bW ?_
   refine bF H8 ?_
   refine bT (v:=(pJ ((gZ X.bs) x.at))) 6 rfl H8 (fun _ H=>aH (bU (x:=x.at) jp H 11 rfl rfl rfl rfl ((jQ hI hxc9 hxm9)) vw) (rfl)) ?_
   refine bT (v:=.bool (!(((gZ X.bs) x.at).isSome))) 7 rfl H8 (fun _ _=>ai rfl rfl rfl (oD Tryz.underlying98)) ?_
   refine fP ?_
   refine aR ?_
   refine ah [6,8,12,64] ?_
   rcases ef (((gZ X.bs) x.at).isSome) with h1 | h1
   ·
    refine R.g_cond_f rfl (aa h1) ?_
    refine R.g_skip ?_
    refine aR ?_
    have k5:=H8.b3 [0,1,2,3,4,5,6,7,8,9,10,11,12,13,14,15,16,17,18,19,20]
    exact fb ⟨p3,c3,l3,⟨(by rw [jM (by show ¬ (!aF A.had H7 && A.freeC x)=true; rw [hhd9,lZ hX hxm9 h1]; decide)]; exact hJ.1),(by simp only [List.length_append,List.length_cons,List.length_nil]; omega)⟩,rfl⟩ (k5.tk [0,2,3,4,5,6,7,8,9,10,11,12,13,14,15,16,17,18])
   refine R.g_cond_t rfl (aa h1) ?_
   refine R.g_region ?_
   refine R.w_v (fun ⟨_,_,h⟩=>h) (xl H8 14) ?_
   refine R.w_v (fun ⟨_,_,h⟩=>h) (fS H8 3) ?_
   refine R.l_of rfl (fun ⟨_,_,h⟩=>h) (iU H8 (bh rfl) rfl rfl rfl (vs:=[.agg #[vI x.pc,vI x.bg,vI x.ln]]) rfl Tryz.underlying35 dE gX rfl rfl (cells:=#[vI x.pc,vI x.bg,vI x.ln]) (by kernel_rfl) ?_)
   intro y7 m9 c6
   have hln135a:=(c6.rr 7).lenL cN
   have hln135:(l3++[x]).length=l3.length+1:=by simp only [List.length_append,List.length_cons,List.length_nil] <;> omega
   refine R.l_of rfl (fun ⟨_,_,h⟩=>h) (t6 (m:=1) (l:=l3) (l2:=[x]) cN c6 7 (j0:=0) rfl rfl ⟨rfl,Nat.le_refl _⟩ (bh rfl) rfl rfl rfl rfl rfl rfl Tryz.underlying35 kN rfl (by decide) (by omega) ?_)
   intro x5 x8 m8 k4
   refine R.l_of rfl (fun ⟨_,_,h⟩=>h) (b_ k4 15 (bh rfl) rfl rfl rfl rfl rfl Cd rfl rfl (cs':=#[.slice x5 ((l3++[x]).length) x8]) rfl ?_)
   intro m7 k3
   refine R.g_nil ?_
   refine aR ?_
   have k2:=k3.b3 [1,2,3,0,4,5,6,7,8,9,10,11,12,13,14,15,16,17,18,19,20,21]
   exact fb ⟨x5,x8,(l3++[x]),⟨(by rw [lO (by show (!aF A.had H7 && A.freeC x)=true; rw [hhd9,lZ hX hxm9 h1]; rfl),← List.append_assoc]; exact yU hJ.1 (by omega)),(by simp only [List.length_append,List.length_cons,List.length_nil]; omega)⟩,rfl⟩ (k2.tk [0,3,4,5,6,7,8,9,10,11,12,13,14,15,16,17,18,19])
  ·
   rintro D xs _ y9 hxs ⟨p3,c3,l3,hJ,rfl⟩ k1
   have k0:S _ [_,_,_,_,_,_,_,_,_,_,_,_,_,_,_,_,_,_,_]:=S.unbig (k1.tk [1,0,2,3,4,5,6,7,8,9,10,11,12,13,14,15,16])
   have b9:S _ [_,_,_,_,_,_,_,_,_,_,_,_,_,_,_,_,_,_]:=S.consMark (k0.tk [3,0,1,2,4,5,6,7,8,9,10,11,12,13,14,15,16,17,18]) (k:=16) rfl
   refine aC ?_
   refine R.g_region ?_
   refine R.w_v (fun h=>hL h) (v:=vI (((ii+1:Nat):Int))) (ai rfl rfl rfl (dY (by rw [jD (by omega)]; omega))) ?_
   refine R.w_v (fun h=>hL h) xm ?_
   refine R.g_nil ?_
   refine aR ?_
   refine nw (i:=(ii,pq,cq,oz,Ds)) ((ii+1),p3,c3,l3,(D :: Ds)) ?_ rfl ?_ ?_
   · exact ⟨rfl,rfl,rfl,rfl,rfl,rfl,rfl,trivial⟩
   · exact ⟨by omega,(by rw [hxs] at hJ; rw [qY h2]; exact hJ.1),(by have h9:=hJ.2; rw [hxs] at h9; have h8:=(cZ hI H7).2; omega),(b9.tk [3,2,4,5,6,7,8,9,10,11,12,13,14,15,16,17])⟩
   (try dsimp only); omega
  rintro D cc pr _ y8 _ ⟨rfl,p3,c3,l3,hst,rfl⟩ b8
  have b6:S _ [_,_,_,_,_,_,_,_,_,_,_,_,_,_,_,_,_,_,_]:=S.unbig (b8.tk [1,0,2,3,4,5,6,7,8,9,10,11,12,13,14,15,16])
  have b2:S _ [_,_,_,_,_,_,_,_,_,_,_,_,_,_,_,_,_,_]:=S.consMark (b6.tk [3,0,1,2,4,5,6,7,8,9,10,11,12,13,14,15,16,17,18]) (k:=16) rfl
  refine zX ?_
  refine cp ?_
  refine lx (b2.tk [16,0,1,2,3,4,5,6,7,8,9,10,11,12,13,14,15,17]) [.cell 6 35] [.slice p3 l3.length c3] rfl (fun W' hW=>⟨⟨⟨_,rfl,dp Tryz.underlying35 rfl (hW.cell (k:=12) rfl rfl)⟩,trivial⟩,?_⟩)
  replace hW:S W' [Ob ba101 (.cells #[vP X.g] 26 (0,0)),Ob bi102 (.cells #[vI H7] 3 (0,0)),X0 X A,Rw 44 3 p3 l3.length c3 (fl aO l3),X1 X A,X2 X A,X3 X,bM fA X.ms,X5 X,bM g_ X.bs,Rw 3 1 pn25 ((A.cand m.pe).length) cn26 (fl cg (A.cand m.pe)),Ob h4 (.cells #[.slice p3 l3.length c3] 35 (0,0)),Ob h3 (.cells #[.slice p3 l3.length c3] 35 (0,0)),Ob g7 (.cells #[vI mv] 3 (0,0)),Ob g4 (.cells #[vI k] 3 (0,0)),Ob g1 (.cells #[vP X.g] 26 (0,0)),aB w (aT [(XI X A)])]:=hW
  have hV:(A.lookP m.pe most)=l3:=by rw [hst.1]; unfold PK.lookP; rw [if_neg (by rw [h0]; decide),← hmv]
  rw [hV]
  exact ⟨_,_,rfl,((S.big (L:=[_,_,_,_,_,_,_]) (hW.tk [2,4,5,6,7,8,9,3,16])).tk [1,0,2])⟩
 refine R.g_cond_f rfl (df x6) ?_
 refine R.g_exit ?_
 rw [List.take_of_length_le (l:=A.cand m.pe) (by omega)] at hoz
 refine aE ?_
 refine R.g_seq ?_
 refine R.g_region ?_
 refine R.w_v (fun h=>hL h) (xl g9 9) ?_
 refine R.l_of rfl (fun h=>hL h) (b_ g9 10 (bh rfl) rfl rfl rfl rfl rfl Cd rfl rfl (cs':=#[.slice pq oz.length cq]) rfl ?_)
 intro m6 b1
 refine R.g_nil ?_
 refine aR ?_
 refine R.g_ret ?_
 refine aR ?_
 refine lx (b1.tk [14,0,1,2,3,4,5,6,7,8,9,10,11,12,13,15]) [.cell 6 35] [.slice pq oz.length cq] rfl (fun W' hW=>⟨⟨⟨_,rfl,dp Tryz.underlying35 rfl (hW.cell (k:=10) rfl rfl)⟩,trivial⟩,?_⟩)
 replace hW:S W' [Rw 44 3 pq oz.length cq (fl aO oz),X0 X A,X1 X A,X2 X A,X3 X,bM fA X.ms,X5 X,bM g_ X.bs,Rw 3 1 pn25 ((A.cand m.pe).length) cn26 (fl cg (A.cand m.pe)),Ob h4 (.cells #[.slice pq oz.length cq] 35 (0,0)),Ob h3 (.cells #[.slice pq oz.length cq] 35 (0,0)),Ob g7 (.cells #[vI mv] 3 (0,0)),Ob g4 (.cells #[vI k] 3 (0,0)),Ob g1 (.cells #[vP X.g] 26 (0,0)),aB w (aT [(XI X A)])]:=hW
 have hV:(A.lookP m.pe most)=oz:=by rw [hoz]; unfold PK.lookP; rw [if_neg (by rw [h0]; decide),← hmv]
 rw [hV]
 exact ⟨_,_,rfl,((S.big (L:=[_,_,_,_,_,_,_]) (hW.tk [1,2,3,4,5,6,7,0,14])).tk [1,0,2])⟩
end Go.Proofs.YthmmfhdpkddniaaGreatDoor
