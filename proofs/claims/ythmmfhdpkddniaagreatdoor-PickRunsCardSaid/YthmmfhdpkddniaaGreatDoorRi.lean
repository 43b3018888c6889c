import Derived.Test.YthmmfhdpkddniaaGreatDoorRh
set_option maxRecDepth 20000
set_option maxHeartbeats 4000000
set_option linter.all false
namespace Go.Proofs.YthmmfhdpkddniaaGreatDoor
open Go.RowKit
theorem RL:aI Tryz.prog 89=true:=by kernel_rfl
theorem NP {Z:ZP} {A:PK} {k:Int} (hZ:fU Z A) (h0:A.peE k=0):∃ (i:Nat) (x:Rp),Z.rs[i]?=some x∧x.k=k:=by
 obtain ⟨_,_,i,p,hp,hk,_⟩:=vh h0
 rw [← hZ,List.getElem?_map] at hp
 cases hx:Z.rs[i]? with
 | none=>rw [hx] at hp; cases hp
 | some x=>rw [hx] at hp; cases hp; exact ⟨i,x,hx,hk⟩
theorem iC.eq {Z:ZP} {A:PK} {j:Nat} {k n:Int} {i:Nat} {x:Rp} (hZ:fU Z A) (hI:bQ j A) (hx:Z.rs[i]?=some x) (hk:x.k=k) (h:iC Z k n):n=(i:Int):=by
 rcases h with ⟨i',x',rfl,hx',hk'⟩ | ⟨_,hn⟩
 · have h1:=fU.at hZ hx
   have h2:=fU.at hZ hx'
   have hn:=hI.nd
   have l1:=(List.getElem?_eq_some_iff.1 h1).1
   have l2:=(List.getElem?_eq_some_iff.1 h2).1
   have e1:(A.peers.map fV.k)[i]?=(A.peers.map fV.k)[i']?:=by
     rw [List.getElem?_map,List.getElem?_map,h1,h2]
     show some x.k=some x'.k
     rw [hk,hk']
   have:=(List.getElem?_inj (by rw [List.length_map]; exact l1) hn).1 e1
   omega
 · exact absurd hk (hn x (List.mem_of_getElem? hx))
theorem qY {α β:Type} {l:List α} {i:Nat} {x:α} (h:l[i]?=some x) (f:α→List β):(l.take (i+1)).flatMap f=(l.take i).flatMap f++f x:=by
 rw [aj h,List.flatMap_append]; simp
theorem Aq {β:Type} {b:Nat} {l:List Int} {f:Int→List β} (h:∀ x∈l,(f x).length≤b) (i:Nat) (hi:i≤24):((l.take i).flatMap f).length≤24 * b:=by
 have h1:=vM (l:=l.take i) (f:=f) (b:=b) fun x hx=>h x (List.mem_of_mem_take hx)
 have h2:(l.take i).length≤24:=by rw [List.length_take]; omega
 exact Nat.le_trans h1 (Nat.mul_le_mul_right _ h2)
theorem yU {α:Type} {l m:List α} {x:α} {k:Nat} (h:l=m.take k) (hl:l.length<k):l++[x]=(m++[x]).take k:=by
 have hm:m.length<k:=by
   rw [h,List.length_take] at hl; omega
 rw [List.take_of_length_le (by rw [List.length_append]; simp only [List.length_cons,List.length_nil]; omega),h,List.take_of_length_le (by omega)]
theorem Fa {α:Type} {l m:List α} {x:α} {k:Nat} (h:l=m.take k) (hl:¬ l.length<k):l=(m++[x]).take k:=by
 have hm:k≤m.length:=by
   rw [h,List.length_take] at hl; omega
 rw [h,List.take_append_of_le_length hm]
theorem xy {A:PK} {p:fV} (h:A.endB=true):(A.cand p).flatMap A.freeL=[]:=by
 rw [List.flatMap_eq_nil_iff]
 intro i hi
 obtain ⟨h1,h2⟩:=qs.1 hi
 unfold PK.endB at h
 rw [List.all_eq_true] at h
 have h3:=h i (uq.2 h1)
 have h4:A.openB i=true:=by unfold PK.candB at h2; simp only [Bool.and_eq_true] at h2; exact h2.1.1
 rw [h4] at h3
 simp only [Bool.not_true,Bool.false_or] at h3
 rw [List.all_eq_true] at h3
 unfold PK.freeL
 rw [List.filter_eq_nil_iff]
 intro c hc
 have:=h3 c hc
 simp only [Bool.not_eq_eq_eq_not,Bool.not_true] at this
 rw [this]; simp
theorem lO {α:Type} {P:α→Bool} {m:List α} {x:α} (h:P x=true):(m++[x]).filter P=m.filter P++[x]:=by
 rw [List.filter_append,List.filter_cons,if_pos h]; rfl
theorem jM {α:Type} {P:α→Bool} {m:List α} {x:α} (h:¬ P x=true):(m++[x]).filter P=m.filter P:=by
 rw [List.filter_append,List.filter_cons,if_neg h]; simp
theorem NR {A:PK} {p:fV} {oz:List aV} (h:oz=(A.cand p).flatMap A.freeL) (he:A.endB=true):oz=[]:=by rw [h,xy he]
theorem C_ {A:PK} {p:fV} {most:Int} {m:Nat} (hle:m≤((A.cand p).flatMap A.freeL).length) (hm:m=(A.mostV p most).toNat):A.lookP p most=((A.cand p).flatMap A.freeL).take m:=by
 unfold PK.lookP
 by_cases he:A.endB=true
 · have h0:m=0:=by rw [xy he] at hle; simpa using hle
   rw [if_pos he,xy he,← hm,h0]; rfl
 · rw [if_neg he,← hm]
theorem qx {A:PK} {k:Int} {t:Nat} {c:aV}:A.endB1 k t c=(decide (((cn A.asked c).length:Int)=(t:Int)) && (!decide (k∈cn A.asked c) && !decide (c∈A.here))):=by
 unfold PK.endB1
 have e:decide ((cn A.asked c).length=t)=decide (((cn A.asked c).length:Int)=(t:Int)):=decide_eq_decide.2 (by omega)
 rw [e]
 cases decide (c∈A.here) <;> cases decide (((cn A.asked c).length:Int)=(t:Int)) <;> cases decide (k∈cn A.asked c) <;> rfl
theorem uB {l:List Int} {i:Nat} {x k:Int} (h:l[i]?=some x):decide (k∈l.take (i+1))=(decide (k∈l.take i) || decide (x=k)):=by
 rw [aj h]
 by_cases h1:k∈l.take i <;> by_cases h2:x=k <;> simp [h1,h2]
 · exact fun e=>h2 e.symm
theorem IW {A:PK} {k:Int} {cd:List Int} {t:Nat} {m:Nat} (ht:t+1≤2):((if t=0 then [] else A.endL k cd 1)++(if t=2 then A.endL k cd 2 else [])++A.endL k cd (t+1)).take m=((if t+1=0 then [] else A.endL k cd 1)++(if t+1=2 then A.endL k cd 2 else [])).take m:=by
 have:t=0∨t=1:=by omega
 rcases this with rfl | rfl
 · simp
 · simp
theorem qw {j:Nat} {A:PK} (h:bQ j A) (k:Int) (l:List Int) (hl:l.length≤24) (t:Nat):(A.endL k l t).length≤192:=by
 unfold PK.endL
 have h1:=vM (l:=l) (f:=fun i=>(A.blocks i).filter (A.endB1 k t)) (b:=8) fun i _=>Nat.le_trans (List.length_filter_le _ _) (cZ h i).2
 omega
theorem KZ {j:Nat} {A:PK} (h:bQ j A) {k:Int} (p:fV) (t m:Nat):(((if t=0 then [] else A.endL k (A.cand p) 1)++(if t=2 then A.endL k (A.cand p) 2 else [])).take m).length≤384:=by
 have h1:=qw h k (A.cand p) (by have:=km A p; have:=h.n24; omega) 1
 have h2:=qw h k (A.cand p) (by have:=km A p; have:=h.n24; omega) 2
 rw [List.length_take,List.length_append]
 have e1:(if t=0 then [] else A.endL k (A.cand p) 1).length≤192:=by split; exact Nat.zero_le _; exact h1
 have e2:(if t=2 then A.endL k (A.cand p) 2 else []).length≤192:=by split; exact h2; exact Nat.zero_le _
 omega
theorem IX {j:Nat} {A:PK} (h:bQ j A) {k:Int} (p:fV) (t i m:Nat):(((if t=0 then [] else A.endL k (A.cand p) 1)++(if t=2 then A.endL k (A.cand p) 2 else [])++A.endL k ((A.cand p).take i) (t+1)).take m).length≤768:=by
 have h1:=qw h k (A.cand p) (by have:=km A p; have:=h.n24; omega) 1
 have h2:=qw h k (A.cand p) (by have:=km A p; have:=h.n24; omega) 2
 have h3:=qw h k ((A.cand p).take i) (by have:=km A p; have:=h.n24; rw [List.length_take]; omega) (t+1)
 rw [List.length_take,List.length_append,List.length_append]
 have e1:(if t=0 then [] else A.endL k (A.cand p) 1).length≤192:=by split; exact Nat.zero_le _; exact h1
 have e2:(if t=2 then A.endL k (A.cand p) 2 else []).length≤192:=by split; exact h2; exact Nat.zero_le _
 omega
theorem Ea {α:Type} {enc:α→List Value} {size e n c k:Nat} {p:Option Addr} {l:List α} {w:World} {L:List aD} (E:mT size enc) (H:S w (Rw e size p n c (fl enc l) :: L)) (hk:k≤n):S w (Rw e size p k c (fl enc (l.take k)) :: L):=by
 obtain ⟨k1,k2,k3,k4⟩:=H.rw (k:=0) rfl
 have hl:(fl enc (l.take k)).length=k * size:=by
   rw [← E.flTake,List.length_take,k1]; exact Nat.min_eq_left (Nat.mul_le_mul_right _ hk)
 refine H.turn (k:=0) rfl iY.rfl' ⟨hl,by omega,k3,?_⟩ (fun g hg=>⟨.inl hg,H.lt (k:=0) rfl hg⟩)
 rcases k4 with ⟨h1,h2,h3⟩ | ⟨g,o,cur,h1,h2,h3,h4⟩
 · exact .inl ⟨h1,by omega,h3⟩
 refine .inr ⟨g,o,cur,h1,h2,h3,fun j u hu=>h4 j u ?_⟩
 rw [← E.flTake] at hu
 have hj:=(List.getElem?_eq_some_iff.1 hu).1
 rw [List.length_take] at hj
 rwa [List.getElem?_take_of_lt (by omega)] at hu
theorem N_ (Z:ZP) (A:PK) (j:Nat) (hZ:fU Z A) (hI:bQ j A) (k most:Int) (hmm:cO most) (hj:j≤100000)  (w:World) (HS:S w [(ZI Z A)]):Calls Tryz.prog 122 #[vP Z.g,vI k,vI most] w fun e w'=>∃ p' c',e=.returned (.tuple #[.slice p' (A.lookV k most).length c',vI (A.lookE k most)])∧S w' ([Rw 44 3 p' (A.lookV k most).length c' (fl aO (A.lookV k most)),(ZI Z A)]++[aB w (aT [(ZI Z A)])]):=by
 have H0:=HS.bu
 have h8:=hI.a8
 have hrs9:Z.rs.length≤100:=by have h9:=hI.pl; rw [← hZ,List.length_map] at h9; exact h9
 unfold cO at hmm
 have hal9:=hI.al
 have hhl9:=hI.hl
 refine en Tryz.func122 ?_
 refine ah [0,1,2] ?_
 refine eG ?_
 by_cases g5:(most:Int)<0
 ·
  refine bm g5 ?_
  refine a_ ?_
  refine af ?_
  have hE:(A.lookE k most)=7:=if_pos g5
  have hV:(A.lookV k most)=[]:=by unfold PK.lookV; rw [hE]; exact if_neg (by decide)
  rw [hE,hV]
  exact ⟨none,0,rfl,(H0.b7 [0,1,2,3,4,5,6,7]).nilFl 44 3 aO⟩
 refine br g5 ?_
 refine a_ ?_
 refine l_of (fZ H0 [0,1,2,3,4,5,6,7] (oQ Z A j hZ hI k _) ?_)
 intro v8 H5
 refine aE ?_
 refine bP (v:=.bool (!decide (((A.peE k):Int)=0))) (hb:=eh) ?_
 refine cD ?_
 by_cases g4:((A.peE k):Int)=0
 ·
  obtain ⟨fi,fx,hfx,hfk⟩:=NP hZ g4
  have hfl:=fU.at hZ hfx
  have hln:fx.fld.length=A.n∧fx.alw.length=A.n∧fx.sug.length=A.n:=hI.fl _ (List.mem_of_getElem? hfl)
  have hfi9:=(List.getElem?_eq_some_iff.1 hfx).1
  refine kw g4 ?_
  refine ae ?_
  refine g_seq ?_
  refine g_cut (ι:=Int) (fun mv=>[(0,vP Z.g),(1,vI k),(2,vI mv)]) (fun mv wx=>(mv=max 0 (A.mostV fx.pe most))∧(0≤mv)∧S wx [Z0 Z A,Z1 Z A,Z2 Z A,Z3 Z A,Z4 Z A,Z5 Z,bM gW Z.rs,aB w (aT [(ZI Z A)])]) ?_ ?_
  ·
   refine g_seq ?_
   refine g_aS [] [] H5 (fun v7 H8=>?_)
   refine aU 0 H8 ?_
   refine aU 1 H8 ?_
   refine aU 2 H8 ?_
   refine eY 3 0 H8 ?_
   refine aU 4 H8 ?_
   refine aU 5 H8 ?_
   refine bG (i:=6) ?_
   have m1:=H8.b7 [0,1,2,3,4,5,6,7]
   refine aG (jL Z A j hZ hI k _ (m1.tk [0])) ?_
   rintro _ q9 ⟨fi9,rfl,hfi10,b9⟩
   replace b9:=m1.aI1 [0] b9
   obtain rfl:fi9=(fi:Int):=iC.eq hZ hI hfx hfk hfi10
   have h7:=b9.ub [0,1]
   refine bW ?_
   refine bF (h7.tk [0,1,2,3,4,5,6,7]) ?_
   refine bT (v:=.pointer ((Z.pp).map fun q=>q.add (fi * 6))) 7 rfl (h7.tk [0,1,2,3,4,5,6,7]) (fun _ _=>eZ fi ((h7.rr 5).some (by omega))) ?_
   refine bT (v:=.pointer ((Z.pp).map fun q=>q.add (fi * 6+5))) 8 rfl (h7.tk [0,1,2,3,4,5,6,7]) (fun _ _=>aH (bJ (m:=fi * 6) ((h7.rr 5).some (by omega)) rfl rfl Et) rfl) ?_
   refine bT (v:=.bool fx.sn) 9 rfl (h7.tk [0,1,2,3,4,5,6,7]) (fun _ H=>eX (i:=5) (j:=fi) mR (H.rr 5) hfx rfl rfl Tryz.underlying4 rfl rfl) ?_
   refine fP ?_
   refine aR ?_
   refine ah [0,1,2,41] ?_
   rcases ef (fx.sn) with h4 | h4
   ·
    refine g_cond_t rfl h4 ?_
    refine aE ?_
    have m0:=h7.b7 [0,1,2,3,4,5,6,7]
    refine l_of (aG (qP Z A j hZ hI k (by omega) _ (m0.tk [0])) ?_)
    rintro _ q8 ⟨r0,r3,rfl,b8⟩
    replace b8:=m0.aI2 [0] b8
    have hmlpa16:=iK A.asked k
    have hal9:=hI.al
    have v6:=b8.ub [1,0,2]
    refine bW ?_
    refine aR ?_
    refine bP (v:=vI (1 - ((bO A.asked k).length:Int))) (hb:=(vj (jD (by omega)))) ?_
    refine w_v (v:=vI (max 0 (1 - ((bO A.asked k).length:Int)))) (Mk rfl rfl rfl) ?_
    refine w_v (v:=vI (min most (max 0 (1 - ((bO A.asked k).length:Int))))) (yL rfl rfl rfl) ?_
    refine ae ?_
    refine iu (min most (max 0 (1 - ((bO A.asked k).length:Int)))) ?_ ?_
    · exact ⟨rfl,rfl,rfl,trivial⟩
    exact ⟨(by unfold PK.mostV; rw [show fx.pe.sn=fx.sn from rfl,show fx.pe.k=k from hfk,h4]; simp only [if_true,if_false,Bool.false_eq_true]; omega),(by omega),(v6.tk [0,1,2,3,4,5,6,8])⟩
   refine g_cond_f rfl h4 ?_
   refine ae ?_
   refine iu (most) ?_ ?_
   · exact ⟨rfl,rfl,rfl,trivial⟩
   exact ⟨(by unfold PK.mostV; rw [show fx.pe.sn=fx.sn from rfl,show fx.pe.k=k from hfk,h4]; simp only [if_true,if_false,Bool.false_eq_true]; omega),(by omega),(h7.tk [0,1,2,3,4,5,6,7])⟩
  rintro mv q7 ⟨hmv,v9,v5⟩
  refine ah [0,1,2] ?_
  refine aC ?_
  have k9:=v5.b7 [0,1,2,3,4,5,6,7]
  refine l_of (aG (Lz Z A j hZ hI fi fx hfx k hfk (by omega) _ (k9.tk [0])) ?_)
  rintro _ q6 ⟨pn24,cn25,rfl,b6⟩
  replace b6:=k9.aI2 [0] b6
  have hcl9:=km A fx.pe
  have v4:=b6.ub [1,0,2]
  refine bW ?_
  refine aC ?_
  have v3:=v4.nilFl 44 3 aO
  refine eG ?_
  refine cQ (ι:=Nat × Option Addr × Nat × List aV) (fun (ii,pq,cq,oz)=>[(0,vP Z.g),(1,vI k),(2,vI mv),(9,.slice pn24 ((A.cand fx.pe).length) cn25),(10,.slice pq oz.length cq),(53,.slice pn24 ((A.cand fx.pe).length) cn25),(54,vI (((A.cand fx.pe).length:Int))),(55,vI ii)]) (fun (ii,pq,cq,oz) wx=>(ii≤(A.cand fx.pe).length)∧(oz=((A.cand fx.pe).take ii).flatMap A.freeL)∧S wx [Rw 44 3 pq oz.length cq (fl aO oz),Rw 3 1 pn24 ((A.cand fx.pe).length) cn25 (fl cg (A.cand fx.pe)),Z0 Z A,Z1 Z A,Z2 Z A,Z3 Z A,Z4 Z A,Z5 Z,bM gW Z.rs,aB w (aT [(ZI Z A)])]) (fun (ii,pq,cq,oz)=>((A.cand fx.pe).length) - ii) (0,none,0,[]) ⟨Nat.zero_le _,rfl,(v3.tk [0,8,1,2,3,4,5,6,7,9])⟩ ?_
  rintro ⟨ii,pq,cq,oz⟩ q5 ⟨hii,hoz,g8⟩
  refine ah [0,1,2,9,10,53,54,55] ?_
  have hozl:oz.length≤192:=by rw [hoz]; exact Aq (b:=8) (fun x _=>qW hI x) ii (by omega)
  refine aC ?_
  refine g_seq ?_
  by_cases x6:((ii:Int):Int)<((A.cand fx.pe).length:Int)
  ·
   refine bm x6 ?_
   refine aQ ?_
   refine w_v (iH ii (g8.rr 1)) ?_
   obtain ⟨g9,g3⟩:=(g8.rr 1).exL bE ii
   have hxc9:=(qs.1 (List.mem_of_getElem? g3)).1
   refine w_v (nX ii (g8.rr 1) (bE.flAt1 g3 rfl)) ?_
   refine aQ ?_
   have k7:=g8.b7 [2,3,4,5,6,7,8,0,1,9]
   refine l_of (aG (xw Z A j hZ hI g9 hxc9 (by omega) _ (k7.tk [0])) ?_)
   rintro _ q4 ⟨pf35,cf36,rfl,b2⟩
   replace b2:=k7.aI2 [0] b2
   have hflpf35:=qW hI g9
   have w9:=b2.ub [1,0,2,3,4]
   refine bW ?_
   refine eG ?_
   have hln45a:=(w9.rr 8).lenL cN
   have hln45b:=(w9.rr 7).lenL cN
   have hln45:(oz++(A.freeL g9)).length=oz.length+((A.freeL g9).length):=by simp only [List.length_append,List.length_cons,List.length_nil] <;> omega
   refine l_of (iO (l:=oz) (l2:=(A.freeL g9)) cN w9 8 (bh rfl) rfl rfl rfl rfl rfl rfl Tryz.underlying35 kN rfl (by decide) (w9.rr 7) (by omega) ?_)
   intro r2 r7 q3 v2
   refine aE ?_
   refine ah [0,1,2,9,10,53,54,55] ?_
   refine aR ?_
   refine gI ii ?_
   refine ae ?_
   refine bD (i:=(ii,pq,cq,oz)) ((ii+1),r2,r7,(oz++(A.freeL g9))) ⟨by omega,(by rw [qY g3,← hoz]),(v2.tk [8,9,0,1,2,3,4,5,6,10])⟩
  refine br x6 ?_
  refine aR ?_
  rw [List.take_of_length_le (by omega)] at hoz
  refine io ?_
  by_cases x5:(mv:Int)≤(oz.length:Int)
  ·
   refine bm x5 ?_
   refine aC ?_
   have hnc:=(g8.rr 0).2.1
   refine w_v (v:=.slice pq ((mv).toNat) cq) (aH (ui ((mv).toNat) rfl rfl rfl Tryz.underlying35 dE (by omega)) (by rw [DJ])) ?_
   refine aC ?_
   refine ah [6,7] ?_
   refine ae ?_
   refine af ?_
   have hE:(A.lookE k most)=0:=(if_neg g5).trans g4
   have hf9:fD A.peers k=some fx.pe:=by rw [← hfk]; exact jh hI.nd hfl
   have hV0:(A.lookV k most)=A.lookP fx.pe most:=by unfold PK.lookV; rw [if_pos hE,hf9]
   have hmt:mv.toNat=(A.mostV fx.pe most).toNat:=by omega
   have hV:(A.lookV k most)=oz.take mv.toNat:=by rw [hV0,hoz]; exact C_ (by rw [← hoz]; omega) hmt
   have hln9:(oz.take mv.toNat).length=mv.toNat:=by rw [List.length_take]; omega
   have h9:=((S.big (L:=[_,_,_,_,_,_,_]) (g8.tk [2,3,4,5,6,7,8,0,9])).tk [1,0,2])
   rw [hV,hE,hln9]
   exact ⟨_,_,rfl,Ea cN h9 (by omega)⟩
  refine br x5 ?_
  refine aQ ?_
  refine l_of (fZ g8 [2,3,4,5,6,7,8,0,1,9] (BB Z A j hZ hI (by omega) _) ?_)
  intro q2 k6
  refine w_v (cj (b:=A.endB) rfl rfl) ?_
  refine cD ?_
  rcases ef (A.endB) with h3 | h3
  ·
   refine g_cond_f rfl (aa h3) ?_
   refine cp ?_
   refine cQ (ι:=Nat × Option Addr × Nat × List aV) (fun (t,pt,ct,ot)=>[(0,vP Z.g),(1,vI k),(2,vI mv),(9,.slice pn24 ((A.cand fx.pe).length) cn25),(10,.slice pt ot.length ct),(15,vI (((t+1:Nat):Int)))]) (fun (t,pt,ct,ot) wx=>(t≤2)∧(ot=((if t=0 then [] else A.endL k (A.cand fx.pe) 1)++(if t=2 then A.endL k (A.cand fx.pe) 2 else [])).take mv.toNat)∧S wx [Rw 44 3 pt ot.length ct (fl aO ot),Rw 3 1 pn24 ((A.cand fx.pe).length) cn25 (fl cg (A.cand fx.pe)),Z0 Z A,Z1 Z A,Z2 Z A,Z3 Z A,Z4 Z A,Z5 Z,bM gW Z.rs,aB w (aT [(ZI Z A)])]) (fun (t,pt,ct,ot)=>2 - t) (0,pq,cq,oz) ⟨(by omega),(by rw [NR hoz h3]; exact List.take_nil.symm),(k6.tk [7,8,0,1,2,3,4,5,6,9])⟩ ?_
   rintro ⟨t,pt,ct,ot⟩ q1 ⟨ht,hot,k5⟩
   refine ah [0,1,2,9,10,15] ?_
   have hotl:ot.length≤384:=by rw [hot]; exact KZ hI _ t _
   refine aQ ?_
   by_cases x4:(((t+1:Nat):Int):Int)≤2
   ·
    refine bm x4 ?_
    refine cS ?_
    refine cQ (ι:=Nat × Option Addr × Nat × List aV) (fun (ij,pu,cu,ou)=>[(0,vP Z.g),(1,vI k),(2,vI mv),(9,.slice pn24 ((A.cand fx.pe).length) cn25),(10,.slice pu ou.length cu),(15,vI (((t+1:Nat):Int))),(84,.slice pn24 ((A.cand fx.pe).length) cn25),(85,vI (((A.cand fx.pe).length:Int))),(86,vI ij)]) (fun (ij,pu,cu,ou) wx=>(ij≤(A.cand fx.pe).length)∧(ou=(((if t=0 then [] else A.endL k (A.cand fx.pe) 1)++(if t=2 then A.endL k (A.cand fx.pe) 2 else []))++A.endL k ((A.cand fx.pe).take ij) (t+1)).take mv.toNat)∧S wx [Rw 44 3 pu ou.length cu (fl aO ou),Rw 3 1 pn24 ((A.cand fx.pe).length) cn25 (fl cg (A.cand fx.pe)),Z0 Z A,Z1 Z A,Z2 Z A,Z3 Z A,Z4 Z A,Z5 Z,bM gW Z.rs,aB w (aT [(ZI Z A)])]) (fun (ij,pu,cu,ou)=>((A.cand fx.pe).length) - ij) (0,pt,ct,ot) ⟨Nat.zero_le _,(by rw [hot]; unfold PK.endL; rw [List.take_zero,List.flatMap_nil,List.append_nil]),(k5.tk [0,1,2,3,4,5,6,7,8,9])⟩ ?_
    rintro ⟨ij,pu,cu,ou⟩ q0 ⟨hij,hou,c8⟩
    refine ah [0,1,2,9,10,15,84,85,86] ?_
    have houl:ou.length≤768:=by rw [hou]; exact IX hI _ t _ _
    refine aC ?_
    refine g_seq ?_
    by_cases x3:((ij:Int):Int)<((A.cand fx.pe).length:Int)
    ·
     refine bm x3 ?_
     refine aQ ?_
     refine w_v (iH ij (c8.rr 1)) ?_
     obtain ⟨h0,g2⟩:=(c8.rr 1).exL bE ij
     have hxc9:=(qs.1 (List.mem_of_getElem? g2)).1
     refine w_v (nX ij (c8.rr 1) (bE.flAt1 g2 rfl)) ?_
     refine aQ ?_
     have k4:=c8.b7 [2,3,4,5,6,7,8,0,1,9]
     refine l_of (aG (nz Z A j hZ hI h0 hxc9 _ (k4.tk [0])) ?_)
     rintro _ n2 ⟨pb59,cb60,rfl,b1⟩
     replace b1:=k4.aI2 [0] b1
     have hblpb59:=(cZ hI h0).2
     have v1:=b1.ub [1,0,2,3,4]
     refine bW ?_
     refine aE ?_
     refine cQ (ι:=Nat × Option Addr × Nat × List aV) (fun (ib,pv,cv,ov)=>[(0,vP Z.g),(1,vI k),(2,vI mv),(9,.slice pn24 ((A.cand fx.pe).length) cn25),(10,.slice pv ov.length cv),(15,vI (((t+1:Nat):Int))),(84,.slice pn24 ((A.cand fx.pe).length) cn25),(85,vI (((A.cand fx.pe).length:Int))),(86,vI ij),(92,.slice pb59 ((A.blocks h0).length) cb60),(93,vI (((A.blocks h0).length:Int))),(94,vI ib)]) (fun (ib,pv,cv,ov) wx=>(ib≤(A.blocks h0).length)∧(ov=(((if t=0 then [] else A.endL k (A.cand fx.pe) 1)++(if t=2 then A.endL k (A.cand fx.pe) 2 else []))++A.endL k ((A.cand fx.pe).take ij) (t+1)++((A.blocks h0).take ib).filter (A.endB1 k (t+1))).take mv.toNat)∧(ov.length≤768+ib)∧S wx [Rw 44 3 pv ov.length cv (fl aO ov),Rw 3 1 pn24 ((A.cand fx.pe).length) cn25 (fl cg (A.cand fx.pe)),Rw 44 3 pb59 ((A.blocks h0).length) cb60 (fl aO (A.blocks h0)),Z0 Z A,Z1 Z A,Z2 Z A,Z3 Z A,Z4 Z A,Z5 Z,bM gW Z.rs,aB w (aT [(ZI Z A)])]) (fun (ib,pv,cv,ov)=>((A.blocks h0).length) - ib) (0,pu,cu,ou) ⟨Nat.zero_le _,(by rw [hou,List.take_zero,List.filter_nil,List.append_nil]),(by omega),(v1.tk [8,9,7,0,1,2,3,4,5,6,10])⟩ ?_
     rintro ⟨ib,pv,cv,ov⟩ n1 ⟨hib,hov,hvl,c7⟩
     refine ah [0,1,2,9,10,15,84,85,86,92,93,94] ?_
     refine aC ?_
     refine g_seq ?_
     by_cases x2:((ib:Int):Int)<((A.blocks h0).length:Int)
     ·
      refine bm x2 ?_
      refine aQ ?_
      refine w_v (iH ib (c7.rr 2)) ?_
      obtain ⟨H4,h2⟩:=(c7.rr 2).exL cN ib
      refine w_v (bc (vs:=aO H4) ib (c7.rr 2) (by omega) rfl rfl Tryz.underlying44 rfl dE (by rfl) (cN.flAt h2)) ?_
      refine l_of (cA c7 gX ?_)
      intro k0 n0 v0
      refine l_of (eu v0 0 ?_)
      intro m9 k3
      refine aC ?_
      refine w_v (fS k3 0) ?_
      have k2:=k3.b7 [4,5,6,7,8,9,10,0,1,2,3,11]
      refine l_of (aG (MR Z A j hZ hI H4 (by omega) _ (k2.tk [0])) ?_)
      rintro _ m8 ⟨g0,g6,rfl,b0⟩
      replace b0:=k2.aI2 [0] b0
      have holpo74:=kY A.asked H4
      have hal9:=hI.al
      have u9:=b0.ub [1,0,2,3,4,5,6]
      refine bW ?_
      refine jG ?_
      refine cQ (ι:=Nat × Bool) (fun (iw,mi)=>[(0,vP Z.g),(1,vI k),(2,vI mv),(9,.slice pn24 ((A.cand fx.pe).length) cn25),(10,.slice pv ov.length cv),(15,vI (((t+1:Nat):Int))),(19,vP k0),(20,.slice g0 ((cn A.asked H4).length) g6),(21,.bool mi),(84,.slice pn24 ((A.cand fx.pe).length) cn25),(85,vI (((A.cand fx.pe).length:Int))),(86,vI ij),(92,.slice pb59 ((A.blocks h0).length) cb60),(93,vI (((A.blocks h0).length:Int))),(94,vI ib),(101,.slice g0 ((cn A.asked H4).length) g6),(102,vI (((cn A.asked H4).length:Int))),(103,vI iw)]) (fun (iw,mi) wx=>(iw≤(cn A.asked H4).length)∧(mi=decide (k∈(cn A.asked H4).take iw))∧S wx [Z0 Z A,Z1 Z A,Z2 Z A,Z3 Z A,Z4 Z A,Z5 Z,bM gW Z.rs,Rw 3 1 g0 ((cn A.asked H4).length) g6 (fl cg (cn A.asked H4)),Ob k0 (.cells #[vI H4.pc,vI H4.bg,vI H4.ln] 44 (0,0)),Rw 44 3 pv ov.length cv (fl aO ov),Rw 3 1 pn24 ((A.cand fx.pe).length) cn25 (fl cg (A.cand fx.pe)),Rw 44 3 pb59 ((A.blocks h0).length) cb60 (fl aO (A.blocks h0)),aB w (aT [(ZI Z A)])]) (fun (iw,mi)=>((cn A.asked H4).length) - iw) (0,false) ⟨Nat.zero_le _,(by simp),u9⟩ ?_
      rintro ⟨iw,mi⟩ m7 ⟨hiw,hmi,x0⟩
      refine ah [0,1,2,9,10,15,19,20,21,84,85,86,92,93,94,101,102,103] ?_
      refine aC ?_
      refine g_seq ?_
      by_cases x1:((iw:Int):Int)<((cn A.asked H4).length:Int)
      ·
       refine bm x1 ?_
       refine aQ ?_
       refine w_v (iH iw (x0.rr 7)) ?_
       obtain ⟨m2,g1⟩:=(x0.rr 7).exL bE iw
       refine w_v (nX iw (x0.rr 7) (bE.flAt1 g1 rfl)) ?_
       refine aQ ?_
       rcases ef (mi) with H9 | H9
       ·
        iterate 3 refine dh H9 ?_
        refine w_v (dH rfl rfl H9 rfl) ?_
        refine aQ ?_
        refine gI iw ?_
        refine ae ?_
        refine bD (i:=(iw,mi)) ((iw+1),true) ⟨by omega,(by rw [uB g1,← hmi]; simp [H9]),x0⟩
       iterate 2 refine aN H9 xm ?_
       refine aN H9 (ai rfl rfl rfl f7) ?_
       refine w_v (cH rfl rfl H9 rfl) ?_
       refine aQ ?_
       refine gI iw ?_
       refine ae ?_
       refine bD (i:=(iw,mi)) ((iw+1),decide ((m2:Int)=k)) ⟨by omega,(by rw [uB g1,← hmi]; simp [H9]),x0⟩
      refine br x1 ?_
      refine aR ?_
      rw [List.take_of_length_le (by omega)] at hmi
      refine aE ?_
      refine g_seq ?_
      refine g_aM [] [0,8] [] x0 (fun m6 h6=>?_)
      have c6:=h6.tk [0,8]
      refine aU 0 c6 ?_
      refine bT 1 rfl c6 (fun _ _=>Aw) ?_
      refine aU 2 c6 ?_
      refine bT 3 rfl c6 (fun _ _=>ai rfl rfl rfl f7) ?_
      refine aU 4 c6 ?_
      by_cases H6:(((cn A.asked H4).length:Int):Int)=((t+1:Nat):Int)
      ·
       have w8:=h6.tk [0,8]
       refine da 5 rfl (dt H6) w8 (fun _ _=>xm) ?_
       refine da (v:=.bool (!mi)) 6 rfl (dt H6) w8 (fun _ _=>cj (b:=mi) rfl rfl) ?_
       refine bT (v:=.bool (!mi)) 7 rfl w8 (fun _ _=>dH rfl rfl (decide_eq_true H6) rfl) ?_
       refine aU 8 w8 ?_
       rcases ef (mi) with H2 | H2
       ·
        have h1:=h6.tk [0,8]
        refine aZ 9 rfl (aa H2) h1 ?_
        refine aZ 10 rfl (aa H2) h1 ?_
        refine aZ 11 rfl (aa H2) h1 ?_
        refine aZ 12 rfl (aa H2) h1 ?_
        refine aZ 13 rfl (aa H2) h1 ?_
        refine bG (i:=14) ?_
        refine ku (aa H2) ?_
        refine bF h1 ?_
        refine aZ 15 rfl (aa H2) h1 ?_
        refine bT 16 rfl h1 (fun _ _=>pf (aa H2)) ?_
        refine aU 17 h1 ?_
        refine aZ 18 rfl rfl h1 ?_
        refine aZ 19 rfl rfl h1 ?_
        refine aZ 20 rfl rfl h1 ?_
        refine aZ 21 rfl rfl h1 ?_
        refine bT 22 rfl h1 (fun _ _=>pf rfl) ?_
        refine fP ?_
        refine aR ?_
        refine ah [0,1,2,9,10,15,19,84,85,86,92,93,94,119,120,123,124,125,126,127,128,129,132,133,134,135,136] ?_
        refine g_cond_f rfl rfl ?_
        refine aE ?_
        refine gI ib ?_
        refine ae ?_
        refine bD (i:=(ib,pv,cv,ov)) ((ib+1),pv,cv,ov) ⟨by omega,(by rw [aj h2,jM (by rw [qx,← hmi]; simp [H6,H2]; try omega)]; exact hov),(by first | omega | (simp only [List.length_append,List.length_cons,List.length_nil]; omega)),(h6.tk [9,10,11,0,1,2,3,4,5,6,12])⟩
       have x9:=h6.tk [0,8]
       refine da 9 rfl (aa H2) x9 (fun _ _=>xm) ?_
       refine da 10 rfl (aa H2) x9 (fun _ _=>xn) ?_
       refine da 11 rfl (aa H2) x9 (fun _ _=>xf 7) ?_
       refine da 12 rfl (aa H2) x9 (fun _ H=>xl H 0) ?_
       refine da 13 rfl (aa H2) x9 (fun _ H=>fS H 1) ?_
       refine bG (i:=14) ?_
       refine bZ h6 (cU rfl rfl rfl rfl (aa H2)) (aP rfl rfl DK) (zB A.here Z.ep A.here.length Z.ec H4 (by omega) _ (h6.rr 3)) rfl rfl ?_
       intro m5 g7
       have c9:=g7.tk [0,8]
       refine bF c9 ?_
       refine da (v:=.bool (!((decide (H4∈A.here))))) 15 rfl (aa H2) c9 (fun _ _=>cj (b:=(decide (H4∈A.here))) rfl rfl) ?_
       refine bT (v:=.bool (!((decide (H4∈A.here))))) 16 rfl c9 (fun _ _=>dH rfl rfl (aa H2) rfl) ?_
       refine aU 17 c9 ?_
       rcases ef ((decide (H4∈A.here))) with H3 | H3
       ·
        have x8:=g7.tk [0,8]
        refine aZ 18 rfl (aa H3) x8 ?_
        refine aZ 19 rfl (aa H3) x8 ?_
        refine aZ 20 rfl (aa H3) x8 ?_
        refine aZ 21 rfl (aa H3) x8 ?_
        refine bT 22 rfl x8 (fun _ _=>pf (aa H3)) ?_
        refine fP ?_
        refine aR ?_
        refine ah [0,1,2,9,10,15,19,84,85,86,92,93,94,119,120,123,124,125,126,127,128,129,132,133,134,135,136] ?_
        refine g_cond_f rfl rfl ?_
        refine aE ?_
        refine gI ib ?_
        refine ae ?_
        refine bD (i:=(ib,pv,cv,ov)) ((ib+1),pv,cv,ov) ⟨by omega,(by rw [aj h2,jM (by rw [qx,← hmi]; simp [H6,H2,H3]; try omega)]; exact hov),(by first | omega | (simp only [List.length_append,List.length_cons,List.length_nil]; omega)),(g7.tk [9,10,11,0,1,2,3,4,5,6,12])⟩
       have x7:=g7.tk [0,8]
       refine da 18 rfl (aa H3) x7 (fun _ _=>xm) ?_
       refine da (v:=vI ov.length) 19 rfl (aa H3) x7 (fun _ _=>Aw) ?_
       refine da 20 rfl (aa H3) x7 (fun _ _=>xm) ?_
       refine da 21 rfl (aa H3) x7 (fun _ _=>ai rfl rfl rfl dG) ?_
       refine bT (v:=.bool (decide (((ov.length:Int):Int)<mv))) 22 rfl x7 (fun _ _=>dH rfl rfl (aa H3) rfl) ?_
       refine fP ?_
       refine aR ?_
       refine ah [0,1,2,9,10,15,19,84,85,86,92,93,94,119,120,123,124,125,126,127,128,129,132,133,134,135,136] ?_
       by_cases h5:((ov.length:Int):Int)<mv
       ·
        refine bm h5 ?_
        refine ae ?_
        refine w_v (fS g7 8) ?_
        refine l_of (fC gX #[vI H4.pc,vI H4.bg,vI H4.ln] g7 ?_)
        intro y0 m4 k1
        have hln100a:=(k1.rr 10).lenL cN
        have hln100:(ov++[H4]).length=ov.length+1:=by simp only [List.length_append,List.length_cons,List.length_nil] <;> omega
        refine l_of (fE kN [H4] cN k1 10 0 ?_)
        intro r1 r4 m3 u0
        refine aQ ?_
        refine gI ib ?_
        refine ae ?_
        refine bD (i:=(ib,pv,cv,ov)) ((ib+1),r1,r4,(ov++[H4])) ⟨by omega,(by rw [aj h2,lO (by rw [qx,← hmi]; simp [H6,H2,H3,h5]; try omega),← List.append_assoc]; exact yU hov (by omega)),(by first | omega | (simp only [List.length_append,List.length_cons,List.length_nil]; omega)),(u0.tk [10,11,12,1,2,3,4,5,6,7,13])⟩
       refine br h5 ?_
       refine aE ?_
       refine gI ib ?_
       refine ae ?_
       refine bD (i:=(ib,pv,cv,ov)) ((ib+1),pv,cv,ov) ⟨by omega,(by rw [aj h2,lO (by rw [qx,← hmi]; simp [H6,H2,H3,h5]; try omega),← List.append_assoc]; exact Fa hov (by omega)),(by first | omega | (simp only [List.length_append,List.length_cons,List.length_nil]; omega)),(g7.tk [9,10,11,0,1,2,3,4,5,6,12])⟩
      have H7:=h6.tk [0,8]
      refine aZ 5 rfl (df H6) H7 ?_
      refine aZ 6 rfl (df H6) H7 ?_
      refine bT 7 rfl H7 (fun _ _=>pf (df H6)) ?_
      refine aU 8 H7 ?_
      refine aZ 9 rfl rfl H7 ?_
      refine aZ 10 rfl rfl H7 ?_
      refine aZ 11 rfl rfl H7 ?_
      refine aZ 12 rfl rfl H7 ?_
      refine aZ 13 rfl rfl H7 ?_
      refine bG (i:=14) ?_
      refine ku rfl ?_
      refine bF H7 ?_
      refine aZ 15 rfl rfl H7 ?_
      refine bT 16 rfl H7 (fun _ _=>pf rfl) ?_
      refine aU 17 H7 ?_
      refine aZ 18 rfl rfl H7 ?_
      refine aZ 19 rfl rfl H7 ?_
      refine aZ 20 rfl rfl H7 ?_
      refine aZ 21 rfl rfl H7 ?_
      refine bT 22 rfl H7 (fun _ _=>pf rfl) ?_
      refine fP ?_
      refine aR ?_
      refine ah [0,1,2,9,10,15,19,84,85,86,92,93,94,119,120,123,124,125,126,127,128,129,132,133,134,135,136] ?_
      refine g_cond_f rfl rfl ?_
      refine aE ?_
      refine gI ib ?_
      refine ae ?_
      refine bD (i:=(ib,pv,cv,ov)) ((ib+1),pv,cv,ov) ⟨by omega,(by rw [aj h2,jM (by rw [qx,← hmi]; simp [H6]; try omega)]; exact hov),(by first | omega | (simp only [List.length_append,List.length_cons,List.length_nil]; omega)),(h6.tk [9,10,11,0,1,2,3,4,5,6,12])⟩
     refine br x2 ?_
     refine cp ?_
     refine gI ij ?_
     refine ae ?_
     refine bD (i:=(ij,pu,cu,ou)) ((ij+1),pv,cv,ov) ⟨by omega,(by rw [hov,List.take_of_length_le (l:=(A.blocks h0)) (by omega)]; unfold PK.endL; rw [qY g2,List.append_assoc]),(c7.tk [0,1,3,4,5,6,7,8,9,10])⟩
    refine br x3 ?_
    refine aR ?_
    have ht2:t+1≤2:=by omega
    refine cp ?_
    refine bP (v:=vI (((t+1+1:Nat):Int))) (hb:=(dY (by rw [jD (by omega)]; omega))) ?_
    refine ae ?_
    refine bD (i:=(t,pt,ct,ot)) ((t+1),pu,cu,ou) ⟨(by omega),(by rw [hou,List.take_of_length_le (l:=A.cand fx.pe) (by omega)]; exact IW ht2),(c8.tk [0,1,2,3,4,5,6,7,8,9])⟩
   refine br x4 ?_
   refine io ?_
   refine af ?_
   have hE:(A.lookE k most)=0:=(if_neg g5).trans g4
   have hf9:fD A.peers k=some fx.pe:=by rw [← hfk]; exact jh hI.nd hfl
   have hV0:(A.lookV k most)=A.lookP fx.pe most:=by unfold PK.lookV; rw [if_pos hE,hf9]
   have hmt:mv.toNat=(A.mostV fx.pe most).toNat:=by omega
   have ht9:t=2:=by omega
   have hV:(A.lookV k most)=ot:=by rw [hV0,hot,hmt,ht9]; unfold PK.lookP; rw [if_pos h3,show fx.pe.k=k from hfk]; rfl
   rw [hV,hE]
   exact ⟨_,_,rfl,((S.big (L:=[_,_,_,_,_,_,_]) (k5.tk [2,3,4,5,6,7,8,0,9])).tk [1,0,2])⟩
  refine g_cond_t rfl (aa h3) ?_
  refine aQ ?_
  refine ah [6,7] ?_
  refine ae ?_
  refine af ?_
  have hE:(A.lookE k most)=0:=(if_neg g5).trans g4
  have hf9:fD A.peers k=some fx.pe:=by rw [← hfk]; exact jh hI.nd hfl
  have hV0:(A.lookV k most)=A.lookP fx.pe most:=by unfold PK.lookV; rw [if_pos hE,hf9]
  have hmt:mv.toNat=(A.mostV fx.pe most).toNat:=by omega
  have hV:(A.lookV k most)=oz:=by rw [hV0,hoz]; unfold PK.lookP; rw [if_neg (by rw [h3]; decide),List.take_of_length_le (by rw [← hoz]; omega)]
  rw [hV,hE]
  exact ⟨_,_,rfl,((S.big (L:=[_,_,_,_,_,_,_]) (k6.tk [0,1,2,3,4,5,6,7,9])).tk [1,0,2])⟩
 refine mX g4 ?_
 refine aQ ?_
 refine ah [6,7] ?_
 refine ae ?_
 refine af ?_
 have hE:(A.lookE k most)=A.peE k:=if_neg g5
 have hV:(A.lookV k most)=[]:=by unfold PK.lookV; rw [hE]; exact if_neg g4
 rw [hE,hV]
 exact ⟨none,0,rfl,(H5.b7 [0,1,2,3,4,5,6,7]).nilFl 44 3 aO⟩
theorem NX (Z:ZP) (A:PK) (j:Nat) (hZ:fU Z A) (hI:bQ j A) (k most:Int) (hmm:cO most) (hj:j<100000)  (w:World) (HS:S w [(ZI Z A)]):Calls Tryz.prog 75 #[vP Z.g,vI k,vI most] w fun e w'=>∃ Y:ZP,Y.g=Z.g∧fU Y (A.nextA k most)∧∃ p' c',e=.returned (.tuple #[.slice p' (A.lookV k most).length c',vI (A.lookE k most)])∧S w' ([Rw 44 3 p' (A.lookV k most).length c' (fl aO (A.lookV k most)),(ZI Y (A.nextA k most))]++[aB w (aT [(ZI Z A)])]):=by
 have H0:=HS.bu
 have h8:=hI.a8
 have hal9:=hI.al
 refine en Tryz.func75 ?_
 refine ah [0,1,2] ?_
 refine dz ?_
 have H3:=H0.b7 [0,1,2,3,4,5,6,7]
 refine l_of (aG (N_ Z A j hZ hI k most hmm (by omega) _ (H3.tk [0])) ?_)
 rintro _ g8 ⟨pl1,cl2,rfl,H5⟩
 replace H5:=H3.aI2 [0] H5
 have hlk9:=nK hI k most
 have H6:=H5.ub [1,0,2]
 refine bW ?_
 refine v_ ?_
 refine cQ (ι:=Nat × Option Addr × Nat × AL) (fun (ii,pv,cv,az)=>[(0,vP Z.g),(1,vI k),(8,.slice pl1 ((A.lookV k most).length) cl2),(9,vI ((A.lookE k most))),(19,.slice pl1 ((A.lookV k most).length) cl2),(20,vI (((A.lookV k most).length:Int))),(21,vI ii)]) (fun (ii,pv,cv,az) wx=>(ii≤(A.lookV k most).length)∧(az=A.asked++((A.lookV k most).take ii).map fun c=>(k,c))∧S wx [Ob Z.g (.cells #[vI A.n,vI A.pz,vI A.la,.string (A.seed),.bool A.ino,.slice Z.hp A.had.length Z.hc,.slice Z.wp A.wish.length Z.wc,.slice Z.ep A.here.length Z.ec,.slice pv az.length cv,.slice Z.pp Z.rs.length Z.pc] 97 (0,0)),Z1 Z A,Z2 Z A,Z3 Z A,Rw 150 4 pv az.length cv (fl askL az),Z5 Z,bM gW Z.rs,Rw 44 3 pl1 ((A.lookV k most).length) cl2 (fl aO (A.lookV k most)),aB w (aT [(ZI Z A)])]) (fun (ii,pv,cv,az)=>((A.lookV k most).length) - ii) (0,Z.ap,Z.ac,A.asked) ⟨Nat.zero_le _,(by rw [List.take_zero,List.map_nil,List.append_nil]),(H6.tk [0,1,2,3,4,5,6,7,8])⟩ ?_
 rintro ⟨ii,pv,cv,az⟩ g7 ⟨hii,haz,H8⟩
 refine ah [0,1,8,9,19,20,21] ?_
 have hzl9:az.length≤A.asked.length+384:=by have h9:(((A.lookV k most).take ii).map fun c=>(k,c)).length≤384:=by { rw [List.length_map,List.length_take]; omega }; rw [haz,List.length_append]; omega
 refine aC ?_
 refine g_seq ?_
 by_cases h1:((ii:Int):Int)<((A.lookV k most).length:Int)
 ·
  refine bm h1 ?_
  refine aQ ?_
  refine w_v (iH ii (H8.rr 7)) ?_
  obtain ⟨H2,H7⟩:=(H8.rr 7).exL cN ii
  refine w_v (bc (vs:=aO H2) ii (H8.rr 7) (by omega) rfl rfl Tryz.underlying44 rfl dE (by rfl) (cN.flAt H7)) ?_
  refine l_of (cA H8 gX ?_)
  intro x0 g1 g6
  refine l_of (eu g6 0 ?_)
  intro g0 g5
  refine cD ?_
  refine g_aM [] [0,1] [12] g5 (fun h7 h3=>?_)
  have H4:=h3.tk [0,1]
  refine aU 0 H4 ?_
  refine aU 1 H4 ?_
  refine aU 2 H4 ?_
  refine aU 3 H4 ?_
  refine eY 4 1 H4 ?_
  refine aU 5 H4 ?_
  refine bT 6 rfl H4 (fun _ H=>fS H 0) ?_
  refine bT (v:=.agg #[vI k,vI H2.pc,vI H2.bg,vI H2.ln]) 7 rfl H4 (fun _ _=>j4) ?_
  refine bG (i:=8) ?_
  refine fC vc #[vI k,vI H2.pc,vI H2.bg,vI H2.ln] h3 ?_
  intro g9 h6 h0
  refine bF (h0.tk [1,2]) ?_
  refine bG (i:=9) ?_
  have hln25a:=(h0.rr 6).lenL lC
  have hln25:(az++[((k,H2):Int × aV)]).length=az.length+1:=by simp only [List.length_append,List.length_cons,List.length_nil] <;> omega
  refine fE zW [((k,H2):Int × aV)] lC h0 6 0 ?_
  intro g2 g3 h5 h2
  have H9:=h2.tk [1,2]
  refine bF H9 ?_
  refine bG (i:=10) ?_
  refine iW xn ?_
  refine bF H9 ?_
  refine bG (i:=11) ?_
  refine iW yq ?_
  refine bF H9 ?_
  refine bG (i:=12) ?_
  refine eu h2 2 ?_
  intro h4 g4
  refine m_ rfl ?_
  refine fP ?_
  refine ae ?_
  refine ah [0,1,8,9,19,20,21] ?_
  refine aR ?_
  refine gI ii ?_
  refine ae ?_
  refine bD (i:=(ii,pv,cv,az)) ((ii+1),g2,g3,(az++[((k,H2):Int × aV)])) ⟨by omega,(by rw [aj H7,List.map_append,← List.append_assoc,← haz]; rfl),(g4.tk [2,3,4,5,6,7,8,9,10])⟩
 refine br h1 ?_
 refine jG ?_
 refine af ?_
 rw [List.take_of_length_le (by omega)] at haz
 have hA9:A.nextA k most={ A with asked:=az }:=by unfold PK.nextA; rw [haz]
 rw [hA9]
 exact ⟨({ Z with ap:=pv,ac:=cv }:ZP),rfl,hZ,_,_,rfl,((S.big (L:=[_,_,_,_,_,_,_]) (H8.tk [0,1,2,3,4,5,6,7,8])).tk [1,0,2])⟩
end Go.Proofs.YthmmfhdpkddniaaGreatDoor
