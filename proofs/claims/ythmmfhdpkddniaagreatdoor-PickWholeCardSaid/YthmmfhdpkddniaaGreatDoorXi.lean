import Derived.Test.YthmmfhdpkddniaaGreatDoorFm
import Derived.Test.YthmmfhdpkddniaaGreatDoorXg
set_option maxRecDepth 20000
set_option maxHeartbeats 4000000
set_option linter.unusedSimpArgs false
set_option linter.unusedVariables false
namespace Go.Proofs.YthmmfhdpkddniaaGreatDoor
open Go.RowKit
theorem cl132:callable Tryz.prog 132=true:=by kernel_rfl
theorem count_step {α:Type} {key:α→Int} {l:List α} (hn:(l.map key).Nodup) {P P' B:α→Bool} {x:α} (hx:x∈l) (hp:∀ y∈l,P' y=(P y || decide (key y=key x))) (h0:P x=false):(l.filter fun y=>P' y && B y).length=(l.filter fun y=>P y && B y).length+if B x=true then 1 else 0:=by
 induction l with
 | nil=>cases hx
 | cons a l ih =>
   rw [List.map_cons,List.nodup_cons] at hn
   simp only [List.filter_cons]
   rcases List.mem_cons.1 hx with rfl | hx
   · have hr:(l.filter fun y=>P' y && B y)=l.filter fun y=>P y && B y:=List.filter_congr fun y hy=>by
       have hne:¬ key y=key x:=fun e=>hn.1 (by rw [← e]; exact List.mem_map.2 ⟨y,hy,rfl⟩)
       rw [hp y (List.mem_cons_of_mem _ hy),decide_eq_false hne,Bool.or_false]
     rw [hp x List.mem_cons_self,decide_eq_true rfl,Bool.or_true,h0,hr]
     cases B x <;> simp
   · have hne:¬ key a=key x:=fun e=>hn.1 (by rw [e]; exact List.mem_map.2 ⟨x,hx,rfl⟩)
     rw [hp a List.mem_cons_self,decide_eq_false hne,Bool.or_false]
     have:=ih hn.2 hx fun y hy=>hp y (List.mem_cons_of_mem _ hy)
     split
     · simp only [List.length_cons]; omega
     · exact this
def cntM (ms:List Mt) (rem:List (Int × Nat)) (i:Int):Nat:=(ms.filter fun m=>!decide ((m.k,m.b)∈rem) && bitAt m.fld i).length
theorem cntM_zero {X:XP} {A:PK} {j:Nat} (hX:XOK X A) (hI:PKI j A) {rem:List (Int × Nat)} (h:∀ p:Int × Nat,p∈rem ↔ okI p.1∧mtM X.ms p.1=some p.2) (i:Int):cntM X.ms rem i=0:=by
 unfold cntM
 rw [List.length_eq_zero_iff,List.filter_eq_nil_iff]
 intro m hm
 obtain ⟨q,hq⟩:=List.getElem?_of_mem hm
 have h1:=hI.kr m.pe (List.mem_of_getElem? (hX.at hq))
 have h2:(m.k,m.b)∈rem:=(h _).2 ⟨⟨by have:1≤m.k:=h1.1; show _≤m.k; omega,by have:m.k≤1000:=h1.2; show m.k≤_; omega⟩,by
   unfold mtM; rw [kfd_at (hX.nd hI) hq]; rfl⟩
 rw [decide_eq_true h2]; simp
theorem cntM_step {X:XP} {A:PK} {j:Nat} (hX:XOK X A) (hI:PKI j A) {rem rem':List (Int × Nat)} {p:Int × Nat} (hp:p∈rem) (hr:∀ q,q∈rem' ↔ q∈rem∧q ≠ p) {q:Nat} {m:Mt} (hm:X.ms[q]?=some m) (hk:m.k=p.1) (hb:m.b=p.2) (i:Int):cntM X.ms rem' i=cntM X.ms rem i+if bitAt m.fld i=true then 1 else 0:=by
 unfold cntM
 have hpe:p=(m.k,m.b):=Prod.ext hk.symm hb.symm
 refine count_step (key:=Mt.k) (hX.nd hI) (P:=fun m=>!decide ((m.k,m.b)∈rem)) (P':=fun m=>!decide ((m.k,m.b)∈rem')) (B:=fun m=>bitAt m.fld i) (List.mem_of_getElem? hm) (fun y hy=>?_) (by simp [← hpe,hp])
 by_cases e:y.k=m.k
 · obtain ⟨q2,hq2⟩:=List.getElem?_of_mem hy
   have:=key_at (hX.nd hI) hq2 hm e
   subst this
   rw [hm] at hq2; cases hq2
   have:¬ (m.k,m.b)∈rem':=fun h=>((hr _).1 h).2 hpe.symm
   simp [this]
 · have h1:(y.k,y.b) ≠ p:=fun h=>e (by rw [hpe] at h; exact congrArg Prod.fst h)
   have h2:((y.k,y.b)∈rem') ↔ ((y.k,y.b)∈rem):=⟨fun h=>((hr _).1 h).1,fun h=>(hr _).2 ⟨h,h1⟩⟩
   rw [decide_eq_decide.2 h2,decide_eq_false e,Bool.or_false]
theorem cntM_all {X:XP} {A:PK} (hX:XOK X A) (i:Int):cntM X.ms [] i=A.countV i:=by
 unfold cntM PK.countV
 rw [← hX.ms,List.filter_map,List.length_map]
 congr 1
theorem cntM_le (ms:List Mt) (rem:List (Int × Nat)) (i:Int):cntM ms rem i≤ms.length:=List.length_filter_le _ _
theorem count_x (X:XP) (A:PK) (j:Nat) (hX:XOK X A) (hI:PKI j A) (i:Int) (hi:0≤i∧i<(A.n:Int))  (w:World) (HS:S w [(XI X A)]):Calls Tryz.prog 130 #[.pointer (some ⟨X.g,0,none⟩),.int .i64 i] w fun e w'=>e=.returned (.int .i64 (A.countV i:Int))∧S w' ([(XI X A)]++[Old w (fps [(XI X A)])]):=by
 have H0:=HS.beginI
 have hn24:=hI.n24
 have hn1:=hI.n1
 have hpz1:=hI.pz1
 have hpz2:=hI.pz2
 have hla1:=hI.la1
 have hla2:=hI.la2
 have hadl:=hI.hadl
 have hwl:=hI.wishl
 replace H0:S _ [_,_,_,_,_,_,_,_]:=S.unbig (L:=[_,_,_,_,_,_,_]) H0
 have hpl9:X.ms.length≤100:=by have h9:=hI.pl; rw [← hX.ms,List.length_map] at h9; exact h9
 refine enter 25 Tryz.func130 rfl rfl rfl ?_
 refine g_wk [(0,_),(1,_)] ?_
 refine w_s ?_
 refine w_k12 ?_
 refine l_of (s_rangeN (intTy Tryz.underlying80 Tryz.underlying3) H0 3 (wt0 rfl) rfl rfl rfl rfl rfl ?_)
 intro rr1 rem2 wq3 hnrem2 hrem2 H4
 refine w_k2 ?_
 refine g_loop (ι:=List (Int × Nat) × Option (Int × Nat) × Nat) (fun (rem,cur,s)=>[(0,.pointer (some ⟨X.g,0,none⟩)),(1,.int .i64 i),(5,.int .i64 ((s:Int))),(13,.pointer (some ⟨rr1,0,none⟩))]) (fun (rem,cur,s) wx=>(s=cntM X.ms rem i)∧(∀ z∈rem,z∈rem2)∧S wx [Ob X.g (.cells #[.map (some X.mg),.int .i64 ((A.n:Int)),.int .i64 ((A.pz:Int)),.int .i64 ((A.la:Int)),.string (A.seed),.bool A.ino,.slice X.hp A.had.length X.hc,.slice X.wp A.wish.length X.wc,.map (some X.bg)] 85 (0,0)),Rw 4 1 X.hp A.had.length X.hc (fl boolL A.had),Rw 40 2 X.wp A.wish.length X.wc (fl wisL A.wish),MpR (Value.int .i64) ptV okI X.mg rr1 (mtM X.ms) rem cur,(Lst MtI X.ms),Mp plK ptV okP X.bg (bkM X.bs),(Lst BkI X.bs),Old w (fps [(XI X A)])]) (fun (rem,cur,s)=>rem.length) (rem2,none,0) ⟨rfl,rfl,rfl,rfl,trivial⟩ ⟨(cntM_zero hX hI hrem2 i).symm,(fun z hz=>hz),(H4.tk [0,1,2,3,4,5,6,7])⟩ ?_
 rintro ⟨rem,cur,s⟩ wq5 ⟨hs,hsub,H6⟩
 refine g_wk [(0,_),(1,_),(5,_),(13,_)] ?_
 have hsl9:=cntM_le X.ms rem i
 rw [← hs] at hsl9
 refine w_s ?_
 refine l_of (s_next H6 3 (wt0 rfl) rfl rfl rfl rfl rfl (fun hnil16=>?_) (fun q7 rem8 wx9 hp10 hok11 hN12 hm13 hl14 Hx15=>?_))
 ·
  subst hnil16
  have H17:S _ [_,_,_,_,_,_,_,_]:=H6.unR (k0:=3) rfl
  refine w_k2 ?_
  refine g_seq ?_
  refine g_cond_f rfl rfl ?_
  refine w_k10 ?_
  refine fin_r [.tmp 4] [.int .i64 ((s:Int))] ?_
  rw [cntM_all hX] at hs
  rw [← hs]
  exact ⟨rfl,((S.big (L:=[_,_,_,_,_,_,_]) (H17.tk [0,1,2,3,4,5,6,7])).tk [0,1])⟩
 ·
  have H18:S _ [_,_,_,_,_,_,_,_]:=Hx15
  refine w_k2 ?_
  refine g_seq ?_
  refine g_cond_t rfl rfl ?_
  refine w_k4 ?_
  refine w_v (v:=.tuple #[.int .i64 (q7.1),.pointer (some ⟨q7.2,0,none⟩)]) (x_entry (k:=0) (t:=0) (e0:=0) H18 3 rfl rfl rfl) ?_
  refine w_k4 ?_
  obtain ⟨iq19,m20,hq21,hk22,hb23,hf24⟩:=mtM_some hN12
  rw [← hb23]
  refine w_r3 ?_
  refine l_of (s_cl (hasM_x X A j hX hI iq19 m20 hq21 i (by omega) _ (H18.tk [0,4])) ?_)
  rintro _ wq25 ⟨rfl,H26⟩
  replace H26:S _ [_,_,_,_,_,_,_,_]:=H18.abI (new:=[_,_]) [0,4] H26 rfl
  refine b_ret rfl rfl ?_
  refine w_e ?_
  rcases Bool.eq_false_or_eq_true ((bitAt m20.fld i)) with hb27 | hb27
  ·
   refine g_cond_t rfl hb27 ?_
   refine w_k2 ?_
   refine w_b (v:=.int .i64 ((s:Int)+1)) (hb:=(b_add (w64 (by omega)))) ?_
   refine w_k4 ?_
   refine g_round (i:=(rem,cur,s)) (rem8,(some q7),(s+1)) ?_ ?_ ?_
   · exact ⟨rfl,rfl,rfl,rfl,trivial⟩
   · exact ⟨(by rw [cntM_step hX hI hp10 hm13 hq21 hk22 hb23,← hs]; simp [hb27]),(fun z hz=>hsub z ((hm13 z).1 hz).1),(H26.tk [0,2,3,4,1,5,6,7])⟩
   · exact hl14
  ·
   refine g_cond_f rfl hb27 ?_
   refine w_k3 ?_
   refine g_round (i:=(rem,cur,s)) (rem8,(some q7),s) ?_ ?_ ?_
   · exact ⟨rfl,rfl,rfl,rfl,trivial⟩
   · exact ⟨(by rw [cntM_step hX hI hp10 hm13 hq21 hk22 hb23,← hs]; simp [hb27]),(fun z hz=>hsub z ((hm13 z).1 hz).1),(H26.tk [0,2,3,4,1,5,6,7])⟩
   · exact hl14
theorem cl60:callable Tryz.prog 60=true:=by kernel_rfl
theorem ze35:zeO Tryz.prog 35=some (.slice none 0 0):=by kernel_rfl
abbrev DXi0 (X:XP) (A:PK):=Ob X.g (.cells #[.map (some X.mg),.int .i64 ((A.n:Int)),.int .i64 ((A.pz:Int)),.int .i64 ((A.la:Int)),.string (A.seed),.bool A.ino,.slice X.hp A.had.length X.hc,.slice X.wp A.wish.length X.wc,.map (some X.bg)] 85 (0,0))
theorem askL_none {X:XP} {A:PK} {j:Nat} (hX:XOK X A) (hI:PKI j A) {k:Int} (h:(mtM X.ms k).isSome=false):A.askL k=[]:=by
 rw [hX.mtN] at h
 cases hq:A.askL k with
 | nil=>rfl
 | cons c l =>
   exfalso
   have h1:c∈mine A.asked k:=by show c∈A.askL k; rw [hq]; exact List.mem_cons_self
   obtain ⟨⟨p,hp,hk⟩,_⟩:=hI.ak _ (mem_mine.1 h1)
   have hk:p.k=k:=hk
   cases hf:fndP A.peers k with
   | none=>exact fndP_none hf p hp hk
   | some p=>rw [hf] at h; cases h
theorem Ending_x (X:XP) (A:PK) (j:Nat) (hX:XOK X A) (hI:PKI j A)  (w:World) (HS:S w [(XI X A)]):Calls Tryz.prog 23 #[.pointer (some ⟨X.g,0,none⟩)] w fun e w'=>e=.returned (.bool A.endB)∧S w' ([(XI X A)]++[Old w (fps [(XI X A)])]):=by
 have H0:=HS.beginI
 have hn24:=hI.n24
 have hn1:=hI.n1
 have hpz1:=hI.pz1
 have hpz2:=hI.pz2
 have hla1:=hI.la1
 have hla2:=hI.la2
 have hadl:=hI.hadl
 have hwl:=hI.wishl
 replace H0:S _ [_,_,_,_,_,_,_,_]:=S.unbig (L:=[_,_,_,_,_,_,_]) H0
 refine enter 9 Tryz.func23 rfl rfl rfl ?_
 refine g_wk [(0,_)] ?_
 refine w_s ?_
 refine w_k4 ?_
 refine w_b (v:=.bool true) (hb:=(b_neN (r:=false) Tryz.underlying26 rfl)) ?_
 refine w_m ?_
 refine w_g rfl xm ?_
 have H1:S _ [_,_]:=S.big (L:=[_,_,_,_,_,_,_]) (H0.tk [0,1,2,3,4,5,6,7])
 refine l_of (s_call (wt1 rfl rfl rfl rfl rfl) (x_call' rfl rfl cl60) (ending_x X A j hX hI _ (H1.tk [0])) ?_)
 rintro _ wq2 ⟨rfl,H3⟩
 replace H3:S _ [_,_]:=H1.abI (new:=[_]) [0] H3 rfl
 have H4:S _ [_,_,_,_,_,_,_,_]:=S.unbig (L:=[_,_,_,_,_,_,_]) (H3.tk [0,1])
 refine b_ret rfl rfl ?_
 refine w_v (x_pick_t rfl rfl rfl rfl) ?_
 refine w_k3 ?_
 refine fin_r [.tmp 2] [.bool A.endB] ?_
 exact ⟨rfl,((S.big (L:=[_,_,_,_,_,_,_]) (H4.tk [0,1,2,3,4,5,6,7])).tk [0,1])⟩
def trueL (l:List Bool) (i:Nat):List Int:=((List.range i).filter fun i=>l.getD i false).map fun (i:Nat)=>(i:Int)
theorem trueL_snoc {l:List Bool} {i:Nat} {b:Bool} (h:l[i]?=some b):trueL l (i+1)=trueL l i++if b=true then [(i:Int)] else []:=by
 unfold trueL
 rw [List.range_succ,List.filter_append,List.map_append,List.filter_cons,had_at h]
 cases b <;> rfl
theorem trueL_all (l:List Bool):trueL l l.length=trueIdx l:=rfl
theorem trueL_len (l:List Bool) (i:Nat):(trueL l i).length≤i:=by
 unfold trueL
 rw [List.length_map]
 have:=List.length_filter_le (fun i=>l.getD i false) (List.range i)
 rw [List.length_range] at this; exact this
theorem had_x (X:XP) (A:PK) (j:Nat) (hX:XOK X A) (hI:PKI j A)  (w:World) (HS:S w [(XI X A)]):Calls Tryz.prog 20 #[.pointer (some ⟨X.g,0,none⟩)] w fun e w'=>e=.returned (.string (fieldS A.had))∧S w' ([(XI X A)]++[Old w (fps [(XI X A)])]):=by
 have H0:=HS.beginI
 have hn24:=hI.n24
 have hn1:=hI.n1
 have hpz1:=hI.pz1
 have hpz2:=hI.pz2
 have hla1:=hI.la1
 have hla2:=hI.la2
 have hadl:=hI.hadl
 have hwl:=hI.wishl
 replace H0:S w [Ob X.g (.cells #[.map (some X.mg),.int .i64 ((A.n:Int)),.int .i64 ((A.pz:Int)),.int .i64 ((A.la:Int)),.string (A.seed),.bool A.ino,.slice X.hp A.had.length X.hc,.slice X.wp A.wish.length X.wc,.map (some X.bg)] 85 (0,0)),Rw 4 1 X.hp A.had.length X.hc (fl boolL A.had),Rw 40 2 X.wp A.wish.length X.wc (fl wisL A.wish),Mp (Value.int .i64) ptV okI X.mg (mtM X.ms),(Lst MtI X.ms),Mp plK ptV okP X.bg (bkM X.bs),(Lst BkI X.bs),Old w (fps [(XI X A)])]:=S.unbig (L:=[_,_,_,_,_,_,_]) H0
 refine enter 36 Tryz.func20 rfl rfl rfl ?_
 refine g_wk [(0,_)] ?_
 refine w_s ?_
 refine w_a ?_
 refine w_e ?_
 refine g_seq ?_
 refine w_s ?_
 refine w_m ?_
 refine w_b (v:=.bool false) (hb:=(b_eqN (r:=false) Tryz.underlying26 rfl)) ?_
 refine w_e ?_
 refine g_cond_f rfl rfl ?_
 refine w_hs ?_
 refine w_a ?_
 refine w_e ?_
 refine g_seq ?_
 refine w_s ?_
 refine w_r3 ?_
 refine w_1 H0 0 ?_
 refine w_v (v:=.int .i64 ((A.had.length:Int))) x_q ?_
 refine w_m ?_
 refine w_e ?_
 refine g_block ?_
 refine g_loop (ι:=Nat × Option Addr × Nat × List Int) (fun (ii,pq,cq,oz)=>[(0,.pointer (some ⟨X.g,0,none⟩)),(3,.slice pq oz.length cq),(13,.slice X.hp A.had.length X.hc),(14,.int .i64 ((A.had.length:Int))),(15,.int .i64 ((ii:Int)))]) (fun (ii,pq,cq,oz) wx=>(ii≤A.had.length)∧(oz=(trueL A.had ii))∧S wx [Rw 3 1 pq oz.length cq (fl intL oz),Ob X.g (.cells #[.map (some X.mg),.int .i64 ((A.n:Int)),.int .i64 ((A.pz:Int)),.int .i64 ((A.la:Int)),.string (A.seed),.bool A.ino,.slice X.hp A.had.length X.hc,.slice X.wp A.wish.length X.wc,.map (some X.bg)] 85 (0,0)),Rw 4 1 X.hp A.had.length X.hc (fl boolL A.had),Rw 40 2 X.wp A.wish.length X.wc (fl wisL A.wish),Mp (Value.int .i64) ptV okI X.mg (mtM X.ms),(Lst MtI X.ms),Mp plK ptV okP X.bg (bkM X.bs),(Lst BkI X.bs),Old w (fps [(XI X A)])]) (fun (ii,pq,cq,oz)=>A.had.length - ii) (0,none,0,[]) ⟨rfl,rfl,rfl,rfl,rfl,trivial⟩ ⟨Nat.zero_le _,rfl,((S.nilFl H0 3 1 intL).tk [0,1,2,3,4,5,6,7,8])⟩ ?_
 rintro ⟨ii,pq,cq,oz⟩ wq1 ⟨hii,hoz,H2⟩
 refine g_wk [(0,_),(3,_),(13,_),(14,_),(15,_)] ?_
 have hzl9:oz.length≤ii:=by rw [hoz]; exact trueL_len _ _
 refine w_s ?_
 refine w_b ?_
 refine w_e ?_
 refine g_seq ?_
 by_cases hb3:((ii:Int):Int)<(A.had.length:Int)
 ·
  refine g_ct hb3 ?_
  refine w_ht ?_
  refine g_seq ?_
  refine w_bs ?_
  refine w_m ?_
  refine w_v (v:=.pointer ((X.hp).map fun q=>q.add (ii * 1))) (x_i ii (H2.rr 2)) ?_
  obtain ⟨x4,hx4⟩:=(H2.rr 2).exL boolE ii
  refine w_v (v:=.bool x4) (x_r ii (H2.rr 2) (boolE.flAt1 hx4 rfl)) ?_
  refine w_r2 ?_
  refine w_es ?_
  refine w_m ?_
  refine w_e ?_
  rcases Bool.eq_false_or_eq_true (x4) with hb5 | hb5
  ·
   refine g_cond_t rfl hb5 ?_
   refine g_region ?_
   refine w_r2 ?_
   refine l_of (s_buildSlice H2 (wt0 rfl) rfl rfl rfl (vs:=[.int .i64 ((ii:Int))]) rfl Tryz.underlying59 sz3 ze3 rfl rfl (cells:=#[.int .i64 ((ii:Int))]) (by kernel_rfl) ?_)
   intro g6 wq7 H8
   have hln13a:=(H8.rr 1).lenL intE
   have hln13:(oz++[(ii:Int)]).length=oz.length+1:=by simp only [List.length_append,List.length_cons,List.length_nil] <;> omega
   refine l_of (s_appBn (m:=1) (l:=oz) (l2:=[(ii:Int)]) intE H8 1 (j0:=0) rfl rfl ⟨rfl,Nat.le_refl _⟩ (wt0 rfl) rfl rfl rfl rfl rfl rfl Tryz.underlying59 inf3 rfl (by decide) (by omega) ?_)
   intro p9 c10 wq11 H12
   refine w_a ?_
   refine g_nil ?_
   refine g_in ?_
   refine g_then ?_
   refine g_region ?_
   refine w_b (v:=.int .i64 (((ii+1:Nat):Int))) (hb:=(b_add (by rw [w64 (by omega)]; omega))) ?_
   refine w_m ?_
   refine w_e ?_
   refine g_rd (i:=(ii,pq,cq,oz)) ((ii+1),p9,c10,(oz++[(ii:Int)])) ⟨by omega,(by rw [trueL_snoc hx4,if_pos hb5,← hoz]),(H12.tk [1,2,3,4,5,6,7,8,9])⟩
  ·
   refine g_cond_f rfl hb5 ?_
   refine g_skip ?_
   refine g_in ?_
   refine g_then ?_
   refine g_region ?_
   refine w_b (v:=.int .i64 (((ii+1:Nat):Int))) (hb:=(b_add (by rw [w64 (by omega)]; omega))) ?_
   refine w_m ?_
   refine w_e ?_
   refine g_rd (i:=(ii,pq,cq,oz)) ((ii+1),pq,cq,oz) ⟨by omega,(by rw [trueL_snoc hx4,if_neg (by rw [hb5]; decide),List.append_nil,← hoz]),(H2.tk [0,1,2,3,4,5,6,7,8])⟩
 ·
  refine g_cf hb3 ?_
  refine g_exit ?_
  iterate 2 refine g_then_exit ?_
  refine g_in_hit ?_
  refine g_then ?_
  refine w_s ?_
  refine w_r3 ?_
  refine w_1 H2 1 ?_
  have hiq9:ii=A.had.length:=by omega
  rw [hiq9,trueL_all] at hoz
  subst hoz
  refine w_m ?_
  refine l_of (s_cl (ofX A.had A.n hadl (by omega) pq cq _ (H2.tk [0])) ?_)
  rintro _ wq14 ⟨rfl,H15⟩
  replace H15:S _ [_,_,_,_,_,_,_,_,_]:=H2.abI (new:=[_]) [0] H15 rfl
  refine b_ret rfl rfl ?_
  refine w_r5 ?_
  refine w_e ?_
  refine g_wk [(6,_)] ?_
  refine w_s ?_
  refine w_r2 ?_
  refine w_e ?_
  refine g_ret ?_
  refine fin_r [.tmp 2] [.string ((fieldS A.had))] ?_
  exact ⟨rfl,((S.big (L:=[_,_,_,_,_,_,_]) (H15.tk [1,2,3,4,5,6,7,8])).tk [0,1])⟩
end Go.Proofs.YthmmfhdpkddniaaGreatDoor
