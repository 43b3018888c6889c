import Derived.Test.YthmmfhdpkddniaaGreatDoorFm
import Derived.Test.YthmmfhdpkddniaaGreatDoorXm
import Derived.Test.YthmmfhdpkddniaaGreatDoorOp
set_option maxRecDepth 20000
set_option maxHeartbeats 4000000
set_option linter.unusedSimpArgs false
set_option linter.unusedVariables false
namespace Go.Proofs.YthmmfhdpkddniaaGreatDoor
open Go.RowKit
theorem ofL_gone {al:AL} {i:Int} {c:Cho} (h:al=al.filter fun a=>decide (a.2.pc ≠ i)) (hc:c.pc=i):ofL al c=[]:=by
 refine List.eq_nil_iff_forall_not_mem.2 fun k hk=>?_
 have h1:=mem_ofL.1 hk
 rw [h] at h1
 have:=(List.mem_filter.1 h1).2
 simp [hc] at this
theorem PKI.forget {A:PK} {j:Nat} (hI:PKI j A) (i:Int):PKI j (A.forget i):=by
 have h1:=hI.sub (al:=A.asked.filter fun a=>decide (a.2.pc ≠ i)) List.filter_sublist
 exact { h1 with
   ak:=fun a ha=>by
     obtain ⟨h2,h3,h4,h5⟩:=h1.ak a ha
     exact ⟨h2,h3,fun h=>h4 (List.mem_filter.1 h).1,h5⟩
   hb:=fun c hc=>h1.hb c (List.mem_filter.1 hc).1
   hl:=Nat.le_trans (List.length_filter_le _ _) h1.hl }
abbrev DXn0 (X:XP) (A:PK):=Ob X.g (.cells #[.map (some X.mg),.int .i64 ((A.n:Int)),.int .i64 ((A.pz:Int)),.int .i64 ((A.la:Int)),.string (A.seed),.bool A.ino,.slice X.hp A.had.length X.hc,.slice X.wp A.wish.length X.wc,.map (some X.bg)] 85 (0,0))
theorem clear_x (X:XP) (A:PK) (j:Nat) (hX:XOK X A) (hI:PKI j A) (i:Int) (hi:0≤i∧i<(A.n:Int)) (hj:j≤100000)  (w:World) (HS:S w [(XI X A)]):Calls Tryz.prog 55 #[.pointer (some ⟨X.g,0,none⟩),.int .i64 i] w fun e w'=>∃ ms' bs',XOK ({ X with ms:=ms',bs:=bs' }:XP) (A.forget i)∧e=.returned (.tuple #[])∧S w' ([(XI ({ X with ms:=ms',bs:=bs' }:XP) (A.forget i))]++[Old w (fps [(XI X A)])]):=by
 have H0:=HS.beginI
 have hn24:=hI.n24
 have hn1:=hI.n1
 have hpz1:=hI.pz1
 have hpz2:=hI.pz2
 have hla1:=hI.la1
 have hla2:=hI.la2
 have hadl:=hI.hadl
 have hwl:=hI.wishl
 replace H0:S _ [_,_,_,_,_,_,_,_]:=S.unbig (L:=[_,_,_,_,_,_,_]) H0
 refine enter_m 33 Tryz.func55 rfl rfl rfl ?_
 have hL:¬ LetsOut (bodyPostM (WF none) 9 Tryz.prog Tryz.f55 fun e w'=>∃ ms' bs',XOK ({ X with ms:=ms',bs:=bs' }:XP) (A.forget i)∧e=.returned (.tuple #[])∧S w' ([(XI ({ X with ms:=ms',bs:=bs' }:XP) (A.forget i))]++[Old w (fps [(XI X A)])])):=by
  rintro ⟨_,_,h⟩
  simp only [bodyPostM,reduceCtorEq,false_and,and_false,exists_false,or_false,or_self,exists_const] at h
 refine g_wk [(0,_),(1,_)] ?_
 refine R.g_seq ?_
 refine R.g_region ?_
 refine R.l_of rfl (fun h=>hL h) (s_box H0 (wt0 rfl) rfl rfl rfl rfl ?_)
 intro g1 wq2 H3
 refine R.l_of rfl (fun h=>hL h) (s_box H3 (wt0 rfl) rfl rfl rfl rfl ?_)
 intro g4 wq5 H6
 refine R.g_nil ?_
 refine w_0 ?_
 iterate 2 refine R.g_seq ?_
 refine R.g_region ?_
 refine R.w_v (fun h=>hL h) (xl H6 1) ?_
 refine R.w_v (fun h=>hL h) xn ?_
 iterate 2 refine R.w_v (fun h=>hL h) x_f ?_
 refine R.w_v (fun h=>hL h) (xl H6 2) ?_
 refine R.l_of rfl (fun h=>hL h) (s_rangeN (intTy Tryz.underlying80 Tryz.underlying3) H6 5 (wt0 rfl) rfl rfl rfl rfl rfl ?_)
 intro rr7 rem8 wq9 hnrem8 hrem8 H10
 refine R.g_nil ?_
 refine w_0 ?_
 refine R.g_block ?_
 refine R.g_loop (ι:=List (Int × Nat) × Option (Int × Nat) × List Mt × List Bk × AL) (fun (rem,cur,ms,bs,al)=>[(2,.pointer (some ⟨g1,0,none⟩)),(3,.pointer (some ⟨g4,0,none⟩)),(12,.pointer (some ⟨rr7,0,none⟩))]) (fun (rem,cur,ms,bs,al) wx=>(XOK ({ X with ms:=ms,bs:=bs }:XP) ({ A with asked:=al }:PK))∧(al=delR A.asked i rem)∧(mtM ms=mtM X.ms)∧(∀ z∈rem,mtM X.ms z.1=some z.2)∧S wx [Ob g4 (.cells #[.int .i64 i] 3 (0,0)),Ob g1 (.cells #[.pointer (some ⟨X.g,0,none⟩)] 26 (0,0)),DXn0 X A,Rw 4 1 X.hp A.had.length X.hc (fl boolL A.had),Rw 40 2 X.wp A.wish.length X.wc (fl wisL A.wish),MpR (Value.int .i64) ptV okI X.mg rr7 (mtM X.ms) rem cur,(Lst MtI ms),Mp plK ptV okP X.bg (bkM bs),(Lst BkI bs),Old w (fps [(XI X A)])]) (fun (rem,cur,ms,bs,al)=>rem.length) (rem8,none,X.ms,X.bs,A.asked) ⟨rfl,rfl,rfl,trivial⟩ ⟨hX,(delR_all hX hI hrem8 i).symm,rfl,(fun z hz=>((hrem8 z).1 hz).2),(H10.tk [0,1,2,3,4,5,6,7,8,9])⟩ ?_
 rintro ⟨rem,cur,ms,bs,al⟩ wq11 ⟨hXi,hal,hmm,hsub,H12⟩
 refine g_wk [(2,_),(3,_),(12,_)] ?_
 have hsb:al.Sublist A.asked:=by rw [hal]; exact delR_sub _ _ _
 refine R.g_seq ?_
 refine R.g_region ?_
 refine R.l_of rfl (fun h=>hL h) (s_next H12 5 (wt0 rfl) rfl rfl rfl rfl rfl (fun hnil22=>?_) (fun q13 rem14 wx15 hp16 hok17 hN18 hm19 hl20 Hx21=>?_))
 ·
  subst hnil22
  have H23:S _ [_,_,_,_,_,_,_,_,_,_]:=H12.unR (k0:=5) rfl
  refine R.w_v (fun h=>hL h) xe ?_
  refine R.g_nil ?_
  refine w_0 ?_
  refine R.g_seq ?_
  refine R.g_cond_f rfl rfl ?_
  refine R.g_exit ?_
  refine w_k4 ?_
  refine R.g_seq ?_
  refine R.g_region ?_
  refine R.w_v (fun h=>hL h) (xl H23 1) ?_
  refine R.w_v (fun h=>hL h) (xl H23 0) ?_
  refine R.l_of rfl (fun h=>hL h) (s_call (wt0 rfl) (x_call' rfl rfl cl59) (all_s X.g i _) ?_)
  rintro _ wq26 ⟨ba24,bi25,rfl,H27⟩
  replace H27:S _ [_,_,_,_,_,_,_,_,_,_,_,_]:=H23.ab (new:=[_,_]) H27 rfl
  refine b_ret rfl rfl ?_
  refine R.g_nil ?_
  refine w_0 ?_
  refine R.g_block ?_
  have H28:S _ [_,_,_,_,_,_,_,_,_,_]:=S.big (L:=[_,_,_]) (H27.tk [0,1,4,2,3,5,6,7,8,9,10,11])
  have H29:=S.noI (H28.tk [0,1,2,3,4,5,6,7,8,9])
  refine g_rangeJ (α:=Cho) (ι:=Nat) (encs:=encC) (base:=(Big [Ob ba24 (.cells #[.pointer (some ⟨X.g,0,none⟩)] 26 (0,0)),Ob bi25 (.cells #[.int .i64 i] 3 (0,0)),DXn0 X A])) (by omega) rfl cl115 (all_it (X:=X) (i:=i) hI) (fun _=>rfl) rfl (fun pre Lx=>∃ (b2:List Bk),(BOK (hereN ({ A with asked:=al }:PK) pre) b2)∧Lx=[Ob g4 (.cells #[.int .i64 i] 3 (0,0)),Ob g1 (.cells #[.pointer (some ⟨X.g,0,none⟩)] 26 (0,0)),Rw 4 1 X.hp A.had.length X.hc (fl boolL A.had),Rw 40 2 X.wp A.wish.length X.wc (fl wisL A.wish),Mp (Value.int .i64) ptV okI X.mg (mtM X.ms),(Lst MtI ms),Mp plK ptV okP X.bg (bkM b2),(Lst BkI b2),Old w (fps [(XI X A)])]) (fun cc pre Lx=>False) (fun p ia=>[(2,.pointer (some ⟨g1,0,none⟩)),(6,.pointer (some ⟨ia,0,none⟩))]) (fun p ia=>[Ob ia (.cells #[.int .i64 (p.pc),.int .i64 (p.bg),.int .i64 (p.ln)] 44 (0,0))]) (fun _ _ _ _ _=>trivial) ⟨bs,(by rw [hereN_nil]; exact hXi.bok),rfl⟩ H29 ?_ ?_ ?_ ?_
  ·
   rintro l1 p Ly W30 H31
   have hL:¬ LetsOut (fun (_:Exit) (_:Act) (_:World)=>False):=fun ⟨_,_,h⟩=>h
   refine g_wk [(2,_),(26,_)] ?_
   refine R.g_region ?_
   refine R.l_of rfl (fun h=>hL h) (s_alloc H31 (wt0 rfl) rfl rfl rfl ze44 ?_)
   intro g32 wq33 H34
   refine R.l_of rfl (fun h=>hL h) (s_store H34 0 (wt0 rfl) rfl rfl rfl rfl rfl sz44 rfl rfl (cs':=#[.int .i64 (p.pc),.int .i64 (p.bg),.int .i64 (p.ln)]) rfl ?_)
   intro wq35 H36
   refine R.g_nil ?_
   refine w_0 ?_
   exact rw_assign g32 ⟨rfl,rfl,trivial⟩ H36
  ·
   rintro l1 pr x ia II Kx _ W37 ⟨b2,hJ,rfl⟩ hphi H38
   have H39:=S.unbig (L:=[_]) (H38.tk [3,0,1,2,4,5,6,7,8,9,10,11,12])
   refine g_wk [(2,_),(6,_)] ?_
   obtain ⟨q9,hpr9,hxq9⟩:=hphi
   have hxm9:x∈A.blocks i:=List.mem_of_getElem? hxq9
   have H40:S _ [_,_,_,_,_,_,_,_,_,_,_,_,_,_,_]:=S.unbig (H39.tk [1,0,2,3,4,5,6,7,8,9,10,11,12])
   refine R.g_block ?_
   refine R.g_anyY [] (fun wx=>S wx [DXn0 X A,Ob ia (.cells #[.int .i64 (x.pc),.int .i64 (x.bg),.int .i64 (x.ln)] 44 (0,0)),Ob g1 (.cells #[.pointer (some ⟨X.g,0,none⟩)] 26 (0,0))]) (fun wx=>S wx []) [6] (by kernel_rfl) (by kernel_rfl) (fun ⟨_,_,h⟩=>h) H40 (fun wq41 H42=>?_)
   refine y_t 0 rfl (H42.mask [false,false,true,true,false,false,false,true,false,false,false,false,false,false,false]) (fun _ H=>xl H 2) ?_
   refine y_pure (v:=.pointer (some ⟨X.g,0,none⟩)) 1 rfl (wt0 rfl) rfl rfl rfl (by kernel_rfl) (by kernel_rfl) (by kernel_rfl) (by kernel_rfl) (fun wx=>x_nilCheck rfl rfl) ?_
   refine y_pure (v:=.pointer (some ⟨X.g,8,none⟩)) 2 rfl (wt0 rfl) rfl rfl rfl (by kernel_rfl) (by kernel_rfl) (by kernel_rfl) (by kernel_rfl) (fun wx=>x_fieldAddr rfl rfl fo85_8 rfl) ?_
   refine y_t 3 rfl (H42.mask [false,false,true,true,false,false,false,true,false,false,false,false,false,false,false]) (fun _ H=>xl H 0) ?_
   refine y_t (v:=.agg #[.int .i64 (x.pc),.int .i64 (x.bg),.int .i64 (x.ln)]) 4 rfl (H42.mask [false,false,true,true,false,false,false,true,false,false,false,false,false,false,false]) (fun _ H=>x_loadA H 1 rfl rfl Tryz.underlying44 rfl sz44 rfl rfl rfl) ?_
   refine y_one (i:=5) (by kernel_rfl) rfl ?_
   refine s_cl (at_x x _) ?_
   rintro _ wq43 ⟨rfl,H44⟩
   replace H44:=H42.ab0 H44
   refine b_ret rfl rfl ?_
   refine y_k (H44.mask [false,false,true,true,false,false,false,true,false,false,false,false,false,false,false]) (H44.mask [false,false,false,false,false,false,false,false,false,false,false,false,false,false,false]) ?_
   refine y_one (i:=6) (by kernel_rfl) rfl ?_
   refine s_delete (x:=x.at) placeT H44 12 (wt0 rfl) rfl rfl rfl rfl rfl ((okP_blk hI hi hxm9)) ?_
   intro wq45 H46
   refine y_kt rfl (H46.mask [false,false,false,false,false,false,false,false,false,false,false,false,false,false,false]) ?_
   refine y_done (by kernel_rfl) ?_
   refine w_0 ?_
   have hcB9:(hereN ({ A with asked:=al }:PK) pr).isB x:=isB_of hi.1 hi.2 hxm9
   obtain ⟨b3,hb3,H47⟩:=del_blk hJ hcB9 (ofL_gone (al:=al) (by rw [hal,delR_nil,List.filter_filter]; simp) (mem_blocks_pc hxm9)) (H46.tk [12,13,0,1,2,3,4,5,6,7,8,9,10,11,14])
   have H48:S _ [_,_,_,_,_,_,_,_,_,_,_,_,_]:=S.big (L:=[_,_,_]) (H47.tk [2,3,4,0,1,5,6,7,8,9,10,11,12,13,14])
   exact rj_next ⟨b3,(by rw [hereN_snoc]; exact hb3),rfl⟩ (H48.tk [0,4,5,6,7,8,9,10,11,1,2,12])
  ·
   rintro D xs _ W49 hxs ⟨b2,hJ,rfl⟩ H50
   have H51:S _ [_,_,_,_,_,_,_,_,_,_,_,_,_]:=S.unbig (H50.tk [1,0,2,3,4,5,6,7,8,9,10])
   refine w_0 ?_
   refine fin_mark H51 3 rfl [] [] rfl (fun wq52 H53=>⟨trivial,?_⟩)
   have hal2:al=A.asked.filter fun a=>decide (a.2.pc ≠ i):=by rw [hal,delR_nil]
   have hA9:A.forget i=hereN ({ A with asked:=al }:PK) (A.blocks i):=by unfold PK.forget hereN; rw [hal2]; congr 1; exact (hereN_all hI i).symm
   rw [hxs] at hJ
   have hF9:S wq52 [DXn0 X A,Rw 4 1 X.hp A.had.length X.hc (fl boolL A.had),Rw 40 2 X.wp A.wish.length X.wc (fl wisL A.wish),Mp (Value.int .i64) ptV okI X.mg (mtM ms),(Lst MtI ms),Mp plK ptV okP X.bg (bkM b2),(Lst BkI b2),Old w (fps [(XI X A)])]:=by rw [hmm]; exact H53.tk [2,6,7,8,9,10,11,12]
   have hX9:XOK ({ X with ms:=ms,bs:=b2 }:XP) (A.forget i):=by rw [hA9]; exact ⟨hXi.ms,hXi.ask,hJ.bn,hJ.bf⟩
   exact ⟨ms,b2,hX9,rfl,S.big (L:=[_,_,_,_,_,_,_]) hF9⟩
  · rintro D cc pr _ W _ h; exact h.elim
 ·
  have H56:S _ [_,_,_,_,_,_,_,_,_,_]:=Hx21
  refine R.w_v (fun h=>hL h) xe ?_
  refine R.g_nil ?_
  refine w_0 ?_
  refine R.g_seq ?_
  refine R.g_cond_t rfl rfl ?_
  refine R.g_skip ?_
  refine w_0 ?_
  refine R.g_block ?_
  refine R.g_seq ?_
  refine R.g_region ?_
  refine R.w_v (fun h=>hL h) (v:=.tuple #[.int .i64 (q13.1),.pointer (some ⟨q13.2,0,none⟩)]) (x_entry (k:=0) (t:=0) (e0:=0) H56 5 rfl rfl rfl) ?_
  iterate 2 refine R.w_v (fun h=>hL h) xe ?_
  iterate 2 refine R.w_v (fun h=>hL h) xa ?_
  refine R.g_nil ?_
  refine w_0 ?_
  refine R.g_region ?_
  obtain ⟨iq57,m58,hq59,hk60,hb61,hf62⟩:=mtM_some (show mtM ms q13.1=some q13.2 by rw [hmm]; exact hN18)
  rw [← hb61]
  refine R.w_v (fun h=>hL h) (xl H56 1) ?_
  iterate 2 refine R.w_v (fun h=>hL h) xm ?_
  refine R.w_v (fun h=>hL h) (v:=.func (.func 111) #[] #[.pointer (some ⟨g4,0,none⟩)]) (x_makeFunc rfl rfl rfl) ?_
  refine R.l_of rfl (fun h=>hL h) (s_call (wt0 rfl) (x_call' rfl rfl cl43) (back_x ({ X with ms:=ms,bs:=bs }:XP) ({ A with asked:=al }:PK) j (({ A with asked:=al }:PK).here) hXi (PKI.sub hI hsb) (by omega) q13.1 iq57 m58 hq59 hk60 (fun c:Cho=>decide (c.pc=i)) 111 #[] #[.pointer (some ⟨g4,0,none⟩)] (Ob g4 (.cells #[.int .i64 i] 3 (0,0))) (fun _:Cho=>True) (clear1_f g4 m58 i) (fun _ _=>trivial) _ (H56.tk [0,2,7,6,8])) ?_)
  rintro _ wq69 ⟨ap63,ac64,bs65,hY66,po67,co68,rfl,H70⟩
  replace H70:S _ [_,_,_,_,_,_,_,_,_,_,_]:=H56.abI (new:=[_,_,_,_,_,_]) [0,2,7,6,8] H70 rfl
  have hol9:(m58.asked.filter (fun c:Cho=>decide (c.pc=i))).length≤m58.asked.length:=List.length_filter_le _ _
  refine b_ret rfl rfl ?_
  refine R.g_nil ?_
  refine w_k2 ?_
  refine g_round (i:=(rem,cur,ms,bs,al)) (rem14,(some q13),(ms.set iq57 ({ m58 with ap:=ap63,ac:=ac64,asked:=m58.asked.filter fun y9=>!(fun c:Cho=>decide (c.pc=i)) y9 }:Mt)),bs65,(delQ ({ A with asked:=al }:PK).asked q13.1 (fun c:Cho=>decide (c.pc=i)))) ?_ ?_ ?_
  · exact ⟨rfl,rfl,rfl,trivial⟩
  · exact ⟨hY66,(by show delQ al q13.1 _=_; rw [hal]; exact delR_step hsub hp16 hm19),((mtM_set (ms:=ms) (m':=({ m58 with ap:=ap63,ac:=ac64,asked:=m58.asked.filter fun y9=>!(fun c:Cho=>decide (c.pc=i)) y9 }:Mt)) (XOK.nd hXi (PKI.sub hI hsb)) hq59 rfl rfl).trans hmm),(fun z hz=>hsub z ((hm19 z).1 hz).1),(H70.tk [1,6,2,7,8,9,4,3,5,10])⟩
  · exact hl20
theorem cl54:callable Tryz.prog 54=true:=by kernel_rfl
theorem done_x (X:XP) (A:PK) (j:Nat) (hX:XOK X A) (hI:PKI j A) (i:Int) (b:Bool) (hj:j≤100000)  (w:World) (HS:S w [(XI X A)]):Calls Tryz.prog 19 #[.pointer (some ⟨X.g,0,none⟩),.int .i64 i,.bool b] w fun e w'=>∃ (Y:XP),Y.g=X.g∧XOK Y (A.doneA i b)∧e=.returned (.int .i64 (A.doneE i))∧S w' ([(XI Y (A.doneA i b))]++[Old w (fps [(XI X A)])]):=by
 have H0:=HS.beginI
 have hn24:=hI.n24
 have hn1:=hI.n1
 have hpz1:=hI.pz1
 have hpz2:=hI.pz2
 have hla1:=hI.la1
 have hla2:=hI.la2
 have hadl:=hI.hadl
 have hwl:=hI.wishl
 replace H0:S _ [_,_,_,_,_,_,_,_]:=S.unbig (L:=[_,_,_,_,_,_,_]) H0
 have hfl9:(A.forget i).had.length=A.n:=hI.hadl
 refine enter_d 34 Tryz.func19 rfl rfl rfl ?_
 refine g_wk [(0,_),(1,_),(2,_)] ?_
 refine w_s ?_
 refine l_of (s_alloc H0 (wt0 rfl) rfl rfl rfl ze30 ?_)
 intro g1 wq2 H3
 refine w_k2 ?_
 refine l_of (s_defer (wt0 rfl) rfl (xd_defer rfl rfl rfl) ?_)
 refine w_k4 ?_
 by_cases hb4:0≤i∧i<(A.n:Int)
 ·
  have H5:S _ [_,_,_]:=S.big (L:=[_,_,_,_,_,_,_]) (H3.tk [1,2,3,4,5,6,7,0,8])
  refine l_of (s_cl (index_t X A j hX hI i hb4 _ (H5.tk [0])) ?_)
  rintro _ wq6 ⟨rfl,H7⟩
  replace H7:S _ [_,_,_]:=H5.abI (new:=[_]) [0] H7 rfl
  have H8:S _ [_,_,_,_,_,_,_,_,_]:=S.unbig (L:=[_,_,_,_,_,_,_]) (H7.tk [0,1,2])
  refine b_ret rfl rfl ?_
  refine w_k7 ?_
  refine w_v (x_i ((i).toNat) (H8.rr 1)) ?_
  obtain ⟨x9,hx9⟩:=(H8.rr 1).exL boolE ((i).toNat)
  have hhb9:=bitAt_at hx9
  refine w_v (x_r ((i).toNat) (H8.rr 1) (boolE.flAt1 hx9 rfl)) ?_
  refine w_v (x_not (b:=x9) rfl rfl) ?_
  refine w_m ?_
  rcases Bool.eq_false_or_eq_true (x9) with hb10 | hb10
  ·
   iterate 3 refine w_n (neg_of hb10) ?_
   refine w_v (x_pick_f rfl rfl (neg_of hb10) rfl) ?_
   refine l_of (s_cl (need_f false 9 rfl _) ?_)
   rintro _ wq11 ⟨rfl,H12⟩
   replace H12:=H8.ab0 H12
   refine b_panic ?_
   refine g_then_panic ?_
   refine fin_dpanic ?_
   refine gl_step (by simp) cl38 (caughtx_p g1 9 (0) [] _ (H12.ob (k:=7) rfl)) ?_
   rintro _ _ wq13 ⟨⟨rfl,H14⟩,rfl⟩
   replace H14:S wq13 [Ob g1 (.cells #[.int .i64 9] 30 (0,0)),Ob X.g (.cells #[.map (some X.mg),.int .i64 ((A.n:Int)),.int .i64 ((A.pz:Int)),.int .i64 ((A.la:Int)),.string (A.seed),.bool A.ino,.slice X.hp A.had.length X.hc,.slice X.wp A.wish.length X.wc,.map (some X.bg)] 85 (0,0)),Rw 4 1 X.hp A.had.length X.hc (fl boolL A.had),Rw 40 2 X.wp A.wish.length X.wc (fl wisL A.wish),Mp (Value.int .i64) ptV okI X.mg (mtM X.ms),(Lst MtI X.ms),Mp plK ptV okP X.bg (bkM X.bs),(Lst BkI X.bs),Old w (fps [(XI X A)])]:=H12.absorbK (new:=[Ob g1 (.cells #[.int .i64 9] 30 (0,0))]) [7] (by intro g hg; rw [List.mem_singleton] at hg; subst hg; exact ⟨7,rfl,_,rfl,rfl⟩) H14
   refine (?_:GL _ _ _ _ _ _ FrameMode.returning _)
   refine gl_ret [.cell 6 30] [.int .i64 9] rfl ⟨⟨_,rfl,run_load1 Tryz.underlying30 rfl (H14.cell (k:=0) rfl rfl)⟩,trivial⟩ ?_
   have hE:A.doneE i=9:=by unfold PK.doneE; rw [if_neg (by omega),if_pos (.inl (hhb9.trans hb10))]
   have hA9:A.doneA i b=A:=by unfold PK.doneA; rw [hE]; exact if_neg (by decide)
   rw [hA9]
   exact ⟨X,rfl,hX,(by rw [hE]; rfl),((S.big (L:=[_,_,_,_,_,_,_]) (H14.tk [1,2,3,4,5,6,7,8])).tk [0,1])⟩
  ·
   iterate 2 refine w_g (neg_of hb10) xm ?_
   have H15:S _ [_,_,_]:=S.big (L:=[_,_,_,_,_,_,_]) (H8.tk [0,1,2,3,4,5,6,7,8])
   refine l_of (s_call (wt1 rfl rfl rfl rfl (neg_of hb10)) (x_call' rfl rfl cl54) (whole_x X A j hX hI i hb4 _ (H15.tk [0])) ?_)
   rintro _ wq16 ⟨rfl,H17⟩
   replace H17:S _ [_,_,_]:=H15.abI (new:=[_]) [0] H17 rfl
   have H18:S _ [_,_,_,_,_,_,_,_,_]:=S.unbig (L:=[_,_,_,_,_,_,_]) (H17.tk [0,1,2])
   refine b_ret rfl rfl ?_
   refine w_v (x_pick_t rfl rfl (neg_of hb10) rfl) ?_
   rcases Bool.eq_false_or_eq_true ((A.wholeB i)) with hb19 | hb19
   ·
    refine l_of (s_call0 H18 (wt0 rfl) (x_call' rfl rfl cl39) (need_t (A.wholeB i) 9 hb19 _) rfl rfl ?_)
    intro wq20 H21
    refine w_e ?_
    refine g_wk [(0,_),(1,_),(2,_),(6,_)] ?_
    refine w_s ?_
    refine w_r2 ?_
    have H25:S _ [_,_,_]:=S.big (L:=[_,_,_,_,_,_,_]) (H21.tk [0,1,2,3,4,5,6,7,8])
    refine l_of (s_cl (clear_x X A j hX hI i hb4 (by omega) _ (H25.tk [0])) ?_)
    rintro _ wq26 ⟨ms22,bs23,hY24,rfl,H27⟩
    replace H27:S _ [_,_,_]:=H25.abI (new:=[_]) [0] H27 rfl
    have H28:S _ [_,_,_,_,_,_,_,_,_]:=S.unbig (L:=[_,_,_,_,_,_,_]) (H27.tk [0,1,2])
    refine b_ret rfl rfl ?_
    refine w_k8 ?_
    refine w_v (x_i ((i).toNat) (H28.rr 1)) ?_
    refine l_of (s_stoL (j:=((i).toNat)) boolE b H28 1 (wt0 rfl) rfl rfl rfl rfl rfl rfl sz4 (by omega) ?_)
    intro wq29 H30
    have H31:S wq29 [Ob X.g (.cells #[.map (some X.mg),.int .i64 (((A.forget i).n:Int)),.int .i64 (((A.forget i).pz:Int)),.int .i64 (((A.forget i).la:Int)),.string ((A.forget i).seed),.bool ((A.forget i).ino),.slice X.hp (((A.forget i).had.set (i).toNat b).length) X.hc,.slice X.wp (((A.forget i).wish).length) X.wc,.map (some X.bg)] 85 (0,0)),Rw 4 1 X.hp (((A.forget i).had.set (i).toNat b).length) X.hc (fl boolL ((A.forget i).had.set (i).toNat b)),Rw 40 2 X.wp (((A.forget i).wish).length) X.wc (fl wisL ((A.forget i).wish)),Mp (Value.int .i64) ptV okI X.mg (mtM ms22),(Lst MtI ms22),Mp plK ptV okP X.bg (bkM bs23),(Lst BkI bs23),Ob g1 (.cells #[.int .i64 0] 30 (0,0)),Old w (fps [(XI X A)])]:=by rw [show ((A.forget i).had.set (i).toNat b).length=(A.forget i).had.length from List.length_set]; exact H30
    refine w_e ?_
    refine g_wk [(6,_)] ?_
    refine w_s ?_
    refine l_of (w_st #[.int .i64 0] H31 7 ?_)
    intro wq32 H33
    refine w_k2 ?_
    refine fin_dret ?_
    refine gl_step (by simp) cl38 (caughtx_n g1 _) ?_
    rintro _ _ wq34 ⟨⟨rfl,H35⟩,rfl⟩
    replace H35:=H33.ab0 H35
    refine (?_:GL _ _ _ _ _ _ FrameMode.returning _)
    refine gl_ret [.cell 6 30] [.int .i64 0] rfl ⟨⟨_,rfl,run_load1 Tryz.underlying30 rfl (H35.cell (k:=7) rfl rfl)⟩,trivial⟩ ?_
    have hE:A.doneE i=0:=by unfold PK.doneE; rw [if_neg (by omega),if_neg (by rintro (h9 | h9); exact absurd (hhb9.symm.trans h9) (by rw [hb10]; decide); exact absurd (hb19.symm.trans h9) (by decide))]
    have hA9:A.doneA i b=A.putA i b:=if_pos hE
    rw [hA9,hE]
    exact ⟨({ X with ms:=ms22,bs:=bs23 }:XP),rfl,⟨hY24.ms,hY24.ask,hY24.bn,hY24.bf⟩,rfl,S.big (L:=[_,_,_,_,_,_,_]) (H35.tk [0,1,2,3,4,5,6,8])⟩
   ·
    refine l_of (s_cl (need_f (A.wholeB i) 9 hb19 _) ?_)
    rintro _ wq36 ⟨rfl,H37⟩
    replace H37:=H18.ab0 H37
    refine b_panic ?_
    refine g_then_panic ?_
    refine fin_dpanic ?_
    refine gl_step (by simp) cl38 (caughtx_p g1 9 (0) [] _ (H37.ob (k:=7) rfl)) ?_
    rintro _ _ wq38 ⟨⟨rfl,H39⟩,rfl⟩
    replace H39:S wq38 [Ob g1 (.cells #[.int .i64 9] 30 (0,0)),Ob X.g (.cells #[.map (some X.mg),.int .i64 ((A.n:Int)),.int .i64 ((A.pz:Int)),.int .i64 ((A.la:Int)),.string (A.seed),.bool A.ino,.slice X.hp A.had.length X.hc,.slice X.wp A.wish.length X.wc,.map (some X.bg)] 85 (0,0)),Rw 4 1 X.hp A.had.length X.hc (fl boolL A.had),Rw 40 2 X.wp A.wish.length X.wc (fl wisL A.wish),Mp (Value.int .i64) ptV okI X.mg (mtM X.ms),(Lst MtI X.ms),Mp plK ptV okP X.bg (bkM X.bs),(Lst BkI X.bs),Old w (fps [(XI X A)])]:=H37.absorbK (new:=[Ob g1 (.cells #[.int .i64 9] 30 (0,0))]) [7] (by intro g hg; rw [List.mem_singleton] at hg; subst hg; exact ⟨7,rfl,_,rfl,rfl⟩) H39
    refine (?_:GL _ _ _ _ _ _ FrameMode.returning _)
    refine gl_ret [.cell 6 30] [.int .i64 9] rfl ⟨⟨_,rfl,run_load1 Tryz.underlying30 rfl (H39.cell (k:=0) rfl rfl)⟩,trivial⟩ ?_
    have hE:A.doneE i=9:=by unfold PK.doneE; rw [if_neg (by omega),if_pos (.inr hb19)]
    have hA9:A.doneA i b=A:=by unfold PK.doneA; rw [hE]; exact if_neg (by decide)
    rw [hA9]
    exact ⟨X,rfl,hX,(by rw [hE]; rfl),((S.big (L:=[_,_,_,_,_,_,_]) (H39.tk [1,2,3,4,5,6,7,8])).tk [0,1])⟩
 ·
  have H40:S _ [_,_,_]:=S.big (L:=[_,_,_,_,_,_,_]) (H3.tk [1,2,3,4,5,6,7,0,8])
  refine l_of (s_cl (index_f X A j hX hI i hb4 _ (H40.tk [0])) ?_)
  rintro _ wq41 ⟨rfl,H42⟩
  replace H42:S _ [_,_,_]:=H40.abI (new:=[_]) [0] H42 rfl
  have H43:S _ [_,_,_,_,_,_,_,_,_]:=S.unbig (L:=[_,_,_,_,_,_,_]) (H42.tk [0,1,2])
  refine b_panic ?_
  refine g_then_panic ?_
  refine fin_dpanic ?_
  refine gl_step (by simp) cl38 (caughtx_p g1 7 (0) [] _ (H43.ob (k:=7) rfl)) ?_
  rintro _ _ wq44 ⟨⟨rfl,H45⟩,rfl⟩
  replace H45:S wq44 [Ob g1 (.cells #[.int .i64 7] 30 (0,0)),Ob X.g (.cells #[.map (some X.mg),.int .i64 ((A.n:Int)),.int .i64 ((A.pz:Int)),.int .i64 ((A.la:Int)),.string (A.seed),.bool A.ino,.slice X.hp A.had.length X.hc,.slice X.wp A.wish.length X.wc,.map (some X.bg)] 85 (0,0)),Rw 4 1 X.hp A.had.length X.hc (fl boolL A.had),Rw 40 2 X.wp A.wish.length X.wc (fl wisL A.wish),Mp (Value.int .i64) ptV okI X.mg (mtM X.ms),(Lst MtI X.ms),Mp plK ptV okP X.bg (bkM X.bs),(Lst BkI X.bs),Old w (fps [(XI X A)])]:=H43.absorbK (new:=[Ob g1 (.cells #[.int .i64 7] 30 (0,0))]) [7] (by intro g hg; rw [List.mem_singleton] at hg; subst hg; exact ⟨7,rfl,_,rfl,rfl⟩) H45
  refine (?_:GL _ _ _ _ _ _ FrameMode.returning _)
  refine gl_ret [.cell 6 30] [.int .i64 7] rfl ⟨⟨_,rfl,run_load1 Tryz.underlying30 rfl (H45.cell (k:=0) rfl rfl)⟩,trivial⟩ ?_
  have hE:A.doneE i=7:=if_pos (by omega)
  have hA9:A.doneA i b=A:=by unfold PK.doneA; rw [hE]; exact if_neg (by decide)
  rw [hA9]
  exact ⟨X,rfl,hX,(by rw [hE]; rfl),((S.big (L:=[_,_,_,_,_,_,_]) (H45.tk [1,2,3,4,5,6,7,8])).tk [0,1])⟩
end Go.Proofs.YthmmfhdpkddniaaGreatDoor
