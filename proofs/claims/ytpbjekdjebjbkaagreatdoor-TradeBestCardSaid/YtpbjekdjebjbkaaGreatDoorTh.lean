import Derived.Test.YtpbjekdjebjbkaaGreatDoorFm
import Derived.Test.YtpbjekdjebjbkaaGreatDoorTe
set_option maxRecDepth 20000
set_option maxHeartbeats 4000000
set_option linter.unusedSimpArgs false
set_option linter.unusedVariables false
namespace Go.Proofs.YtpbjekdjebjbkaaGreatDoor
open Go.RowKit
theorem keepS_len {α:Type} (q:α→Bool) (l:List α):(keepS q l).length≤l.length:=by unfold keepS; exact List.length_filter_le _ _
theorem grim_t {gs:List Rd} {me a:Int} {x:Rd} (hx:x∈gs) (h:at2 x.v a me=0):grimB (gs.map Rd.v) me a=true:=List.any_eq_true.2 ⟨x.v,List.mem_map.2 ⟨x,hx,rfl⟩,decide_eq_true h⟩
theorem grim_f {gs:List Rd} {me a:Int} (h:∀ r∈gs.reverse,¬ at2 r.v a me=0):grimB (gs.map Rd.v) me a=false:=List.any_eq_false.2 fun y hy=>by
 obtain ⟨x,hx,rfl⟩:=List.mem_map.1 hy
 rw [decide_eq_false (h x (List.mem_reverse.2 hx))]
 decide
theorem delF_i (l:List Int) (p:Option Addr) (c:Nat) (hl:l.length≤9223372036854775807) (q:Int→Bool) (gc:Nat) (fi ca:Array Value) (X:Item) (D:Int→Prop) (hq:FunC Tryz.prog gc fi ca X (fun x:Int=>[.int .i64 x]) (fun x=>.bool (q x)) D) (hD:∀ x∈l,D x)  (w:World) (HS:S w [X,Rw 3 1 p l.length c (fl intL l)]):Calls Tryz.prog 204 #[.slice p l.length c,.func (.func gc) fi ca] w fun e w'=>e=.returned (.slice p (keepS q l).length c)∧S w' ([X,Rw 3 1 p ((keepS q l).length) c (fl intL (keepS q l))]++[Old w (fps [X,Rw 3 1 p l.length c (fl intL l)])]):=by
 have H0:=HS.beginI
 refine enter 42 Tryz.func204 rfl rfl rfl ?_
 refine g_wk [(0,_),(1,_)] ?_
 refine w_s ?_
 refine w_k5 ?_
 refine l_of (s_cl (indexF_i l p l.length c hl q gc fi ca X D hq hD _ (H0.tk [0]) (H0.rr 1) (H0.apartRw (i:=1) (k:=0) rfl rfl (by decide))) ?_)
 rintro _ wq1 ⟨rfl,H2⟩
 replace H2:S _ [_,_,_]:=H0.abI (new:=[_]) [0] H2 rfl
 refine b_ret rfl rfl ?_
 refine w_k7 ?_
 by_cases hb3:((ixI q l):Int)=-1
 ·
  refine g_ct hb3 ?_
  refine w_k6 ?_
  refine fin_r [.tmp 4] [.slice p l.length c] ?_
  have hd:keepS q l=l:=keep_all (fun y hy=>by cases h9:q y with | false=>rfl | true=>exact absurd (hb3) (by unfold ixI; rw [if_pos (List.any_eq_true.2 ⟨y,hy,h9⟩)]; omega))
  exact ⟨by rw [hd]; rfl,by rw [hd]; exact H2.tk [0,1,2]⟩
 ·
  obtain ⟨i0,x0,hix,hx0,hq0,hno⟩:=ixI_some hb3
  have hi0:=(List.getElem?_eq_some_iff.1 hx0).1
  refine g_cf hb3 ?_
  refine w_k4 ?_
  rw [hix]
  refine w_m ?_
  refine w_b (v:=.int .i64 (((i0+1:Nat):Int))) (hb:=(b_addN (a:=i0) (b:=1) (by omega))) ?_
  refine w_k3 ?_
  refine g_loop (ι:=Nat × Nat × List Int) (fun (i,j,cur)=>[(0,.slice p l.length c),(1,.func (.func gc) fi ca),(5,.int .i64 ((i:Int))),(6,.int .i64 ((j:Int)))]) (fun (i,j,cur) wx=>(cur.length=l.length)∧(i<j)∧(j≤l.length)∧(cur.take i=keepS q (l.take j))∧(cur.drop j=l.drop j)∧S wx [X,Rw 3 1 p l.length c (fl intL cur),Old w (fps [X,Rw 3 1 p l.length c (fl intL l)])]) (fun (i,j,cur)=>l.length - j) (i0,(i0+1),l) ⟨rfl,rfl,rfl,rfl,trivial⟩ ⟨rfl,Nat.lt_succ_self _,(by omega),(keep_first hx0 hq0 hno).symm,rfl,(H2.tk [0,1,2])⟩ ?_
  rintro ⟨i,j,cur⟩ wq4 ⟨hcl,hij,hj,hp,hs,H5⟩
  refine g_wk [(0,_),(1,_),(5,_),(6,_)] ?_
  refine g_seq ?_
  refine w_k6 ?_
  by_cases hb6:((j:Int):Int)<(l.length:Int)
  ·
   refine g_ct hb6 ?_
   refine w_k7 ?_
   refine w_v (x_i j (H5.rr 1)) ?_
   obtain ⟨x7,hx7⟩:=(H5.rr 1).exL intE j
   have hmc:∀ y,cur[j]?=some y→y∈l:=fun y hy=>List.mem_of_getElem? (by rw [← drop_at hs]; exact hy)
   have hDc:∀ x∈l,D x:=hD
   refine w_v (x_r j (H5.rr 1) (intE.flAt1 hx7 rfl)) ?_
   refine w_k5 ?_
   refine l_of (s_call (wt0 rfl) (x_call rfl rfl rfl hq.ok) (hq.does x7 (hDc x7 (by first | exact List.mem_of_getElem? hx7 | exact hmc _ hx7)) _ (H5.tk [0])) ?_)
   rintro _ wq8 ⟨rfl,H9⟩
   replace H9:S _ [_,_,_]:=H5.abI (new:=[_]) [0] H9 rfl
   refine b_ret rfl rfl ?_
   refine w_v (x_not (b:=q x7) rfl rfl) ?_
   refine w_e ?_
   rcases Bool.eq_false_or_eq_true (q x7) with hb10 | hb10
   ·
    refine g_cond_f rfl (neg_of hb10) ?_
    refine w_k5 ?_
    refine w_b (v:=.int .i64 (((j+1:Nat):Int))) (hb:=(b_addN (a:=j) (b:=1) (by omega))) ?_
    refine w_k2 ?_
    refine g_rd (i:=(i,j,cur)) (i,(j+1),cur) ⟨hcl,by omega,by omega,(del_skip hp hs hx7 hb10).1,(del_skip hp hs hx7 hb10).2,(H9.tk [0,1,2])⟩
   ·
    refine g_cond_t rfl (neg_of hb10) ?_
    refine w_k4 ?_
    refine w_v (x_i i (H9.rr 1)) ?_
    refine l_of (s_stoL (j:=i) intE x7 H9 1 (wt0 rfl) rfl rfl rfl rfl rfl rfl sz3 (by omega) ?_)
    intro wq11 H12
    refine w_k3 ?_
    refine w_b (v:=.int .i64 (((i+1:Nat):Int))) (hb:=(b_addN (a:=i) (b:=1) (by omega))) ?_
    refine w_k6 ?_
    refine w_b (v:=.int .i64 (((j+1:Nat):Int))) (hb:=(b_addN (a:=j) (b:=1) (by omega))) ?_
    refine w_k2 ?_
    refine g_rd (i:=(i,j,cur)) ((i+1),(j+1),(cur.set i x7)) ⟨(by rw [List.length_set]; exact hcl),by omega,by omega,(del_put hcl hij hp hs hx7 hb10).1,(del_put hcl hij hp hs hx7 hb10).2,(H12.tk [0,1,2])⟩
  ·
   refine g_cf hb6 ?_
   refine w_k8 ?_
   refine w_v (v:=.slice (cutP p i c 1) (l.length - i) (c - i)) (x_cut i rfl rfl rfl Tryz.underlying43 sz3 (by omega)) ?_
   refine l_of (s_clear (i:=i) H5 1 (wt0 rfl) rfl rfl rfl rfl Tryz.underlying43 ze3 rfl rfl (by decide) (by omega) ?_)
   intro wq13 H14
   replace H14:S wq13 [X,Rw 3 1 p i c (fl intL (cur.take i)),Old w (fps [X,Rw 3 1 p l.length c (fl intL l)])]:=by have h9:=H14; rw [← intE.flTake]; exact h9
   refine w_k4 ?_
   have hic:=(H14.rr 1).2.1
   refine w_v (v:=.slice p i c) (ex_cast (x_sliceH i rfl rfl rfl Tryz.underlying43 sz3 ⟨rfl,hic⟩) (by rw [cutP0])) ?_
   refine w_k3 ?_
   refine fin_r [.tmp 4] [.slice p i c] ?_
   have hjl:j=l.length:=by omega
   have hd:keepS q l=cur.take i:=by rw [hp,hjl,List.take_length]
   have hdl:(cur.take i).length=i:=by rw [List.length_take]; omega
   exact ⟨by rw [hd,hdl]; rfl,by rw [hd,hdl]; exact H14.tk [0,1,2]⟩
section
variable (g:Nat) (seed:ByteArray) (pp:Option Addr) (pc:Nat) (ps:List Pl) (sp:Option Addr) (sc sn:Nat) (tp:Option Addr) (tc tn:Nat) (vp:Option Addr) (vc vn:Nat) (bp:Option Addr) (bc bn:Nat)
abbrev DTf0 (gp:Option Addr) (gs:List Rd) (gc:Nat):=Ob g (.cells #[.slice gp gs.length gc,.string seed,.slice pp ps.length pc,.slice sp sn sc,.slice tp tn tc,.slice vp vn vc,.slice bp bn bc] 61 (0,0))
theorem freely_s (gs:List Rd) (gp:Option Addr) (gc:Nat) (hnp:ps.length≤9) (me:Int) (h0m:0≤me) (pm:Pl) (hm:ps[me.toNat]?=some pm) (rt:Int) (hrt:pm.rt=rt) (hr0:0≤rt∧rt≤1000000)  (w:World) (HS:S w [DTf0 g seed pp pc ps sp sc sn tp tc tn vp vc vn bp bc bn gp gs gc,Rw 27 2 pp ps.length pc (fl plL ps)]):Calls Tryz.prog 199 #[.agg #[],.pointer (some ⟨g,0,none⟩),.int .i64 me] w fun e w'=>∃ p' c',e=.returned (.slice p' (evnV ps.length rt []).length c')∧S w' ([Rw 3 1 p' (evnV ps.length rt []).length c' (fl intL (evnV ps.length rt [])),DTf0 g seed pp pc ps sp sc sn tp tc tn vp vc vn bp bc bn gp gs gc,Rw 27 2 pp ps.length pc (fl plL ps)]++[Old w (fps [DTf0 g seed pp pc ps sp sc sn tp tc tn vp vc vn bp bc bn gp gs gc,Rw 27 2 pp ps.length pc (fl plL ps)])]):=by
 have H0:=HS.beginI
 refine enter 10 Tryz.func199 rfl rfl rfl ?_
 refine g_wk [(0,_),(1,_),(2,_)] ?_
 refine w_s ?_
 refine l_of (s_box H0 (wt0 rfl) rfl rfl rfl rfl ?_)
 intro g1 wq2 H3
 refine w_k5 ?_
 have H4:S _ [_,_,_,_,_]:=H3.nilFl 3 1 intL
 refine l_of (s_cl (evenly_s g gp gc gs.length seed pp pc ps sp sc sn tp tc tn vp vc vn bp bc bn (by omega) me h0m pm hm rt hrt hr0 ([]) none 0 (fun x hx=>absurd hx List.not_mem_nil) (Nat.zero_le _) _ (H4.tk [0,2,3])) ?_)
 rintro _ wq7 ⟨pe5,ce6,rfl,H8⟩
 replace H8:S _ [_,_,_,_,_,_]:=H4.abI (new:=[_,_,_,_]) [0,2,3] H8 rfl
 refine b_ret rfl rfl ?_
 refine w_k3 ?_
 refine fin_r [.tmp 6] [.slice pe5 ((evnV ps.length rt ([])).length) ce6] ?_
 exact ⟨_,_,rfl,H8.tk [0,2,3,5]⟩
theorem openly_s (gs:List Rd) (gp:Option Addr) (gc:Nat) (hnp:ps.length≤9) (me:Int) (h0m:0≤me) (pm:Pl) (hm:ps[me.toNat]?=some pm) (rt:Int) (hrt:pm.rt=rt) (hr0:0≤rt∧rt≤1000000)  (w:World) (HS:S w [DTf0 g seed pp pc ps sp sc sn tp tc tn vp vc vn bp bc bn gp gs gc,Rw 27 2 pp ps.length pc (fl plL ps)]):Calls Tryz.prog 201 #[.agg #[],.pointer (some ⟨g,0,none⟩),.int .i64 me] w fun e w'=>∃ p' c',e=.returned (.slice p' (evnV ps.length rt (othV ps.length me)).length c')∧S w' ([Rw 3 1 p' (evnV ps.length rt (othV ps.length me)).length c' (fl intL (evnV ps.length rt (othV ps.length me))),DTf0 g seed pp pc ps sp sc sn tp tc tn vp vc vn bp bc bn gp gs gc,Rw 27 2 pp ps.length pc (fl plL ps)]++[Old w (fps [DTf0 g seed pp pc ps sp sc sn tp tc tn vp vc vn bp bc bn gp gs gc,Rw 27 2 pp ps.length pc (fl plL ps)])]):=by
 have H0:=HS.beginI
 refine enter 13 Tryz.func201 rfl rfl rfl ?_
 refine g_wk [(0,_),(1,_),(2,_)] ?_
 refine w_s ?_
 refine l_of (s_box H0 (wt0 rfl) rfl rfl rfl rfl ?_)
 intro g1 wq2 H3
 refine w_k7 ?_
 refine l_of (s_cl (others_s g gp gc gs.length seed pp pc ps sp sc sn tp tc tn vp vc vn bp bc bn (by omega) me _ (H3.tk [1])) ?_)
 rintro _ wq6 ⟨po4,co5,rfl,H7⟩
 replace H7:S _ [_,_,_,_,_]:=H3.abI (new:=[_,_]) [1] H7 rfl
 have hol:=othV_len ps.length me
 refine b_ret rfl rfl ?_
 refine l_of (s_cl (evenly_s g gp gc gs.length seed pp pc ps sp sc sn tp tc tn vp vc vn bp bc bn (by omega) me h0m pm hm rt hrt hr0 (othV ps.length me) po4 co5 (fun x hx=>(othV_mem.1 hx).1) (by omega) _ (H7.tk [0,1,3])) ?_)
 rintro _ wq10 ⟨pe8,ce9,rfl,H11⟩
 replace H11:S _ [_,_,_,_,_,_]:=H7.abI (new:=[_,_,_,_]) [0,1,3] H11 rfl
 refine b_ret rfl rfl ?_
 refine w_k3 ?_
 refine fin_r [.tmp 6] [.slice pe8 ((evnV ps.length rt (othV ps.length me)).length) ce9] ?_
 exact ⟨_,_,rfl,H11.tk [0,2,3,5]⟩
abbrev DTf1 (bg bm:Nat) (me:Int) (gp:Option Addr) (gs:List Rd) (gc:Nat) (pl:List Rd):=[Ob bg (.cells #[.pointer (some ⟨g,0,none⟩)] 29 (0,0)),Ob bm (.cells #[.int .i64 me] 3 (0,0)),DTf0 g seed pp pc ps sp sc sn tp tc tn vp vc vn bp bc bn gp gs gc,Rw 39 1 gp gs.length gc (fl rowL gs),(Pool pl)]
theorem grim1_s (bg bm:Nat) (g:Nat) (seed:ByteArray) (pp:Option Addr) (pc:Nat) (ps:List Pl) (sp:Option Addr) (sc sn:Nat) (tp:Option Addr) (tc tn:Nat) (vp:Option Addr) (vc vn:Nat) (bp:Option Addr) (bc bn:Nat) (pl gs:List Rd) (gp:Option Addr) (gc:Nat) (hG:GsOK ps.length pl gs) (hgl:gs.length≤200) (hnp:ps.length≤9) (me:Int) (hme:0≤me∧me<ps.length) (a:Int) (ha:0≤a∧a<ps.length)  (w:World) (HS:S w (DTf1 g seed pp pc ps sp sc sn tp tc tn vp vc vn bp bc bn bg bm me gp gs gc pl)):Calls Tryz.prog 205 #[.int .i64 a,.pointer (some ⟨bg,0,none⟩),.pointer (some ⟨bm,0,none⟩)] w fun e w'=>e=.returned (.bool (grimB (gs.map Rd.v) me a))∧S w' ((DTf1 g seed pp pc ps sp sc sn tp tc tn vp vc vn bp bc bn bg bm me gp gs gc pl)++[Old w (fps (DTf1 g seed pp pc ps sp sc sn tp tc tn vp vc vn bp bc bn bg bm me gp gs gc pl))]):=by
 have H0:=HS.beginI
 refine enter_m 20 Tryz.func205 rfl rfl rfl ?_
 have hL:¬ LetsOut (bodyPostM (WF none) 9 Tryz.prog Tryz.f205 fun e w'=>e=.returned (.bool (grimB (gs.map Rd.v) me a))∧S w' ((DTf1 g seed pp pc ps sp sc sn tp tc tn vp vc vn bp bc bn bg bm me gp gs gc pl)++[Old w (fps (DTf1 g seed pp pc ps sp sc sn tp tc tn vp vc vn bp bc bn bg bm me gp gs gc pl))])):=by
  rintro ⟨_,_,h⟩
  simp only [bodyPostM,reduceCtorEq,false_and,and_false,exists_false,or_false,or_self,exists_const] at h
 refine g_wk [(0,_),(1,_),(2,_)] ?_
 refine R.g_seq ?_
 refine R.g_region ?_
 refine R.l_of rfl (fun h=>hL h) (s_box H0 (wt0 rfl) rfl rfl rfl rfl ?_)
 intro g1 wq2 H3
 refine R.l_of rfl (fun h=>hL h) (s_alloc H3 (wt0 rfl) rfl rfl rfl ze4 ?_)
 intro g4 wq5 H6
 refine R.g_nil ?_
 refine w_0 ?_
 iterate 2 refine R.g_seq ?_
 refine R.g_region ?_
 refine R.w_v (fun h=>hL h) (xl H6 2) ?_
 refine R.w_v (fun h=>hL h) xn ?_
 refine R.w_v (fun h=>hL h) x_f ?_
 refine R.w_v (fun h=>hL h) (v:=.agg #[.slice gp gs.length gc]) (x_loadA H6 4 rfl rfl Tryz.underlying58 rfl sz58 rfl rfl rfl) ?_
 refine R.l_of rfl (fun h=>hL h) (s_call (wt0 rfl) (x_call' rfl rfl cl61) (rounds_s gp gs.length gc _) ?_)
 rintro _ wq8 ⟨bk7,rfl,H9⟩
 replace H9:S _ [_,_,_,_,_,_,_,_,_]:=H6.ab (new:=[_]) H9 rfl
 refine b_ret rfl rfl ?_
 refine R.g_nil ?_
 refine w_0 ?_
 refine R.g_block ?_
 have H10:S _ [_,_,_,_,_,_,_,_]:=S.big (L:=[_,_]) (H9.tk [6,7,0,1,2,3,4,5,8])
 have H11:S _ [_,_,_,_,_,_,_]:=S.big (L:=[_,_]) (H10.tk [1,0,2,3,4,5,6,7])
 have H12:=S.noI (H11.tk [0,1,2,3,4,5,6])
 refine g_rangeJ (α:=Rd) (ι:=Unit) (encs:=encG) (base:=(Big [Ob bk7 (.cells #[.slice gp gs.length gc] 58 (0,0)),(Big [Rw 39 1 gp gs.length gc (fl rowL gs),(Pool pl)])])) (by omega) rfl cl70 (rounds_it (by omega) (by omega) (fun w9 h9=>(S.unbig (L:=[_,_]) (B:=[]) h9).rr 0)) (fun _=>rfl) rfl (fun pre Lx=>(∀ r∈pre,¬ at2 r.v a me=0)∧Lx=[Ob g4 (.cells #[.bool false] 4 (0,0)),Ob g1 (.cells #[.int .i64 a] 3 (0,0)),Ob bg (.cells #[.pointer (some ⟨g,0,none⟩)] 29 (0,0)),Ob bm (.cells #[.int .i64 me] 3 (0,0)),DTf0 g seed pp pc ps sp sc sn tp tc tn vp vc vn bp bc bn gp gs gc,Old w (fps (DTf1 g seed pp pc ps sp sc sn tp tc tn vp vc vn bp bc bn bg bm me gp gs gc pl))]) (fun cc pre Lx=>(cc=.ret∧(grimB (gs.map Rd.v) me a=true)∧Lx=[Ob g4 (.cells #[.bool true] 4 (0,0)),Ob g1 (.cells #[.int .i64 a] 3 (0,0)),Ob bg (.cells #[.pointer (some ⟨g,0,none⟩)] 29 (0,0)),Ob bm (.cells #[.int .i64 me] 3 (0,0)),DTf0 g seed pp pc ps sp sc sn tp tc tn vp vc vn bp bc bn gp gs gc,Old w (fps (DTf1 g seed pp pc ps sp sc sn tp tc tn vp vc vn bp bc bn bg bm me gp gs gc pl))])) (fun p ia=>[(2,.pointer (some ⟨bm,0,none⟩)),(3,.pointer (some ⟨g1,0,none⟩)),(4,.pointer (some ⟨g4,0,none⟩)),(5,.slice p.p p.l.length p.c)]) (fun p ia=>[]) (fun _ _ _ _ _=>trivial) ⟨(fun r hr=>absurd hr List.not_mem_nil),rfl⟩ H12 ?_ ?_ ?_ ?_
 ·
  rintro l1 p Ly W13 H14
  have hL:¬ LetsOut (fun (_:Exit) (_:Act) (_:World)=>False):=fun ⟨_,_,h⟩=>h
  refine g_wk [(2,_),(3,_),(4,_),(11,_)] ?_
  refine R.g_region ?_
  refine R.w_v (fun h=>hL h) xa ?_
  refine R.g_nil ?_
  refine w_0 ?_
  exact rw_assign () ⟨rfl,rfl,rfl,rfl,trivial⟩ H14
 ·
  rintro l1 pr x ia II Kx _ W15 ⟨hJ,rfl⟩ hphi H16
  have H17:=S.unbig (H16.tk [3,0,1,2,4,5,6,7,8,9])
  refine g_wk [(2,_),(3,_),(4,_),(5,_)] ?_
  have hxg:x∈gs:=List.mem_reverse.1 (List.mem_of_getElem? hphi)
  have hxp:=hG.mem x hxg
  have hox:=hG.ok x hxg
  have hlx:=hox.lenR
  have H18:S _ [_,_,_,_,_,_,_,_,_,_]:=S.unbig (H17.tk [0,1,2,3,4,5,6,7,8])
  have H19:S _ [_,_,_,_,_,_,_,_,_,_,_]:=S.unbig (H18.tk [1,0,2,3,4,5,6,7,8,9])
  refine R.g_block ?_
  refine R.g_seq ?_
  refine R.g_anyY [] (fun wx=>S wx [Rw 39 1 gp gs.length gc (fl rowL gs),(Pool pl),Ob bk7 (.cells #[.slice gp gs.length gc] 58 (0,0)),II,Kx,Ob g4 (.cells #[.bool false] 4 (0,0)),Ob g1 (.cells #[.int .i64 a] 3 (0,0)),Ob bg (.cells #[.pointer (some ⟨g,0,none⟩)] 29 (0,0)),Ob bm (.cells #[.int .i64 me] 3 (0,0)),DTf0 g seed pp pc ps sp sc sn tp tc tn vp vc vn bp bc bn gp gs gc,Old w (fps (DTf1 g seed pp pc ps sp sc sn tp tc tn vp vc vn bp bc bn bg bm me gp gs gc pl))]) (fun wx=>S wx [Rw 39 1 gp gs.length gc (fl rowL gs),(Pool pl),Ob bk7 (.cells #[.slice gp gs.length gc] 58 (0,0)),II,Kx,Ob g4 (.cells #[.bool false] 4 (0,0)),Ob g1 (.cells #[.int .i64 a] 3 (0,0)),Ob bg (.cells #[.pointer (some ⟨g,0,none⟩)] 29 (0,0)),Ob bm (.cells #[.int .i64 me] 3 (0,0)),DTf0 g seed pp pc ps sp sc sn tp tc tn vp vc vn bp bc bn gp gs gc,Old w (fps (DTf1 g seed pp pc ps sp sc sn tp tc tn vp vc vn bp bc bn bg bm me gp gs gc pl))]) [] (by kernel_rfl) (by kernel_rfl) (fun ⟨_,_,h⟩=>h) H19 (fun wq20 H21=>?_)
  refine y_pure (v:=.slice x.p x.l.length x.c) 0 rfl (wt0 rfl) rfl rfl rfl (by kernel_rfl) (by kernel_rfl) (by kernel_rfl) (by kernel_rfl) (fun wx=>x_move rfl rfl) ?_
  refine y_t 1 rfl H21 (fun _ H=>xl H 6) ?_
  refine y_pure (v:=.pointer ((x.p).map fun q=>q.add (((a).toNat) * 1))) 2 rfl (wt0 rfl) rfl rfl rfl (by kernel_rfl) (by kernel_rfl) (by kernel_rfl) (by kernel_rfl) (fun wx=>x_idxP ((a).toNat) ((H21.poolRd (k:=1) rfl hxp).some (by omega)) rfl rfl rfl Tryz.underlying39 sz43 (by omega)) ?_
  obtain ⟨x22,hx22⟩:=(H21.poolRd (k:=1) rfl hxp).exL rowE ((a).toNat)
  have hlx22:=hox.row_at hx22
  refine y_t 3 rfl H21 (fun _ H=>x_r ((a).toNat) (H.poolRd (k:=1) rfl hxp) (rowE.flAt1 hx22 rfl)) ?_
  refine y_t 4 rfl H21 (fun _ H=>xl H 8) ?_
  refine y_pure (v:=.pointer ((x22.p).map fun q=>q.add (((me).toNat) * 1))) 5 rfl (wt0 rfl) rfl rfl rfl (by kernel_rfl) (by kernel_rfl) (by kernel_rfl) (by kernel_rfl) (fun wx=>x_idxP ((me).toNat) ((H21.poolRow (k:=1) rfl hxp hx22).some (by omega)) rfl rfl rfl Tryz.underlying43 sz3 (by omega)) ?_
  obtain ⟨x23,hx23⟩:=(H21.poolRow (k:=1) rfl hxp hx22).exL intE ((me).toNat)
  have hyx23:=hox.ent hx22 hx23
  refine y_t (v:=.int .i64 ((at2 x.v a me))) 6 rfl H21 (fun _ H=>ex_cast (x_loadR1 ((me).toNat) (H.poolRow (k:=1) rfl hxp hx22) (by omega) rfl rfl Tryz.underlying3 rfl (intE.flAt1 hx23 rfl)) (by rw [at2_is hx22 hx23])) ?_
  refine y_pure (v:=.bool (decide (((at2 x.v a me):Int)=0))) 7 rfl (wt0 rfl) rfl rfl rfl (by kernel_rfl) (by kernel_rfl) (by kernel_rfl) (by kernel_rfl) (fun wx=>x_bin rfl rfl rfl b_eql) ?_
  refine y_done (by kernel_rfl) ?_
  refine w_0 ?_
  by_cases hb24:((at2 x.v a me):Int)=0
  ·
   refine R.g_cond_t rfl (decide_eq_true hb24) ?_
   refine R.g_seq ?_
   refine R.g_region ?_
   refine R.l_of rfl (fun ⟨_,_,h⟩=>h) (s_store H21 5 (wt0 rfl) rfl rfl rfl rfl rfl sz4 rfl rfl (cs':=#[.bool true]) rfl ?_)
   intro wq25 H26
   refine R.g_nil ?_
   refine w_0 ?_
   refine R.g_ret ?_
   refine w_0 ?_
   have H27:S _ [_,_,_,_,_,_,_,_,_,_]:=S.big (L:=[_,_]) (H26.tk [0,1,2,3,4,5,6,7,8,9,10])
   have H28:S _ [_,_,_,_,_,_,_,_,_]:=S.big (L:=[_,_]) (H27.tk [1,0,2,3,4,5,6,7,8,9])
   exact rj_ret (⟨rfl,(grim_t hxg hb24),rfl⟩) (H28.tk [0,1,2,3,4,5,6,7,8])
  ·
   refine R.g_cond_f rfl (decide_eq_false hb24) ?_
   refine R.g_skip ?_
   refine w_0 ?_
   have H29:S _ [_,_,_,_,_,_,_,_,_,_]:=S.big (L:=[_,_]) (H21.tk [0,1,2,3,4,5,6,7,8,9,10])
   have H30:S _ [_,_,_,_,_,_,_,_,_]:=S.big (L:=[_,_]) (H29.tk [1,0,2,3,4,5,6,7,8,9])
   exact rj_next ⟨(fun r hr=>by rcases List.mem_append.1 hr with hr | hr; exact hJ r hr; rw [List.mem_singleton] at hr; subst hr; exact hb24),rfl⟩ (H30.tk [0,1,2,3,4,5,6,7,8])
 ·
  rintro D xs _ W31 hxs ⟨hJ,rfl⟩ H32
  have H33:S _ [_,_,_,_,_,_,_,_,_]:=S.unbig (H32.tk [1,0,2,3,4,5,6,7])
  have H34:S _ [_,_,_,_,_,_,_,_,_,_]:=S.unbig (H33.tk [1,0,2,3,4,5,6,7,8])
  have hgf:grimB (gs.map Rd.v) me a=false:=grim_f (by rw [← hxs]; exact hJ)
  refine w_k2 ?_
  refine R.g_seq ?_
  refine R.g_region ?_
  refine R.l_of rfl (fun h=>hL h) (s_store H34 4 (wt0 rfl) rfl rfl rfl rfl rfl sz4 rfl rfl (cs':=#[.bool false]) rfl ?_)
  intro wq35 H36
  refine R.g_nil ?_
  refine w_0 ?_
  refine R.g_ret ?_
  refine fin_mark H36 3 rfl [.cell 4 4] [.bool false] rfl (fun wq37 H38=>⟨⟨⟨_,rfl,run_load1 Tryz.underlying4 rfl (H38.cell (k:=4) rfl rfl)⟩,trivial⟩,?_⟩)
  rw [hgf]
  exact ⟨rfl,(H38.tk [6,7,8,0,1,9])⟩
 ·
  rintro D cc pr _ W39 _ ⟨rfl,hgt,rfl⟩ H40
  have H41:S _ [_,_,_,_,_,_,_,_,_]:=S.unbig (H40.tk [1,0,2,3,4,5,6,7])
  have H42:S _ [_,_,_,_,_,_,_,_,_,_]:=S.unbig (H41.tk [1,0,2,3,4,5,6,7,8])
  refine gw_ret ?_
  refine w_k2 ?_
  refine fin_mark H42 3 rfl [.cell 4 4] [.bool true] rfl (fun wq43 H44=>⟨⟨⟨_,rfl,run_load1 Tryz.underlying4 rfl (H44.cell (k:=4) rfl rfl)⟩,trivial⟩,?_⟩)
  rw [hgt]
  exact ⟨rfl,(H44.tk [6,7,8,0,1,9])⟩
theorem grim1_f (bg bm:Nat) (g:Nat) (seed:ByteArray) (pp:Option Addr) (pc:Nat) (ps:List Pl) (sp:Option Addr) (sc sn:Nat) (tp:Option Addr) (tc tn:Nat) (vp:Option Addr) (vc vn:Nat) (bp:Option Addr) (bc bn:Nat) (pl gs:List Rd) (gp:Option Addr) (gc:Nat) (hG:GsOK ps.length pl gs) (hgl:gs.length≤200) (hnp:ps.length≤9) (me:Int) (hme:0≤me∧me<ps.length):FunC Tryz.prog 205 #[] #[.pointer (some ⟨bg,0,none⟩),.pointer (some ⟨bm,0,none⟩)] (Big [Ob bg (.cells #[.pointer (some ⟨g,0,none⟩)] 29 (0,0)),Ob bm (.cells #[.int .i64 me] 3 (0,0)),Ob g (.cells #[.slice gp gs.length gc,.string seed,.slice pp ps.length pc,.slice sp sn sc,.slice tp tn tc,.slice vp vn vc,.slice bp bn bc] 61 (0,0)),Rw 39 1 gp gs.length gc (fl rowL gs),(Pool pl)]) (fun x:Int=>[.int .i64 x]) (fun x=>.bool (grimB (gs.map Rd.v) me x)) (fun x=>0≤x∧x<(ps.length:Int)):=
 FunC.ofBig (by kernel_rfl) fun z hb w HS=>grim1_s bg bm g seed pp pc ps sp sc sn tp tc tn vp vc vn bp bc bn pl gs gp gc hG hgl hnp me hme _ hb w HS
theorem grimly_s (pl gs:List Rd) (gp:Option Addr) (gc:Nat) (hG:GsOK ps.length pl gs) (hgl:gs.length≤200) (hnp:ps.length≤9) (me:Int) (h0m:0≤me) (pm:Pl) (hm:ps[me.toNat]?=some pm) (rt:Int) (hrt:pm.rt=rt) (hr0:0≤rt∧rt≤1000000)  (w:World) (HS:S w [DTf0 g seed pp pc ps sp sc sn tp tc tn vp vc vn bp bc bn gp gs gc,Rw 39 1 gp gs.length gc (fl rowL gs),Rw 27 2 pp ps.length pc (fl plL ps),(Pool pl)]):Calls Tryz.prog 203 #[.agg #[],.pointer (some ⟨g,0,none⟩),.int .i64 me] w fun e w'=>∃ p' c',e=.returned (.slice p' (grimV ps.length rt (gs.map Rd.v) me).length c')∧S w' ([Rw 3 1 p' (grimV ps.length rt (gs.map Rd.v) me).length c' (fl intL (grimV ps.length rt (gs.map Rd.v) me)),DTf0 g seed pp pc ps sp sc sn tp tc tn vp vc vn bp bc bn gp gs gc,Rw 39 1 gp gs.length gc (fl rowL gs),Rw 27 2 pp ps.length pc (fl plL ps),(Pool pl)]++[Old w (fps [DTf0 g seed pp pc ps sp sc sn tp tc tn vp vc vn bp bc bn gp gs gc,Rw 39 1 gp gs.length gc (fl rowL gs),Rw 27 2 pp ps.length pc (fl plL ps),(Pool pl)])]):=by
 have H0:=HS.beginI
 have hmp:=(List.getElem?_eq_some_iff.1 hm).1
 refine enter 15 Tryz.func203 rfl rfl rfl ?_
 refine g_wk [(0,_),(1,_),(2,_)] ?_
 refine w_s ?_
 refine l_of (s_box H0 (wt0 rfl) rfl rfl rfl rfl ?_)
 intro g1 wq2 H3
 refine l_of (s_box H3 (wt0 rfl) rfl rfl rfl rfl ?_)
 intro g4 wq5 H6
 refine l_of (s_box H6 (wt0 rfl) rfl rfl rfl rfl ?_)
 intro g7 wq8 H9
 refine w_k2 ?_
 refine g_seq ?_
 refine g_anyY [] (fun wx=>S wx [Ob g7 (.cells #[.int .i64 me] 3 (0,0)),Ob g4 (.cells #[.pointer (some ⟨g,0,none⟩)] 29 (0,0))]) (fun wx=>S wx [Ob g7 (.cells #[.int .i64 me] 3 (0,0)),Ob g4 (.cells #[.pointer (some ⟨g,0,none⟩)] 29 (0,0))]) [] (by kernel_rfl) H9 (fun wq10 H11=>?_)
 have cm1:=H11.mask [true,true,false,false,false,false,false,false]
 refine y_t 0 rfl cm1 (fun _ H=>xl H 1) ?_
 refine y_t 1 rfl cm1 (fun _ H=>xl H 0) ?_
 refine y_t 2 rfl cm1 (fun _ H=>xl H 1) ?_
 refine y_t 3 rfl cm1 (fun _ H=>xl H 0) ?_
 refine y_p (v:=.func (.func 205) #[] #[.pointer (some ⟨g4,0,none⟩),.pointer (some ⟨g7,0,none⟩)]) 5 rfl (fun _=>x_makeFunc rfl rfl rfl) ?_
 refine y_one (i:=4) (by kernel_rfl) rfl ?_
 refine s_cl (others_s g gp gc gs.length seed pp pc ps sp sc sn tp tc tn vp vc vn bp bc bn (by omega) me _ (H11.tk [3])) ?_
 rintro _ wq14 ⟨po12,co13,rfl,H15⟩
 replace H15:S _ [_,_,_,_,_,_,_,_,_]:=H11.abI (new:=[_,_]) [3] H15 rfl
 have hol:=othV_len ps.length me
 refine b_ret rfl rfl ?_
 have cm2:=H15.mask [false,false,true,true,false,false,false,false,false]
 refine y_k cm2 cm2 ?_
 refine y_one (i:=6) (by kernel_rfl) rfl ?_
 have H16:S _ [_,_,_,_,_]:=S.big (L:=[_,_,_,_,_]) (H15.tk [3,2,1,5,7,0,4,6,8])
 refine s_cl (delF_i (othV ps.length me) po12 co13 (by omega) (grimB (gs.map Rd.v) me) 205 #[] #[.pointer (some ⟨g4,0,none⟩),.pointer (some ⟨g7,0,none⟩)] (Big [Ob g4 (.cells #[.pointer (some ⟨g,0,none⟩)] 29 (0,0)),Ob g7 (.cells #[.int .i64 me] 3 (0,0)),DTf0 g seed pp pc ps sp sc sn tp tc tn vp vc vn bp bc bn gp gs gc,Rw 39 1 gp gs.length gc (fl rowL gs),(Pool pl)]) (fun x=>0≤x∧x<(ps.length:Int)) (grim1_f g4 g7 g seed pp pc ps sp sc sn tp tc tn vp vc vn bp bc bn pl gs gp gc hG hgl hnp me ⟨h0m,by omega⟩) (fun x hx=>(othV_mem.1 hx).1) _ (H16.tk [0,1])) ?_
 rintro _ wq17 ⟨rfl,H18⟩
 replace H18:S _ [_,_,_,_,_]:=H16.abI (new:=[_,_]) [0,1] H18 rfl
 have H19:S _ [_,_,_,_,_,_,_,_,_]:=S.unbig (H18.tk [0,1,2,3,4])
 refine b_ret rfl rfl ?_
 refine y_k (H19.tk [1,0]) (H19.tk [1,0]) ?_
 refine y_one (i:=7) (by kernel_rfl) rfl ?_
 refine s_cl (evenly_s g gp gc gs.length seed pp pc ps sp sc sn tp tc tn vp vc vn bp bc bn (by omega) me h0m pm hm rt hrt hr0 (keepS (grimB (gs.map Rd.v) me) (othV ps.length me)) po12 co13 (fun x hx=>(othV_mem.1 (keepS_mem hx)).1) (by have hkl:=keepS_len (grimB (gs.map Rd.v) me) (othV ps.length me); omega) _ (H19.tk [5,2,7])) ?_
 rintro _ wq22 ⟨pe20,ce21,rfl,H23⟩
 replace H23:S _ [_,_,_,_,_,_,_,_,_,_]:=H19.abI (new:=[_,_,_,_]) [5,2,7] H23 rfl
 refine b_ret rfl rfl ?_
 refine y_k (H23.tk [5,4]) (H23.tk [5,4]) ?_
 refine y_p 8 rfl (fun _=>xa) ?_
 refine y_done (by kernel_rfl) ?_
 refine w_k2 ?_
 refine fin_r [.tmp 6] [.slice pe20 ((evnV ps.length rt (keepS (grimB (gs.map Rd.v) me) (othV ps.length me))).length) ce21] ?_
 exact ⟨_,_,rfl,H23.tk [0,2,6,3,7,9]⟩
end
theorem lastV_bd {n:Nat} {pl gs:List Rd} (h:GsOK n pl gs) (a b:Int):0≤lastV (gs.map Rd.v) a b∧lastV (gs.map Rd.v) a b≤1000000:=by
 unfold lastV
 cases e:(gs.map Rd.v).getLast? with
 | none=>show (0:Int)≤0∧(0:Int)≤1000000; decide
 | some r =>
   obtain ⟨x,hx,rfl⟩:=List.mem_map.1 (List.mem_of_getLast? e)
   exact (h.ok x hx).at2 a b
theorem most_one {f:Int→Int} {l:List Int} {x:Int} (h:l[0]?=some x):mostF f (l.take 1)=x:=by
 cases l with
 | nil=>cases h
 | cons a l =>
   have e:a=x:=by simpa using h
   subst e; rfl
theorem mostF_snoc {f:Int→Int} {l:List Int} {x:Int} (h:l ≠ []):mostF f (l++[x])=if 0<f x - f (mostF f l) then x else mostF f l:=by
 cases l with
 | nil=>exact absurd rfl h
 | cons a l =>
   show List.foldl _ a (l++[x])=_
   rw [List.foldl_append]; rfl
theorem most_step {f:Int→Int} {l:List Int} {i:Nat} {x m:Int} (hx:l[i]?=some x) (h1:1≤i) (hm:m=mostF f (l.take i)):mostF f (l.take (i+1))=if 0<f x - f m then x else m:=by
 have hil:=(List.getElem?_eq_some_iff.1 hx).1
 have hne:l.take i ≠ []:=fun h=>by
   have:=congrArg List.length h
   rw [List.length_take,List.length_nil] at this
   omega
 rw [take_snocT hx,mostF_snoc hne,← hm]
theorem mirF_snoc (f:Int→Int) (n:Nat) (rt:Int) (l:List Int) (x:Int):mirF f n rt (l++[x])=mirS f (mirF f n rt l) x:=by
 unfold mirF
 rw [List.foldl_append]; rfl
theorem rivL_valid {n:Nat} {pl gs:List Rd} {bw:List (List Int)} {me:Int} (h:GsOK n pl gs) (hn:n≤9) {x:Rv} (hx:x∈rivL n (gs.map Rd.v) bw me):validR x=true:=by
 unfold rivL at hx
 obtain ⟨i,hi,rfl⟩:=List.mem_map.1 hx
 have h1:=(othV_mem.1 hi).1
 have h2:=lastV_bd h i me
 have h3:=lastV_bd h me i
 have h4:-1≤(rvOf (gs.map Rd.v) bw me i).lt∧(rvOf (gs.map Rd.v) bw me i).lt≤1000000000:=by
   unfold rvOf
   dsimp only
   split <;> omega
 have e1:(rvOf (gs.map Rd.v) bw me i).id=i:=rfl
 have e2:(rvOf (gs.map Rd.v) bw me i).frm=lastV (gs.map Rd.v) i me:=rfl
 have e3:(rvOf (gs.map Rd.v) bw me i).to=lastV (gs.map Rd.v) me i:=rfl
 have e4:(rvOf (gs.map Rd.v) bw me i).since=0:=rfl
 unfold validR numB
 simp only [Bool.and_eq_true,decide_eq_true_eq,e1,e2,e3,e4]
 omega
theorem maxF_i (l:List Int) (p:Option Addr) (n c:Nat) (hn:n≤9223372036854775807) (h0:1≤n) (f:Int→Int) (gc:Nat) (fi ca:Array Value) (X:Item) (D:Int→Prop) (hq:FunC Tryz.prog gc fi ca X (fun p:Int × Int=>[.int .i64 p.1,.int .i64 p.2]) (fun p=>.int .i64 (f p.1 - f p.2)) (fun p=>D p.1∧D p.2)) (hD:∀ x∈l,D x)  (w:World) (HS:S w [X]) (hr:Reads w p n c 1 (fl intL l)) (hap:Apart w X p n c 1 (fl intL l)):Calls Tryz.prog 209 #[.slice p n c,.func (.func gc) fi ca] w fun e w'=>e=.returned (.int .i64 (mostF f l))∧S w' ([X]++[Old w (fps [X])]):=by
 have H0:=HS.beginI
 have hn2:=hr.lenL intE
 refine enter 33 Tryz.func209 rfl rfl rfl ?_
 refine g_wk [(0,_),(1,_)] ?_
 refine w_s ?_
 refine w_k8 ?_
 refine g_cond_f rfl (decide_eq_false (by omega)) ?_
 refine w_k4 ?_
 refine w_v (x_i 0 ((hap _ (H0.tk [0,1])))) ?_
 obtain ⟨x1,hx1⟩:=((hap _ (H0.tk [0,1]))).exL intE 0
 refine w_v (x_r 0 ((hap _ (H0.tk [0,1]))) (intE.flAt1 hx1 rfl)) ?_
 refine w_k7 ?_
 refine g_loop (ι:=Nat × Int) (fun (i,m)=>[(0,.slice p n c),(1,.func (.func gc) fi ca),(5,.int .i64 m),(6,.int .i64 ((i:Int)))]) (fun (i,m) wx=>(1≤i)∧(i≤n)∧(m=mostF f (l.take i))∧(m∈l)∧S wx [X,Old w (fps [X])]) (fun (i,m)=>n - i) (1,x1) ⟨rfl,rfl,rfl,rfl,trivial⟩ ⟨(Nat.le_refl _),(by omega),(most_one hx1).symm,(List.mem_of_getElem? hx1),(H0.tk [0,1])⟩ ?_
 rintro ⟨i,m⟩ wq2 ⟨h1,hi,hm,hmm,H3⟩
 refine g_wk [(0,_),(1,_),(5,_),(6,_)] ?_
 refine g_seq ?_
 refine w_k6 ?_
 by_cases hb4:((i:Int):Int)<(n:Int)
 ·
  refine g_ct hb4 ?_
  refine w_k8 ?_
  refine w_v (x_i i ((hap _ (H3.tk [0,1])))) ?_
  obtain ⟨x5,hx5⟩:=((hap _ (H3.tk [0,1]))).exL intE i
  refine w_v (x_r i ((hap _ (H3.tk [0,1]))) (intE.flAt1 hx5 rfl)) ?_
  refine w_m ?_
  refine l_of (s_call (wt0 rfl) (x_call rfl rfl rfl hq.ok) (hq.does (x5,m) (⟨hD _ (List.mem_of_getElem? hx5),hD _ hmm⟩) _ (H3.tk [0])) ?_)
  rintro _ wq6 ⟨rfl,H7⟩
  replace H7:S _ [_,_]:=H3.abI (new:=[_]) [0] H7 rfl
  refine b_ret rfl rfl ?_
  refine w_k2 ?_
  by_cases hb8:(0:Int)<(f x5 - f m)
  ·
   refine g_ct hb8 ?_
   refine w_k3 ?_
   refine w_v (x_i i ((hap _ (H7.tk [0,1])))) ?_
   refine w_v (x_r i ((hap _ (H7.tk [0,1]))) (intE.flAt1 hx5 rfl)) ?_
   refine w_k6 ?_
   refine w_i i ?_
   refine w_k2 ?_
   refine g_rd (i:=(i,m)) ((i+1),x5) ⟨(by omega),(by omega),(by rw [most_step hx5 h1 hm,if_pos hb8]),(List.mem_of_getElem? hx5),(H7.tk [0,1])⟩
  ·
   refine g_cf hb8 ?_
   refine w_k5 ?_
   refine w_i i ?_
   refine w_k2 ?_
   refine g_rd (i:=(i,m)) ((i+1),m) ⟨(by omega),(by omega),(by rw [most_step hx5 h1 hm,if_neg hb8]),hmm,(H7.tk [0,1])⟩
 ·
  refine g_cf hb4 ?_
  refine w_k10 ?_
  refine fin_r [.tmp 4] [.int .i64 m] ?_
  rw [List.take_of_length_le (by omega)] at hm
  rw [← hm]
  exact ⟨rfl,H3.tk [0,1]⟩
abbrev DTg0 (bg g:Nat):=Ob bg (.cells #[.pointer (some ⟨g,0,none⟩)] 29 (0,0))
theorem best1_s (bg bm:Nat) (g:Nat) (seed:ByteArray) (pp:Option Addr) (pc:Nat) (ps:List Pl) (sp:Option Addr) (sc sn:Nat) (tp:Option Addr) (tc tn:Nat) (vp:Option Addr) (vc vn:Nat) (bp:Option Addr) (bc bn:Nat) (pl gs:List Rd) (gp:Option Addr) (gc:Nat) (hG:GsOK ps.length pl gs) (hgl:gs.length≤200) (hnp:ps.length≤9) (me:Int) (hme:0≤me∧me<ps.length) (a b:Int) (ha:0≤a∧a<ps.length) (hb:0≤b∧b<ps.length)  (w:World) (HS:S w [DTg0 bg g,Ob bm (.cells #[.int .i64 me] 3 (0,0)),Ob g (.cells #[.slice gp gs.length gc,.string seed,.slice pp ps.length pc,.slice sp sn sc,.slice tp tn tc,.slice vp vn vc,.slice bp bn bc] 61 (0,0)),Rw 39 1 gp gs.length gc (fl rowL gs),(Pool pl)]):Calls Tryz.prog 210 #[.int .i64 a,.int .i64 b,.pointer (some ⟨bg,0,none⟩),.pointer (some ⟨bm,0,none⟩)] w fun e w'=>e=.returned (.int .i64 ((lastV (gs.map Rd.v) a me) - (lastV (gs.map Rd.v) b me)))∧S w' ([DTg0 bg g,Ob bm (.cells #[.int .i64 me] 3 (0,0)),Ob g (.cells #[.slice gp gs.length gc,.string seed,.slice pp ps.length pc,.slice sp sn sc,.slice tp tn tc,.slice vp vn vc,.slice bp bn bc] 61 (0,0)),Rw 39 1 gp gs.length gc (fl rowL gs),(Pool pl)]++[Old w (fps [DTg0 bg g,Ob bm (.cells #[.int .i64 me] 3 (0,0)),Ob g (.cells #[.slice gp gs.length gc,.string seed,.slice pp ps.length pc,.slice sp sn sc,.slice tp tn tc,.slice vp vn vc,.slice bp bn bc] 61 (0,0)),Rw 39 1 gp gs.length gc (fl rowL gs),(Pool pl)])]):=by
 have H0:=HS.beginI
 refine enter 22 Tryz.func210 rfl rfl rfl ?_
 refine g_wk [(0,_),(1,_),(2,_),(3,_)] ?_
 refine w_s ?_
 refine w_k2 ?_
 refine g_seq ?_
 refine g_anyY [] (fun wx=>S wx [DTg0 bg g,Ob bm (.cells #[.int .i64 me] 3 (0,0)),Ob g (.cells #[.slice gp gs.length gc,.string seed,.slice pp ps.length pc,.slice sp sn sc,.slice tp tn tc,.slice vp vn vc,.slice bp bn bc] 61 (0,0))]) (fun wx=>S wx [DTg0 bg g,Ob bm (.cells #[.int .i64 me] 3 (0,0)),Ob g (.cells #[.slice gp gs.length gc,.string seed,.slice pp ps.length pc,.slice sp sn sc,.slice tp tn tc,.slice vp vn vc,.slice bp bn bc] 61 (0,0))]) [] (by kernel_rfl) H0 (fun wq1 H2=>?_)
 have cm1:=H2.mask [true,true,true,false,false,false]
 refine y_t 0 rfl cm1 (fun _ H=>xl H 0) ?_
 refine y_p 1 rfl (fun _=>xn) ?_
 refine y_p 2 rfl (fun _=>xf 0) ?_
 refine y_t (v:=.agg #[.slice gp gs.length gc]) 3 rfl cm1 (fun _ H=>x_loadA H 2 rfl rfl Tryz.underlying58 rfl sz58 rfl rfl rfl) ?_
 refine y_p 4 rfl (fun _=>xm) ?_
 refine y_t 5 rfl cm1 (fun _ H=>xl H 1) ?_
 refine y_t 7 rfl cm1 (fun _ H=>xl H 0) ?_
 refine y_p 8 rfl (fun _=>xn) ?_
 refine y_p 9 rfl (fun _=>xf 0) ?_
 refine y_t (v:=.agg #[.slice gp gs.length gc]) 10 rfl cm1 (fun _ H=>x_loadA H 2 rfl rfl Tryz.underlying58 rfl sz58 rfl rfl rfl) ?_
 refine y_p 11 rfl (fun _=>xm) ?_
 refine y_t 12 rfl cm1 (fun _ H=>xl H 1) ?_
 refine y_one (i:=6) (by kernel_rfl) rfl ?_
 refine s_cl (tlast_s ps.length pl gs gp gc hnp hG hgl a me ha hme _ (H2.tk [3,4])) ?_
 rintro _ wq4 ⟨rfl,H5⟩
 replace H5:S _ [_,_,_,_,_,_]:=H2.abI (new:=[_,_]) [3,4] H5 rfl
 have hlbq3:=lastV_bd hG a me
 refine b_ret rfl rfl ?_
 have cm2:=H5.mask [false,false,true,true,true,false]
 refine y_k cm2 cm2 ?_
 refine y_one (i:=13) (by kernel_rfl) rfl ?_
 refine s_cl (tlast_s ps.length pl gs gp gc hnp hG hgl b me hb hme _ (H5.tk [0,1])) ?_
 rintro _ wq7 ⟨rfl,H8⟩
 replace H8:S _ [_,_,_,_,_,_]:=H5.abI (new:=[_,_]) [0,1] H8 rfl
 have hlbq6:=lastV_bd hG b me
 refine b_ret rfl rfl ?_
 have cm3:=H8.mask [false,false,true,true,true,false]
 refine y_k cm3 cm3 ?_
 refine y_p (v:=.int .i64 ((lastV (gs.map Rd.v) a me) - (lastV (gs.map Rd.v) b me))) 14 rfl (fun _=>x_bin rfl rfl rfl (b_sub (w64 (by omega)))) ?_
 refine y_p 15 rfl (fun _=>xa) ?_
 refine y_done (by kernel_rfl) ?_
 refine w_k2 ?_
 refine fin_r [.tmp 6] [.int .i64 ((lastV (gs.map Rd.v) a me) - (lastV (gs.map Rd.v) b me))] ?_
 exact ⟨rfl,(H8.tk [2,3,4,0,1,5])⟩
theorem best1_f (bg bm:Nat) (g:Nat) (seed:ByteArray) (pp:Option Addr) (pc:Nat) (ps:List Pl) (sp:Option Addr) (sc sn:Nat) (tp:Option Addr) (tc tn:Nat) (vp:Option Addr) (vc vn:Nat) (bp:Option Addr) (bc bn:Nat) (pl gs:List Rd) (gp:Option Addr) (gc:Nat) (hG:GsOK ps.length pl gs) (hgl:gs.length≤200) (hnp:ps.length≤9) (me:Int) (hme:0≤me∧me<ps.length):FunC Tryz.prog 210 #[] #[.pointer (some ⟨bg,0,none⟩),.pointer (some ⟨bm,0,none⟩)] (Big [Ob bg (.cells #[.pointer (some ⟨g,0,none⟩)] 29 (0,0)),Ob bm (.cells #[.int .i64 me] 3 (0,0)),Ob g (.cells #[.slice gp gs.length gc,.string seed,.slice pp ps.length pc,.slice sp sn sc,.slice tp tn tc,.slice vp vn vc,.slice bp bn bc] 61 (0,0)),Rw 39 1 gp gs.length gc (fl rowL gs),(Pool pl)]) (fun p:Int × Int=>[.int .i64 p.1,.int .i64 p.2]) (fun p=>.int .i64 ((fun i=>lastV (gs.map Rd.v) i me) p.1 - (fun i=>lastV (gs.map Rd.v) i me) p.2)) (fun p=>(0≤p.1∧p.1<(ps.length:Int))∧(0≤p.2∧p.2<(ps.length:Int))):=
 FunC.ofBig (by kernel_rfl) fun z hb w HS=>best1_s bg bm g seed pp pc ps sp sc sn tp tc tn vp vc vn bp bc bn pl gs gp gc hG hgl hnp me hme _ _ hb.1 hb.2 w HS
theorem bestly_s (g:Nat) (seed:ByteArray) (pp:Option Addr) (pc:Nat) (ps:List Pl) (sp:Option Addr) (sc sn:Nat) (tp:Option Addr) (tc tn:Nat) (vp:Option Addr) (vc vn:Nat) (bp:Option Addr) (bc bn:Nat) (pl gs:List Rd) (gp:Option Addr) (gc:Nat) (hG:GsOK ps.length pl gs) (hgl:gs.length≤200) (hnp:ps.length≤9) (me:Int) (h0m:0≤me) (pm:Pl) (hm:ps[me.toNat]?=some pm) (rt:Int) (hrt:pm.rt=rt) (hr0:0≤rt∧rt≤1000000) (h2p:2≤ps.length)  (w:World) (HS:S w [Ob g (.cells #[.slice gp gs.length gc,.string seed,.slice pp ps.length pc,.slice sp sn sc,.slice tp tn tc,.slice vp vn vc,.slice bp bn bc] 61 (0,0)),Rw 39 1 gp gs.length gc (fl rowL gs),Rw 27 2 pp ps.length pc (fl plL ps),(Pool pl)]):Calls Tryz.prog 208 #[.agg #[],.pointer (some ⟨g,0,none⟩),.int .i64 me] w fun e w'=>∃ p' c',e=.returned (.slice p' (bestV ps.length rt (gs.map Rd.v) me).length c')∧S w' ([Rw 3 1 p' (bestV ps.length rt (gs.map Rd.v) me).length c' (fl intL (bestV ps.length rt (gs.map Rd.v) me)),Ob g (.cells #[.slice gp gs.length gc,.string seed,.slice pp ps.length pc,.slice sp sn sc,.slice tp tn tc,.slice vp vn vc,.slice bp bn bc] 61 (0,0)),Rw 39 1 gp gs.length gc (fl rowL gs),Rw 27 2 pp ps.length pc (fl plL ps),(Pool pl)]++[Old w (fps [Ob g (.cells #[.slice gp gs.length gc,.string seed,.slice pp ps.length pc,.slice sp sn sc,.slice tp tn tc,.slice vp vn vc,.slice bp bn bc] 61 (0,0)),Rw 39 1 gp gs.length gc (fl rowL gs),Rw 27 2 pp ps.length pc (fl plL ps),(Pool pl)])]):=by
 have H0:=HS.beginI
 have hmp:=(List.getElem?_eq_some_iff.1 hm).1
 refine enter 38 Tryz.func208 rfl rfl rfl ?_
 refine g_wk [(0,_),(1,_),(2,_)] ?_
 refine w_s ?_
 refine l_of (s_box H0 (wt0 rfl) rfl rfl rfl rfl ?_)
 intro g1 wq2 H3
 refine l_of (s_box H3 (wt0 rfl) rfl rfl rfl rfl ?_)
 intro g4 wq5 H6
 refine l_of (s_box H6 (wt0 rfl) rfl rfl rfl rfl ?_)
 intro g7 wq8 H9
 refine w_k5 ?_
 refine l_of (s_cl (others_s g gp gc gs.length seed pp pc ps sp sc sn tp tc tn vp vc vn bp bc bn (by omega) me _ (H9.tk [3])) ?_)
 rintro _ wq12 ⟨po10,co11,rfl,H13⟩
 replace H13:S _ [_,_,_,_,_,_,_,_,_]:=H9.abI (new:=[_,_]) [3] H13 rfl
 have hol:=othV_len ps.length me
 refine b_ret rfl rfl ?_
 refine w_k2 ?_
 refine g_seq ?_
 refine g_quiet (by kernel_rfl) (by kernel_rfl) H13 ?_
 refine q_v (fun _ H=>xl H 2) ?_
 refine q_v (v:=.int .i64 (me+1)) (fun _ _=>x_bin rfl rfl rfl (b_add (w64 (by omega)))) ?_
 refine q_v (fun _ H=>xl H 3) ?_
 refine q_v (fun _ _=>xn) ?_
 refine q_v (fun _ _=>x_f) ?_
 refine q_v (fun _ H=>xl H 1) ?_
 refine q_v (fun _ _=>x_q) ?_
 refine q_v (v:=.int .i64 ((me+1) % (ps.length:Int))) (fun _ _=>x_bin rfl rfl rfl (b_rem (by omega) (rem0 (by omega)))) ?_
 refine q_v (fun _ _=>xa) ?_
 refine q_nil (fun wq14 H15=>?_)
 refine w_k3 ?_
 refine w_v (x_makeFunc rfl rfl rfl) ?_
 have H16:S _ [_,_,_,_,_]:=S.big (L:=[_,_,_,_,_]) (H15.tk [3,2,1,5,7,0,4,6,8])
 have hno0:1≤(othV ps.length me).length:=by cases h9:othV ps.length me with | nil=>exact absurd h9 (othV_ne h2p) | cons _ _=>exact Nat.succ_le_succ (Nat.zero_le _)
 refine l_of (s_cl (maxF_i (othV ps.length me) po10 ((othV ps.length me).length) co11 (by omega) hno0 (fun i=>lastV (gs.map Rd.v) i me) 210 #[] #[.pointer (some ⟨g4,0,none⟩),.pointer (some ⟨g7,0,none⟩)] (Big [Ob g4 (.cells #[.pointer (some ⟨g,0,none⟩)] 29 (0,0)),Ob g7 (.cells #[.int .i64 me] 3 (0,0)),Ob g (.cells #[.slice gp gs.length gc,.string seed,.slice pp ps.length pc,.slice sp sn sc,.slice tp tn tc,.slice vp vn vc,.slice bp bn bc] 61 (0,0)),Rw 39 1 gp gs.length gc (fl rowL gs),(Pool pl)]) (fun x=>0≤x∧x<(ps.length:Int)) (best1_f g4 g7 g seed pp pc ps sp sc sn tp tc tn vp vc vn bp bc bn pl gs gp gc hG hgl hnp me ⟨h0m,by omega⟩) (fun x hx=>(othV_mem.1 hx).1) _ (H16.tk [0]) (H16.rr 1) (H16.apartRw (i:=1) (k:=0) rfl rfl (by decide))) ?_)
 rintro _ wq17 ⟨rfl,H18⟩
 replace H18:S _ [_,_,_,_,_]:=H16.abI (new:=[_]) [0] H18 rfl
 have hmo:=othV_mem.1 (most_oth (n:=ps.length) (me:=me) (fun i=>lastV (gs.map Rd.v) i me) h2p)
 have H19:S _ [_,_,_,_,_,_,_,_,_]:=S.unbig (H18.tk [0,1,2,3,4])
 refine b_ret rfl rfl ?_
 refine w_k2 ?_
 iterate 2 refine g_seq ?_
 refine g_anyY [] (fun wx=>S wx [Ob g4 (.cells #[.pointer (some ⟨g,0,none⟩)] 29 (0,0)),Ob g7 (.cells #[.int .i64 me] 3 (0,0)),Ob g (.cells #[.slice gp gs.length gc,.string seed,.slice pp ps.length pc,.slice sp sn sc,.slice tp tn tc,.slice vp vn vc,.slice bp bn bc] 61 (0,0))]) (fun wx=>S wx [Ob g4 (.cells #[.pointer (some ⟨g,0,none⟩)] 29 (0,0)),Ob g7 (.cells #[.int .i64 me] 3 (0,0)),Ob g (.cells #[.slice gp gs.length gc,.string seed,.slice pp ps.length pc,.slice sp sn sc,.slice tp tn tc,.slice vp vn vc,.slice bp bn bc] 61 (0,0))]) [] (by kernel_rfl) H19 (fun wq20 H21=>?_)
 have cm1:=H21.mask [true,true,true,false,false,false,false,false,false]
 refine y_t 0 rfl cm1 (fun _ H=>xl H 0) ?_
 refine y_p 1 rfl (fun _=>xn) ?_
 refine y_p 2 rfl (fun _=>xf 0) ?_
 refine y_t (v:=.agg #[.slice gp gs.length gc]) 3 rfl cm1 (fun _ H=>x_loadA H 2 rfl rfl Tryz.underlying58 rfl sz58 rfl rfl rfl) ?_
 refine y_p 4 rfl (fun _=>xm) ?_
 refine y_t 5 rfl cm1 (fun _ H=>xl H 1) ?_
 refine y_one (i:=6) (by kernel_rfl) rfl ?_
 refine s_cl (tlast_s ps.length pl gs gp gc hnp hG hgl (mostF (fun i=>lastV (gs.map Rd.v) i me) (othV ps.length me)) me hmo.1 ⟨h0m,by omega⟩ _ (H21.tk [3,4])) ?_
 rintro _ wq23 ⟨rfl,H24⟩
 replace H24:S _ [_,_,_,_,_,_,_,_,_]:=H21.abI (new:=[_,_]) [3,4] H24 rfl
 have hlbq22:=lastV_bd hG (mostF (fun i=>lastV (gs.map Rd.v) i me) (othV ps.length me)) me
 refine b_ret rfl rfl ?_
 have cm2:=H24.mask [false,false,true,true,true,false,false,false,false]
 refine y_k cm2 cm2 ?_
 refine y_p 7 rfl (fun _=>x_bin rfl rfl rfl b_gtr) ?_
 refine y_done (by kernel_rfl) ?_
 refine w_0 ?_
 by_cases hb25:(0:Int)<(lastV (gs.map Rd.v) (mostF (fun i=>lastV (gs.map Rd.v) i me) (othV ps.length me)) me)
 ·
  refine g_ct hb25 ?_
  refine w_k8 ?_
  refine l_of (s_b1 ze3 #[.int .i64 ((mostF (fun i=>lastV (gs.map Rd.v) i me) (othV ps.length me)))] H24 ?_)
  intro g26 wq27 H28
  have H29:S wq27 [Rw 3 1 (some ⟨g26,0,none⟩) 1 1 (fl intL ([(mostF (fun i=>lastV (gs.map Rd.v) i me) (othV ps.length me))])),Rw 39 1 gp gs.length gc (fl rowL gs),(Pool pl),Ob g4 (.cells #[.pointer (some ⟨g,0,none⟩)] 29 (0,0)),Ob g7 (.cells #[.int .i64 me] 3 (0,0)),Ob g (.cells #[.slice gp gs.length gc,.string seed,.slice pp ps.length pc,.slice sp sn sc,.slice tp tn tc,.slice vp vn vc,.slice bp bn bc] 61 (0,0)),Rw 3 1 po10 ((othV ps.length me).length) co11 (fl intL (othV ps.length me)),Ob g1 (.cells #[] 96 (0,0)),Rw 27 2 pp ps.length pc (fl plL ps),Old w (fps [Ob g (.cells #[.slice gp gs.length gc,.string seed,.slice pp ps.length pc,.slice sp sn sc,.slice tp tn tc,.slice vp vn vc,.slice bp bn bc] 61 (0,0)),Rw 39 1 gp gs.length gc (fl rowL gs),Rw 27 2 pp ps.length pc (fl plL ps),(Pool pl)])]:=S.obFl intE H28 (k:=0) rfl rfl (by decide) rfl
  refine l_of (s_cl (evenly_s g gp gc gs.length seed pp pc ps sp sc sn tp tc tn vp vc vn bp bc bn (by omega) me h0m pm hm rt hrt hr0 ([(mostF (fun i=>lastV (gs.map Rd.v) i me) (othV ps.length me))]) (some ⟨g26,0,none⟩) 1 (fun x hx=>by rw [List.mem_singleton.1 hx]; first | exact hmo.1 | (have h8:=Int.emod_nonneg (me+1) (b:=(ps.length:Int)) (by omega); have h9:=Int.emod_lt_of_pos (me+1) (b:=(ps.length:Int)) (by omega); omega)) (by simp) _ (H29.tk [0,5,8])) ?_)
  rintro _ wq32 ⟨pe30,ce31,rfl,H33⟩
  replace H33:S _ [_,_,_,_,_,_,_,_,_,_,_]:=H29.abI (new:=[_,_,_,_]) [0,5,8] H33 rfl
  refine b_ret rfl rfl ?_
  refine w_k3 ?_
  refine fin_r [.tmp 6] [.slice pe30 ((evnV ps.length rt ([(mostF (fun i=>lastV (gs.map Rd.v) i me) (othV ps.length me))])).length) ce31] ?_
  have hv:bestV ps.length rt (gs.map Rd.v) me=evnV ps.length rt [(mostF (fun i=>lastV (gs.map Rd.v) i me) (othV ps.length me))]:=by unfold bestV nextV; rw [if_pos hb25]
  rw [hv]
  exact ⟨_,_,rfl,H33.tk [0,2,4,3,5,10]⟩
 ·
  refine g_cf hb25 ?_
  refine w_k6 ?_
  refine l_of (s_b1 ze3 #[.int .i64 ((me+1) % (ps.length:Int))] H24 ?_)
  intro g34 wq35 H36
  have H37:S wq35 [Rw 3 1 (some ⟨g34,0,none⟩) 1 1 (fl intL ([(me+1) % (ps.length:Int)])),Rw 39 1 gp gs.length gc (fl rowL gs),(Pool pl),Ob g4 (.cells #[.pointer (some ⟨g,0,none⟩)] 29 (0,0)),Ob g7 (.cells #[.int .i64 me] 3 (0,0)),Ob g (.cells #[.slice gp gs.length gc,.string seed,.slice pp ps.length pc,.slice sp sn sc,.slice tp tn tc,.slice vp vn vc,.slice bp bn bc] 61 (0,0)),Rw 3 1 po10 ((othV ps.length me).length) co11 (fl intL (othV ps.length me)),Ob g1 (.cells #[] 96 (0,0)),Rw 27 2 pp ps.length pc (fl plL ps),Old w (fps [Ob g (.cells #[.slice gp gs.length gc,.string seed,.slice pp ps.length pc,.slice sp sn sc,.slice tp tn tc,.slice vp vn vc,.slice bp bn bc] 61 (0,0)),Rw 39 1 gp gs.length gc (fl rowL gs),Rw 27 2 pp ps.length pc (fl plL ps),(Pool pl)])]:=S.obFl intE H36 (k:=0) rfl rfl (by decide) rfl
  refine l_of (s_cl (evenly_s g gp gc gs.length seed pp pc ps sp sc sn tp tc tn vp vc vn bp bc bn (by omega) me h0m pm hm rt hrt hr0 ([(me+1) % (ps.length:Int)]) (some ⟨g34,0,none⟩) 1 (fun x hx=>by rw [List.mem_singleton.1 hx]; first | exact hmo.1 | (have h8:=Int.emod_nonneg (me+1) (b:=(ps.length:Int)) (by omega); have h9:=Int.emod_lt_of_pos (me+1) (b:=(ps.length:Int)) (by omega); omega)) (by simp) _ (H37.tk [0,5,8])) ?_)
  rintro _ wq40 ⟨pe38,ce39,rfl,H41⟩
  replace H41:S _ [_,_,_,_,_,_,_,_,_,_,_]:=H37.abI (new:=[_,_,_,_]) [0,5,8] H41 rfl
  refine b_ret rfl rfl ?_
  refine w_k3 ?_
  refine fin_r [.tmp 6] [.slice pe38 ((evnV ps.length rt ([(me+1) % (ps.length:Int)])).length) ce39] ?_
  have hv:bestV ps.length rt (gs.map Rd.v) me=evnV ps.length rt [((me+1) % (ps.length:Int))]:=by unfold bestV nextV; rw [if_neg hb25]
  rw [hv]
  exact ⟨_,_,rfl,H41.tk [0,2,4,3,5,10]⟩
theorem at2_bw {bs:List (Ro Int)} {a b:Int} {x:Ro Int} {y:Int} (hx:bs[a.toNat]?=some x) (hy:x.l[b.toNat]?=some y):at2 (bs.map Ro.l) a b=y:=at2_is (r:=(⟨none,0,bs⟩:Rd)) hx hy
theorem mirrored_s (g:Nat) (seed:ByteArray) (pp:Option Addr) (pc:Nat) (ps:List Pl) (sp:Option Addr) (sc sn:Nat) (tp:Option Addr) (tc tn:Nat) (vp:Option Addr) (vc vn:Nat) (bp:Option Addr) (bc bn:Nat) (pl gs:List Rd) (gp:Option Addr) (gc:Nat) (hG:GsOK ps.length pl gs) (hgl:gs.length≤200) (hnp:ps.length≤9) (me:Int) (h0m:0≤me) (pm:Pl) (hm:ps[me.toNat]?=some pm) (rt:Int) (hrt:pm.rt=rt) (hr0:0≤rt∧rt≤1000000)  (w:World) (HS:S w [Ob g (.cells #[.slice gp gs.length gc,.string seed,.slice pp ps.length pc,.slice sp sn sc,.slice tp tn tc,.slice vp vn vc,.slice bp bn bc] 61 (0,0)),Rw 39 1 gp gs.length gc (fl rowL gs),Rw 27 2 pp ps.length pc (fl plL ps),(Pool pl)]):Calls Tryz.prog 226 #[.agg #[],.pointer (some ⟨g,0,none⟩),.int .i64 me] w fun e w'=>∃ p' c',e=.returned (.slice p' (mirV ps.length rt (gs.map Rd.v) me).length c')∧S w' ([Rw 3 1 p' (mirV ps.length rt (gs.map Rd.v) me).length c' (fl intL (mirV ps.length rt (gs.map Rd.v) me)),Ob g (.cells #[.slice gp gs.length gc,.string seed,.slice pp ps.length pc,.slice sp sn sc,.slice tp tn tc,.slice vp vn vc,.slice bp bn bc] 61 (0,0)),Rw 39 1 gp gs.length gc (fl rowL gs),Rw 27 2 pp ps.length pc (fl plL ps),(Pool pl)]++[Old w (fps [Ob g (.cells #[.slice gp gs.length gc,.string seed,.slice pp ps.length pc,.slice sp sn sc,.slice tp tn tc,.slice vp vn vc,.slice bp bn bc] 61 (0,0)),Rw 39 1 gp gs.length gc (fl rowL gs),Rw 27 2 pp ps.length pc (fl plL ps),(Pool pl)])]):=by
 have H0:=HS.beginI
 have hmp:=(List.getElem?_eq_some_iff.1 hm).1
 refine enter 66 Tryz.func226 rfl rfl rfl ?_
 refine g_wk [(0,_),(1,_),(2,_)] ?_
 refine w_s ?_
 refine l_of (s_box H0 (wt0 rfl) rfl rfl rfl rfl ?_)
 intro g1 wq2 H3
 refine w_k12 ?_
 by_cases hb4:((gs.length:Int):Int)=0
 ·
  refine g_ct hb4 ?_
  refine w_k5 ?_
  refine l_of (s_cl (others_s g gp gc gs.length seed pp pc ps sp sc sn tp tc tn vp vc vn bp bc bn (by omega) me _ (H3.tk [1])) ?_)
  rintro _ wq7 ⟨po5,co6,rfl,H8⟩
  replace H8:S _ [_,_,_,_,_,_,_]:=H3.abI (new:=[_,_]) [1] H8 rfl
  have hol:=othV_len ps.length me
  refine b_ret rfl rfl ?_
  refine l_of (s_cl (evenly_s g gp gc gs.length seed pp pc ps sp sc sn tp tc tn vp vc vn bp bc bn (by omega) me h0m pm hm rt hrt hr0 (othV ps.length me) po5 co6 (fun x hx=>(othV_mem.1 hx).1) (by omega) _ (H8.tk [0,1,4])) ?_)
  rintro _ wq11 ⟨pe9,ce10,rfl,H12⟩
  replace H12:S _ [_,_,_,_,_,_,_,_]:=H8.abI (new:=[_,_,_,_]) [0,1,4] H12 rfl
  refine b_ret rfl rfl ?_
  refine w_k4 ?_
  refine fin_r [.tmp 6] [.slice pe9 ((evnV ps.length rt (othV ps.length me)).length) ce10] ?_
  have hv:mirV ps.length rt (gs.map Rd.v) me=evnV ps.length rt (othV ps.length me):=by unfold mirV; rw [if_pos (by rw [List.length_map]; omega)]
  rw [hv]
  exact ⟨_,_,rfl,H12.tk [0,2,5,3,6,7]⟩
 ·
  refine g_cf hb4 ?_
  refine w_k8 ?_
  refine l_of (s_make1 ps.length H3 (wt0 rfl) rfl rfl rfl rfl rfl Tryz.underlying43 inf3 rfl (by omega) ?_)
  intro g13 wq14 H15
  replace H15:S _ [_,_,_,_,_,_,_]:=S.obFl (l:=(List.replicate ps.length (0:Int))) intE H15 (k:=0) rfl (by rw [List.length_replicate]) (by unfold maxLen; omega) (zero_fl _)
  refine w_k8 ?_
  refine w_v (x_i ((me).toNat) (H15.rr 4)) ?_
  refine w_v (v:=.pointer ((pp).map fun q=>q.add (((me).toNat) * 2+1))) (ex_cast (x_fieldAddrG (m:=((me).toNat) * 2) ((H15.rr 4).some (by omega)) rfl rfl fo27_1) rfl) ?_
  obtain ⟨x16,hx16⟩:=(H15.rr 4).exL plE ((me).toNat)
  have hrx:x16.rt=rt:=by rw [show x16=pm from Option.some.inj (hx16.symm.trans hm)]; exact hrt
  refine w_v (v:=.int .i64 rt) (ex_cast (x_loadF1 (i:=1) (j:=((me).toNat)) plE (H15.rr 4) hx16 rfl rfl Tryz.underlying3 rfl rfl) (by rw [hrx])) ?_
  refine w_k6 ?_
  refine l_of (s_cl (others_s g gp gc gs.length seed pp pc ps sp sc sn tp tc tn vp vc vn bp bc bn (by omega) me _ (H15.tk [2])) ?_)
  rintro _ wq19 ⟨po17,co18,rfl,H20⟩
  replace H20:S _ [_,_,_,_,_,_,_,_]:=H15.abI (new:=[_,_]) [2] H20 rfl
  have hol:=othV_len ps.length me
  refine b_ret rfl rfl ?_
  refine w_k4 ?_
  refine g_loop (ι:=Nat × List Int × Int) (fun (i,o,lf)=>[(1,.pointer (some ⟨g,0,none⟩)),(2,.int .i64 me),(7,.slice (some ⟨g13,0,none⟩:Option Addr) ps.length ps.length),(8,.int .i64 lf),(40,.slice po17 ((othV ps.length me).length) co18),(41,.int .i64 (((othV ps.length me).length:Int))),(42,.int .i64 ((i:Int)))]) (fun (i,o,lf) wx=>(i≤(othV ps.length me).length)∧((o,lf)=mirF (fun i=>lastV (gs.map Rd.v) i me) ps.length rt ((othV ps.length me).take i))∧(o.length=ps.length)∧(0≤lf∧lf≤rt)∧S wx [Rw 3 1 (some ⟨g13,0,none⟩:Option Addr) ps.length ps.length (fl intL o),Rw 3 1 po17 ((othV ps.length me).length) co18 (fl intL (othV ps.length me)),Ob g (.cells #[.slice gp gs.length gc,.string seed,.slice pp ps.length pc,.slice sp sn sc,.slice tp tn tc,.slice vp vn vc,.slice bp bn bc] 61 (0,0)),Rw 39 1 gp gs.length gc (fl rowL gs),Rw 27 2 pp ps.length pc (fl plL ps),(Pool pl),Old w (fps [Ob g (.cells #[.slice gp gs.length gc,.string seed,.slice pp ps.length pc,.slice sp sn sc,.slice tp tn tc,.slice vp vn vc,.slice bp bn bc] 61 (0,0)),Rw 39 1 gp gs.length gc (fl rowL gs),Rw 27 2 pp ps.length pc (fl plL ps),(Pool pl)])]) (fun (i,o,lf)=>((othV ps.length me).length) - i) (0,(List.replicate ps.length (0:Int)),rt) ⟨rfl,rfl,rfl,rfl,rfl,rfl,rfl,trivial⟩ ⟨Nat.zero_le _,rfl,List.length_replicate,(by omega),(H20.tk [2,0,1,4,5,6,7])⟩ ?_
  rintro ⟨i,o,lf⟩ wq21 ⟨hi,ho,hol,hlf,H22⟩
  refine g_wk [(1,_),(2,_),(7,_),(8,_),(40,_),(41,_),(42,_)] ?_
  refine w_s ?_
  refine w_k2 ?_
  refine g_seq ?_
  by_cases hb23:((i:Int):Int)<((othV ps.length me).length:Int)
  ·
   refine g_ct hb23 ?_
   refine w_k5 ?_
   refine w_v (x_i i (H22.rr 1)) ?_
   obtain ⟨x24,hx24⟩:=(H22.rr 1).exL intE i
   have hx9:=othV_at hx24
   refine w_v (x_r i (H22.rr 1) (intE.flAt1 hx24 rfl)) ?_
   refine w_k8 ?_
   refine w_v (v:=.agg #[.slice gp gs.length gc]) (x_loadA H22 2 rfl rfl Tryz.underlying58 rfl sz58 rfl rfl rfl) ?_
   refine w_r2 ?_
   refine l_of (s_cl (tlast_s ps.length pl gs gp gc hnp hG hgl x24 me hx9.1 ⟨h0m,by omega⟩ _ (H22.tk [3,5])) ?_)
   rintro _ wq26 ⟨rfl,H27⟩
   replace H27:S _ [_,_,_,_,_,_,_]:=H22.abI (new:=[_,_]) [3,5] H27 rfl
   have hlbq25:=lastV_bd hG x24 me
   refine b_ret rfl rfl ?_
   refine w_m ?_
   refine w_v (v:=.int .i64 (min (lastV (gs.map Rd.v) x24 me) lf)) (x_min rfl rfl rfl) ?_
   refine w_v (x_i ((x24).toNat) (H27.rr 2)) ?_
   refine l_of (s_stoL (j:=((x24).toNat)) intE (min (lastV (gs.map Rd.v) x24 me) lf) H27 2 (wt0 rfl) rfl rfl rfl rfl rfl rfl sz3 (by omega) ?_)
   intro wq28 H29
   refine w_k5 ?_
   refine w_v (x_i ((x24).toNat) (H29.rr 2)) ?_
   refine w_v (x_r ((x24).toNat) (H29.rr 2) (intE.flAt1 (List.getElem?_set_self (by omega)) rfl)) ?_
   refine w_b (v:=.int .i64 (lf - (min (lastV (gs.map Rd.v) x24 me) lf))) (hb:=(b_sub (w64 (by omega)))) ?_
   refine w_k5 ?_
   refine w_i i ?_
   refine w_k2 ?_
   refine g_rd (i:=(i,o,lf)) ((i+1),(o.set x24.toNat (min (lastV (gs.map Rd.v) x24 me) lf)),(lf - (min (lastV (gs.map Rd.v) x24 me) lf))) ⟨by omega,(by rw [take_snocT hx24,mirF_snoc,← ho]; rfl),(by rw [List.length_set]; exact hol),(by omega),(H29.tk [2,3,4,0,5,1,6])⟩
  ·
   refine g_cf hb23 ?_
   refine w_k10 ?_
   refine fin_r [.tmp 6] [.slice (some ⟨g13,0,none⟩:Option Addr) ps.length ps.length] ?_
   rw [List.take_of_length_le (by omega)] at ho
   have hv:mirV ps.length rt (gs.map Rd.v) me=o:=by unfold mirV; rw [if_neg (by rw [List.length_map]; omega),← ho]
   rw [hv,hol]
   exact ⟨_,_,rfl,H22.tk [0,2,3,4,5,6]⟩
theorem fairly_s (g:Nat) (seed:ByteArray) (pp:Option Addr) (pc:Nat) (ps:List Pl) (sp:Option Addr) (sc sn:Nat) (tp:Option Addr) (tc tn:Nat) (vp:Option Addr) (vc vn:Nat) (bp:Option Addr) (bc bn:Nat) (pl gs:List Rd) (gp:Option Addr) (gc:Nat) (hG:GsOK ps.length pl gs) (hgl:gs.length≤200) (hnp:ps.length≤9) (me:Int) (h0m:0≤me) (pm:Pl) (hm:ps[me.toNat]?=some pm) (rt:Int) (hrt:pm.rt=rt) (hr0:0≤rt∧rt≤1000000) (bs:List (Ro Int)) (hbl:bs.length=ps.length) (hbw:∀ x∈bs,x.l.length=ps.length) (hsd:seed.size≤100)  (w:World) (HS:S w [Ob g (.cells #[.slice gp gs.length gc,.string seed,.slice pp ps.length pc,.slice sp sn sc,.slice tp tn tc,.slice vp vn vc,.slice bp bs.length bc] 61 (0,0)),Rw 39 1 gp gs.length gc (fl rowL gs),Rw 27 2 pp ps.length pc (fl plL ps),(Pool pl),Rw 43 1 bp bs.length bc (fl rowL bs),(Lst BwI bs)]):Calls Tryz.prog 112 #[.agg #[],.pointer (some ⟨g,0,none⟩),.int .i64 me] w fun e w'=>∃ p' c',e=.returned (.slice p' (fairV seed ps.length rt (gs.map Rd.v) (bs.map Ro.l) me).length c')∧S w' ([Rw 3 1 p' (fairV seed ps.length rt (gs.map Rd.v) (bs.map Ro.l) me).length c' (fl intL (fairV seed ps.length rt (gs.map Rd.v) (bs.map Ro.l) me)),Ob g (.cells #[.slice gp gs.length gc,.string seed,.slice pp ps.length pc,.slice sp sn sc,.slice tp tn tc,.slice vp vn vc,.slice bp bs.length bc] 61 (0,0)),Rw 39 1 gp gs.length gc (fl rowL gs),Rw 27 2 pp ps.length pc (fl plL ps),(Pool pl),Rw 43 1 bp bs.length bc (fl rowL bs),(Lst BwI bs)]++[Old w (fps [Ob g (.cells #[.slice gp gs.length gc,.string seed,.slice pp ps.length pc,.slice sp sn sc,.slice tp tn tc,.slice vp vn vc,.slice bp bs.length bc] 61 (0,0)),Rw 39 1 gp gs.length gc (fl rowL gs),Rw 27 2 pp ps.length pc (fl plL ps),(Pool pl),Rw 43 1 bp bs.length bc (fl rowL bs),(Lst BwI bs)])]):=by
 have H0:=HS.beginI
 have hmp:=(List.getElem?_eq_some_iff.1 hm).1
 have hs1:(seed++(⟨#[32]⟩:ByteArray)).size=seed.size+1:=by rw [ByteArray.size_append]; rfl
 refine enter 81 Tryz.func112 rfl rfl rfl ?_
 refine g_wk [(0,_),(1,_),(2,_)] ?_
 refine w_s ?_
 refine l_of (s_box H0 (wt0 rfl) rfl rfl rfl rfl ?_)
 intro g1 wq2 H3
 refine w_k3 ?_
 have H4:S _ [_,_,_,_,_,_,_,_,_]:=H3.nilFl 111 10 rvL
 refine w_k6 ?_
 refine l_of (s_cl (others_s g gp gc gs.length seed pp pc ps sp sc sn tp tc tn vp vc vn bp bc bs.length (by omega) me _ (H4.tk [2])) ?_)
 rintro _ wq7 ⟨po5,co6,rfl,H8⟩
 replace H8:S _ [_,_,_,_,_,_,_,_,_,_]:=H4.abI (new:=[_,_]) [2] H8 rfl
 have hol:=othV_len ps.length me
 refine b_ret rfl rfl ?_
 refine w_k4 ?_
 refine g_loop (ι:=Nat × Option Addr × Nat × List Rv) (fun (i,pq,cq,rl)=>[(1,.pointer (some ⟨g,0,none⟩)),(2,.int .i64 me),(7,.slice pq rl.length cq),(14,.slice po5 ((othV ps.length me).length) co6),(15,.int .i64 (((othV ps.length me).length:Int))),(16,.int .i64 ((i:Int)))]) (fun (i,pq,cq,rl) wx=>(i≤(othV ps.length me).length)∧(rl=((othV ps.length me).take i).map (rvOf (gs.map Rd.v) (bs.map Ro.l) me))∧S wx [Rw 111 10 pq rl.length cq (fl rvL rl),Rw 3 1 po5 ((othV ps.length me).length) co6 (fl intL (othV ps.length me)),Ob g (.cells #[.slice gp gs.length gc,.string seed,.slice pp ps.length pc,.slice sp sn sc,.slice tp tn tc,.slice vp vn vc,.slice bp bs.length bc] 61 (0,0)),Rw 39 1 gp gs.length gc (fl rowL gs),Rw 27 2 pp ps.length pc (fl plL ps),(Pool pl),Rw 43 1 bp bs.length bc (fl rowL bs),(Lst BwI bs),Old w (fps [Ob g (.cells #[.slice gp gs.length gc,.string seed,.slice pp ps.length pc,.slice sp sn sc,.slice tp tn tc,.slice vp vn vc,.slice bp bs.length bc] 61 (0,0)),Rw 39 1 gp gs.length gc (fl rowL gs),Rw 27 2 pp ps.length pc (fl plL ps),(Pool pl),Rw 43 1 bp bs.length bc (fl rowL bs),(Lst BwI bs)])]) (fun (i,pq,cq,rl)=>((othV ps.length me).length) - i) (0,none,0,[]) ⟨rfl,rfl,rfl,rfl,rfl,rfl,trivial⟩ ⟨Nat.zero_le _,rfl,(H8.tk [2,0,1,4,5,6,7,8,9])⟩ ?_
 rintro ⟨i,pq,cq,rl⟩ wq9 ⟨hi,hrl,H10⟩
 refine g_wk [(1,_),(2,_),(7,_),(14,_),(15,_),(16,_)] ?_
 have hrll:rl.length≤i:=by rw [hrl,List.length_map,List.length_take]; omega
 refine w_k3 ?_
 refine g_seq ?_
 by_cases hb11:((i:Int):Int)<((othV ps.length me).length:Int)
 ·
  refine g_ct hb11 ?_
  refine w_k5 ?_
  refine w_v (x_i i (H10.rr 1)) ?_
  obtain ⟨x12,hx12⟩:=(H10.rr 1).exL intE i
  have hx9:=othV_at hx12
  refine w_v (x_r i (H10.rr 1) (intE.flAt1 hx12 rfl)) ?_
  refine w_k2 ?_
  refine g_seq ?_
  refine g_cut (ι:=Nat) (fun rb=>[(1,.pointer (some ⟨g,0,none⟩)),(2,.int .i64 me),(7,.slice pq rl.length cq),(9,.int .i64 x12),(10,.pointer (some ⟨rb,0,none⟩)),(14,.slice po5 ((othV ps.length me).length) co6),(15,.int .i64 (((othV ps.length me).length:Int))),(16,.int .i64 ((i:Int)))]) (fun rb wx=>S wx [Ob rb (.cells #[.int .i64 x12,.bool true,.bool false,.int .i64 ((lastV (gs.map Rd.v) x12 me)),.int .i64 ((lastV (gs.map Rd.v) me x12)),.int .i64 0,.int .i64 0,.bool ((snubV (gs.map Rd.v) me x12)),.bool false,.bool false] 111 (0,0)),Rw 111 10 pq rl.length cq (fl rvL rl),Rw 3 1 po5 ((othV ps.length me).length) co6 (fl intL (othV ps.length me)),Ob g (.cells #[.slice gp gs.length gc,.string seed,.slice pp ps.length pc,.slice sp sn sc,.slice tp tn tc,.slice vp vn vc,.slice bp bs.length bc] 61 (0,0)),Rw 39 1 gp gs.length gc (fl rowL gs),Rw 27 2 pp ps.length pc (fl plL ps),(Pool pl),Rw 43 1 bp bs.length bc (fl rowL bs),(Lst BwI bs),Old w (fps [Ob g (.cells #[.slice gp gs.length gc,.string seed,.slice pp ps.length pc,.slice sp sn sc,.slice tp tn tc,.slice vp vn vc,.slice bp bs.length bc] 61 (0,0)),Rw 39 1 gp gs.length gc (fl rowL gs),Rw 27 2 pp ps.length pc (fl plL ps),(Pool pl),Rw 43 1 bp bs.length bc (fl rowL bs),(Lst BwI bs)])]) ?_ ?_
  ·
   refine g_anyY [] (fun wx=>S wx [Ob g (.cells #[.slice gp gs.length gc,.string seed,.slice pp ps.length pc,.slice sp sn sc,.slice tp tn tc,.slice vp vn vc,.slice bp bs.length bc] 61 (0,0))]) (fun wx=>S wx [Ob g (.cells #[.slice gp gs.length gc,.string seed,.slice pp ps.length pc,.slice sp sn sc,.slice tp tn tc,.slice vp vn vc,.slice bp bs.length bc] 61 (0,0))]) [] (by kernel_rfl) H10 (fun wq13 H14=>?_)
   refine y_p 0 rfl (fun _=>xm) ?_
   refine y_p 1 rfl (fun _=>xm) ?_
   refine y_p 2 rfl (fun _=>xn) ?_
   refine y_p 3 rfl (fun _=>xf 0) ?_
   have cm1:=H14.mask [false,false,true,false,false,false,false,false,false]
   refine y_t (v:=.agg #[.slice gp gs.length gc]) 4 rfl cm1 (fun _ H=>x_loadA H 0 rfl rfl Tryz.underlying58 rfl sz58 rfl rfl rfl) ?_
   refine y_p 5 rfl (fun _=>xm) ?_
   refine y_p 6 rfl (fun _=>xm) ?_
   refine y_p 8 rfl (fun _=>xm) ?_
   refine y_p 9 rfl (fun _=>xn) ?_
   refine y_p 10 rfl (fun _=>xf 0) ?_
   refine y_t (v:=.agg #[.slice gp gs.length gc]) 11 rfl cm1 (fun _ H=>x_loadA H 0 rfl rfl Tryz.underlying58 rfl sz58 rfl rfl rfl) ?_
   refine y_p 12 rfl (fun _=>xm) ?_
   refine y_p 13 rfl (fun _=>xm) ?_
   refine y_p 15 rfl (fun _=>xm) ?_
   refine y_p 16 rfl (fun _=>xm) ?_
   refine y_p 17 rfl (fun _=>xm) ?_
   refine y_two (i:=7) (j:=20) (by kernel_rfl) rfl rfl ?_ ?_
   ·
    refine s_cl (tlast_s ps.length pl gs gp gc hnp hG hgl x12 me hx9.1 ⟨h0m,by omega⟩ _ (H14.tk [3,5])) ?_
    rintro _ wq16 ⟨rfl,H17⟩
    replace H17:S _ [_,_,_,_,_,_,_,_,_]:=H14.abI (new:=[_,_]) [3,5] H17 rfl
    have hlbq15:=lastV_bd hG x12 me
    refine b_ret rfl rfl ?_
    have cm2:=H17.mask [false,false,false,false,true,false,false,false,false]
    refine y_k cm2 cm2 ?_
    refine y_two (i:=14) (j:=20) (by kernel_rfl) rfl rfl ?_ ?_
    ·
     refine s_cl (tlast_s ps.length pl gs gp gc hnp hG hgl me x12 ⟨h0m,by omega⟩ hx9.1 _ (H17.tk [0,1])) ?_
     rintro _ wq19 ⟨rfl,H20⟩
     replace H20:S _ [_,_,_,_,_,_,_,_,_]:=H17.abI (new:=[_,_]) [0,1] H20 rfl
     have hlbq18:=lastV_bd hG me x12
     refine b_ret rfl rfl ?_
     have cm3:=H20.mask [false,false,false,false,true,false,false,false,false]
     refine y_k cm3 cm3 ?_
     refine y_two (i:=18) (j:=20) (by kernel_rfl) rfl rfl ?_ ?_
     ·
      refine s_cl (tsnub_s ps.length pl gs gp gc hnp hG hgl me x12 ⟨h0m,by omega⟩ hx9.1 g seed pp pc ps sp sc sn tp tc tn vp vc vn bp bc bs.length _ (H20.tk [4,0,1])) ?_
      rintro _ wq21 ⟨rfl,H22⟩
      replace H22:S _ [_,_,_,_,_,_,_,_,_]:=H20.abI (new:=[_,_,_]) [4,0,1] H22 rfl
      refine b_ret rfl rfl ?_
      have cm4:=H22.mask [true,false,false,false,false,false,false,false,false]
      refine y_k cm4 cm4 ?_
      refine y_p (v:=.agg #[.int .i64 x12,.bool true,.bool false,.int .i64 ((lastV (gs.map Rd.v) x12 me)),.int .i64 ((lastV (gs.map Rd.v) me x12)),.int .i64 0,.int .i64 0,.bool ((snubV (gs.map Rd.v) me x12)),.bool false,.bool false]) 19 rfl (fun _=>x_build (vs:=[.int .i64 x12,.bool true,.int .i64 ((lastV (gs.map Rd.v) x12 me)),.int .i64 ((lastV (gs.map Rd.v) me x12)),.bool ((snubV (gs.map Rd.v) me x12))]) rfl rfl (cells:=#[.int .i64 x12,.bool true,.bool false,.int .i64 ((lastV (gs.map Rd.v) x12 me)),.int .i64 ((lastV (gs.map Rd.v) me x12)),.int .i64 0,.int .i64 0,.bool ((snubV (gs.map Rd.v) me x12)),.bool false,.bool false]) (by kernel_rfl)) ?_
      refine y_one (i:=20) (by kernel_rfl) rfl ?_
      refine s_alloc H22 (wt0 rfl) rfl rfl rfl ze111 ?_
      intro g23 wq24 H25
      have cm5:=H25.mask [false,true,false,false,false,false,false,false,false,false]
      refine y_k cm5 cm5 ?_
      refine y_one (i:=21) (by kernel_rfl) rfl ?_
      refine w_st #[.int .i64 x12,.bool true,.bool false,.int .i64 ((lastV (gs.map Rd.v) x12 me)),.int .i64 ((lastV (gs.map Rd.v) me x12)),.int .i64 0,.int .i64 0,.bool ((snubV (gs.map Rd.v) me x12)),.bool false,.bool false] H25 0 ?_
      intro wq26 H27
      have cm6:=H27.mask [false,true,false,false,false,false,false,false,false,false]
      refine y_k cm6 cm6 ?_
      refine y_done (by kernel_rfl) ?_
      refine w_0 ?_
      refine g_mid (g23) ?_ ?_
      · exact ⟨rfl,rfl,rfl,rfl,rfl,rfl,rfl,rfl,trivial⟩
      · exact (H27.tk [0,4,5,1,2,6,3,7,8,9])
     ·
      refine s_alloc H20 (wt0 rfl) rfl rfl rfl ze111 ?_
      intro g28 wq29 H30
      have cm7:=H30.mask [false,false,false,false,false,true,false,false,false,false]
      refine y_k cm7 cm7 ?_
      refine y_one (i:=18) (by kernel_rfl) rfl ?_
      refine s_cl (tsnub_s ps.length pl gs gp gc hnp hG hgl me x12 ⟨h0m,by omega⟩ hx9.1 g seed pp pc ps sp sc sn tp tc tn vp vc vn bp bc bs.length _ (H30.tk [5,1,2])) ?_
      rintro _ wq31 ⟨rfl,H32⟩
      replace H32:S _ [_,_,_,_,_,_,_,_,_,_]:=H30.abI (new:=[_,_,_]) [5,1,2] H32 rfl
      refine b_ret rfl rfl ?_
      have cm8:=H32.mask [true,false,false,false,false,false,false,false,false,false]
      refine y_k cm8 cm8 ?_
      refine y_p (v:=.agg #[.int .i64 x12,.bool true,.bool false,.int .i64 ((lastV (gs.map Rd.v) x12 me)),.int .i64 ((lastV (gs.map Rd.v) me x12)),.int .i64 0,.int .i64 0,.bool ((snubV (gs.map Rd.v) me x12)),.bool false,.bool false]) 19 rfl (fun _=>x_build (vs:=[.int .i64 x12,.bool true,.int .i64 ((lastV (gs.map Rd.v) x12 me)),.int .i64 ((lastV (gs.map Rd.v) me x12)),.bool ((snubV (gs.map Rd.v) me x12))]) rfl rfl (cells:=#[.int .i64 x12,.bool true,.bool false,.int .i64 ((lastV (gs.map Rd.v) x12 me)),.int .i64 ((lastV (gs.map Rd.v) me x12)),.int .i64 0,.int .i64 0,.bool ((snubV (gs.map Rd.v) me x12)),.bool false,.bool false]) (by kernel_rfl)) ?_
      refine y_one (i:=21) (by kernel_rfl) rfl ?_
      refine w_st #[.int .i64 x12,.bool true,.bool false,.int .i64 ((lastV (gs.map Rd.v) x12 me)),.int .i64 ((lastV (gs.map Rd.v) me x12)),.int .i64 0,.int .i64 0,.bool ((snubV (gs.map Rd.v) me x12)),.bool false,.bool false] H32 3 ?_
      intro wq33 H34
      have cm9:=H34.mask [true,false,false,false,false,false,false,false,false,false]
      refine y_k cm9 cm9 ?_
      refine y_done (by kernel_rfl) ?_
      refine w_0 ?_
      refine g_mid (g28) ?_ ?_
      · exact ⟨rfl,rfl,rfl,rfl,rfl,rfl,rfl,rfl,trivial⟩
      · exact (H34.tk [3,4,5,0,1,6,2,7,8,9])
    ·
     refine s_alloc H17 (wt0 rfl) rfl rfl rfl ze111 ?_
     intro g35 wq36 H37
     have cm10:=H37.mask [false,false,false,false,false,true,false,false,false,false]
     refine y_k cm10 cm10 ?_
     refine y_one (i:=14) (by kernel_rfl) rfl ?_
     refine s_cl (tlast_s ps.length pl gs gp gc hnp hG hgl me x12 ⟨h0m,by omega⟩ hx9.1 _ (H37.tk [1,2])) ?_
     rintro _ wq39 ⟨rfl,H40⟩
     replace H40:S _ [_,_,_,_,_,_,_,_,_,_]:=H37.abI (new:=[_,_]) [1,2] H40 rfl
     have hlbq38:=lastV_bd hG me x12
     refine b_ret rfl rfl ?_
     have cm11:=H40.mask [false,false,false,false,false,true,false,false,false,false]
     refine y_k cm11 cm11 ?_
     refine y_one (i:=18) (by kernel_rfl) rfl ?_
     refine s_cl (tsnub_s ps.length pl gs gp gc hnp hG hgl me x12 ⟨h0m,by omega⟩ hx9.1 g seed pp pc ps sp sc sn tp tc tn vp vc vn bp bc bs.length _ (H40.tk [5,0,1])) ?_
     rintro _ wq41 ⟨rfl,H42⟩
     replace H42:S _ [_,_,_,_,_,_,_,_,_,_]:=H40.abI (new:=[_,_,_]) [5,0,1] H42 rfl
     refine b_ret rfl rfl ?_
     have cm12:=H42.mask [true,false,false,false,false,false,false,false,false,false]
     refine y_k cm12 cm12 ?_
     refine y_p (v:=.agg #[.int .i64 x12,.bool true,.bool false,.int .i64 ((lastV (gs.map Rd.v) x12 me)),.int .i64 ((lastV (gs.map Rd.v) me x12)),.int .i64 0,.int .i64 0,.bool ((snubV (gs.map Rd.v) me x12)),.bool false,.bool false]) 19 rfl (fun _=>x_build (vs:=[.int .i64 x12,.bool true,.int .i64 ((lastV (gs.map Rd.v) x12 me)),.int .i64 ((lastV (gs.map Rd.v) me x12)),.bool ((snubV (gs.map Rd.v) me x12))]) rfl rfl (cells:=#[.int .i64 x12,.bool true,.bool false,.int .i64 ((lastV (gs.map Rd.v) x12 me)),.int .i64 ((lastV (gs.map Rd.v) me x12)),.int .i64 0,.int .i64 0,.bool ((snubV (gs.map Rd.v) me x12)),.bool false,.bool false]) (by kernel_rfl)) ?_
     refine y_one (i:=21) (by kernel_rfl) rfl ?_
     refine w_st #[.int .i64 x12,.bool true,.bool false,.int .i64 ((lastV (gs.map Rd.v) x12 me)),.int .i64 ((lastV (gs.map Rd.v) me x12)),.int .i64 0,.int .i64 0,.bool ((snubV (gs.map Rd.v) me x12)),.bool false,.bool false] H42 3 ?_
     intro wq43 H44
     have cm13:=H44.mask [true,false,false,false,false,false,false,false,false,false]
     refine y_k cm13 cm13 ?_
     refine y_done (by kernel_rfl) ?_
     refine w_0 ?_
     refine g_mid (g35) ?_ ?_
     · exact ⟨rfl,rfl,rfl,rfl,rfl,rfl,rfl,rfl,trivial⟩
     · exact (H44.tk [3,4,5,0,1,6,2,7,8,9])
   ·
    refine s_alloc H14 (wt0 rfl) rfl rfl rfl ze111 ?_
    intro g45 wq46 H47
    have cm14:=H47.mask [false,false,false,true,false,false,false,false,false,false]
    refine y_k cm14 cm14 ?_
    refine y_one (i:=7) (by kernel_rfl) rfl ?_
    refine s_cl (tlast_s ps.length pl gs gp gc hnp hG hgl x12 me hx9.1 ⟨h0m,by omega⟩ _ (H47.tk [4,6])) ?_
    rintro _ wq49 ⟨rfl,H50⟩
    replace H50:S _ [_,_,_,_,_,_,_,_,_,_]:=H47.abI (new:=[_,_]) [4,6] H50 rfl
    have hlbq48:=lastV_bd hG x12 me
    refine b_ret rfl rfl ?_
    have cm15:=H50.mask [false,false,false,false,false,true,false,false,false,false]
    refine y_k cm15 cm15 ?_
    refine y_one (i:=14) (by kernel_rfl) rfl ?_
    refine s_cl (tlast_s ps.length pl gs gp gc hnp hG hgl me x12 ⟨h0m,by omega⟩ hx9.1 _ (H50.tk [0,1])) ?_
    rintro _ wq52 ⟨rfl,H53⟩
    replace H53:S _ [_,_,_,_,_,_,_,_,_,_]:=H50.abI (new:=[_,_]) [0,1] H53 rfl
    have hlbq51:=lastV_bd hG me x12
    refine b_ret rfl rfl ?_
    have cm16:=H53.mask [false,false,false,false,false,true,false,false,false,false]
    refine y_k cm16 cm16 ?_
    refine y_one (i:=18) (by kernel_rfl) rfl ?_
    refine s_cl (tsnub_s ps.length pl gs gp gc hnp hG hgl me x12 ⟨h0m,by omega⟩ hx9.1 g seed pp pc ps sp sc sn tp tc tn vp vc vn bp bc bs.length _ (H53.tk [5,0,1])) ?_
    rintro _ wq54 ⟨rfl,H55⟩
    replace H55:S _ [_,_,_,_,_,_,_,_,_,_]:=H53.abI (new:=[_,_,_]) [5,0,1] H55 rfl
    refine b_ret rfl rfl ?_
    have cm17:=H55.mask [true,false,false,false,false,false,false,false,false,false]
    refine y_k cm17 cm17 ?_
    refine y_p (v:=.agg #[.int .i64 x12,.bool true,.bool false,.int .i64 ((lastV (gs.map Rd.v) x12 me)),.int .i64 ((lastV (gs.map Rd.v) me x12)),.int .i64 0,.int .i64 0,.bool ((snubV (gs.map Rd.v) me x12)),.bool false,.bool false]) 19 rfl (fun _=>x_build (vs:=[.int .i64 x12,.bool true,.int .i64 ((lastV (gs.map Rd.v) x12 me)),.int .i64 ((lastV (gs.map Rd.v) me x12)),.bool ((snubV (gs.map Rd.v) me x12))]) rfl rfl (cells:=#[.int .i64 x12,.bool true,.bool false,.int .i64 ((lastV (gs.map Rd.v) x12 me)),.int .i64 ((lastV (gs.map Rd.v) me x12)),.int .i64 0,.int .i64 0,.bool ((snubV (gs.map Rd.v) me x12)),.bool false,.bool false]) (by kernel_rfl)) ?_
    refine y_one (i:=21) (by kernel_rfl) rfl ?_
    refine w_st #[.int .i64 x12,.bool true,.bool false,.int .i64 ((lastV (gs.map Rd.v) x12 me)),.int .i64 ((lastV (gs.map Rd.v) me x12)),.int .i64 0,.int .i64 0,.bool ((snubV (gs.map Rd.v) me x12)),.bool false,.bool false] H55 3 ?_
    intro wq56 H57
    have cm18:=H57.mask [true,false,false,false,false,false,false,false,false,false]
    refine y_k cm18 cm18 ?_
    refine y_done (by kernel_rfl) ?_
    refine w_0 ?_
    refine g_mid (g45) ?_ ?_
    · exact ⟨rfl,rfl,rfl,rfl,rfl,rfl,rfl,rfl,trivial⟩
    · exact (H57.tk [3,4,5,0,1,6,2,7,8,9])
  rintro rb wq58 H59
  refine g_wk [(1,_),(2,_),(7,_),(9,_),(10,_),(14,_),(15,_),(16,_)] ?_
  refine g_seq ?_
  refine w_k5 ?_
  refine l_of (w_st #[.int .i64 x12,.bool true,.bool (decide (((lastV (gs.map Rd.v) x12 me):Int)=0)),.int .i64 ((lastV (gs.map Rd.v) x12 me)),.int .i64 ((lastV (gs.map Rd.v) me x12)),.int .i64 0,.int .i64 0,.bool ((snubV (gs.map Rd.v) me x12)),.bool false,.bool false] H59 0 ?_)
  intro wq60 H61
  refine w_k7 ?_
  refine w_v (x_i ((me).toNat) (H61.rr 7)) ?_
  obtain ⟨x62,hx62⟩:=(H61.rr 7).exL rowE ((me).toNat)
  have hblx62:=hbw x62 (List.mem_of_getElem? hx62)
  refine w_v (x_r ((me).toNat) (H61.rr 7) (rowE.flAt1 hx62 rfl)) ?_
  refine w_m ?_
  refine w_v (x_i ((x12).toNat) (H61.bwRd (k:=8) rfl hx62)) ?_
  obtain ⟨x63,hx63⟩:=(H61.bwRd (k:=8) rfl hx62).exL intE ((x12).toNat)
  refine w_v (v:=.int .i64 ((at2 (bs.map Ro.l) me x12))) (ex_cast (x_loadR1 ((x12).toNat) (H61.bwRd (k:=8) rfl hx62) (by omega) rfl rfl Tryz.underlying3 rfl (intE.flAt1 hx63 rfl)) (by rw [at2_bw hx62 hx63])) ?_
  refine w_k2 ?_
  by_cases hb64:((at2 (bs.map Ro.l) me x12):Int)=0
  ·
   refine g_ct hb64 ?_
   refine w_k2 ?_
   refine l_of (w_st #[.int .i64 x12,.bool true,.bool (decide (((lastV (gs.map Rd.v) x12 me):Int)=0)),.int .i64 ((lastV (gs.map Rd.v) x12 me)),.int .i64 ((lastV (gs.map Rd.v) me x12)),.int .i64 (-1),.int .i64 0,.bool ((snubV (gs.map Rd.v) me x12)),.bool false,.bool false] H61 0 ?_)
   intro wq65 H66
   refine w_k3 ?_
   refine w_v (v:=.agg #[.int .i64 x12,.bool true,.bool (decide (((lastV (gs.map Rd.v) x12 me):Int)=0)),.int .i64 ((lastV (gs.map Rd.v) x12 me)),.int .i64 ((lastV (gs.map Rd.v) me x12)),.int .i64 (-1),.int .i64 0,.bool ((snubV (gs.map Rd.v) me x12)),.bool false,.bool false]) (x_loadA H66 0 rfl rfl Tryz.underlying111 rfl sz111 rfl rfl rfl) ?_
   refine l_of (s_b1 ze111 #[.int .i64 x12,.bool true,.bool (decide (((lastV (gs.map Rd.v) x12 me):Int)=0)),.int .i64 ((lastV (gs.map Rd.v) x12 me)),.int .i64 ((lastV (gs.map Rd.v) me x12)),.int .i64 (-1),.int .i64 0,.bool ((snubV (gs.map Rd.v) me x12)),.bool false,.bool false] H66 ?_)
   intro g67 wq68 H69
   have hln74a:=(H69.rr 2).lenL rvE
   have hln74:(rl++[(⟨x12,true,decide (((lastV (gs.map Rd.v) x12 me):Int)=0),(lastV (gs.map Rd.v) x12 me),(lastV (gs.map Rd.v) me x12),-1,0,(snubV (gs.map Rd.v) me x12),false,false⟩:Rv)]).length=rl.length+1:=by simp only [List.length_append,List.length_cons,List.length_nil] <;> omega
   refine l_of (s_appBn (m:=1) (l:=rl) (l2:=[(⟨x12,true,decide (((lastV (gs.map Rd.v) x12 me):Int)=0),(lastV (gs.map Rd.v) x12 me),(lastV (gs.map Rd.v) me x12),-1,0,(snubV (gs.map Rd.v) me x12),false,false⟩:Rv)]) rvE H69 2 (j0:=0) rfl rfl ⟨rfl,Nat.le_refl _⟩ (wt0 rfl) rfl rfl rfl rfl rfl rfl Tryz.underlying109 inf111 rfl (by decide) (by omega) ?_)
   intro p70 c71 wq72 H73
   refine w_k5 ?_
   refine w_i i ?_
   refine w_k2 ?_
   have he9:(rvOf (gs.map Rd.v) (bs.map Ro.l) me) x12=(⟨x12,true,decide (((lastV (gs.map Rd.v) x12 me):Int)=0),(lastV (gs.map Rd.v) x12 me),(lastV (gs.map Rd.v) me x12),-1,0,(snubV (gs.map Rd.v) me x12),false,false⟩:Rv):=by unfold rvOf; rw [if_pos hb64]
   refine g_rd (i:=(i,pq,cq,rl)) ((i+1),p70,c71,(rl++[(⟨x12,true,decide (((lastV (gs.map Rd.v) x12 me):Int)=0),(lastV (gs.map Rd.v) x12 me),(lastV (gs.map Rd.v) me x12),-1,0,(snubV (gs.map Rd.v) me x12),false,false⟩:Rv)])) ⟨by omega,(by rw [take_snocT hx12,List.map_append,← hrl]; show _=rl++[(rvOf (gs.map Rd.v) (bs.map Ro.l) me) x12]; rw [he9]),(H73.tk [2,3,4,5,6,7,8,9,10])⟩
  ·
   refine g_cf hb64 ?_
   refine w_k4 ?_
   refine w_v (v:=.agg #[.int .i64 x12,.bool true,.bool (decide (((lastV (gs.map Rd.v) x12 me):Int)=0)),.int .i64 ((lastV (gs.map Rd.v) x12 me)),.int .i64 ((lastV (gs.map Rd.v) me x12)),.int .i64 0,.int .i64 0,.bool ((snubV (gs.map Rd.v) me x12)),.bool false,.bool false]) (x_loadA H61 0 rfl rfl Tryz.underlying111 rfl sz111 rfl rfl rfl) ?_
   refine l_of (s_b1 ze111 #[.int .i64 x12,.bool true,.bool (decide (((lastV (gs.map Rd.v) x12 me):Int)=0)),.int .i64 ((lastV (gs.map Rd.v) x12 me)),.int .i64 ((lastV (gs.map Rd.v) me x12)),.int .i64 0,.int .i64 0,.bool ((snubV (gs.map Rd.v) me x12)),.bool false,.bool false] H61 ?_)
   intro g75 wq76 H77
   have hln82a:=(H77.rr 2).lenL rvE
   have hln82:(rl++[(⟨x12,true,decide (((lastV (gs.map Rd.v) x12 me):Int)=0),(lastV (gs.map Rd.v) x12 me),(lastV (gs.map Rd.v) me x12),0,0,(snubV (gs.map Rd.v) me x12),false,false⟩:Rv)]).length=rl.length+1:=by simp only [List.length_append,List.length_cons,List.length_nil] <;> omega
   refine l_of (s_appBn (m:=1) (l:=rl) (l2:=[(⟨x12,true,decide (((lastV (gs.map Rd.v) x12 me):Int)=0),(lastV (gs.map Rd.v) x12 me),(lastV (gs.map Rd.v) me x12),0,0,(snubV (gs.map Rd.v) me x12),false,false⟩:Rv)]) rvE H77 2 (j0:=0) rfl rfl ⟨rfl,Nat.le_refl _⟩ (wt0 rfl) rfl rfl rfl rfl rfl rfl Tryz.underlying109 inf111 rfl (by decide) (by omega) ?_)
   intro p78 c79 wq80 H81
   refine w_k5 ?_
   refine w_i i ?_
   refine w_k2 ?_
   have he9:(rvOf (gs.map Rd.v) (bs.map Ro.l) me) x12=(⟨x12,true,decide (((lastV (gs.map Rd.v) x12 me):Int)=0),(lastV (gs.map Rd.v) x12 me),(lastV (gs.map Rd.v) me x12),0,0,(snubV (gs.map Rd.v) me x12),false,false⟩:Rv):=by unfold rvOf; rw [if_neg hb64]
   refine g_rd (i:=(i,pq,cq,rl)) ((i+1),p78,c79,(rl++[(⟨x12,true,decide (((lastV (gs.map Rd.v) x12 me):Int)=0),(lastV (gs.map Rd.v) x12 me),(lastV (gs.map Rd.v) me x12),0,0,(snubV (gs.map Rd.v) me x12),false,false⟩:Rv)])) ⟨by omega,(by rw [take_snocT hx12,List.map_append,← hrl]; show _=rl++[(rvOf (gs.map Rd.v) (bs.map Ro.l) me) x12]; rw [he9]),(H81.tk [2,3,4,5,6,7,8,9,10])⟩
 ·
  refine g_cf hb11 ?_
  refine w_k5 ?_
  refine g_seq ?_
  refine g_anyY [] (fun wx=>S wx [Ob g (.cells #[.slice gp gs.length gc,.string seed,.slice pp ps.length pc,.slice sp sn sc,.slice tp tn tc,.slice vp vn vc,.slice bp bs.length bc] 61 (0,0))]) (fun wx=>S wx [Ob g (.cells #[.slice gp gs.length gc,.string seed,.slice pp ps.length pc,.slice sp sn sc,.slice tp tn tc,.slice vp vn vc,.slice bp bs.length bc] 61 (0,0))]) [] (by kernel_rfl) H10 (fun wq83 H84=>?_)
  refine y_p 0 rfl (fun _=>xm) ?_
  refine y_p 1 rfl (fun _=>xn) ?_
  refine y_p 2 rfl (fun _=>xf 0) ?_
  refine y_p 3 rfl (fun _=>xf 0) ?_
  have cm19:=H84.mask [false,false,true,false,false,false,false,false,false]
  refine y_t 4 rfl cm19 (fun _ H=>xl H 0) ?_
  refine y_p 5 rfl (fun _=>x_q) ?_
  refine y_p 6 rfl (fun _=>xm) ?_
  refine y_p 7 rfl (fun _=>xn) ?_
  refine y_p 8 rfl (fun _=>xf 1) ?_
  refine y_t 9 rfl cm19 (fun _ H=>xl H 0) ?_
  have hsz85:(seed++(⟨#[32]⟩:ByteArray)).size=seed.size+(⟨#[32]⟩:ByteArray).size:=ByteArray.size_append
  refine y_p (v:=.string (seed++(⟨#[32]⟩:ByteArray))) 10 rfl (fun _=>x_bin rfl rfl rfl (b_cat (by omega))) ?_
  refine y_p 11 rfl (fun _=>xm) ?_
  refine y_p 14 rfl (fun _=>xm) ?_
  refine y_one (i:=12) (by kernel_rfl) rfl ?_
  refine s_cl (itoa_s me (by omega) (by omega) _ trivial) ?_
  rintro _ wq86 ⟨rfl,H87⟩
  replace H87:=H84.ab0 H87
  have hits:=itS_size (n:=me) (by omega) (by omega)
  have hs2:((seed++(⟨#[32]⟩:ByteArray))++itS me).size=seed.size+1+(itS me).size:=by rw [ByteArray.size_append,hs1]
  refine b_ret rfl rfl ?_
  have cm20:=H87.mask [false,false,true,false,false,false,false,false,false]
  refine y_k cm20 cm20 ?_
  have hsz88:((seed++(⟨#[32]⟩:ByteArray))++(itS me)).size=(seed++(⟨#[32]⟩:ByteArray)).size+(itS me).size:=ByteArray.size_append
  refine y_p (v:=.string ((seed++(⟨#[32]⟩:ByteArray))++(itS me))) 13 rfl (fun _=>x_bin rfl rfl rfl (b_cat (by omega))) ?_
  refine y_one (i:=15) (by kernel_rfl) rfl ?_
  have hrv9:rl=rivL ps.length (gs.map Rd.v) (bs.map Ro.l) me:=by rw [hrl,List.take_of_length_le (by omega)]; rfl
  refine s_cl (decided1_s (gs.length:Int) 4 ((seed++(⟨#[32]⟩:ByteArray))++(itS me)) rl pq rl.length cq (by omega) (fun x hx=>rivL_valid hG hnp (hrv9 ▸ hx)) (by omega) (by omega) (by omega) _ (H87.rr 0) trivial) ?_
  rintro _ wq91 ⟨pd89,cd90,rfl,H92⟩
  replace H92:S _ [_,_,_,_,_,_,_,_,_,_]:=H87.ab (new:=[_]) H92 rfl
  refine b_ret rfl rfl ?_
  have cm21:=H92.mask [false,false,false,true,false,false,false,false,false,false]
  refine y_k cm21 cm21 ?_
  refine y_p 16 rfl (fun _=>xa) ?_
  refine y_done (by kernel_rfl) ?_
  refine w_k5 ?_
  refine l_of (s_cl (evenly_s g gp gc gs.length seed pp pc ps sp sc sn tp tc tn vp vc vn bp bc bs.length (by omega) me h0m pm hm rt hrt hr0 (ids1 (gs.length:Int) 4 ((seed++(⟨#[32]⟩:ByteArray))++(itS me)) rl) pd89 cd90 (fun x hx=>(fair_ids (hrv9 ▸ hx)).1) (by have h8:=ids1_len (gs.length:Int) 4 ((seed++(⟨#[32]⟩:ByteArray))++(itS me)) rl; omega) _ (H92.tk [0,3,5])) ?_)
  rintro _ wq95 ⟨pe93,ce94,rfl,H96⟩
  replace H96:S _ [_,_,_,_,_,_,_,_,_,_,_]:=H92.abI (new:=[_,_,_,_]) [0,3,5] H96 rfl
  refine b_ret rfl rfl ?_
  refine w_k3 ?_
  refine fin_r [.tmp 6] [.slice pe93 ((evnV ps.length rt (ids1 (gs.length:Int) 4 ((seed++(⟨#[32]⟩:ByteArray))++(itS me)) rl)).length) ce94] ?_
  have hv:(fairV seed ps.length rt (gs.map Rd.v) (bs.map Ro.l) me)=(evnV ps.length rt (ids1 (gs.length:Int) 4 ((seed++(⟨#[32]⟩:ByteArray))++(itS me)) rl)):=by unfold fairV; rw [hrv9,List.length_map]
  rw [hv]
  exact ⟨_,_,rfl,H96.tk [0,2,6,3,7,8,9,10]⟩
end Go.Proofs.YtpbjekdjebjbkaaGreatDoor
