import Derived.Test.YtpbjekdjebjbkaaGreatDoorFm
import Derived.Test.YtpbjekdjebjbkaaGreatDoorTb
set_option maxRecDepth 20000
set_option maxHeartbeats 4000000
set_option linter.unusedSimpArgs false
set_option linter.unusedVariables false
namespace Go.Proofs.YtpbjekdjebjbkaaGreatDoor
open Go.RowKit
theorem cl61:callable Tryz.prog 61=true:=by kernel_rfl
theorem cl70:callable Tryz.prog 70=true:=by kernel_rfl
theorem sz4:szO Tryz.prog 4=some 1:=by kernel_rfl
theorem sz43:szO Tryz.prog 43=some 1:=by kernel_rfl
theorem sz58:szO Tryz.prog 58=some 1:=by kernel_rfl
theorem ze4:zeO Tryz.prog 4=some (.bool false):=by kernel_rfl
theorem snub_t {gs pre:List Rd} {me ot:Int} (hp:pre=gs.reverse.take pre.length) (h3:pre.length=3) (hall:∀ r∈pre,snb1 me ot r.v=true):snubV (gs.map Rd.v) me ot=true:=by
 have h1:3≤(gs.map Rd.v).length:=by
   rw [List.length_map]
   have:=congrArg List.length hp
   rw [List.length_take,List.length_reverse] at this; omega
 have h2:gs.reverse.take 3=pre:=by rw [h3] at hp; exact hp.symm
 unfold snubV
 rw [decide_eq_true h1,rev_v,← List.map_take,h2,Bool.true_and,List.all_map,List.all_eq_true]
 exact hall
theorem snub_f {gs:List Rd} {me ot:Int} {x:Rd} {m:Nat} (hx:gs.reverse[m]?=some x) (hm:m<3) (hb:snb1 me ot x.v=false):snubV (gs.map Rd.v) me ot=false:=by
 have h1:x.v∈((gs.map Rd.v).reverse.take 3):=by
   rw [rev_v]
   refine List.mem_of_getElem? (i:=m) ?_
   rw [List.getElem?_take,if_pos hm,List.getElem?_map,hx]; rfl
 have h2:((gs.map Rd.v).reverse.take 3).all (snb1 me ot)=false:=List.all_eq_false.2 ⟨_,h1,by rw [hb]; decide⟩
 unfold snubV
 rw [h2,Bool.and_false]
theorem snub_s {gs:List Rd} {me ot:Int} (h:gs.length<3):snubV (gs.map Rd.v) me ot=false:=by
 unfold snubV
 rw [decide_eq_false (by rw [List.length_map]; omega),Bool.false_and]
theorem rounds_s (p:Option Addr) (n c:Nat)  (w:World):Calls Tryz.prog 61 #[.agg #[.slice p n c]] w fun e w'=>∃ b,e=.returned (.func (.func 70) #[] #[.pointer (some ⟨b,0,none⟩)])∧S w' ([Ob b (.cells #[.slice p n c] 58 (0,0))]++[Old w no]):=by
 have H0:=S.old w
 refine enter 4 Tryz.func61 rfl rfl rfl ?_
 refine g_wk [(0,_)] ?_
 refine w_s ?_
 refine l_of (s_box H0 (wt0 rfl) rfl rfl rfl rfl ?_)
 intro g1 wq2 H3
 refine w_k3 ?_
 refine w_v (x_makeFunc rfl rfl rfl) ?_
 refine w_k3 ?_
 refine fin_r [.tmp 2] [.func (.func 70) #[] #[.pointer (some ⟨g1,0,none⟩)]] ?_
 exact ⟨g1,rfl,H3⟩
abbrev DTc1 (gp:Option Addr) (gs:List Rd) (gc:Nat) (pl:List Rd):=[Rw 39 1 gp gs.length gc (fl rowL gs),(Pool pl)]
theorem tlast_s (n:Nat) (pl gs:List Rd) (gp:Option Addr) (gc:Nat) (hn:n≤9) (hG:GsOK n pl gs) (hgl:gs.length≤200) (a b:Int) (ha:0≤a∧a<n) (hb:0≤b∧b<n)  (w:World) (HS:S w (DTc1 gp gs gc pl)):Calls Tryz.prog 56 #[.agg #[.slice gp gs.length gc],.int .i64 a,.int .i64 b] w fun e w'=>e=.returned (.int .i64 (lastV (gs.map Rd.v) a b))∧S w' ((DTc1 gp gs gc pl)++[Old w (fps (DTc1 gp gs gc pl))]):=by
 have H0:=HS.beginI
 refine enter_m 18 Tryz.func56 rfl rfl rfl ?_
 have hL:¬ LetsOut (bodyPostM (WF none) 9 Tryz.prog Tryz.f56 fun e w'=>e=.returned (.int .i64 (lastV (gs.map Rd.v) a b))∧S w' ((DTc1 gp gs gc pl)++[Old w (fps (DTc1 gp gs gc pl))])):=by
  rintro ⟨_,_,h⟩
  simp only [bodyPostM,reduceCtorEq,false_and,and_false,exists_false,or_false,or_self,exists_const] at h
 refine g_wk [(0,_),(1,_),(2,_)] ?_
 refine R.g_seq ?_
 refine R.g_region ?_
 refine R.l_of rfl (fun h=>hL h) (s_box H0 (wt0 rfl) rfl rfl rfl rfl ?_)
 intro g1 wq2 H3
 refine R.l_of rfl (fun h=>hL h) (s_box H3 (wt0 rfl) rfl rfl rfl rfl ?_)
 intro g4 wq5 H6
 refine R.l_of rfl (fun h=>hL h) (s_box H6 (wt0 rfl) rfl rfl rfl rfl ?_)
 intro g7 wq8 H9
 refine R.l_of rfl (fun h=>hL h) (s_alloc H9 (wt0 rfl) rfl rfl rfl ze3 ?_)
 intro g10 wq11 H12
 refine R.g_nil ?_
 refine w_0 ?_
 iterate 2 refine R.g_seq ?_
 refine R.g_region ?_
 refine R.w_v (fun h=>hL h) (v:=.agg #[.slice gp gs.length gc]) (x_loadA H12 3 rfl rfl Tryz.underlying58 rfl sz58 rfl rfl rfl) ?_
 refine R.l_of rfl (fun h=>hL h) (s_call (wt0 rfl) (x_call' rfl rfl cl61) (rounds_s gp gs.length gc _) ?_)
 rintro _ wq14 ⟨bk13,rfl,H15⟩
 replace H15:S _ [_,_,_,_,_,_,_,_]:=H12.ab (new:=[_]) H15 rfl
 refine b_ret rfl rfl ?_
 refine R.g_nil ?_
 refine w_0 ?_
 refine R.g_block ?_
 have H16:S _ [_,_,_,_,_,_,_]:=S.big (L:=[_,_]) (H15.tk [5,6,0,1,2,3,4,7])
 have H17:S _ [_,_,_,_,_,_]:=S.big (L:=[_,_]) (H16.tk [1,0,2,3,4,5,6])
 have H18:=S.noI (H17.tk [0,1,2,3,4,5])
 refine g_rangeJ (α:=Rd) (ι:=Unit) (encs:=encG) (base:=(Big [Ob bk13 (.cells #[.slice gp gs.length gc] 58 (0,0)),(Big (DTc1 gp gs gc pl))])) (by omega) rfl cl70 (rounds_it (by omega) (by omega) (fun w9 h9=>(S.unbig (L:=[_,_]) (B:=[]) h9).rr 0)) (fun _=>rfl) rfl (fun pre Lx=>(pre=[])∧Lx=[Ob g10 (.cells #[.int .i64 0] 3 (0,0)),Ob g7 (.cells #[.int .i64 b] 3 (0,0)),Ob g4 (.cells #[.int .i64 a] 3 (0,0)),Ob g1 (.cells #[.slice gp gs.length gc] 58 (0,0)),Old w (fps (DTc1 gp gs gc pl))]) (fun cc pre Lx=>(cc=.ret∧∃ (r:Rd),(gs.reverse[0]?=some r)∧Lx=[Ob g10 (.cells #[.int .i64 ((at2 r.v a b))] 3 (0,0)),Ob g7 (.cells #[.int .i64 b] 3 (0,0)),Ob g4 (.cells #[.int .i64 a] 3 (0,0)),Ob g1 (.cells #[.slice gp gs.length gc] 58 (0,0)),Old w (fps (DTc1 gp gs gc pl))])) (fun p ia=>[(4,.pointer (some ⟨g4,0,none⟩)),(5,.pointer (some ⟨g7,0,none⟩)),(6,.pointer (some ⟨g10,0,none⟩)),(7,.slice p.p p.l.length p.c)]) (fun p ia=>[]) (fun _ _ _ _ _=>trivial) ⟨rfl,rfl⟩ H18 ?_ ?_ ?_ ?_
 ·
  rintro l1 p Ly W19 H20
  have hL:¬ LetsOut (fun (_:Exit) (_:Act) (_:World)=>False):=fun ⟨_,_,h⟩=>h
  refine g_wk [(4,_),(5,_),(6,_),(10,_)] ?_
  refine R.g_region ?_
  refine R.w_v (fun h=>hL h) xa ?_
  refine R.g_nil ?_
  refine w_0 ?_
  exact rw_assign () ⟨rfl,rfl,rfl,rfl,trivial⟩ H20
 ·
  rintro l1 pr x ia II Kx _ W21 ⟨hJ,rfl⟩ hphi H22
  have H23:=S.unbig (H22.tk [3,0,1,2,4,5,6,7,8])
  refine g_wk [(4,_),(5,_),(6,_),(7,_)] ?_
  have hxg:x∈gs:=List.mem_reverse.1 (List.mem_of_getElem? hphi)
  have hxp:=hG.mem x hxg
  have hox:=hG.ok x hxg
  have hlx:=hox.lenR
  have H24:S _ [_,_,_,_,_,_,_,_,_]:=S.unbig (H23.tk [0,1,2,3,4,5,6,7])
  have H25:S _ [_,_,_,_,_,_,_,_,_,_]:=S.unbig (H24.tk [1,0,2,3,4,5,6,7,8])
  refine R.g_block ?_
  refine R.g_seq ?_
  refine R.g_anyY [] (fun wx=>S wx [Rw 39 1 gp gs.length gc (fl rowL gs),(Pool pl),Ob bk13 (.cells #[.slice gp gs.length gc] 58 (0,0)),II,Kx,Ob g10 (.cells #[.int .i64 0] 3 (0,0)),Ob g7 (.cells #[.int .i64 b] 3 (0,0)),Ob g4 (.cells #[.int .i64 a] 3 (0,0)),Ob g1 (.cells #[.slice gp gs.length gc] 58 (0,0)),Old w (fps (DTc1 gp gs gc pl))]) (fun wx=>S wx [Rw 39 1 gp gs.length gc (fl rowL gs),(Pool pl),Ob bk13 (.cells #[.slice gp gs.length gc] 58 (0,0)),II,Kx,Ob g7 (.cells #[.int .i64 b] 3 (0,0)),Ob g4 (.cells #[.int .i64 a] 3 (0,0)),Ob g1 (.cells #[.slice gp gs.length gc] 58 (0,0)),Old w (fps (DTc1 gp gs gc pl))]) [7] (by kernel_rfl) (by kernel_rfl) (fun ⟨_,_,h⟩=>h) H25 (fun wq26 H27=>?_)
  refine y_pure (v:=.slice x.p x.l.length x.c) 0 rfl (wt0 rfl) rfl rfl rfl (by kernel_rfl) (by kernel_rfl) (by kernel_rfl) (by kernel_rfl) (fun wx=>x_move rfl rfl) ?_
  refine y_t 1 rfl H27 (fun _ H=>xl H 7) ?_
  refine y_pure (v:=.pointer ((x.p).map fun q=>q.add (((a).toNat) * 1))) 2 rfl (wt0 rfl) rfl rfl rfl (by kernel_rfl) (by kernel_rfl) (by kernel_rfl) (by kernel_rfl) (fun wx=>x_idxP ((a).toNat) ((H27.poolRd (k:=1) rfl hxp).some (by omega)) rfl rfl rfl Tryz.underlying39 sz43 (by omega)) ?_
  obtain ⟨x28,hx28⟩:=(H27.poolRd (k:=1) rfl hxp).exL rowE ((a).toNat)
  have hlx28:=hox.row_at hx28
  refine y_t 3 rfl H27 (fun _ H=>x_r ((a).toNat) (H.poolRd (k:=1) rfl hxp) (rowE.flAt1 hx28 rfl)) ?_
  refine y_t 4 rfl H27 (fun _ H=>xl H 6) ?_
  refine y_pure (v:=.pointer ((x28.p).map fun q=>q.add (((b).toNat) * 1))) 5 rfl (wt0 rfl) rfl rfl rfl (by kernel_rfl) (by kernel_rfl) (by kernel_rfl) (by kernel_rfl) (fun wx=>x_idxP ((b).toNat) ((H27.poolRow (k:=1) rfl hxp hx28).some (by omega)) rfl rfl rfl Tryz.underlying43 sz3 (by omega)) ?_
  obtain ⟨x29,hx29⟩:=(H27.poolRow (k:=1) rfl hxp hx28).exL intE ((b).toNat)
  have hyx29:=hox.ent hx28 hx29
  refine y_t (v:=.int .i64 ((at2 x.v a b))) 6 rfl H27 (fun _ H=>ex_cast (x_loadR1 ((b).toNat) (H.poolRow (k:=1) rfl hxp hx28) (by omega) rfl rfl Tryz.underlying3 rfl (intE.flAt1 hx29 rfl)) (by rw [at2_is hx28 hx29])) ?_
  refine y_one (i:=7) (by kernel_rfl) rfl ?_
  refine s_store H27 5 (wt0 rfl) rfl rfl rfl rfl rfl sz3 rfl rfl (cs':=#[.int .i64 ((at2 x.v a b))]) rfl ?_
  intro wq30 H31
  refine y_kt rfl (H31.mask [true,true,true,true,true,false,true,true,true,true]) ?_
  refine y_done (by kernel_rfl) ?_
  refine w_0 ?_
  refine R.g_ret ?_
  refine w_0 ?_
  have H32:S _ [_,_,_,_,_,_,_,_,_]:=S.big (L:=[_,_]) (H31.tk [0,1,2,3,4,5,6,7,8,9])
  have H33:S _ [_,_,_,_,_,_,_,_]:=S.big (L:=[_,_]) (H32.tk [1,0,2,3,4,5,6,7,8])
  exact rj_ret (⟨rfl,x,(by subst hJ; exact hphi),rfl⟩) (H33.tk [0,1,2,3,4,5,6,7])
 ·
  rintro D xs _ W34 hxs ⟨hJ,rfl⟩ H35
  have H36:S _ [_,_,_,_,_,_,_,_]:=S.unbig (H35.tk [1,0,2,3,4,5,6])
  have H37:S _ [_,_,_,_,_,_,_,_,_]:=S.unbig (H36.tk [1,0,2,3,4,5,6,7])
  have hgn:gs=[]:=by subst hJ; exact List.reverse_eq_nil_iff.1 hxs.symm
  refine w_k2 ?_
  refine R.g_seq ?_
  refine R.g_region ?_
  refine R.l_of rfl (fun h=>hL h) (s_store H37 4 (wt0 rfl) rfl rfl rfl rfl rfl sz3 rfl rfl (cs':=#[.int .i64 0]) rfl ?_)
  intro wq38 H39
  refine R.g_nil ?_
  refine w_0 ?_
  refine R.g_ret ?_
  refine fin_mark H39 3 rfl [.cell 6 3] [.int .i64 0] rfl (fun wq40 H41=>⟨⟨⟨_,rfl,run_load1 Tryz.underlying3 rfl (H41.cell (k:=4) rfl rfl)⟩,trivial⟩,?_⟩)
  have hv:lastV (gs.map Rd.v) a b=0:=by rw [hgn]; rfl
  rw [hv]
  exact ⟨rfl,(H41.tk [0,1,8])⟩
 ·
  rintro D cc pr _ W42 _ ⟨rfl,r,hr0,rfl⟩ H43
  have H44:S _ [_,_,_,_,_,_,_,_]:=S.unbig (H43.tk [1,0,2,3,4,5,6])
  have H45:S _ [_,_,_,_,_,_,_,_,_]:=S.unbig (H44.tk [1,0,2,3,4,5,6,7])
  refine gw_ret ?_
  refine w_k2 ?_
  refine fin_mark H45 3 rfl [.cell 6 3] [.int .i64 ((at2 r.v a b))] rfl (fun wq46 H47=>⟨⟨⟨_,rfl,run_load1 Tryz.underlying3 rfl (H47.cell (k:=4) rfl rfl)⟩,trivial⟩,?_⟩)
  rw [lastV_rev hr0]
  exact ⟨rfl,(H47.tk [0,1,8])⟩
abbrev DTc0 (g:Nat) (gp:Option Addr) (gs:List Rd) (gc:Nat) (seed:ByteArray) (pp:Option Addr) (ps:List Pl) (pc:Nat) (sp:Option Addr) (sn sc:Nat) (tp:Option Addr) (tn tc:Nat) (vp:Option Addr) (vn vc:Nat) (bp:Option Addr) (bn bc:Nat):=Ob g (.cells #[.slice gp gs.length gc,.string seed,.slice pp ps.length pc,.slice sp sn sc,.slice tp tn tc,.slice vp vn vc,.slice bp bn bc] 61 (0,0))
theorem tsnub_s (n:Nat) (pl gs:List Rd) (gp:Option Addr) (gc:Nat) (hn:n≤9) (hG:GsOK n pl gs) (hgl:gs.length≤200) (a b:Int) (ha:0≤a∧a<n) (hb:0≤b∧b<n) (g:Nat) (seed:ByteArray) (pp:Option Addr) (pc:Nat) (ps:List Pl) (sp:Option Addr) (sc sn:Nat) (tp:Option Addr) (tc tn:Nat) (vp:Option Addr) (vc vn:Nat) (bp:Option Addr) (bc bn:Nat)  (w:World) (HS:S w [DTc0 g gp gs gc seed pp ps pc sp sn sc tp tn tc vp vn vc bp bn bc,Rw 39 1 gp gs.length gc (fl rowL gs),(Pool pl)]):Calls Tryz.prog 114 #[.pointer (some ⟨g,0,none⟩),.int .i64 a,.int .i64 b] w fun e w'=>e=.returned (.bool (snubV (gs.map Rd.v) a b))∧S w' ([DTc0 g gp gs gc seed pp ps pc sp sn sc tp tn tc vp vn vc bp bn bc,Rw 39 1 gp gs.length gc (fl rowL gs),(Pool pl)]++[Old w (fps [DTc0 g gp gs gc seed pp ps pc sp sn sc tp tn tc vp vn vc bp bn bc,Rw 39 1 gp gs.length gc (fl rowL gs),(Pool pl)])]):=by
 have H0:=HS.beginI
 refine enter_m 39 Tryz.func114 rfl rfl rfl ?_
 have hL:¬ LetsOut (bodyPostM (WF none) 9 Tryz.prog Tryz.f114 fun e w'=>e=.returned (.bool (snubV (gs.map Rd.v) a b))∧S w' ([DTc0 g gp gs gc seed pp ps pc sp sn sc tp tn tc vp vn vc bp bn bc,Rw 39 1 gp gs.length gc (fl rowL gs),(Pool pl)]++[Old w (fps [DTc0 g gp gs gc seed pp ps pc sp sn sc tp tn tc vp vn vc bp bn bc,Rw 39 1 gp gs.length gc (fl rowL gs),(Pool pl)])])):=by
  rintro ⟨_,_,h⟩
  simp only [bodyPostM,reduceCtorEq,false_and,and_false,exists_false,or_false,or_self,exists_const] at h
 refine g_wk [(0,_),(1,_),(2,_)] ?_
 refine R.g_seq ?_
 refine R.g_region ?_
 refine R.l_of rfl (fun h=>hL h) (s_box H0 (wt0 rfl) rfl rfl rfl rfl ?_)
 intro g1 wq2 H3
 refine R.l_of rfl (fun h=>hL h) (s_box H3 (wt0 rfl) rfl rfl rfl rfl ?_)
 intro g4 wq5 H6
 refine R.l_of rfl (fun h=>hL h) (s_alloc H6 (wt0 rfl) rfl rfl rfl ze4 ?_)
 intro g7 wq8 H9
 refine R.g_nil ?_
 refine w_0 ?_
 refine R.g_seq ?_
 refine R.g_region ?_
 refine R.l_of rfl (fun h=>hL h) (s_alloc H9 (wt0 rfl) rfl rfl rfl ze3 ?_)
 intro g10 wq11 H12
 refine R.l_of rfl (fun h=>hL h) (s_store H12 0 (wt0 rfl) rfl rfl rfl rfl rfl sz3 rfl rfl (cs':=#[.int .i64 0]) rfl ?_)
 intro wq13 H14
 refine R.g_nil ?_
 refine w_0 ?_
 iterate 2 refine R.g_seq ?_
 refine R.g_region ?_
 refine R.w_v (fun h=>hL h) xm ?_
 refine R.w_v (fun h=>hL h) xn ?_
 refine R.w_v (fun h=>hL h) x_f ?_
 refine R.w_v (fun h=>hL h) (v:=.agg #[.slice gp gs.length gc]) (x_loadA H14 4 rfl rfl Tryz.underlying58 rfl sz58 rfl rfl rfl) ?_
 refine R.l_of rfl (fun h=>hL h) (s_call (wt0 rfl) (x_call' rfl rfl cl61) (rounds_s gp gs.length gc _) ?_)
 rintro _ wq16 ⟨bk15,rfl,H17⟩
 replace H17:S _ [_,_,_,_,_,_,_,_,_]:=H14.ab (new:=[_]) H17 rfl
 refine b_ret rfl rfl ?_
 refine R.g_nil ?_
 refine w_0 ?_
 refine R.g_block ?_
 have H18:S _ [_,_,_,_,_,_,_,_]:=S.big (L:=[_,_]) (H17.tk [6,7,0,1,2,3,4,5,8])
 have H19:S _ [_,_,_,_,_,_,_]:=S.big (L:=[_,_]) (H18.tk [1,0,2,3,4,5,6,7])
 have H20:=S.noI (H19.tk [0,1,2,3,4,5,6])
 refine g_rangeJ (α:=Rd) (ι:=Unit) (encs:=encG) (base:=(Big [Ob bk15 (.cells #[.slice gp gs.length gc] 58 (0,0)),(Big (DTc1 gp gs gc pl))])) (by omega) rfl cl70 (rounds_it (by omega) (by omega) (fun w9 h9=>(S.unbig (L:=[_,_]) (B:=[]) h9).rr 0)) (fun _=>rfl) rfl (fun pre Lx=>∃ (m:Nat),(m=pre.length∧m≤3∧pre=gs.reverse.take pre.length∧∀ r∈pre,snb1 a b r.v=true)∧Lx=[Ob g10 (.cells #[.int .i64 ((m:Int))] 3 (0,0)),Ob g7 (.cells #[.bool false] 4 (0,0)),Ob g4 (.cells #[.int .i64 b] 3 (0,0)),Ob g1 (.cells #[.int .i64 a] 3 (0,0)),DTc0 g gp gs gc seed pp ps pc sp sn sc tp tn tc vp vn vc bp bn bc,Old w (fps [DTc0 g gp gs gc seed pp ps pc sp sn sc tp tn tc vp vn vc bp bn bc,Rw 39 1 gp gs.length gc (fl rowL gs),(Pool pl)])]) (fun cc pre Lx=>(cc=.ret∧∃ (m:Nat),(snubV (gs.map Rd.v) a b=false)∧Lx=[Ob g10 (.cells #[.int .i64 ((m:Int))] 3 (0,0)),Ob g7 (.cells #[.bool false] 4 (0,0)),Ob g4 (.cells #[.int .i64 b] 3 (0,0)),Ob g1 (.cells #[.int .i64 a] 3 (0,0)),DTc0 g gp gs gc seed pp ps pc sp sn sc tp tn tc vp vn vc bp bn bc,Old w (fps [DTc0 g gp gs gc seed pp ps pc sp sn sc tp tn tc vp vn vc bp bn bc,Rw 39 1 gp gs.length gc (fl rowL gs),(Pool pl)])])∨(cc=.exit 0∧∃ (m:Nat),(m=3∧snubV (gs.map Rd.v) a b=true)∧Lx=[Ob g10 (.cells #[.int .i64 ((m:Int))] 3 (0,0)),Ob g7 (.cells #[.bool false] 4 (0,0)),Ob g4 (.cells #[.int .i64 b] 3 (0,0)),Ob g1 (.cells #[.int .i64 a] 3 (0,0)),DTc0 g gp gs gc seed pp ps pc sp sn sc tp tn tc vp vn vc bp bn bc,Old w (fps [DTc0 g gp gs gc seed pp ps pc sp sn sc tp tn tc vp vn vc bp bn bc,Rw 39 1 gp gs.length gc (fl rowL gs),(Pool pl)])])) (fun p ia=>[(4,.pointer (some ⟨g1,0,none⟩)),(5,.pointer (some ⟨g4,0,none⟩)),(6,.pointer (some ⟨g7,0,none⟩)),(7,.pointer (some ⟨g10,0,none⟩)),(8,.slice p.p p.l.length p.c)]) (fun p ia=>[]) (fun _ _ _ _ _=>trivial) ⟨0,⟨rfl,by omega,by simp,fun r hr=>by cases hr⟩,rfl⟩ H20 ?_ ?_ ?_ ?_
 ·
  rintro l1 p Ly W21 H22
  have hL:¬ LetsOut (fun (_:Exit) (_:Act) (_:World)=>False):=fun ⟨_,_,h⟩=>h
  refine g_wk [(4,_),(5,_),(6,_),(7,_),(14,_)] ?_
  refine R.g_region ?_
  refine R.w_v (fun h=>hL h) xa ?_
  refine R.g_nil ?_
  refine w_0 ?_
  exact rw_assign () ⟨rfl,rfl,rfl,rfl,rfl,trivial⟩ H22
 ·
  rintro l1 pr x ia II Kx _ W23 ⟨m,hJ,rfl⟩ hphi H24
  have H25:=S.unbig (H24.tk [3,0,1,2,4,5,6,7,8,9])
  refine g_wk [(4,_),(5,_),(6,_),(7,_),(8,_)] ?_
  have hxg:x∈gs:=List.mem_reverse.1 (List.mem_of_getElem? hphi)
  have hxp:=hG.mem x hxg
  have hox:=hG.ok x hxg
  have hlx:=hox.lenR
  have H26:S _ [_,_,_,_,_,_,_,_,_,_]:=S.unbig (H25.tk [0,1,2,3,4,5,6,7,8])
  have H27:S _ [_,_,_,_,_,_,_,_,_,_,_]:=S.unbig (H26.tk [1,0,2,3,4,5,6,7,8,9])
  refine R.g_block ?_
  iterate 2 refine R.g_seq ?_
  refine R.g_region ?_
  refine R.w_v (fun ⟨_,_,h⟩=>h) (xl H27 5) ?_
  refine R.w_v (fun ⟨_,_,h⟩=>h) (x_bin rfl rfl rfl b_eql) ?_
  refine R.g_nil ?_
  refine w_0 ?_
  by_cases hb28:((m:Int):Int)=3
  ·
   refine R.g_cond_t rfl (decide_eq_true hb28) ?_
   refine R.g_exit ?_
   refine w_k2 ?_
   have H29:S _ [_,_,_,_,_,_,_,_,_,_]:=S.big (L:=[_,_]) (H27.tk [0,1,2,3,4,5,6,7,8,9,10])
   have H30:S _ [_,_,_,_,_,_,_,_,_]:=S.big (L:=[_,_]) (H29.tk [1,0,2,3,4,5,6,7,8,9])
   exact rj_exit (.inr ⟨rfl,m,⟨by omega,snub_t hJ.2.2.1 (by omega) hJ.2.2.2⟩,rfl⟩) (H30.tk [0,1,2,3,4,5,6,7,8])
  ·
   refine R.g_cond_f rfl (decide_eq_false hb28) ?_
   refine R.g_skip ?_
   refine w_0 ?_
   iterate 2 refine R.g_seq ?_
   refine R.g_anyY [] (fun wx=>S wx [Rw 39 1 gp gs.length gc (fl rowL gs),(Pool pl),Ob bk15 (.cells #[.slice gp gs.length gc] 58 (0,0)),II,Kx,Ob g10 (.cells #[.int .i64 ((m:Int))] 3 (0,0)),Ob g7 (.cells #[.bool false] 4 (0,0)),Ob g4 (.cells #[.int .i64 b] 3 (0,0)),Ob g1 (.cells #[.int .i64 a] 3 (0,0)),DTc0 g gp gs gc seed pp ps pc sp sn sc tp tn tc vp vn vc bp bn bc,Old w (fps [DTc0 g gp gs gc seed pp ps pc sp sn sc tp tn tc vp vn vc bp bn bc,Rw 39 1 gp gs.length gc (fl rowL gs),(Pool pl)])]) (fun wx=>S wx [Rw 39 1 gp gs.length gc (fl rowL gs),(Pool pl),Ob bk15 (.cells #[.slice gp gs.length gc] 58 (0,0)),II,Kx,Ob g10 (.cells #[.int .i64 ((m:Int))] 3 (0,0)),Ob g7 (.cells #[.bool false] 4 (0,0)),Ob g4 (.cells #[.int .i64 b] 3 (0,0)),Ob g1 (.cells #[.int .i64 a] 3 (0,0)),DTc0 g gp gs gc seed pp ps pc sp sn sc tp tn tc vp vn vc bp bn bc,Old w (fps [DTc0 g gp gs gc seed pp ps pc sp sn sc tp tn tc vp vn vc bp bn bc,Rw 39 1 gp gs.length gc (fl rowL gs),(Pool pl)])]) [] (by kernel_rfl) (by kernel_rfl) (fun ⟨_,_,h⟩=>h) H27 (fun wq31 H32=>?_)
   refine y_pure (v:=.slice x.p x.l.length x.c) 0 rfl (wt0 rfl) rfl rfl rfl (by kernel_rfl) (by kernel_rfl) (by kernel_rfl) (by kernel_rfl) (fun wx=>x_move rfl rfl) ?_
   refine y_t 1 rfl H32 (fun _ H=>xl H 7) ?_
   refine y_pure (v:=.pointer ((x.p).map fun q=>q.add (((b).toNat) * 1))) 2 rfl (wt0 rfl) rfl rfl rfl (by kernel_rfl) (by kernel_rfl) (by kernel_rfl) (by kernel_rfl) (fun wx=>x_idxP ((b).toNat) ((H32.poolRd (k:=1) rfl hxp).some (by omega)) rfl rfl rfl Tryz.underlying39 sz43 (by omega)) ?_
   obtain ⟨x33,hx33⟩:=(H32.poolRd (k:=1) rfl hxp).exL rowE ((b).toNat)
   have hlx33:=hox.row_at hx33
   refine y_t 3 rfl H32 (fun _ H=>x_r ((b).toNat) (H.poolRd (k:=1) rfl hxp) (rowE.flAt1 hx33 rfl)) ?_
   refine y_t 4 rfl H32 (fun _ H=>xl H 8) ?_
   refine y_pure (v:=.pointer ((x33.p).map fun q=>q.add (((a).toNat) * 1))) 5 rfl (wt0 rfl) rfl rfl rfl (by kernel_rfl) (by kernel_rfl) (by kernel_rfl) (by kernel_rfl) (fun wx=>x_idxP ((a).toNat) ((H32.poolRow (k:=1) rfl hxp hx33).some (by omega)) rfl rfl rfl Tryz.underlying43 sz3 (by omega)) ?_
   obtain ⟨x34,hx34⟩:=(H32.poolRow (k:=1) rfl hxp hx33).exL intE ((a).toNat)
   have hyx34:=hox.ent hx33 hx34
   refine y_t 6 rfl H32 (fun _ H=>x_r ((a).toNat) (H.poolRow (k:=1) rfl hxp hx33) (intE.flAt1 hx34 rfl)) ?_
   refine y_pure (v:=.bool (decide ((0:Int)<x34))) 7 rfl (wt0 rfl) rfl rfl rfl (by kernel_rfl) (by kernel_rfl) (by kernel_rfl) (by kernel_rfl) (fun wx=>x_bin rfl rfl rfl b_gtr) ?_
   refine y_pure (v:=.bool (decide ((0:Int)<x34))) 8 rfl (wt0 rfl) rfl rfl rfl (by kernel_rfl) (by kernel_rfl) (by kernel_rfl) (by kernel_rfl) (fun wx=>x_move rfl rfl) ?_
   by_cases hb35:(0:Int)<x34
   ·
    refine y_not 9 rfl (wn1 rfl rfl rfl rfl (decide_eq_true hb35)) rfl rfl rfl (by kernel_rfl) (by kernel_rfl) (by kernel_rfl) (by kernel_rfl) ?_
    refine y_not 10 rfl (wn1 rfl rfl rfl rfl (decide_eq_true hb35)) rfl rfl rfl (by kernel_rfl) (by kernel_rfl) (by kernel_rfl) (by kernel_rfl) ?_
    refine y_not 11 rfl (wn1 rfl rfl rfl rfl (decide_eq_true hb35)) rfl rfl rfl (by kernel_rfl) (by kernel_rfl) (by kernel_rfl) (by kernel_rfl) ?_
    refine y_not 12 rfl (wn1 rfl rfl rfl rfl (decide_eq_true hb35)) rfl rfl rfl (by kernel_rfl) (by kernel_rfl) (by kernel_rfl) (by kernel_rfl) ?_
    refine y_not 13 rfl (wn1 rfl rfl rfl rfl (decide_eq_true hb35)) rfl rfl rfl (by kernel_rfl) (by kernel_rfl) (by kernel_rfl) (by kernel_rfl) ?_
    refine y_not 14 rfl (wn1 rfl rfl rfl rfl (decide_eq_true hb35)) rfl rfl rfl (by kernel_rfl) (by kernel_rfl) (by kernel_rfl) (by kernel_rfl) ?_
    refine y_not 15 rfl (wn1 rfl rfl rfl rfl (decide_eq_true hb35)) rfl rfl rfl (by kernel_rfl) (by kernel_rfl) (by kernel_rfl) (by kernel_rfl) ?_
    refine y_not 16 rfl (wn1 rfl rfl rfl rfl (decide_eq_true hb35)) rfl rfl rfl (by kernel_rfl) (by kernel_rfl) (by kernel_rfl) (by kernel_rfl) ?_
    refine y_pure (v:=.bool true) 17 rfl (wt0 rfl) rfl rfl rfl (by kernel_rfl) (by kernel_rfl) (by kernel_rfl) (by kernel_rfl) (fun wx=>x_pick_t rfl rfl (decide_eq_true hb35) rfl) ?_
    refine y_done (by kernel_rfl) ?_
    refine w_0 ?_
    refine R.g_cond_t rfl rfl ?_
    refine R.g_seq ?_
    refine R.g_region ?_
    refine R.l_of rfl (fun ⟨_,_,h⟩=>h) (s_store H32 6 (wt0 rfl) rfl rfl rfl rfl rfl sz4 rfl rfl (cs':=#[.bool false]) rfl ?_)
    intro wq36 H37
    refine R.g_nil ?_
    refine w_0 ?_
    refine R.g_ret ?_
    refine w_k2 ?_
    have H38:S _ [_,_,_,_,_,_,_,_,_,_]:=S.big (L:=[_,_]) (H37.tk [0,1,2,3,4,5,6,7,8,9,10])
    have H39:S _ [_,_,_,_,_,_,_,_,_]:=S.big (L:=[_,_]) (H38.tk [1,0,2,3,4,5,6,7,8,9])
    exact rj_ret (.inl ⟨rfl,m,(snub_f (m:=m) (x:=x) (by rw [hJ.1]; exact hphi) (by omega) (by unfold snb1; rw [at2_is hx33 hx34]; simp [hb28,hb35])),rfl⟩) (H39.tk [0,1,2,3,4,5,6,7,8])
   ·
    refine y_pure (v:=.slice x.p x.l.length x.c) 9 rfl (wt1 rfl rfl rfl rfl (decide_eq_false hb35)) rfl rfl rfl (by kernel_rfl) (by kernel_rfl) (by kernel_rfl) (by kernel_rfl) (fun wx=>x_move rfl rfl) ?_
    refine y_take (v:=.int .i64 a) 10 rfl (wt1 rfl rfl rfl rfl (decide_eq_false hb35)) rfl rfl rfl (by kernel_rfl) (by kernel_rfl) (by kernel_rfl) (by kernel_rfl) (by kernel_rfl) H32 (fun wx H=>x_load1 H 8 rfl rfl Tryz.underlying3 rfl rfl rfl) ?_
    refine y_pure (v:=.pointer ((x.p).map fun q=>q.add (((a).toNat) * 1))) 11 rfl (wt1 rfl rfl rfl rfl (decide_eq_false hb35)) rfl rfl rfl (by kernel_rfl) (by kernel_rfl) (by kernel_rfl) (by kernel_rfl) (fun wx=>x_idxP ((a).toNat) ((H32.poolRd (k:=1) rfl hxp).some (by omega)) rfl rfl rfl Tryz.underlying39 sz43 (by omega)) ?_
    obtain ⟨x40,hx40⟩:=(H32.poolRd (k:=1) rfl hxp).exL rowE ((a).toNat)
    have hlx40:=hox.row_at hx40
    refine y_take (v:=.slice x40.p x40.l.length x40.c) 12 rfl (wt1 rfl rfl rfl rfl (decide_eq_false hb35)) rfl rfl rfl (by kernel_rfl) (by kernel_rfl) (by kernel_rfl) (by kernel_rfl) (by kernel_rfl) H32 (fun wx H=>x_loadR1 ((a).toNat) (H.poolRd (k:=1) rfl hxp) (by omega) rfl rfl Tryz.underlying43 rfl (rowE.flAt1 hx40 rfl)) ?_
    refine y_take (v:=.int .i64 b) 13 rfl (wt1 rfl rfl rfl rfl (decide_eq_false hb35)) rfl rfl rfl (by kernel_rfl) (by kernel_rfl) (by kernel_rfl) (by kernel_rfl) (by kernel_rfl) H32 (fun wx H=>x_load1 H 7 rfl rfl Tryz.underlying3 rfl rfl rfl) ?_
    refine y_pure (v:=.pointer ((x40.p).map fun q=>q.add (((b).toNat) * 1))) 14 rfl (wt1 rfl rfl rfl rfl (decide_eq_false hb35)) rfl rfl rfl (by kernel_rfl) (by kernel_rfl) (by kernel_rfl) (by kernel_rfl) (fun wx=>x_idxP ((b).toNat) ((H32.poolRow (k:=1) rfl hxp hx40).some (by omega)) rfl rfl rfl Tryz.underlying43 sz3 (by omega)) ?_
    obtain ⟨x41,hx41⟩:=(H32.poolRow (k:=1) rfl hxp hx40).exL intE ((b).toNat)
    have hyx41:=hox.ent hx40 hx41
    refine y_take (v:=.int .i64 x41) 15 rfl (wt1 rfl rfl rfl rfl (decide_eq_false hb35)) rfl rfl rfl (by kernel_rfl) (by kernel_rfl) (by kernel_rfl) (by kernel_rfl) (by kernel_rfl) H32 (fun wx H=>x_loadR1 ((b).toNat) (H.poolRow (k:=1) rfl hxp hx40) (by omega) rfl rfl Tryz.underlying3 rfl (intE.flAt1 hx41 rfl)) ?_
    refine y_pure (v:=.bool (decide ((x41:Int)=0))) 16 rfl (wt1 rfl rfl rfl rfl (decide_eq_false hb35)) rfl rfl rfl (by kernel_rfl) (by kernel_rfl) (by kernel_rfl) (by kernel_rfl) (fun wx=>x_bin rfl rfl rfl b_eql) ?_
    refine y_pure (v:=.bool (decide ((x41:Int)=0))) 17 rfl (wt0 rfl) rfl rfl rfl (by kernel_rfl) (by kernel_rfl) (by kernel_rfl) (by kernel_rfl) (fun wx=>x_pick_f rfl rfl (decide_eq_false hb35) rfl) ?_
    refine y_done (by kernel_rfl) ?_
    refine w_0 ?_
    by_cases hb42:(x41:Int)=0
    ·
     refine R.g_cond_t rfl (decide_eq_true hb42) ?_
     refine R.g_seq ?_
     refine R.g_region ?_
     refine R.l_of rfl (fun ⟨_,_,h⟩=>h) (s_store H32 6 (wt0 rfl) rfl rfl rfl rfl rfl sz4 rfl rfl (cs':=#[.bool false]) rfl ?_)
     intro wq43 H44
     refine R.g_nil ?_
     refine w_0 ?_
     refine R.g_ret ?_
     refine w_k2 ?_
     have H45:S _ [_,_,_,_,_,_,_,_,_,_]:=S.big (L:=[_,_]) (H44.tk [0,1,2,3,4,5,6,7,8,9,10])
     have H46:S _ [_,_,_,_,_,_,_,_,_]:=S.big (L:=[_,_]) (H45.tk [1,0,2,3,4,5,6,7,8,9])
     exact rj_ret (.inl ⟨rfl,m,(snub_f (m:=m) (x:=x) (by rw [hJ.1]; exact hphi) (by omega) (by unfold snb1; rw [at2_is hx33 hx34,at2_is hx40 hx41]; simp [hb28,hb35,hb42])),rfl⟩) (H46.tk [0,1,2,3,4,5,6,7,8])
    ·
     refine R.g_cond_f rfl (decide_eq_false hb42) ?_
     refine R.g_skip ?_
     refine w_0 ?_
     refine R.g_region ?_
     refine R.w_v (fun ⟨_,_,h⟩=>h) (xl H32 5) ?_
     refine R.w_v (fun ⟨_,_,h⟩=>h) (v:=.int .i64 (((m+1:Nat):Int))) (x_bin rfl rfl rfl (b_add (by rw [w64 (by omega)]; omega))) ?_
     refine R.l_of rfl (fun ⟨_,_,h⟩=>h) (s_store H32 5 (wt0 rfl) rfl rfl rfl rfl rfl sz3 rfl rfl (cs':=#[.int .i64 (((m+1:Nat):Int))]) rfl ?_)
     intro wq47 H48
     refine R.g_nil ?_
     refine w_0 ?_
     have H49:S _ [_,_,_,_,_,_,_,_,_,_]:=S.big (L:=[_,_]) (H48.tk [0,1,2,3,4,5,6,7,8,9,10])
     have H50:S _ [_,_,_,_,_,_,_,_,_]:=S.big (L:=[_,_]) (H49.tk [1,0,2,3,4,5,6,7,8,9])
     exact rj_next ⟨(m+1),⟨by rw [List.length_append,List.length_singleton,hJ.1],by omega,by rw [List.length_append,List.length_singleton,take_snocT hphi,← hJ.2.2.1],fun r hr=>by rcases List.mem_append.1 hr with hr | hr; exact hJ.2.2.2 r hr; rw [List.mem_singleton] at hr; subst hr; exact (by unfold snb1; rw [at2_is hx33 hx34,at2_is hx40 hx41]; simp [hb28,hb35,hb42])⟩,rfl⟩ (H50.tk [0,1,2,3,4,5,6,7,8])
 ·
  rintro D xs _ W51 hxs ⟨m,hJ,rfl⟩ H52
  have H53:S _ [_,_,_,_,_,_,_,_,_]:=S.unbig (H52.tk [1,0,2,3,4,5,6,7])
  have H54:S _ [_,_,_,_,_,_,_,_,_,_]:=S.unbig (H53.tk [1,0,2,3,4,5,6,7,8])
  obtain ⟨hJ1,hJ2,hJ3,hJ4⟩:=hJ
  have hfin:snubV (gs.map Rd.v) a b=decide ((m:Int)=3):=by
   by_cases h3:m=3
   · rw [snub_t hJ3 (by omega) hJ4,decide_eq_true (by omega)]
   · rw [snub_s (by have:=congrArg List.length hxs; rw [List.length_reverse] at this; omega),decide_eq_false (by omega)]
  refine w_k2 ?_
  refine R.g_seq ?_
  refine R.g_region ?_
  refine R.w_v (fun h=>hL h) (xl H54 4) ?_
  refine R.w_v (fun h=>hL h) (x_bin rfl rfl rfl b_eql) ?_
  refine R.l_of rfl (fun h=>hL h) (s_store H54 5 (wt0 rfl) rfl rfl rfl rfl rfl sz4 rfl rfl (cs':=#[.bool (decide (((m:Int):Int)=3))]) rfl ?_)
  intro wq55 H56
  refine R.g_nil ?_
  refine w_0 ?_
  refine R.g_ret ?_
  refine fin_mark H56 3 rfl [.cell 6 4] [.bool (decide (((m:Int):Int)=3))] rfl (fun wq57 H58=>⟨⟨⟨_,rfl,run_load1 Tryz.underlying4 rfl (H58.cell (k:=5) rfl rfl)⟩,trivial⟩,?_⟩)
  rw [hfin]
  exact ⟨rfl,(H58.tk [8,0,1,9])⟩
 ·
  rintro D cc pr _ W59 _ (⟨rfl,m,hsf,rfl⟩ | ⟨rfl,m,⟨hm3,hst⟩,rfl⟩) H60
  ·
   have H61:S _ [_,_,_,_,_,_,_,_,_]:=S.unbig (H60.tk [1,0,2,3,4,5,6,7])
   have H62:S _ [_,_,_,_,_,_,_,_,_,_]:=S.unbig (H61.tk [1,0,2,3,4,5,6,7,8])
   refine gw_ret ?_
   refine w_k2 ?_
   refine fin_mark H62 3 rfl [.cell 6 4] [.bool false] rfl (fun wq63 H64=>⟨⟨⟨_,rfl,run_load1 Tryz.underlying4 rfl (H64.cell (k:=5) rfl rfl)⟩,trivial⟩,?_⟩)
   rw [hsf]
   exact ⟨rfl,(H64.tk [8,0,1,9])⟩
  ·
   have H65:S _ [_,_,_,_,_,_,_,_,_]:=S.unbig (H60.tk [1,0,2,3,4,5,6,7])
   have H66:S _ [_,_,_,_,_,_,_,_,_,_]:=S.unbig (H65.tk [1,0,2,3,4,5,6,7,8])
   refine gw_exit ?_
   refine w_k2 ?_
   refine R.g_seq ?_
   refine R.g_region ?_
   refine R.w_v (fun h=>hL h) (xl H66 4) ?_
   refine R.w_v (fun h=>hL h) (x_bin rfl rfl rfl b_eql) ?_
   refine R.l_of rfl (fun h=>hL h) (s_store H66 5 (wt0 rfl) rfl rfl rfl rfl rfl sz4 rfl rfl (cs':=#[.bool (decide (((m:Int):Int)=3))]) rfl ?_)
   intro wq67 H68
   refine R.g_nil ?_
   refine w_0 ?_
   refine R.g_ret ?_
   refine fin_mark H68 3 rfl [.cell 6 4] [.bool (decide (((m:Int):Int)=3))] rfl (fun wq69 H70=>⟨⟨⟨_,rfl,run_load1 Tryz.underlying4 rfl (H70.cell (k:=5) rfl rfl)⟩,trivial⟩,?_⟩)
   rw [hst,show (true:Bool)=decide ((m:Int)=3) from (decide_eq_true (by omega)).symm]
   exact ⟨rfl,(H70.tk [8,0,1,9])⟩
theorem cl32:callable Tryz.prog 32=true:=by kernel_rfl
theorem fo27_1:foO Tryz.prog 27 1=some 1:=by kernel_rfl
theorem fo61_2:foO Tryz.prog 61 2=some 2:=by kernel_rfl
theorem inf43:infO Tryz.prog 43=some (some (.slice none 0 0),1,24):=by kernel_rfl
theorem sz27:szO Tryz.prog 27=some 2:=by kernel_rfl
theorem ze43:zeO Tryz.prog 43=some (.slice none 0 0):=by kernel_rfl
theorem zero_fl (n:Nat):(Array.replicate n (Value.int .i64 0)).toList=fl intL (List.replicate n (0:Int)):=by
 rw [Array.toList_replicate]
 unfold fl
 induction n with
 | zero=>rfl
 | succ n ih=>rw [List.replicate_succ,List.replicate_succ,List.flatMap_cons,← ih]; rfl
def othV (n:Nat) (me:Int):List Int:=((List.range n).map fun (k:Nat)=>(k:Int)).filter fun i=>!decide (i=me)
theorem othV_t {i:Nat} {me:Int} (h:¬ (i:Int)=me):othV (i+1) me=othV i me++[(i:Int)]:=by
 unfold othV
 rw [List.range_succ,List.map_append,List.filter_append]
 congr 1
 show List.filter _ [(i:Int)]=_
 rw [List.filter_cons,if_pos (by simp [h])]; rfl
theorem othV_f {i:Nat} {me:Int} (h:(i:Int)=me):othV (i+1) me=othV i me:=by
 unfold othV
 rw [List.range_succ,List.map_append,List.filter_append]
 show _++List.filter _ [(i:Int)]=_
 rw [List.filter_cons,if_neg (by simp [h])]; simp
theorem othV_len (n:Nat) (me:Int):(othV n me).length≤n:=by
 unfold othV
 exact Nat.le_trans (List.length_filter_le _ _) (by rw [List.length_map,List.length_range]; exact Nat.le_refl _)
theorem othV_mem {n:Nat} {me x:Int}:x∈othV n me ↔ (0≤x∧x<n)∧x ≠ me:=by
 unfold othV
 rw [List.mem_filter,List.mem_map]
 constructor
 · rintro ⟨⟨k,hk,rfl⟩,h⟩
   rw [List.mem_range] at hk
   exact ⟨⟨by omega,by omega⟩,by simpa using h⟩
 · rintro ⟨⟨h1,h2⟩,h3⟩
   exact ⟨⟨x.toNat,List.mem_range.2 (by omega),by omega⟩,by simpa using h3⟩
theorem othV_at {n:Nat} {me x:Int} {j:Nat} (h:(othV n me)[j]?=some x):(0≤x∧x<n)∧x ≠ me:=othV_mem.1 (List.mem_of_getElem? h)
def evnF (q:Int) (n:Nat) (l:List Int):List Int:=l.foldl (fun o i=>o.set i.toNat q) (List.replicate n 0)
theorem evnF_snoc (q:Int) (n:Nat) (l:List Int) (x:Int):evnF q n (l++[x])=(evnF q n l).set x.toNat q:=by
 unfold evnF
 rw [List.foldl_append]; rfl
theorem foldset_len (q:Int):∀ (l:List Int) (o:List Int),(l.foldl (fun o i=>o.set i.toNat q) o).length=o.length
 | [],_=>rfl
 | a :: l,o=>by rw [List.foldl_cons,foldset_len q l,List.length_set]
theorem evnF_len (q:Int) (n:Nat) (l:List Int):(evnF q n l).length=n:=by
 unfold evnF
 rw [foldset_len,List.length_replicate]
def evnV (n:Nat) (rate:Int) (l:List Int):List Int:=evnF (rate / (l.length:Int)) n l
theorem evnV_len (n:Nat) (rate:Int) (l:List Int):(evnV n rate l).length=n:=evnF_len _ _ _
def sumI (l:List Int):Int:=l.foldl (·+·) 0
theorem foldl_add (l:List Int):∀ a:Int,l.foldl (·+·) a=a+sumI l:=by
 unfold sumI
 induction l with
 | nil=>intro a; simp
 | cons x l ih=>intro a; rw [List.foldl_cons,List.foldl_cons,ih,ih (0+x)]; omega
theorem sumI_snoc (l:List Int) (x:Int):sumI (l++[x])=sumI l+x:=by
 unfold sumI
 rw [List.foldl_append]; rfl
theorem sumI_cons (l:List Int) (x:Int):sumI (x :: l)=x+sumI l:=by
 show List.foldl _ (0+x) l=_
 rw [foldl_add]; omega
theorem sumI_bd {B:Int} {l:List Int} (hl:∀ x∈l,0≤x∧x≤B):0≤sumI l∧sumI l≤l.length * B:=by
 induction l with
 | nil=>simp [sumI]
 | cons a l ih =>
   have h1:=ih fun x hx=>hl x (List.mem_cons_of_mem _ hx)
   have h2:=hl a List.mem_cons_self
   rw [sumI_cons,List.length_cons]
   have:((l.length+1:Nat):Int) * B=l.length * B+B:=by
     rw [Int.natCast_succ,Int.add_mul]; omega
   omega
theorem others_s (g:Nat) (gp:Option Addr) (gc gn:Nat) (seed:ByteArray) (pp:Option Addr) (pc:Nat) (ps:List Pl) (sp:Option Addr) (sc sn:Nat) (tp:Option Addr) (tc tn:Nat) (vp:Option Addr) (vc vn:Nat) (bp:Option Addr) (bc bn:Nat) (hnp:ps.length≤40) (me:Int)  (w:World) (HS:S w [Ob g (.cells #[.slice gp gn gc,.string seed,.slice pp ps.length pc,.slice sp sn sc,.slice tp tn tc,.slice vp vn vc,.slice bp bn bc] 61 (0,0))]):Calls Tryz.prog 113 #[.pointer (some ⟨g,0,none⟩),.int .i64 me] w fun e w'=>∃ p' c',e=.returned (.slice p' (othV ps.length me).length c')∧S w' ([Rw 3 1 p' (othV ps.length me).length c' (fl intL (othV ps.length me)),Ob g (.cells #[.slice gp gn gc,.string seed,.slice pp ps.length pc,.slice sp sn sc,.slice tp tn tc,.slice vp vn vc,.slice bp bn bc] 61 (0,0))]++[Old w (fps [Ob g (.cells #[.slice gp gn gc,.string seed,.slice pp ps.length pc,.slice sp sn sc,.slice tp tn tc,.slice vp vn vc,.slice bp bn bc] 61 (0,0))])]):=by
 have H0:=HS.beginI
 refine enter 24 Tryz.func113 rfl rfl rfl ?_
 refine g_wk [(0,_),(1,_)] ?_
 refine w_s ?_
 refine w_k3 ?_
 have H1:S _ [_,_,_]:=H0.nilFl 3 1 intL
 refine w_k12 ?_
 refine g_loop (ι:=Nat × Option Addr × Nat × Nat) (fun (i,pq,cq,nq)=>[(1,.int .i64 me),(5,.slice pq nq cq),(11,.int .i64 ((ps.length:Int))),(12,.int .i64 ((i:Int)))]) (fun (i,pq,cq,nq) wx=>(i≤ps.length)∧(nq=(othV i me).length)∧S wx [Rw 3 1 pq nq cq (fl intL (othV i me)),Ob g (.cells #[.slice gp gn gc,.string seed,.slice pp ps.length pc,.slice sp sn sc,.slice tp tn tc,.slice vp vn vc,.slice bp bn bc] 61 (0,0)),Old w (fps [Ob g (.cells #[.slice gp gn gc,.string seed,.slice pp ps.length pc,.slice sp sn sc,.slice tp tn tc,.slice vp vn vc,.slice bp bn bc] 61 (0,0))])]) (fun (i,pq,cq,nq)=>ps.length - i) (0,none,0,0) ⟨rfl,rfl,rfl,rfl,trivial⟩ ⟨Nat.zero_le _,rfl,(H1.tk [0,1,2])⟩ ?_
 rintro ⟨i,pq,cq,nq⟩ wq2 ⟨hi,hnq,H3⟩
 refine g_wk [(1,_),(5,_),(11,_),(12,_)] ?_
 have hoi:=othV_len i me
 refine w_k3 ?_
 refine g_seq ?_
 by_cases hb4:((i:Int):Int)<(ps.length:Int)
 ·
  refine g_ct hb4 ?_
  refine w_k11 ?_
  refine w_b (v:=.bool (!decide (((i:Int):Int)=me))) (hb:=b_neq) ?_
  refine w_e ?_
  by_cases hb5:((i:Int):Int)=me
  ·
   refine g_nf hb5 ?_
   refine w_k4 ?_
   refine w_i i ?_
   refine w_k2 ?_
   have he9:=othV_f hb5
   refine g_rd (i:=(i,pq,cq,nq)) ((i+1),pq,cq,nq) ⟨by omega,(by first | (rw [he9]; done) | (rw [he9]; exact hnq)),(by rw [he9]; exact (H3.tk [0,1,2]))⟩
  ·
   refine g_nt hb5 ?_
   refine w_k3 ?_
   refine l_of (s_b1 ze3 #[.int .i64 ((i:Int))] H3 ?_)
   intro g6 wq7 H8
   have hln13a:=(H8.rr 1).lenL intE
   have hln13:((othV i me)++[(i:Int)]).length=nq+1:=by simp only [List.length_append,List.length_cons,List.length_nil] <;> omega
   refine l_of (s_appBn (m:=1) (l:=(othV i me)) (l2:=[(i:Int)]) intE H8 1 (j0:=0) rfl rfl ⟨rfl,Nat.le_refl _⟩ (wt0 rfl) rfl rfl rfl rfl rfl rfl Tryz.underlying43 inf3 rfl (by decide) (by omega) ?_)
   intro p9 c10 wq11 H12
   refine w_k5 ?_
   refine w_i i ?_
   refine w_k2 ?_
   have he9:=othV_t hb5
   refine g_rd (i:=(i,pq,cq,nq)) ((i+1),p9,c10,((othV i me)++[(i:Int)]).length) ⟨by omega,(by first | (rw [he9]; done) | (rw [he9]; exact hnq)),(by rw [he9]; exact (H12.tk [1,2,3]))⟩
 ·
  refine g_cf hb4 ?_
  refine w_k10 ?_
  refine fin_r [.tmp 4] [.slice pq nq cq] ?_
  have hie:i=ps.length:=by omega
  subst hie
  subst hnq
  exact ⟨_,_,rfl,H3.tk [0,1,2]⟩
theorem evenly_s (g:Nat) (gp:Option Addr) (gc gn:Nat) (seed:ByteArray) (pp:Option Addr) (pc:Nat) (ps:List Pl) (sp:Option Addr) (sc sn:Nat) (tp:Option Addr) (tc tn:Nat) (vp:Option Addr) (vc vn:Nat) (bp:Option Addr) (bc bn:Nat) (hnp:ps.length≤40) (me:Int) (h0m:0≤me) (pm:Pl) (hm:ps[me.toNat]?=some pm) (rt:Int) (hrt:pm.rt=rt) (hr0:0≤rt∧rt≤1000000) (l:List Int) (q:Option Addr) (d:Nat) (hll:∀ x∈l,0≤x∧x<ps.length) (hl9:l.length≤1000)  (w:World) (HS:S w [Rw 3 1 q l.length d (fl intL l),Ob g (.cells #[.slice gp gn gc,.string seed,.slice pp ps.length pc,.slice sp sn sc,.slice tp tn tc,.slice vp vn vc,.slice bp bn bc] 61 (0,0)),Rw 27 2 pp ps.length pc (fl plL ps)]):Calls Tryz.prog 116 #[.pointer (some ⟨g,0,none⟩),.int .i64 me,.slice q l.length d] w fun e w'=>∃ p' c',e=.returned (.slice p' (evnV ps.length rt l).length c')∧S w' ([Rw 3 1 p' (evnV ps.length rt l).length c' (fl intL (evnV ps.length rt l)),Rw 3 1 q l.length d (fl intL l),Ob g (.cells #[.slice gp gn gc,.string seed,.slice pp ps.length pc,.slice sp sn sc,.slice tp tn tc,.slice vp vn vc,.slice bp bn bc] 61 (0,0)),Rw 27 2 pp ps.length pc (fl plL ps)]++[Old w (fps [Rw 3 1 q l.length d (fl intL l),Ob g (.cells #[.slice gp gn gc,.string seed,.slice pp ps.length pc,.slice sp sn sc,.slice tp tn tc,.slice vp vn vc,.slice bp bn bc] 61 (0,0)),Rw 27 2 pp ps.length pc (fl plL ps)])]):=by
 have H0:=HS.beginI
 have hmp:=(List.getElem?_eq_some_iff.1 hm).1
 refine enter 38 Tryz.func116 rfl rfl rfl ?_
 refine g_wk [(0,_),(1,_),(2,_)] ?_
 refine w_s ?_
 refine w_k8 ?_
 refine l_of (s_make1 ps.length H0 (wt0 rfl) rfl rfl rfl rfl rfl Tryz.underlying43 inf3 rfl (by omega) ?_)
 intro g1 wq2 H3
 replace H3:S _ [_,_,_,_,_]:=S.obFl (l:=(List.replicate ps.length (0:Int))) intE H3 (k:=0) rfl (by rw [List.length_replicate]) (by unfold maxLen; omega) (zero_fl _)
 refine w_k9 ?_
 refine g_loop (ι:=Nat) (fun i=>[(0,.pointer (some ⟨g,0,none⟩)),(1,.int .i64 me),(2,.slice q l.length d),(7,.slice (some ⟨g1,0,none⟩:Option Addr) ps.length ps.length),(16,.slice q l.length d),(17,.int .i64 ((l.length:Int))),(18,.int .i64 ((i:Int)))]) (fun i wx=>(i≤l.length)∧S wx [Rw 3 1 (some ⟨g1,0,none⟩:Option Addr) ps.length ps.length (fl intL (evnF (rt / (l.length:Int)) ps.length (l.take i))),Rw 3 1 q l.length d (fl intL l),Ob g (.cells #[.slice gp gn gc,.string seed,.slice pp ps.length pc,.slice sp sn sc,.slice tp tn tc,.slice vp vn vc,.slice bp bn bc] 61 (0,0)),Rw 27 2 pp ps.length pc (fl plL ps),Old w (fps [Rw 3 1 q l.length d (fl intL l),Ob g (.cells #[.slice gp gn gc,.string seed,.slice pp ps.length pc,.slice sp sn sc,.slice tp tn tc,.slice vp vn vc,.slice bp bn bc] 61 (0,0)),Rw 27 2 pp ps.length pc (fl plL ps)])]) (fun i=>l.length - i) (0) ⟨rfl,rfl,rfl,rfl,rfl,rfl,rfl,trivial⟩ ⟨Nat.zero_le _,(by rw [show (List.take 0 l)=[] from rfl]; exact (H3.tk [0,1,2,3,4]))⟩ ?_
 rintro i wq4 ⟨hi,H5⟩
 refine g_wk [(0,_),(1,_),(2,_),(7,_),(16,_),(17,_),(18,_)] ?_
 refine w_s ?_
 refine w_k2 ?_
 refine g_seq ?_
 by_cases hb6:((i:Int):Int)<(l.length:Int)
 ·
  refine g_ct hb6 ?_
  refine w_k5 ?_
  refine w_v (x_i i (H5.rr 1)) ?_
  obtain ⟨x7,hx7⟩:=(H5.rr 1).exL intE i
  have hlx:=hll x7 (List.mem_of_getElem? hx7)
  refine w_v (x_r i (H5.rr 1) (intE.flAt1 hx7 rfl)) ?_
  refine w_k10 ?_
  refine w_v (x_i ((me).toNat) (H5.rr 3)) ?_
  refine w_v (v:=.pointer ((pp).map fun q=>q.add (((me).toNat) * 2+1))) (ex_cast (x_fieldAddrG (m:=((me).toNat) * 2) ((H5.rr 3).some (by omega)) rfl rfl fo27_1) rfl) ?_
  obtain ⟨x8,hx8⟩:=(H5.rr 3).exL plE ((me).toNat)
  have hpe:x8=pm:=Option.some.inj (hx8.symm.trans hm)
  have hrx:x8.rt=rt:=by rw [hpe]; exact hrt
  refine w_v (x_loadF1 (i:=1) (j:=((me).toNat)) plE (H5.rr 3) hx8 rfl rfl Tryz.underlying3 rfl rfl) ?_
  refine w_k2 ?_
  skip
  refine w_v (v:=.int .i64 ((rt / (l.length:Int)))) (ex_cast (x_bin rfl rfl rfl (b_quo (by omega) (quo64 (by omega)))) (by rw [hrx])) ?_
  refine w_v (x_i ((x7).toNat) (H5.rr 0)) ?_
  refine l_of (s_stoL (j:=((x7).toNat)) intE (rt / (l.length:Int)) H5 0 (wt0 rfl) rfl rfl rfl rfl rfl rfl sz3 (by omega) ?_)
  intro wq9 H10
  refine w_k4 ?_
  refine w_i i ?_
  refine w_k2 ?_
  refine g_rd (i:=(i)) ((i+1)) ⟨by omega,(by rw [take_snocT hx7,evnF_snoc]; exact (H10.tk [0,1,2,3,4]))⟩
 ·
  refine g_cf hb6 ?_
  refine w_k10 ?_
  refine fin_r [.tmp 6] [.slice (some ⟨g1,0,none⟩:Option Addr) ps.length ps.length] ?_
  rw [List.take_of_length_le (by omega)] at H5
  have hev:=evnV_len ps.length rt l
  rw [hev]
  exact ⟨_,_,rfl,H5.tk [0,1,2,3,4]⟩
theorem whole_s (x:Int)  (w:World):Calls Tryz.prog 32 #[.int .i64 x] w fun e w'=>e=.returned (.int .i64 x)∧S w' [Old w no]:=by
 have H0:=S.old w
 refine enter 4 Tryz.func32 rfl rfl rfl ?_
 refine g_wk [(0,_)] ?_
 refine w_s ?_
 refine w_k7 ?_
 refine fin_r [.tmp 2] [.int .i64 x] ?_
 exact ⟨rfl,H0.mask [true]⟩
theorem tsum_s (l:List Int) (p:Option Addr) (n c:Nat) (hll:∀ x∈l,0≤x∧x≤1000000000) (hl9:l.length≤1000)  (w:World) (hr:Reads w p n c 1 (fl intL l)):Calls Tryz.prog 31 #[.slice p n c,.func (.func 32) #[] #[]] w fun e w'=>e=.returned (.int .i64 (sumI l))∧S w' [Old w no]:=by
 have H0:=S.old w
 have hnl:=hr.lenL intE
 refine enter 21 Tryz.func31 rfl rfl rfl ?_
 refine g_wk [(0,_),(1,_)] ?_
 refine w_s ?_
 refine w_k12 ?_
 refine g_loop (ι:=Nat × Int) (fun (i,s)=>[(1,.func (.func 32) #[] #[]),(5,.int .i64 s),(8,.slice p n c),(9,.int .i64 ((n:Int))),(10,.int .i64 ((i:Int)))]) (fun (i,s) wx=>(i≤n)∧(s=sumI (l.take i))∧S wx [Old w no]) (fun (i,s)=>n - i) (0,0) ⟨rfl,rfl,rfl,rfl,rfl,trivial⟩ ⟨Nat.zero_le _,(by simp [sumI]),H0⟩ ?_
 rintro ⟨i,s⟩ wq1 ⟨hi,hs,H2⟩
 refine g_wk [(1,_),(5,_),(8,_),(9,_),(10,_)] ?_
 refine w_s ?_
 refine w_k2 ?_
 refine g_seq ?_
 by_cases hb3:((i:Int):Int)<(n:Int)
 ·
  refine g_ct hb3 ?_
  refine w_k5 ?_
  refine w_v (x_i i (H2.exReads (k:=0) rfl hr (fun _ _ _ h=>h))) ?_
  obtain ⟨x4,hx4⟩:=(H2.exReads (k:=0) rfl hr (fun _ _ _ h=>h)).exL intE i
  refine w_v (x_r i (H2.exReads (k:=0) rfl hr (fun _ _ _ h=>h)) (intE.flAt1 hx4 rfl)) ?_
  refine w_k6 ?_
  refine l_of (s_call0 H2 (wt0 rfl) (x_call rfl rfl rfl cl32) (whole_s x4 _) rfl rfl ?_)
  intro wq5 H6
  have hb1:=sumI_bd (B:=1000000000) (l:=l.take i) (fun y hy=>hll y (List.mem_of_mem_take hy))
  have hb2:=hll x4 (List.mem_of_getElem? hx4)
  have hb3:(l.take i).length≤1000:=by rw [List.length_take]; omega
  rw [← hs] at hb1
  have hb4:((l.take i).length:Int) * 1000000000≤1000 * 1000000000:=Int.mul_le_mul_of_nonneg_right (by omega) (by decide)
  refine w_b (v:=.int .i64 (s+x4)) (hb:=(b_add (w64 (by omega)))) ?_
  refine w_k5 ?_
  refine w_i i ?_
  refine w_k2 ?_
  refine g_rd (i:=(i,s)) ((i+1),s+x4) ⟨by omega,(by rw [take_snocT hx4,sumI_snoc,← hs]),H6⟩
 ·
  refine g_cf hb3 ?_
  refine w_k10 ?_
  refine fin_r [.tmp 4] [.int .i64 s] ?_
  rw [List.take_of_length_le (by omega)] at hs
  rw [← hs]
  exact ⟨rfl,H2.mask [true]⟩
theorem clone_i_s (l:List Int) (a:Addr) (c:Nat) (hm:l.length≤1099511627776)  (w:World) (hr:Reads w (some a) l.length c 1 (fl intL l)):Calls Tryz.prog 50 #[.slice (some a) l.length c] w fun e w'=>∃ p' c',e=.returned (.slice p' l.length c')∧S w' ([Rw 3 1 p' l.length c' (fl intL l)]++[Old w no]):=by
 have H0:=S.old w
 refine enter 8 Tryz.func50 rfl rfl rfl ?_
 refine g_wk [(0,_)] ?_
 refine w_s ?_
 refine w_k5 ?_
 refine w_b (v:=.bool false) (hb:=(b_eqN (r:=false) Tryz.underlying43 rfl)) ?_
 refine w_e ?_
 refine g_cond_f rfl rfl ?_
 refine w_k3 ?_
 refine l_of (s_buildSlice0 H0 (wt0 rfl) rfl rfl rfl Tryz.underlying43 sz3 ?_)
 intro g1 wq2 H3
 replace H3:S wq2 [Rw 3 1 (some ⟨g1,0,none⟩) 0 0 (fl intL ([]:List Int)),Old w no]:=S.obFl intE H3 (k:=0) rfl rfl (by decide) rfl
 refine w_m ?_
 have hln8a:=(H3.rr 0).lenL intE
 have hln8b:=(H3.exReads (k:=1) rfl hr (fun _ _ _ h=>h)).lenL intE
 have hln8:l.length=0+l.length:=by omega
 refine l_of (s_appLn (l:=[]) (l2:=l) intE H3 0 (wt0 rfl) rfl rfl rfl rfl rfl rfl Tryz.underlying43 inf3 rfl (by decide) (H3.exReads (k:=1) rfl hr (fun _ _ _ h=>h)) (by omega) ?_)
 intro p4 c5 wq6 H7
 rw [List.nil_append] at H7 ⊢
 replace H7:S wq6 [Rw 3 1 p4 l.length c5 (fl intL l),Old w no]:=H7
 refine w_k3 ?_
 refine fin_r [.tmp 2] [.slice p4 l.length c5] ?_
 exact ⟨_,_,rfl,H7⟩
theorem clone_i_n (n c:Nat)  (w:World):Calls Tryz.prog 50 #[.slice none n c] w fun e w'=>∃ p' c',e=.returned (.slice p' 0 c')∧S w' ([Rw 3 1 p' 0 c' (fl intL [])]++[Old w no]):=by
 have H0:=S.old w
 refine enter 8 Tryz.func50 rfl rfl rfl ?_
 refine g_wk [(0,_)] ?_
 refine w_s ?_
 refine w_k5 ?_
 refine w_b (v:=.bool true) (hb:=(b_eqN (r:=true) Tryz.underlying43 rfl)) ?_
 refine w_e ?_
 refine g_cond_t rfl rfl ?_
 refine w_k5 ?_
 refine fin_r [.tmp 2] [.slice none 0 0] ?_
 exact ⟨none,0,rfl,H0.nilFl 3 1 intL⟩
theorem clone_i (l:List Int) (p:Option Addr) (n c:Nat) (hm:l.length≤1099511627776) (w:World) (hr:Reads w p n c 1 (fl intL l)):Calls Tryz.prog 50 #[.slice p n c] w fun e w'=>∃ p' c',e=.returned (.slice p' l.length c')∧S w' ([Rw 3 1 p' l.length c' (fl intL l)]++[Old w no]):=by
 have hn:=hr.lenL intE
 subst hn
 cases p with
 | some a=>exact clone_i_s l a c hm w hr
 | none =>
   have h0:l.length=0:=by
     refine Decidable.byContradiction fun hn=>?_
     obtain ⟨a,ha,_⟩:=hr.2.2 (by omega)
     cases ha
   obtain rfl:l=[]:=List.length_eq_zero_iff.1 h0
   exact clone_i_n 0 c w
theorem cloned_s (rs:List (Ro Int)) (p:Option Addr) (n c:Nat) (hl8:rs.length≤1000) (hl9:∀ x∈rs,x.l.length≤1000)  (w:World) (hr:Reads w p n c 1 (fl rowL rs)) (hrs:∀ x∈rs,Reads w x.p x.l.length x.c 1 (fl intL x.l)):Calls Tryz.prog 33 #[.slice p n c] w fun e w'=>∃ p' c' zs,e=.returned (.slice p' zs.length c')∧zs.map Ro.l=rs.map Ro.l∧S w' ([Rw 43 1 p' zs.length c' (fl rowL zs),Lst BwI zs]++[Old w no]):=by
 have H0:=S.old w
 have hnl:=hr.lenL rowE
 refine enter 19 Tryz.func33 rfl rfl rfl ?_
 refine g_wk [(0,_)] ?_
 refine w_s ?_
 refine w_k3 ?_
 have H1:S w [Rw 43 1 none 0 0 (fl rowL ([]:List (Ro Int))),Old w no]:=H0.nilFl 43 1 rowL
 refine w_k9 ?_
 refine g_loop (ι:=Nat × Option Addr × Nat × List (Ro Int)) (fun (i,pq,cq,zs)=>[(3,.slice pq zs.length cq),(6,.slice p n c),(7,.int .i64 ((n:Int))),(8,.int .i64 ((i:Int)))]) (fun (i,pq,cq,zs) wx=>(i≤n)∧(zs.map Ro.l=(rs.take i).map Ro.l)∧S wx [Rw 43 1 pq zs.length cq (fl rowL zs),(Lst BwI zs),Old w no]) (fun (i,pq,cq,zs)=>n - i) (0,none,0,[]) ⟨rfl,rfl,rfl,rfl,trivial⟩ ⟨Nat.zero_le _,rfl,((S.lstNil H1 BwI).tk [1,0,2])⟩ ?_
 rintro ⟨i,pq,cq,zs⟩ wq2 ⟨hi,hz,H3⟩
 refine g_wk [(3,_),(6,_),(7,_),(8,_)] ?_
 have hzl:zs.length≤i:=by have h9:=congrArg List.length hz; rw [List.length_map,List.length_map,List.length_take] at h9; omega
 refine w_k3 ?_
 refine g_seq ?_
 by_cases hb4:((i:Int):Int)<(n:Int)
 ·
  refine g_ct hb4 ?_
  refine w_k5 ?_
  refine w_v (x_i i (H3.exReads (k:=2) rfl hr (fun _ _ _ h=>h))) ?_
  obtain ⟨x5,hx5⟩:=(H3.exReads (k:=2) rfl hr (fun _ _ _ h=>h)).exL rowE i
  have hlx:=hl9 x5 (List.mem_of_getElem? hx5)
  refine w_v (x_r i (H3.exReads (k:=2) rfl hr (fun _ _ _ h=>h)) (rowE.flAt1 hx5 rfl)) ?_
  refine w_k5 ?_
  refine l_of (s_cl (clone_i x5.l x5.p x5.l.length x5.c (by omega) _ (H3.oldReads (k:=2) rfl (hrs x5 (List.mem_of_getElem? hx5)))) ?_)
  rintro _ wq8 ⟨pz6,cz7,rfl,H9⟩
  replace H9:S _ [_,_,_,_]:=H3.ab (new:=[_]) H9 rfl
  refine b_ret rfl rfl ?_
  refine l_of (s_b1 ze43 #[.slice pz6 x5.l.length cz7] H9 ?_)
  intro g10 wq11 H12
  have hln17a:=(H12.rr 2).lenL rowE
  have hln17:(zs++[(⟨pz6,cz7,x5.l⟩:Ro Int)]).length=zs.length+1:=by simp only [List.length_append,List.length_cons,List.length_nil] <;> omega
  refine l_of (s_appBn (m:=1) (l:=zs) (l2:=[(⟨pz6,cz7,x5.l⟩:Ro Int)]) rowE H12 2 (j0:=0) rfl rfl ⟨rfl,Nat.le_refl _⟩ (wt0 rfl) rfl rfl rfl rfl rfl rfl Tryz.underlying39 inf43 rfl (by decide) (by omega) ?_)
  intro p13 c14 wq15 H16
  refine w_k5 ?_
  refine w_i i ?_
  refine w_k2 ?_
  have H18:S _ [_,_,_]:=S.lstSnoc (F:=BwI) (x:=(⟨pz6,cz7,x5.l⟩:Ro Int)) (H16.tk [1,3,2,4])
  refine g_rd (i:=(i,pq,cq,zs)) ((i+1),p13,c14,(zs++[(⟨pz6,cz7,x5.l⟩:Ro Int)])) ⟨by omega,(by rw [take_snocT hx5,List.map_append,List.map_append,hz]; rfl),(H18.tk [1,0,2])⟩
 ·
  refine g_cf hb4 ?_
  refine w_k10 ?_
  refine fin_r [.tmp 2] [.slice pq zs.length cq] ?_
  rw [List.take_of_length_le (by omega)] at hz
  exact ⟨_,_,_,rfl,hz,H3.tk [0,1,2]⟩
structure RowB (n:Nat) (me:Int) (B:Int) (o:List Int):Prop where
 len:o.length=n
 pos:∀ y∈o,0≤y
 own:o[me.toNat]?=some 0∨n≤me.toNat
 sum:sumI o≤B
theorem sum_repl (n:Nat):sumI (List.replicate n (0:Int))=0:=by
 induction n with
 | zero=>rfl
 | succ n ih=>rw [List.replicate_succ,sumI_cons,ih]; rfl
theorem RowB.zero (n:Nat) (me:Int):RowB n me 0 (List.replicate n 0) where
 len:=List.length_replicate
 pos y hy:=by rw [(List.mem_replicate.1 hy).2]; exact Int.le_refl _
 own:=by
   by_cases h:me.toNat<n
   · left
     rw [List.getElem?_replicate,if_pos h]
   · right; omega
 sum:=by rw [sum_repl]; exact Int.le_refl _
theorem sum_set:∀ (o:List Int) (i:Nat) (v:Int),(∀ y∈o,0≤y)→0≤v→sumI (o.set i v)≤sumI o+v
 | [],i,v,_,h=>by rw [List.set_nil]; omega
 | a :: o,0,v,hp,h=>by
   rw [List.set_cons_zero,sumI_cons,sumI_cons]
   have:=hp a List.mem_cons_self
   omega
 | a :: o,i+1,v,hp,h=>by
   rw [List.set_cons_succ,sumI_cons,sumI_cons]
   have:=sum_set o i v (fun y hy=>hp y (List.mem_cons_of_mem _ hy)) h
   omega
theorem mem_setI {o:List Int} {i:Nat} {v y:Int} (h:y∈o.set i v):y∈o∨y=v:=List.mem_or_eq_of_mem_set h
theorem RowB.set {n:Nat} {me B:Int} {o:List Int} (h:RowB n me B o) {i v:Int} (hi:0≤i) (hme:0≤me) (hne:i ≠ me) (hv:0≤v):RowB n me (B+v) (o.set i.toNat v) where
 len:=by rw [List.length_set,h.len]
 pos y hy:=by
   rcases mem_setI hy with hy | rfl
   · exact h.pos y hy
   · exact hv
 own:=by
   rw [List.getElem?_set_ne (by omega)]; exact h.own
 sum:=by
   have:=sum_set o i.toNat v h.pos hv
   have:=h.sum
   omega
theorem RowB.up {n:Nat} {me B C:Int} {o:List Int} (h:RowB n me B o) (hc:B≤C):RowB n me C o:=⟨h.len,h.pos,h.own,Int.le_trans h.sum hc⟩
theorem RowB.foldl {n:Nat} {me q:Int} (hme:0≤me) (hq:0≤q):∀ (l:List Int) {B:Int} {o:List Int},(∀ x∈l,0≤x∧x ≠ me)→RowB n me B o→RowB n me (B+l.length * q) (l.foldl (fun o i=>o.set i.toNat q) o)
 | [],B,o,_,h=>by simpa using h
 | a :: l,B,o,hl,h=>by
   rw [List.foldl_cons]
   have h1:=hl a List.mem_cons_self
   have h2:=RowB.foldl hme hq l (fun x hx=>hl x (List.mem_cons_of_mem _ hx)) (h.set h1.1 hme h1.2 hq)
   refine h2.up ?_
   rw [List.length_cons,Int.natCast_succ,Int.add_mul]; omega
theorem evnV_row {n:Nat} {me rt:Int} {l:List Int} (hme:0≤me) (hr:0≤rt) (hl:∀ x∈l,0≤x∧x ≠ me):RowB n me rt (evnV n rt l):=by
 unfold evnV evnF
 have h0:0≤rt / (l.length:Int):=Int.ediv_nonneg hr (by omega)
 refine (RowB.foldl hme h0 l hl (RowB.zero n me)).up ?_
 rw [Int.zero_add]
 by_cases hl0:l.length=0
 · rw [hl0]; show (0:Int) * _≤rt; rw [Int.zero_mul]; exact hr
 · rw [Int.mul_comm]; exact Int.ediv_mul_le rt (by omega)
def rvOf (G:List (List (List Int))) (bw:List (List Int)) (me i:Int):Rv:=⟨i,true,decide (lastV G i me=0),lastV G i me,lastV G me i,if at2 bw me i=0 then -1 else 0,0,snubV G me i,false,false⟩
def rivL (n:Nat) (G:List (List (List Int))) (bw:List (List Int)) (me:Int):List Rv:=(othV n me).map (rvOf G bw me)
noncomputable def fairV (sd:ByteArray) (n:Nat) (rt:Int) (G:List (List (List Int))) (bw:List (List Int)) (me:Int):List Int:=
 evnV n rt (ids1 G.length 4 ((sd++⟨#[32]⟩)++itS me) (rivL n G bw me))
def grimB (G:List (List (List Int))) (me i:Int):Bool:=G.any fun r=>decide (at2 r i me=0)
def grimV (n:Nat) (rt:Int) (G:List (List (List Int))) (me:Int):List Int:=evnV n rt (keepS (grimB G me) (othV n me))
def mostF (f:Int→Int) (l:List Int):Int:=match l with | []=>0 | a :: l=>l.foldl (fun m x=>if 0<f x - f m then x else m) a
def nextV (n:Nat) (G:List (List (List Int))) (me:Int):Int:=
 if 0<lastV G (mostF (fun i=>lastV G i me) (othV n me)) me then mostF (fun i=>lastV G i me) (othV n me) else (me+1) % (n:Int)
def bestV (n:Nat) (rt:Int) (G:List (List (List Int))) (me:Int):List Int:=evnV n rt [nextV n G me]
def mirS (f:Int→Int) (s:List Int × Int) (i:Int):List Int × Int:=(s.1.set i.toNat (min (f i) s.2),s.2 - min (f i) s.2)
def mirF (f:Int→Int) (n:Nat) (rt:Int) (l:List Int):List Int × Int:=l.foldl (mirS f) (List.replicate n 0,rt)
def mirV (n:Nat) (rt:Int) (G:List (List (List Int))) (me:Int):List Int:=
 if G.length=0 then evnV n rt (othV n me) else (mirF (fun i=>lastV G i me) n rt (othV n me)).1
def mustV (P:Int→Option Int) (rt i:Int):Int:=(P i).getD (rt / 4)
def tyrC (G:List (List (List Int))) (P:Int→Option Int) (rt me a b:Int):Int:=
 if lastV G a me=0∨lastV G b me=0 then lastV G b me - lastV G a me else lastV G b me * mustV P rt a - lastV G a me * mustV P rt b
structure TyR where
 o:List Int
 C:Int→Option Bool
 left:Int
 stop:Bool
def tyrS (m:Int→Int) (s:TyR) (i:Int):TyR:=
 if s.stop=true then s else if s.left<m i then { s with stop:=true } else ⟨s.o.set i.toNat (m i),upM s.C i true,s.left - m i,false⟩
def tyrF (m:Int→Int) (n:Nat) (rt:Int) (l:List Int):TyR:=l.foldl (tyrS m) ⟨List.replicate n 0,fun _=>none,rt,false⟩
noncomputable def tyrL (n:Nat) (G:List (List (List Int))) (P:Int→Option Int) (rt me:Int):List Int:=stableS 0 (tyrC G P rt me) (othV n me)
noncomputable def tyrV (n:Nat) (rt:Int) (G:List (List (List Int))) (P:Int→Option Int) (me:Int):TyR:=tyrF (mustV P rt) n rt (tyrL n G P rt me)
noncomputable def giveV (sd:ByteArray) (n:Nat) (rt:Int) (G:List (List (List Int))) (bw:List (List Int)) (s:Sp) (me:Int):List Int:=
 if s.k=1 then fairV sd n rt G bw me else if s.k=2 then evnV n rt [] else if s.k=3 then evnV n rt (othV n me) else if s.k=4 then grimV n rt G me else if s.k=5 then bestV n rt G me else if s.k=6 then (tyrV n rt G s.P me).o else mirV n rt G me
theorem fill_mem {slots:Int} {x:Rv}:∀ (l lt:List Rv),x∈fillL slots lt l→x∈lt∨x∈l
 | [],lt,h=>.inl h
 | a :: l,lt,h=>by
   rcases fill_mem l (fillT slots lt a) h with h | h
   · unfold fillT at h
     split at h
     · rcases List.mem_append.1 h with h | h
       · exact .inl h
       · exact .inr (by rw [List.mem_singleton.1 h]; exact List.mem_cons_self)
     · exact .inl h
   · exact .inr (List.mem_cons_of_mem _ h)
theorem way1_mem {round slots:Int} {seed:ByteArray} {l:List Rv} {x:Rv} (h:x∈way1 round slots seed l):x∈l:=by
 unfold way1 at h
 rcases fill_mem _ _ h with h | h
 · unfold reg1 sorted1 at h
   exact (List.mem_filter.1 (srt_mem.1 (List.mem_of_mem_take h))).1
 · unfold optL at h
   exact (List.mem_filter.1 (srt_mem.1 h)).1
theorem ids1_mem {round slots:Int} {seed:ByteArray} {l:List Rv} {i:Int} (h:i∈ids1 round slots seed l):∃ x∈l,x.id=i:=by
 unfold ids1 at h
 obtain ⟨x,hx,rfl⟩:=List.mem_map.1 ((sortI_perm _).mem_iff.1 h)
 exact ⟨x,way1_mem hx,rfl⟩
theorem ids1_len (round slots:Int) (seed:ByteArray) (l:List Rv):(ids1 round slots seed l).length≤l.length+l.length:=by
 unfold ids1
 rw [sortI_len,List.length_map]
 exact way1_len round slots seed l
theorem fair_ids {round slots:Int} {seed:ByteArray} {n:Nat} {G:List (List (List Int))} {bw:List (List Int)} {me i:Int} (h:i∈ids1 round slots seed (rivL n G bw me)):(0≤i∧i<n)∧i ≠ me:=by
 obtain ⟨x,hx,rfl⟩:=ids1_mem h
 unfold rivL at hx
 obtain ⟨j,hj,rfl⟩:=List.mem_map.1 hx
 exact othV_mem.1 hj
theorem keepS_mem {α:Type} {q:α→Bool} {l:List α} {x:α} (h:x∈keepS q l):x∈l:=by
 unfold keepS at h
 exact (List.mem_filter.1 h).1
theorem mostF_mem (f:Int→Int):∀ (l:List Int) (a:Int),l.foldl (fun m x=>if 0<f x - f m then x else m) a∈a :: l
 | [],a=>List.mem_cons_self
 | b :: l,a=>by
   rw [List.foldl_cons]
   rcases List.mem_cons.1 (mostF_mem f l (if 0<f b - f a then b else a)) with h | h
   · rw [h]
     split
     · exact List.mem_cons_of_mem _ List.mem_cons_self
     · exact List.mem_cons_self
   · exact List.mem_cons_of_mem _ (List.mem_cons_of_mem _ h)
theorem othV_ne {n:Nat} {me:Int} (hn:2≤n):othV n me ≠ []:=fun h=>by
 have h0:(0:Int) ∉ othV n me:=by rw [h]; exact List.not_mem_nil
 have h1:(1:Int) ∉ othV n me:=by rw [h]; exact List.not_mem_nil
 rw [othV_mem] at h0 h1
 omega
theorem most_oth {n:Nat} {me:Int} (f:Int→Int) (hn:2≤n):mostF f (othV n me)∈othV n me:=by
 cases h:othV n me with
 | nil=>exact absurd h (othV_ne hn)
 | cons a l=>exact mostF_mem f l a
theorem next_ok {n:Nat} {me:Int} {G:List (List (List Int))} (hn:2≤n) (h0:0≤me) (h1:me<n):(0≤nextV n G me∧nextV n G me<n)∧nextV n G me ≠ me:=by
 unfold nextV
 split
 · exact othV_mem.1 (most_oth _ hn)
 · by_cases h:me+1<n
   · rw [Int.emod_eq_of_lt (by omega) h]; omega
   · rw [show me+1=(n:Int) by omega,Int.emod_self]; omega
theorem mirF_row {f:Int→Int} {n:Nat} {me rt:Int} (hf:∀ i,0≤f i) (hme:0≤me):∀ (l:List Int) {s:List Int × Int},(∀ x∈l,0≤x∧x ≠ me)→0≤s.2→RowB n me (rt - s.2) s.1→0≤(l.foldl (mirS f) s).2∧RowB n me (rt - (l.foldl (mirS f) s).2) (l.foldl (mirS f) s).1
 | [],s,_,h,hr=>⟨h,hr⟩
 | a :: l,s,hl,h,hr=>by
   rw [List.foldl_cons]
   have h1:=hl a List.mem_cons_self
   have h2:=hf a
   refine mirF_row hf hme l (fun x hx=>hl x (List.mem_cons_of_mem _ hx)) ?_ ?_
   · show 0≤s.2 - min (f a) s.2
     omega
   · refine (hr.set h1.1 hme h1.2 (v:=min (f a) s.2) (by omega)).up ?_
     show rt - s.2+min (f a) s.2≤rt - (s.2 - min (f a) s.2)
     omega
theorem tyrF_row {m:Int→Int} {n:Nat} {me rt:Int} (hm:∀ i,0≤m i) (hme:0≤me):∀ (l:List Int) {s:TyR},(∀ x∈l,0≤x∧x ≠ me)→0≤s.left→RowB n me (rt - s.left) s.o→0≤(l.foldl (tyrS m) s).left∧RowB n me (rt - (l.foldl (tyrS m) s).left) (l.foldl (tyrS m) s).o
 | [],s,_,h,hr=>⟨h,hr⟩
 | a :: l,s,hl,h,hr=>by
   rw [List.foldl_cons]
   have h1:=hl a List.mem_cons_self
   have h2:=hm a
   have hl2:∀ x∈l,0≤x∧x ≠ me:=fun x hx=>hl x (List.mem_cons_of_mem _ hx)
   have key:0≤(tyrS m s a).left∧RowB n me (rt - (tyrS m s a).left) (tyrS m s a).o:=by
     unfold tyrS
     split
     · exact ⟨h,hr⟩
     · split
       · exact ⟨h,hr⟩
       · refine ⟨by show 0≤s.left - m a; omega,(hr.set h1.1 hme h1.2 h2).up ?_⟩
         show rt - s.left+m a≤rt - (s.left - m a)
         omega
   exact tyrF_row hm hme l hl2 key.1 key.2
theorem giveV_row {sd:ByteArray} {n:Nat} {rt:Int} {G:List (List (List Int))} {bw:List (List Int)} {s:Sp} {me:Int} (hn:2≤n) (h0:0≤me) (h1:me<n) (hr:0≤rt) (hG:∀ a b,0≤lastV G a b) (hP:∀ i v,s.P i=some v→0≤v):RowB n me rt (giveV sd n rt G bw s me):=by
 have hoth:∀ x∈othV n me,0≤x∧x ≠ me:=fun x hx=>⟨(othV_mem.1 hx).1.1,(othV_mem.1 hx).2⟩
 unfold giveV
 split
 · exact evnV_row h0 hr fun x hx=>⟨(fair_ids hx).1.1,(fair_ids hx).2⟩
 split
 · exact evnV_row h0 hr fun x hx=>absurd hx List.not_mem_nil
 split
 · exact evnV_row h0 hr hoth
 split
 · exact evnV_row h0 hr fun x hx=>hoth x (keepS_mem hx)
 split
 · refine evnV_row h0 hr fun x hx=>?_
   rw [List.mem_singleton.1 hx]
   exact ⟨(next_ok hn h0 h1).1.1,(next_ok hn h0 h1).2⟩
 split
 · have hm:∀ i,0≤mustV s.P rt i:=fun i=>by
     unfold mustV
     cases h:s.P i with
     | none=>show 0≤rt / 4; omega
     | some v=>exact hP i v h
   have h9:=tyrF_row (n:=n) (rt:=rt) hm h0 (tyrL n G s.P rt me) (s:=⟨List.replicate n 0,fun _=>none,rt,false⟩) (fun x hx=>hoth x ((stable_perm _ _ _).mem_iff.1 hx)) hr (by rw [Int.sub_self]; exact RowB.zero n me)
   have h10:=h9.1
   exact h9.2.up (by omega)
 · unfold mirV
   split
   · exact evnV_row h0 hr hoth
   · have h9:=mirF_row (n:=n) (rt:=rt) (f:=fun i=>lastV G i me) (fun i=>hG i me) h0 (othV n me) (s:=(List.replicate n 0,rt)) hoth hr (by rw [Int.sub_self]; exact RowB.zero n me)
     have h10:=h9.1
     exact h9.2.up (by omega)
end Go.Proofs.YtpbjekdjebjbkaaGreatDoor
