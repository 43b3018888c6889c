import Derived.Test.YtpbjekdjebjbkaaGreatDoorFm
import Derived.Test.YtpbjekdjebjbkaaGreatDoorTp
set_option linter.unusedSimpArgs false
set_option linter.unusedVariables false
namespace Go.Proofs.YtpbjekdjebjbkaaGreatDoor
open Go.RowKit
theorem cl31:callable Tryz.prog 31=true:=by kernel_rfl
theorem fo61_3:foO Tryz.prog 61 3=some 3:=by kernel_rfl
theorem inf39:infO Tryz.prog 39=some (some (.slice none 0 0),1,24):=by kernel_rfl
theorem ze39:zeO Tryz.prog 39=some (.slice none 0 0):=by kernel_rfl
set_option maxRecDepth 20000 in
set_option maxHeartbeats 4000000 in
theorem round_s (g:Nat) (seed:ByteArray) (pp:Option Addr) (pc:Nat) (ps:List Pl) (sp:Option Addr) (sc:Nat) (ss:List Sg) (tp:Option Addr) (tc:Nat) (got:List Int) (vp:Option Addr) (vc:Nat) (gave:List Int) (bp:Option Addr) (bc:Nat) (bs:List (Ro Int)) (pl gs:List Rd) (gp:Option Addr) (gc:Nat) (hG:GsOK ps.length pl gs) (hgl:gs.length≤190) (h2p:2≤ps.length) (hnp:ps.length≤9) (hsd:seed.size≤100) (hbl:bs.length=ps.length) (hbw:∀ x∈bs,x.l.length=ps.length) (hsl:ss.length=ps.length) (hpv:∀ p∈ps,0≤p.rt∧p.rt≤1000000) (hkr:∀ s∈ss,1≤s.k∧s.k≤7) (hP:∀ s∈ss,∀ j v,s.P j=some v→0≤v∧v≤1000000) (Kb:Int) (hK:0≤Kb∧Kb≤1000000) (hB:∀ s∈ss,∀ j v,s.B j=some v→0≤v∧v≤Kb) (Bd:Int) (hBd:0≤Bd∧Bd≤1000000000000) (hgt0:got.length=ps.length) (hgtb0:BdL Bd got) (hgv0:gave.length=ps.length) (hgvb0:BdL Bd gave) (hbb:∀ l∈bs.map Ro.l,BdL Bd l) (hrok:RdOK ps.length (roundR (⟨seed,ps,ss.map Sg.sp,gs.map Rd.v,got,gave,bs.map Ro.l⟩:GA)))  (w:World) (HS:S w [Ob g (.cells #[.slice gp gs.length gc,.string seed,.slice pp ps.length pc,.slice sp ss.length sc,.slice tp got.length tc,.slice vp gave.length vc,.slice bp bs.length bc] 61 (0,0)),Rw 39 1 gp gs.length gc (fl rowL gs),Rw 27 2 pp ps.length pc (fl plL ps),Rw 63 1 sp ss.length sc (fl sgL ss),Rw 3 1 tp got.length tc (fl intL got),Rw 3 1 vp gave.length vc (fl intL gave),Rw 43 1 bp bs.length bc (fl rowL bs),(Lst BwI bs),(Lst SgI ss),(Pool pl)]):Calls Tryz.prog 13 #[.pointer (some ⟨g,0,none⟩)] w fun e w'=>∃ p' c' zz rd gp2 gc2 ssl2 gt gv9 bl,e=.returned (.tuple #[.slice p' zz.length c',.int .i64 0])∧zz.map Ro.l=rd.v∧rd.v=roundR (⟨seed,ps,ss.map Sg.sp,gs.map Rd.v,got,gave,bs.map Ro.l⟩:GA)∧GsOK ps.length (pl++[rd]) (gs++[rd])∧(ssl2.length=ss.length∧ssl2.map sgL=ss.map sgL∧ssl2.map Sg.sp=(stepA (⟨seed,ps,ss.map Sg.sp,gs.map Rd.v,got,gave,bs.map Ro.l⟩:GA)).ss)∧(gt=(stepA (⟨seed,ps,ss.map Sg.sp,gs.map Rd.v,got,gave,bs.map Ro.l⟩:GA)).got∧gt.length=got.length)∧(gv9=(stepA (⟨seed,ps,ss.map Sg.sp,gs.map Rd.v,got,gave,bs.map Ro.l⟩:GA)).gave∧gv9.length=gave.length)∧bl.map Ro.l=(stepA (⟨seed,ps,ss.map Sg.sp,gs.map Rd.v,got,gave,bs.map Ro.l⟩:GA)).bw∧S w' ([Rw 43 1 p' zz.length c' (fl rowL zz),Lst BwI zz,Ob g (.cells #[.slice gp2 ((gs++[rd]).length) gc2,.string seed,.slice pp ps.length pc,.slice sp ss.length sc,.slice tp got.length tc,.slice vp gave.length vc,.slice bp bl.length bc] 61 (0,0)),Rw 39 1 gp2 ((gs++[rd]).length) gc2 (fl rowL (gs++[rd])),Rw 27 2 pp ps.length pc (fl plL ps),Rw 63 1 sp ss.length sc (fl sgL ss),Rw 3 1 tp got.length tc (fl intL gt),Rw 3 1 vp gave.length vc (fl intL gv9),Rw 43 1 bp bl.length bc (fl rowL bl),(Lst BwI bl),(Lst SgI ssl2),(Pool (pl++[rd]))]++[Old w (fps [Ob g (.cells #[.slice gp gs.length gc,.string seed,.slice pp ps.length pc,.slice sp ss.length sc,.slice tp got.length tc,.slice vp gave.length vc,.slice bp bs.length bc] 61 (0,0)),Rw 39 1 gp gs.length gc (fl rowL gs),Rw 27 2 pp ps.length pc (fl plL ps),Rw 63 1 sp ss.length sc (fl sgL ss),Rw 3 1 tp got.length tc (fl intL got),Rw 3 1 vp gave.length vc (fl intL gave),Rw 43 1 bp bs.length bc (fl rowL bs),(Lst BwI bs),(Lst SgI ss),(Pool pl)])]):=by
 have H0:=HS.beginI
 refine enter 121 Tryz.func13 rfl rfl rfl ?_
 refine g_wk [(0,_)] ?_
 refine w_s ?_
 refine w_k7 ?_
 refine w_b (v:=.bool false) (hb:=(b_eqN (r:=false) Tryz.underlying29 rfl)) ?_
 refine w_k2 ?_
 refine g_cond_f rfl rfl ?_
 refine w_k10 ?_
 refine g_cond_f rfl (decide_eq_false (by omega)) ?_
 refine w_k4 ?_
 have H1:S w [Rw 43 1 none 0 0 (fl rowL ([]:List (Ro Int))),Ob g (.cells #[.slice gp gs.length gc,.string seed,.slice pp ps.length pc,.slice sp ss.length sc,.slice tp got.length tc,.slice vp gave.length vc,.slice bp bs.length bc] 61 (0,0)),Rw 39 1 gp gs.length gc (fl rowL gs),Rw 27 2 pp ps.length pc (fl plL ps),Rw 63 1 sp ss.length sc (fl sgL ss),Rw 3 1 tp got.length tc (fl intL got),Rw 3 1 vp gave.length vc (fl intL gave),Rw 43 1 bp bs.length bc (fl rowL bs),(Lst BwI bs),(Lst SgI ss),(Pool pl),Old w (fps [Ob g (.cells #[.slice gp gs.length gc,.string seed,.slice pp ps.length pc,.slice sp ss.length sc,.slice tp got.length tc,.slice vp gave.length vc,.slice bp bs.length bc] 61 (0,0)),Rw 39 1 gp gs.length gc (fl rowL gs),Rw 27 2 pp ps.length pc (fl plL ps),Rw 63 1 sp ss.length sc (fl sgL ss),Rw 3 1 tp got.length tc (fl intL got),Rw 3 1 vp gave.length vc (fl intL gave),Rw 43 1 bp bs.length bc (fl rowL bs),(Lst BwI bs),(Lst SgI ss),(Pool pl)])]:=H0.nilFl 43 1 rowL
 refine w_k12 ?_
 refine g_loop (ι:=Nat × Option Addr × Nat × List (Ro Int) × List Sg) (fun (i,pq,cq,zs,ssl)=>[(0,.pointer (some ⟨g,0,none⟩)),(4,.slice pq zs.length cq),(27,.slice sp ss.length sc),(28,.int .i64 ((ss.length:Int))),(29,.int .i64 ((i:Int)))]) (fun (i,pq,cq,zs,ssl) wx=>(i≤ss.length)∧(zs.map Ro.l=(List.range i).map (rowR (⟨seed,ps,ss.map Sg.sp,gs.map Rd.v,got,gave,bs.map Ro.l⟩:GA)))∧(ssl.length=ss.length)∧(∀ j,i≤j→ssl[j]?=ss[j]?)∧(ssl.map sgL=ss.map sgL)∧(ssl.map Sg.sp=mapK (gvP (⟨seed,ps,ss.map Sg.sp,gs.map Rd.v,got,gave,bs.map Ro.l⟩:GA)) i (ss.map Sg.sp))∧(∀ j y,j<i→ssl[j]?=some y→y.k=6→∃ c,y.cg=some c)∧S wx [Rw 43 1 pq zs.length cq (fl rowL zs),(Lst BwI zs),Ob g (.cells #[.slice gp gs.length gc,.string seed,.slice pp ps.length pc,.slice sp ss.length sc,.slice tp got.length tc,.slice vp gave.length vc,.slice bp bs.length bc] 61 (0,0)),Rw 39 1 gp gs.length gc (fl rowL gs),Rw 27 2 pp ps.length pc (fl plL ps),Rw 63 1 sp ss.length sc (fl sgL ss),Rw 3 1 tp got.length tc (fl intL got),Rw 3 1 vp gave.length vc (fl intL gave),Rw 43 1 bp bs.length bc (fl rowL bs),(Lst BwI bs),(Lst SgI ssl),(Pool pl),Old w (fps [Ob g (.cells #[.slice gp gs.length gc,.string seed,.slice pp ps.length pc,.slice sp ss.length sc,.slice tp got.length tc,.slice vp gave.length vc,.slice bp bs.length bc] 61 (0,0)),Rw 39 1 gp gs.length gc (fl rowL gs),Rw 27 2 pp ps.length pc (fl plL ps),Rw 63 1 sp ss.length sc (fl sgL ss),Rw 3 1 tp got.length tc (fl intL got),Rw 3 1 vp gave.length vc (fl intL gave),Rw 43 1 bp bs.length bc (fl rowL bs),(Lst BwI bs),(Lst SgI ss),(Pool pl)])]) (fun (i,pq,cq,zs,ssl)=>ss.length - i) (0,none,0,[],ss) ⟨rfl,rfl,rfl,rfl,rfl,trivial⟩ ⟨Nat.zero_le _,rfl,rfl,(fun _ _=>rfl),rfl,mapK_zero.symm,(fun j y hj=>absurd hj (Nat.not_lt_zero _)),((S.lstNil H1 BwI).tk [1,0,2,3,4,5,6,7,8,9,10,11,12])⟩ ?_
 rintro ⟨i,pq,cq,zs,ssl⟩ wq2 ⟨hi,hz,hl,hat,hsg,hsp,hcg,H3⟩
 refine g_wk [(0,_),(4,_),(27,_),(28,_),(29,_)] ?_
 have hzl:zs.length=i:=by have h9:=congrArg List.length hz; rwa [List.length_map,List.length_map,List.length_range] at h9
 refine w_k3 ?_
 refine g_seq ?_
 by_cases hb4:((i:Int):Int)<(ss.length:Int)
 ·
  refine g_ct hb4 ?_
  refine w_k6 ?_
  refine w_v (x_i i (H3.rr 5)) ?_
  obtain ⟨x5,hx5⟩:=(H3.rr 5).exL sgE i
  refine w_v (x_r i (H3.rr 5) (sgE.flAt1 hx5 rfl)) ?_
  refine w_k8 ?_
  obtain ⟨pm,hpm⟩:=ex_at (l:=ps) (j:=i) (by omega)
  have hpr:=hpv pm (List.mem_of_getElem? hpm)
  have hxk:=hkr x5 (List.mem_of_getElem? hx5)
  have hxs9:ssl[i]?=some x5:=(hat i (Nat.le_refl _)).trans hx5
  obtain ⟨f9,rv9,hfd9,hcl9,hgv9⟩:=gives_all g seed pp pc ps sp sc ss.length tp tc got.length vp vc gave.length bp bc bs pl gs gp gc hG (by omega) h2p hnp hsd hbl hbw ssl i pm hpm hpr x5 hxs9 hxk (hP x5 (List.mem_of_getElem? hx5))
  obtain ⟨V9,hV9⟩:∃ V9:List Int,V9=giveV seed ps.length pm.rt (gs.map Rd.v) (bs.map Ro.l) x5.sp i:=⟨_,rfl⟩
  rw [← hV9] at hgv9
  refine l_of (s_call (wt0 rfl) (x_invoke rfl rfl rfl hfd9 hcl9) (hgv9 _ (H3.tk [2,3,4,11,8,9,10])) ?_)
  rintro _ wq6 ⟨p9,c9,s9,rfl,hsp9,hsg9,hbq9,hcg9,H7⟩
  replace H7:S _ [_,_,_,_,_,_,_,_,_,_,_,_,_,_]:=H3.abI (new:=[_,_,_,_,_,_,_,_]) [2,3,4,11,8,9,10] H7 rfl
  have hxm9:(ss.map Sg.sp)[i]?=some x5.sp:=by rw [List.getElem?_map,hx5]; rfl
  have hrow9:rowR (⟨seed,ps,ss.map Sg.sp,gs.map Rd.v,got,gave,bs.map Ro.l⟩:GA) i=V9:=(rowR_is (A:=(⟨seed,ps,ss.map Sg.sp,gs.map Rd.v,got,gave,bs.map Ro.l⟩:GA)) hpm hxm9).trans hV9.symm
  have hgp9:gvP (⟨seed,ps,ss.map Sg.sp,gs.map Rd.v,got,gave,bs.map Ro.l⟩:GA) i x5.sp=s9.sp:=by rw [hsp9]; show giveP ps.length (rtA ps i) (gs.map Rd.v) i x5.sp=_; rw [rtA_is hpm]
  have hk9:s9.k=x5.k:=(congrArg Sp.k hsp9).trans (giveP_k _ _ _ _ _).1
  skip
  refine b_ret rfl rfl ?_
  refine l_of (s_b1 ze43 #[.slice p9 V9.length c9] H7 ?_)
  intro g8 wq9 H10
  have hln15a:=(H10.rr 9).lenL rowE
  have hln15:(zs++[(⟨p9,c9,V9⟩:Ro Int)]).length=zs.length+1:=by simp only [List.length_append,List.length_cons,List.length_nil] <;> omega
  refine l_of (s_appBn (m:=1) (l:=zs) (l2:=[(⟨p9,c9,V9⟩:Ro Int)]) rowE H10 9 (j0:=0) rfl rfl ⟨rfl,Nat.le_refl _⟩ (wt0 rfl) rfl rfl rfl rfl rfl rfl Tryz.underlying39 inf43 rfl (by decide) (by omega) ?_)
  intro p11 c12 wq13 H14
  refine w_k5 ?_
  refine w_i i ?_
  refine w_k2 ?_
  have H16:S _ [_,_,_,_,_,_,_,_,_,_,_,_,_,_]:=S.lstSnoc (F:=BwI) (x:=(⟨p9,c9,V9⟩:Ro Int)) (H14.tk [1,10,0,2,3,4,5,6,7,8,9,11,12,13,14])
  refine g_rd (i:=(i,pq,cq,zs,ssl)) ((i+1),p11,c12,(zs++[(⟨p9,c9,V9⟩:Ro Int)]),(ssl.set i s9)) ⟨by omega,(by rw [List.map_append,hz,List.range_succ,List.map_append]; exact congrArg (_++[·]) hrow9.symm),(by rw [List.length_set]; exact hl),(fun j hj=>by rw [List.getElem?_set_ne (by omega)]; exact hat j (by omega)),((map_setS hxs9 hsg9).trans hsg),(by rw [List.map_set,hsp,mapK_succ hxm9,hgp9]),(cg_step hcg (fun h6=>hcg9 (hk9.symm.trans h6))),(H16.tk [9,0,2,3,4,10,11,12,6,7,8,5,13])⟩
 ·
  refine g_cf hb4 ?_
  refine w_k13 ?_
  refine l_of (s_b1 ze39 #[.slice pq zs.length cq] H3 ?_)
  intro g17 wq18 H19
  have hln24a:=(H19.rr 4).lenL rowE
  have hln24:(gs++[(⟨pq,cq,zs⟩:Rd)]).length=gs.length+1:=by simp only [List.length_append,List.length_cons,List.length_nil] <;> omega
  refine l_of (s_appBn (m:=1) (l:=gs) (l2:=[(⟨pq,cq,zs⟩:Rd)]) rowE H19 4 (j0:=0) rfl rfl ⟨rfl,Nat.le_refl _⟩ (wt0 rfl) rfl rfl rfl rfl rfl rfl Tryz.underlying56 inf39 rfl (by decide) (by omega) ?_)
  intro p20 c21 wq22 H23
  refine w_r3 ?_
  refine l_of (w_st #[.slice p20 ((gs++[(⟨pq,cq,zs⟩:Rd)]).length) c21,.string seed,.slice pp ps.length pc,.slice sp ss.length sc,.slice tp got.length tc,.slice vp gave.length vc,.slice bp bs.length bc] H23 3 ?_)
  intro wq25 H26
  refine w_k8 ?_
  have hin:i=ps.length:=by omega
  have hzR:zs.map Ro.l=roundR (⟨seed,ps,ss.map Sg.sp,gs.map Rd.v,got,gave,bs.map Ro.l⟩:GA):=by rw [hz,hin]; rfl
  refine g_loop (ι:=Nat × Rd × Option Addr × Nat × List Int × List Int × List (Ro Int)) (fun (m,rd,gp2,gc2,gt,gv9,bl)=>[(0,.pointer (some ⟨g,0,none⟩)),(4,.slice rd.p rd.l.length rd.c),(54,.slice rd.p rd.l.length rd.c),(55,.int .i64 ((rd.l.length:Int))),(56,.int .i64 ((m:Int)))]) (fun (m,rd,gp2,gc2,gt,gv9,bl) wx=>(m≤rd.l.length)∧(rd.v=roundR (⟨seed,ps,ss.map Sg.sp,gs.map Rd.v,got,gave,bs.map Ro.l⟩:GA))∧(GsOK ps.length (pl++[rd]) (gs++[rd]))∧(rd∈pl++[rd])∧(rd∈gs++[rd])∧(rd.l.length=ps.length)∧(gt=gotF (rd.v.take m) got)∧(gt.length=got.length)∧(BdL (Bd+m * 1000000) gt)∧(gv9=mapK (fun j x=>x+sumI (rd.v.getD j [])) m gave)∧(gv9.length=gave.length)∧(bl.map Ro.l=mapK (fun j b=>addL b (rd.v.getD j [])) m (bs.map Ro.l))∧(bl.length=bs.length)∧S wx [(Pool (pl++[rd])),Ob g (.cells #[.slice gp2 ((gs++[rd]).length) gc2,.string seed,.slice pp ps.length pc,.slice sp ss.length sc,.slice tp got.length tc,.slice vp gave.length vc,.slice bp bl.length bc] 61 (0,0)),Rw 39 1 gp2 ((gs++[rd]).length) gc2 (fl rowL (gs++[rd])),Rw 27 2 pp ps.length pc (fl plL ps),Rw 63 1 sp ss.length sc (fl sgL ss),Rw 3 1 tp got.length tc (fl intL gt),Rw 3 1 vp gave.length vc (fl intL gv9),Rw 43 1 bp bl.length bc (fl rowL bl),(Lst BwI bl),(Lst SgI ssl),Old w (fps [Ob g (.cells #[.slice gp gs.length gc,.string seed,.slice pp ps.length pc,.slice sp ss.length sc,.slice tp got.length tc,.slice vp gave.length vc,.slice bp bs.length bc] 61 (0,0)),Rw 39 1 gp gs.length gc (fl rowL gs),Rw 27 2 pp ps.length pc (fl plL ps),Rw 63 1 sp ss.length sc (fl sgL ss),Rw 3 1 tp got.length tc (fl intL got),Rw 3 1 vp gave.length vc (fl intL gave),Rw 43 1 bp bs.length bc (fl rowL bs),(Lst BwI bs),(Lst SgI ss),(Pool pl)])]) (fun (m,rd,gp2,gc2,gt,gv9,bl)=>rd.l.length - m) (0,(⟨pq,cq,zs⟩:Rd),p20,c21,got,gave,bs) ⟨rfl,rfl,rfl,rfl,rfl,trivial⟩ ⟨Nat.zero_le _,hzR,(gs_snoc hG (by show RdOK _ (zs.map Ro.l); rw [hzR]; exact hrok)),(List.mem_append_right _ List.mem_cons_self),(List.mem_append_right _ List.mem_cons_self),(by show zs.length=_; omega),rfl,rfl,(hgtb0.up (by omega)),mapK_zero.symm,rfl,mapK_zero.symm,rfl,(S.poolAdd (r:=(⟨pq,cq,zs⟩:Rd)) (H26.tk [1,2,12,3,4,5,6,7,8,9,10,11,13]))⟩ ?_
  rintro ⟨m,rd,gp2,gc2,gt,gv9,bl⟩ wq27 ⟨hm,hrdv,hG2,hrdm,hrdg,hrl,hgt,hgtl,hgtb,hgv,hgvl,hbm,hbll,H28⟩
  refine g_wk [(0,_),(4,_),(54,_),(55,_),(56,_)] ?_
  refine w_s ?_
  refine w_k2 ?_
  refine g_seq ?_
  by_cases hb29:((m:Int):Int)<(rd.l.length:Int)
  ·
   refine g_ct hb29 ?_
   refine w_k5 ?_
   clear hK hsd hgl hsl h2p hl hzl hin
   try clear hln15a
   try clear hln15
   try clear hln24a
   try clear hln24
   refine w_m ?_
   refine w_v (x_i m (H28.poolRd (k:=0) rfl hrdm)) ?_
   obtain ⟨x30,hx30⟩:=(H28.poolRd (k:=0) rfl hrdm).exL rowE m
   have hzl9:=(hG2.ok rd hrdg).row_at hx30
   have hzb9:BdL 1000000 x30.l:=fun y hy=>(hG2.ok rd hrdg).pos x30.l (List.mem_map.2 ⟨x30,List.mem_of_getElem? hx30,rfl⟩) y hy
   have hzv9:rd.v[m]?=some x30.l:=by unfold Rd.v; rw [List.getElem?_map,hx30]; rfl
   have hzd9:rd.v.getD m []=x30.l:=getD_atT hzv9
   have hsz9:=sumI_bd (B:=1000000) (l:=x30.l) hzb9
   refine w_v (x_r m (H28.poolRd (k:=0) rfl hrdm) (rowE.flAt1 hx30 rfl)) ?_
   refine w_k3 ?_
   refine g_seq ?_
   refine g_anyY [] (fun wx=>S wx [(Pool (pl++[rd])),Ob g (.cells #[.slice gp2 ((gs++[rd]).length) gc2,.string seed,.slice pp ps.length pc,.slice sp ss.length sc,.slice tp got.length tc,.slice vp gave.length vc,.slice bp bl.length bc] 61 (0,0)),Rw 39 1 gp2 ((gs++[rd]).length) gc2 (fl rowL (gs++[rd])),Rw 27 2 pp ps.length pc (fl plL ps),Rw 63 1 sp ss.length sc (fl sgL ss),Rw 3 1 tp got.length tc (fl intL gt),Rw 3 1 vp gave.length vc (fl intL gv9),Rw 43 1 bp bl.length bc (fl rowL bl),(Lst BwI bl),(Lst SgI ssl),Old w (fps [Ob g (.cells #[.slice gp gs.length gc,.string seed,.slice pp ps.length pc,.slice sp ss.length sc,.slice tp got.length tc,.slice vp gave.length vc,.slice bp bs.length bc] 61 (0,0)),Rw 39 1 gp gs.length gc (fl rowL gs),Rw 27 2 pp ps.length pc (fl plL ps),Rw 63 1 sp ss.length sc (fl sgL ss),Rw 3 1 tp got.length tc (fl intL got),Rw 3 1 vp gave.length vc (fl intL gave),Rw 43 1 bp bs.length bc (fl rowL bs),(Lst BwI bs),(Lst SgI ss),(Pool pl)])]) (fun wx=>S wx [(Pool (pl++[rd])),Rw 39 1 gp2 ((gs++[rd]).length) gc2 (fl rowL (gs++[rd])),Rw 27 2 pp ps.length pc (fl plL ps),Rw 63 1 sp ss.length sc (fl sgL ss),Rw 3 1 tp got.length tc (fl intL gt),Rw 43 1 bp bl.length bc (fl rowL bl),(Lst BwI bl),(Lst SgI ssl),Old w (fps [Ob g (.cells #[.slice gp gs.length gc,.string seed,.slice pp ps.length pc,.slice sp ss.length sc,.slice tp got.length tc,.slice vp gave.length vc,.slice bp bs.length bc] 61 (0,0)),Rw 39 1 gp gs.length gc (fl rowL gs),Rw 27 2 pp ps.length pc (fl plL ps),Rw 63 1 sp ss.length sc (fl sgL ss),Rw 3 1 tp got.length tc (fl intL got),Rw 3 1 vp gave.length vc (fl intL gave),Rw 43 1 bp bs.length bc (fl rowL bs),(Lst BwI bs),(Lst SgI ss),(Pool pl)])]) [11] (by kernel_rfl) H28 (fun wq31 H32=>?_)
   refine y_p 0 rfl (fun _=>xm) ?_
   refine y_p 1 rfl (fun _=>xn) ?_
   refine y_p 2 rfl (fun _=>xf 5) ?_
   refine y_t 3 rfl H32 (fun _ H=>xl H 1) ?_
   refine y_p 4 rfl (fun _=>xm) ?_
   refine y_p 5 rfl (fun _=>x_ip m ((H32.rr 6).some (by omega))) ?_
   obtain ⟨x33,hx33⟩:=(H32.rr 6).exL intE m
   have hgy9:gave[m]?=some x33:=by rw [← mapK_at (f:=fun j x=>x+sumI (rd.v.getD j [])) (l:=gave) (Nat.le_refl m),← hgv]; exact hx33
   have hyb9:=hgvb0.at hgy9
   refine y_t 6 rfl H32 (fun _ H=>x_r m (H.rr 6) (intE.flAt1 hx33 rfl)) ?_
   refine y_p 7 rfl (fun _=>xm) ?_
   refine y_one (i:=8) (by kernel_rfl) rfl ?_
   refine s_call0 H32 (wt0 rfl) (x_call' rfl rfl cl31) (tsum_s x30.l x30.p x30.l.length x30.c (fun y hy=>by have h9:=hzb9 y hy; omega) (by omega) _ (H32.poolRow (k:=0) rfl hrdm hx30)) rfl rfl ?_
   intro wq34 H35
   refine y_k H35 (H35.mask [true,false,true,true,true,true,false,true,true,true,true]) ?_
   refine y_p (v:=.int .i64 (x33+(sumI x30.l))) 9 rfl (fun _=>x_bin rfl rfl rfl (b_add (w64 (by omega)))) ?_
   refine y_p 10 rfl (fun _=>x_ip m ((H35.rr 6).some (by omega))) ?_
   refine y_one (i:=11) (by kernel_rfl) rfl ?_
   refine s_stoL (j:=m) intE (x33+(sumI x30.l)) H35 6 (wt0 rfl) rfl rfl rfl rfl rfl rfl sz3 (by omega) ?_
   intro wq36 H37
   refine y_kt rfl (H37.mask [true,false,true,true,true,true,false,true,true,true,true]) ?_
   refine y_done (by kernel_rfl) ?_
   refine w_k7 ?_
   obtain ⟨b,hb⟩:=ex_at (l:=bl) (j:=m) (by omega)
   have hbl9:(bs.map Ro.l)[m]?=some b.l:=by rw [← mapK_at (f:=fun j b=>addL b (rd.v.getD j [])) (l:=bs.map Ro.l) (Nat.le_refl m),← hbm,List.getElem?_map,hb]; rfl
   have hbn9:b.l.length=ps.length:=by obtain ⟨b0,hb0,e0⟩:=List.mem_map.1 (List.mem_of_getElem? hbl9); rw [← e0]; exact hbw b0 hb0
   have H38:S _ [_,_,_,_,_,_,_,_,_,_,_,_]:=S.lstOut (F:=BwI) (H37.tk [8,0,1,2,3,4,5,6,7,9,10]) hb
   refine g_loop (ι:=Nat × List Int × List Int) (fun (j,gt2,bx)=>[(0,.pointer (some ⟨g,0,none⟩)),(4,.slice rd.p rd.l.length rd.c),(7,.int .i64 ((m:Int))),(54,.slice rd.p rd.l.length rd.c),(55,.int .i64 ((rd.l.length:Int))),(56,.int .i64 ((m:Int))),(72,.slice x30.p x30.l.length x30.c),(73,.int .i64 ((x30.l.length:Int))),(74,.int .i64 ((j:Int)))]) (fun (j,gt2,bx) wx=>(j≤x30.l.length)∧(gt2=mapK (fun t x=>x+x30.l.getD t 0) j gt)∧(gt2.length=gt.length)∧(bx=mapK (fun t x=>x+x30.l.getD t 0) j b.l)∧(bx.length=b.l.length)∧S wx [Rw 3 1 b.p b.l.length b.c (fl intL bx),(Lst BwI (bl.eraseIdx m)),(Pool (pl++[rd])),Ob g (.cells #[.slice gp2 ((gs++[rd]).length) gc2,.string seed,.slice pp ps.length pc,.slice sp ss.length sc,.slice tp got.length tc,.slice vp gave.length vc,.slice bp bl.length bc] 61 (0,0)),Rw 39 1 gp2 ((gs++[rd]).length) gc2 (fl rowL (gs++[rd])),Rw 27 2 pp ps.length pc (fl plL ps),Rw 63 1 sp ss.length sc (fl sgL ss),Rw 3 1 tp got.length tc (fl intL gt2),Rw 3 1 vp gave.length vc (fl intL (gv9.set m (x33+(sumI x30.l)))),Rw 43 1 bp bl.length bc (fl rowL bl),(Lst SgI ssl),Old w (fps [Ob g (.cells #[.slice gp gs.length gc,.string seed,.slice pp ps.length pc,.slice sp ss.length sc,.slice tp got.length tc,.slice vp gave.length vc,.slice bp bs.length bc] 61 (0,0)),Rw 39 1 gp gs.length gc (fl rowL gs),Rw 27 2 pp ps.length pc (fl plL ps),Rw 63 1 sp ss.length sc (fl sgL ss),Rw 3 1 tp got.length tc (fl intL got),Rw 3 1 vp gave.length vc (fl intL gave),Rw 43 1 bp bs.length bc (fl rowL bs),(Lst BwI bs),(Lst SgI ss),(Pool pl)])]) (fun (j,gt2,bx)=>x30.l.length - j) (0,gt,b.l) ⟨rfl,rfl,rfl,rfl,rfl,rfl,rfl,rfl,rfl,trivial⟩ ⟨Nat.zero_le _,mapK_zero.symm,rfl,mapK_zero.symm,rfl,(H38.tk [0,1,2,3,4,5,6,7,8,9,10,11])⟩ ?_
   rintro ⟨j,gt2,bx⟩ wq39 ⟨hj,hg2,hgl2,hbx,hbl2,H40⟩
   refine g_wk [(0,_),(4,_),(7,_),(54,_),(55,_),(56,_),(72,_),(73,_),(74,_)] ?_
   refine w_s ?_
   refine w_k2 ?_
   refine g_seq ?_
   by_cases hb41:((j:Int):Int)<(x30.l.length:Int)
   ·
    refine g_ct hb41 ?_
    refine w_k5 ?_
    clear hsz9 hyb9
    refine w_m ?_
    refine w_v (x_i j (H40.poolRow (k:=2) rfl hrdm hx30)) ?_
    obtain ⟨x42,hx42⟩:=(H40.poolRow (k:=2) rfl hrdm hx30).exL intE j
    have hqb9:=hzb9.at hx42
    refine w_v (x_r j (H40.poolRow (k:=2) rfl hrdm hx30) (intE.flAt1 hx42 rfl)) ?_
    refine w_k9 ?_
    refine w_v (x_i j (H40.rr 7)) ?_
    obtain ⟨x43,hx43⟩:=(H40.rr 7).exL intE j
    have hgj9:gt[j]?=some x43:=by rw [← mapK_at (f:=fun t x=>x+x30.l.getD t 0) (l:=gt) (Nat.le_refl j),← hg2]; exact hx43
    have hgb9:=hgtb.at hgj9
    refine w_v (x_r j (H40.rr 7) (intE.flAt1 hx43 rfl)) ?_
    refine w_m ?_
    refine w_b (v:=.int .i64 (x43+x42)) (hb:=(b_add (w64 (by omega)))) ?_
    refine w_v (x_i j (H40.rr 7)) ?_
    refine l_of (s_stoL (j:=j) intE (x43+x42) H40 7 (wt0 rfl) rfl rfl rfl rfl rfl rfl sz3 (by omega) ?_)
    intro wq44 H45
    refine w_k7 ?_
    refine w_v (x_i m (H45.rr 9)) ?_
    refine w_v (x_r m (H45.rr 9) (rowE.flAt1 hb rfl)) ?_
    refine w_m ?_
    refine w_v (x_i j (H45.rr 0)) ?_
    obtain ⟨x46,hx46⟩:=(H45.rr 0).exL intE j
    have hbj9:b.l[j]?=some x46:=by rw [← mapK_at (f:=fun t x=>x+x30.l.getD t 0) (l:=b.l) (Nat.le_refl j),← hbx]; exact hx46
    have hbb9:=(hbb _ (List.mem_of_getElem? hbl9)).at hbj9
    refine w_v (x_r j (H45.rr 0) (intE.flAt1 hx46 rfl)) ?_
    refine w_m ?_
    refine w_b (v:=.int .i64 (x46+x42)) (hb:=(b_add (w64 (by omega)))) ?_
    refine w_v (x_i j (H45.rr 0)) ?_
    refine l_of (s_stoL (j:=j) intE (x46+x42) H45 0 (wt0 rfl) rfl rfl rfl rfl rfl rfl sz3 (by omega) ?_)
    intro wq47 H48
    refine w_k4 ?_
    refine w_i j ?_
    refine w_k2 ?_
    refine g_rd (i:=(j,gt2,bx)) ((j+1),(gt2.set j (x43+x42)),(bx.set j (x46+x42))) ⟨by omega,(by rw [mapK_succ hgj9,← hg2,getD_atT hx42]),(by rw [List.length_set]; exact hgl2),(by rw [mapK_succ hbj9,← hbx,getD_atT hx42]),(by rw [List.length_set]; exact hbl2),(H48.tk [0,1,2,3,4,5,6,7,8,9,10,11])⟩
   ·
    refine g_cf hb41 ?_
    refine w_k7 ?_
    refine w_i m ?_
    refine w_k2 ?_
    have hje:j=x30.l.length:=by omega
    rw [hje] at hg2 hbx
    have hb9:BwI (⟨b.p,b.c,bx⟩:Ro Int)=Rw 3 1 b.p b.l.length b.c (fl intL bx):=by unfold BwI; dsimp only; rw [hbl2]
    have hr9:rowL (⟨b.p,b.c,bx⟩:Ro Int)=rowL b:=by unfold rowL roV; dsimp only; rw [hbl2]
    have H49:S _ [_,_,_,_,_,_,_,_,_,_,_]:=S.lstIn (F:=BwI) (x:=(⟨b.p,b.c,bx⟩:Ro Int)) (by rw [hb9]; exact H40.tk [0,1,2,3,4,5,6,7,8,9,10,11]) (List.getElem?_eq_some_iff.1 hb).1
    have hls:(bl.set m (⟨b.p,b.c,bx⟩:Ro Int)).length=bl.length:=List.length_set ..
    rw [← hls,show fl rowL bl=fl rowL (bl.set m (⟨b.p,b.c,bx⟩:Ro Int)) from (fl_map (map_setS hb hr9)).symm] at H49
    replace H49:S wq39 [(Lst BwI (bl.set m (⟨b.p,b.c,bx⟩:Ro Int))),(Pool (pl++[rd])),Ob g (.cells #[.slice gp2 ((gs++[rd]).length) gc2,.string seed,.slice pp ps.length pc,.slice sp ss.length sc,.slice tp got.length tc,.slice vp gave.length vc,.slice bp ((bl.set m (⟨b.p,b.c,bx⟩:Ro Int)).length) bc] 61 (0,0)),Rw 39 1 gp2 ((gs++[rd]).length) gc2 (fl rowL (gs++[rd])),Rw 27 2 pp ps.length pc (fl plL ps),Rw 63 1 sp ss.length sc (fl sgL ss),Rw 3 1 tp got.length tc (fl intL gt2),Rw 3 1 vp gave.length vc (fl intL (gv9.set m (x33+(sumI x30.l)))),Rw 43 1 bp ((bl.set m (⟨b.p,b.c,bx⟩:Ro Int)).length) bc (fl rowL (bl.set m (⟨b.p,b.c,bx⟩:Ro Int))),(Lst SgI ssl),Old w (fps [Ob g (.cells #[.slice gp gs.length gc,.string seed,.slice pp ps.length pc,.slice sp ss.length sc,.slice tp got.length tc,.slice vp gave.length vc,.slice bp bs.length bc] 61 (0,0)),Rw 39 1 gp gs.length gc (fl rowL gs),Rw 27 2 pp ps.length pc (fl plL ps),Rw 63 1 sp ss.length sc (fl sgL ss),Rw 3 1 tp got.length tc (fl intL got),Rw 3 1 vp gave.length vc (fl intL gave),Rw 43 1 bp bs.length bc (fl rowL bs),(Lst BwI bs),(Lst SgI ss),(Pool pl)])]:=H49
    refine g_rd (i:=(m,rd,gp2,gc2,gt,gv9,bl)) ((m+1),rd,gp2,gc2,gt2,(gv9.set m (x33+(sumI x30.l))),(bl.set m (⟨b.p,b.c,bx⟩:Ro Int))) ⟨by omega,hrdv,hG2,hrdm,hrdg,hrl,(by rw [take_snocT hzv9,gotF_snoc,← hgt]; exact hg2),(hgl2.trans hgtl),(by rw [hg2]; exact (addL_bd hgtb hzb9 (by omega)).up (by omega)),(by rw [mapK_succ hgy9,← hgv,hzd9]),(by rw [List.length_set]; exact hgvl),(by rw [List.map_set,hbm,mapK_succ hbl9,hzd9]; exact congrArg _ hbx),(by rw [List.length_set]; exact hbll),(H49.tk [1,2,3,4,5,6,7,8,0,9,10])⟩
  ·
   refine g_cf hb29 ?_
   refine w_k15 ?_
   have hmn:m=rd.l.length:=by omega
   refine g_loop (ι:=Nat × List Sg) (fun (k,ssl2)=>[(0,.pointer (some ⟨g,0,none⟩)),(4,.slice rd.p rd.l.length rd.c),(107,.slice sp ss.length sc),(108,.int .i64 ((ss.length:Int))),(109,.int .i64 ((k:Int)))]) (fun (k,ssl2) wx=>(k≤ss.length)∧(ssl2.length=ss.length)∧(∀ j,k≤j→ssl2[j]?=ssl[j]?)∧(ssl2.map sgL=ss.map sgL)∧(ssl2.map Sg.sp=mapK (bhP ps ((gs++[rd]).map Rd.v)) k (ssl.map Sg.sp))∧S wx [(Pool (pl++[rd])),Ob g (.cells #[.slice gp2 ((gs++[rd]).length) gc2,.string seed,.slice pp ps.length pc,.slice sp ss.length sc,.slice tp got.length tc,.slice vp gave.length vc,.slice bp bl.length bc] 61 (0,0)),Rw 39 1 gp2 ((gs++[rd]).length) gc2 (fl rowL (gs++[rd])),Rw 27 2 pp ps.length pc (fl plL ps),Rw 63 1 sp ss.length sc (fl sgL ss),Rw 3 1 tp got.length tc (fl intL gt),Rw 3 1 vp gave.length vc (fl intL gv9),Rw 43 1 bp bl.length bc (fl rowL bl),(Lst BwI bl),(Lst SgI ssl2),Old w (fps [Ob g (.cells #[.slice gp gs.length gc,.string seed,.slice pp ps.length pc,.slice sp ss.length sc,.slice tp got.length tc,.slice vp gave.length vc,.slice bp bs.length bc] 61 (0,0)),Rw 39 1 gp gs.length gc (fl rowL gs),Rw 27 2 pp ps.length pc (fl plL ps),Rw 63 1 sp ss.length sc (fl sgL ss),Rw 3 1 tp got.length tc (fl intL got),Rw 3 1 vp gave.length vc (fl intL gave),Rw 43 1 bp bs.length bc (fl rowL bs),(Lst BwI bs),(Lst SgI ss),(Pool pl)])]) (fun (k,ssl2)=>ss.length - k) (0,ssl) ⟨rfl,rfl,rfl,rfl,rfl,trivial⟩ ⟨Nat.zero_le _,hl,(fun _ _=>rfl),hsg,mapK_zero.symm,(H28.tk [0,1,2,3,4,5,6,7,8,9,10])⟩ ?_
   rintro ⟨k,ssl2⟩ wq50 ⟨hk,hl2,hat2,hsg2,hsp2,H51⟩
   refine g_wk [(0,_),(4,_),(107,_),(108,_),(109,_)] ?_
   refine w_s ?_
   refine w_k2 ?_
   refine g_seq ?_
   by_cases hb52:((k:Int):Int)<(ss.length:Int)
   ·
    refine g_ct hb52 ?_
    refine w_k6 ?_
    refine w_v (x_i k (H51.rr 4)) ?_
    obtain ⟨x53,hx53⟩:=(H51.rr 4).exL sgE k
    refine w_v (x_r k (H51.rr 4) (sgE.flAt1 hx53 rfl)) ?_
    refine w_k7 ?_
    obtain ⟨pm,hpm⟩:=ex_at (l:=ps) (j:=k) (by omega)
    have hpr:=hpv pm (List.mem_of_getElem? hpm)
    obtain ⟨y,hy⟩:=ex_at (l:=ssl) (j:=k) (by omega)
    have hys8:ssl2[k]?=some y:=(hat2 k (Nat.le_refl _)).trans hy
    have hxm8:(ss.map Sg.sp)[k]?=some x53.sp:=by rw [List.getElem?_map,hx53]; rfl
    have hyx8:y.sp=gvP (⟨seed,ps,ss.map Sg.sp,gs.map Rd.v,got,gave,bs.map Ro.l⟩:GA) k x53.sp:=by have h9:(ssl.map Sg.sp)[k]?=some y.sp:=(by rw [List.getElem?_map,hy]; rfl); rw [hsp,mapK_lt (by omega) hxm8] at h9; exact (Option.some.inj h9).symm
    have hgk8:=giveP_k ps.length (rtA ps k) (gs.map Rd.v) k x53.sp
    have hyk8:y.k=x53.k:=(congrArg Sp.k hyx8).trans hgk8.1
    have hyP8:y.P=x53.P:=(congrArg Sp.P hyx8).trans hgk8.2.1
    have hyB8:y.B=x53.B:=(congrArg Sp.B hyx8).trans hgk8.2.2
    have hxk8:=hkr x53 (List.mem_of_getElem? hx53)
    have hty8:=sgL_ty (a:=y) (b:=x53) (by have h9:(ssl.map sgL)[k]?=some (sgL y):=(by rw [List.getElem?_map,hy]; rfl); rw [hsg,List.getElem?_map,hx53] at h9; exact (Option.some.inj h9).symm)
    obtain ⟨f8,rv8,hfd8,hcl8,hgv8⟩:=behind_all g seed pp pc ps sp sc ss.length tp tc got.length vp vc gave.length bp bc bl (pl++[rd]) (gs++[rd]) gp2 gc2 hG2 (by rw [List.length_append,List.length_singleton]; omega) h2p hnp hsd (by omega) (fun b9 hb9=>by have h9:b9.l∈mapK (fun j b=>addL b (rd.v.getD j [])) m (bs.map Ro.l):=hbm ▸ List.mem_map.2 ⟨b9,hb9,rfl⟩; exact mapK_all (P:=fun l=>l.length=ps.length) (fun l hl=>by obtain ⟨b0,hb0,rfl⟩:=List.mem_map.1 hl; exact hbw b0 hb0) (fun i l hl=>by rw [addL_len]; obtain ⟨b0,hb0,rfl⟩:=List.mem_map.1 (List.mem_of_getElem? hl); exact hbw b0 hb0) _ h9) ssl2 k pm hpm hpr y hys8 (by rw [hyk8]; exact hxk8) (by rw [hyP8]; exact hP x53 (List.mem_of_getElem? hx53)) Kb hK (by rw [hyB8]; exact hB x53 (List.mem_of_getElem? hx53)) (hcg k y (by omega) hy)
    rw [hty8.1,hty8.2] at hfd8
    refine l_of (s_call (wt0 rfl) (x_invoke rfl rfl rfl hfd8 hcl8) (hgv8 _ (H51.tk [1,2,3,0,7,8,9])) ?_)
    rintro _ wq54 ⟨s8,rfl,hsp8,hsg8,hbq8,H55⟩
    replace H55:S _ [_,_,_,_,_,_,_,_,_,_,_]:=H51.abI (new:=[_,_,_,_,_,_,_]) [1,2,3,0,7,8,9] H55 rfl
    have hym8:(ssl.map Sg.sp)[k]?=some y.sp:=by rw [List.getElem?_map,hy]; rfl
    have hgp8:bhP ps ((gs++[rd]).map Rd.v) k y.sp=s8.sp:=by rw [hsp8]; show behP ps.length (rtA ps k) ((gs++[rd]).map Rd.v) k y.sp=_; rw [rtA_is hpm]
    refine b_ret rfl rfl ?_
    refine w_k4 ?_
    refine w_i k ?_
    refine w_k2 ?_
    refine g_rd (i:=(k,ssl2)) ((k+1),(ssl2.set k s8)) ⟨by omega,(by rw [List.length_set]; exact hl2),(fun j hj=>by rw [List.getElem?_set_ne (by omega)]; exact hat2 j (by omega)),((map_setS hys8 hsg8).trans hsg2),(by rw [List.map_set,hsp2,mapK_succ hym8,hgp8]),(H55.tk [3,0,1,2,7,8,9,4,5,6,10])⟩
   ·
    refine g_cf hb52 ?_
    refine w_k7 ?_
    refine l_of (s_cl (cloned_s rd.l rd.p rd.l.length rd.c (by omega) (fun x hx=>by have h9:=(hG2.ok rd hrdg).row x.l (List.mem_map.2 ⟨x,hx,rfl⟩); omega) _ (H51.poolRd (k:=0) rfl hrdm) (fun x hx=>(by obtain ⟨j9,hj9⟩:=List.getElem?_of_mem hx; exact H51.poolRow (k:=0) rfl hrdm hj9))) ?_)
    rintro _ wq56 ⟨pz,cz,zz,rfl,hzz,H57⟩
    replace H57:S _ [_,_,_,_,_,_,_,_,_,_,_,_,_]:=H51.ab (new:=[_,_]) H57 rfl
    refine b_ret rfl rfl ?_
    refine w_k4 ?_
    refine fin_r [.tmp 2,.tmp 3] [.slice pz zz.length cz,.int .i64 0] ?_
    have hkn:k=ps.length:=by omega
    have hin2:i=ps.length:=by omega
    have hmv:m=rd.v.length:=by unfold Rd.v; rw [List.length_map]; omega
    have hgvA:(gs++[rd]).map Rd.v=gs.map Rd.v++[roundR (⟨seed,ps,ss.map Sg.sp,gs.map Rd.v,got,gave,bs.map Ro.l⟩:GA)]:=by rw [List.map_append]; show _++[rd.v]=_; rw [hrdv]
    rw [hkn,hsp,hin2,hgvA] at hsp2
    rw [hmv,hrdv] at hgv hbm
    rw [hmv,List.take_length,hrdv] at hgt
    exact ⟨_,_,_,_,_,_,_,_,_,_,rfl,hzz,hrdv,hG2,⟨hl2,hsg2,hsp2⟩,⟨hgt,hgtl⟩,⟨hgv,hgvl⟩,hbm,H57.tk [0,1,3,4,5,6,7,8,9,10,11,2,12]⟩
end Go.Proofs.YtpbjekdjebjbkaaGreatDoor
