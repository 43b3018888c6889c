import Derived.Test.YtpbjekdjebjbkaaGreatDoorTq
import Derived.Test.YtpbjekdjebjbkaaGreatDoorFm
set_option maxRecDepth 20000
set_option maxHeartbeats 4000000
set_option linter.unusedSimpArgs false
set_option linter.unusedVariables false
namespace Go.Proofs.YtpbjekdjebjbkaaGreatDoor
open Go.RowKit
structure GOK (A:GA):Prop where
 n2:2≤A.ps.length
 n9:A.ps.length≤9
 sd:A.sd.size≤100
 pv:∀ p∈A.ps,(1≤p.st∧p.st≤7)∧0≤p.rt∧p.rt≤1000000
 sk:A.ss.map Sp.k=A.ps.map Pl.st
 sP:∀ s∈A.ss,∀ j v,s.P j=some v→0≤v∧v≤1000000
 sB:∀ s∈A.ss,∀ j v,s.B j=some v→0≤v∧v≤10 * (A.gv.length:Int)
 gr:∀ r∈A.gv,RdOK A.ps.length r
 gt:A.got.length=A.ps.length∧BdL (10000000 * (A.gv.length:Int)) A.got
 gg:A.gave.length=A.ps.length∧BdL (10000000 * (A.gv.length:Int)) A.gave
 bw:A.bw.length=A.ps.length∧∀ l∈A.bw,l.length=A.ps.length∧BdL (10000000 * (A.gv.length:Int)) l
theorem GOK.sl {A:GA} (h:GOK A):A.ss.length=A.ps.length:=by
 have:=congrArg List.length h.sk
 rwa [List.length_map,List.length_map] at this
theorem lastV_pl {n:Nat} {G:List (List (List Int))} (h:∀ r∈G,RdOK n r) (a b:Int):0≤lastV G a b∧lastV G a b≤1000000:=by
 unfold lastV
 cases e:G.getLast? with
 | none=>show (0:Int)≤0∧(0:Int)≤1000000; decide
 | some r=>exact (h r (List.mem_of_getLast? e)).at2 a b
theorem GOK.at {A:GA} (h:GOK A) {i:Nat} (hi:i<A.ps.length):∃ p s,A.ps[i]?=some p∧A.ss[i]?=some s∧s.k=p.st∧((1≤p.st∧p.st≤7)∧0≤p.rt∧p.rt≤1000000):=by
 obtain ⟨p,hp⟩:=ex_at (l:=A.ps) (j:=i) hi
 obtain ⟨s,hs⟩:=ex_at (l:=A.ss) (j:=i) (by rw [h.sl]; exact hi)
 have h1:=congrArg (fun l=>l[i]?) h.sk
 simp only [List.getElem?_map,hp,hs,Option.map_some,Option.some.injEq] at h1
 exact ⟨p,s,hp,hs,h1,h.pv p (List.mem_of_getElem? hp)⟩
theorem GOK.row {A:GA} (h:GOK A) {i:Nat} {p:Pl} (hp:A.ps[i]?=some p):RowB A.ps.length i p.rt (rowR A i):=by
 have hi:=(List.getElem?_eq_some_iff.1 hp).1
 obtain ⟨p',s,hp',hs,hk,hv⟩:=h.at hi
 rw [hp] at hp'
 obtain rfl:=Option.some.inj hp'
 rw [rowR_is hp hs]
 exact giveV_row h.n2 (by omega) (by omega) hv.2.1 (fun a b=>(lastV_pl h.gr a b).1) fun j v hj=>(h.sP s (List.mem_of_getElem? hs) j v hj).1
theorem GOK.round_at {A:GA} {i:Nat} (hi:i<A.ps.length):(roundR A)[i]?=some (rowR A i):=by
 unfold roundR
 rw [List.getElem?_map,List.getElem?_range hi]; rfl
theorem roundR_len (A:GA):(roundR A).length=A.ps.length:=by unfold roundR; rw [List.length_map,List.length_range]
theorem GOK.round_mem {A:GA} (h:GOK A) {r:List Int} (hr:r∈roundR A):∃ i p,A.ps[i]?=some p∧r=rowR A i:=by
 unfold roundR at hr
 obtain ⟨i,hi,rfl⟩:=List.mem_map.1 hr
 rw [List.mem_range] at hi
 obtain ⟨p,hp⟩:=ex_at (l:=A.ps) (j:=i) hi
 exact ⟨i,p,hp,rfl⟩
theorem GOK.row_bd {A:GA} (h:GOK A) {r:List Int} (hr:r∈roundR A):r.length=A.ps.length∧BdL 1000000 r∧0≤sumI r∧sumI r≤1000000:=by
 obtain ⟨i,p,hp,rfl⟩:=h.round_mem hr
 have h1:=h.row hp
 have h2:=h.pv p (List.mem_of_getElem? hp)
 refine ⟨h1.len,fun y hy=>⟨h1.pos y hy,?_⟩,?_,?_⟩
 · have:=mem_le_sum h1.pos y hy
   have:=h1.sum
   omega
 · exact (sumI_bd (B:=1000000) fun y hy=>⟨h1.pos y hy,by
     have:=mem_le_sum h1.pos y hy
     have:=h1.sum
     omega⟩).1
 · have:=h1.sum
   omega
theorem GOK.rok {A:GA} (h:GOK A):RdOK A.ps.length (roundR A) where
 len:=roundR_len A
 row x hx:=(h.row_bd hx).1
 pos x hx y hy:=(h.row_bd hx).2.1 y hy
theorem gotF_bd {R:Int} (hR:0≤R):∀ (rows:List (List Int)) {B:Int} {g:List Int},BdL B g→(∀ r∈rows,BdL R r)→BdL (B+rows.length * R) (gotF rows g)
 | [],B,g,h,_=>by simpa [gotF] using h
 | a :: rows,B,g,h,hr=>by
   have h1:=addL_bd h (hr a List.mem_cons_self) hR
   have h2:=gotF_bd hR rows h1 fun r hr'=>hr r (List.mem_cons_of_mem _ hr')
   refine BdL.up h2 ?_
   rw [List.length_cons,Int.natCast_succ,Int.add_mul]; omega
theorem mapK_mapk {α β:Type} {f:Nat→α→α} {k:Nat} {l:List α} {g:α→β} (h:∀ i x,g (f i x)=g x):(mapK f k l).map g=l.map g:=by
 apply List.ext_getElem?
 intro i
 rw [List.getElem?_map,List.getElem?_map,mapK_get]
 cases l[i]? with
 | none=>rfl
 | some x =>
   show some (g (if i<k then f i x else x))=some (g x)
   split
   · rw [h]
   · rfl
theorem GOK.step {A:GA} (h:GOK A):GOK (stepA A) where
 n2:=h.n2
 n9:=h.n9
 sd:=h.sd
 pv:=h.pv
 sk:=by
   have e1:(mapK (bhP A.ps (A.gv++[roundR A])) A.ps.length (mapK (gvP A) A.ps.length A.ss)).map Sp.k=(mapK (gvP A) A.ps.length A.ss).map Sp.k:=mapK_mapk (fun i x=>behP_k _ _ _ _ _)
   have e2:(mapK (gvP A) A.ps.length A.ss).map Sp.k=A.ss.map Sp.k:=mapK_mapk (fun i x=>(giveP_k _ _ _ _ _).1)
   exact (e1.trans e2).trans h.sk
 sP:=by
   have hrt:∀ i,0≤rtA A.ps i∧rtA A.ps i≤1000000:=fun i=>by
     unfold rtA
     cases hp:A.ps[i]? with
     | none=>show (0:Int)≤0∧(0:Int)≤1000000; decide
     | some p=>exact (h.pv p (List.mem_of_getElem? hp)).2
   have h1:∀ s∈mapK (gvP A) A.ps.length A.ss,(∀ j v,s.P j=some v→0≤v∧v≤1000000)∧∀ j v,s.B j=some v→0≤v∧v≤10 * (A.gv.length:Int):=by
     refine mapK_all (fun s hs=>⟨h.sP s hs,h.sB s hs⟩) fun i s hs=>?_
     have e:=giveP_k A.ps.length (rtA A.ps i) A.gv i s
     unfold gvP
     rw [e.2.1,e.2.2]
     exact ⟨h.sP s (List.mem_of_getElem? hs),h.sB s (List.mem_of_getElem? hs)⟩
   refine fun s hs=>?_
   refine mapK_all (P:=fun s:Sp=>∀ j v,s.P j=some v→0≤v∧v≤1000000) (fun s hs=>(h1 s hs).1) (fun i s hs=>?_) s hs
   have h2:=h1 s (List.mem_of_getElem? hs)
   unfold bhP behP
   split
   · exact (behF_bd (K:=10 * (A.gv.length:Int)) (s:=(s.P,s.B)) (hrt i) _ (by omega) h2.1 h2.2).1
   · exact h2.1
 sB:=by
   have hrt:∀ i,0≤rtA A.ps i∧rtA A.ps i≤1000000:=fun i=>by
     unfold rtA
     cases hp:A.ps[i]? with
     | none=>show (0:Int)≤0∧(0:Int)≤1000000; decide
     | some p=>exact (h.pv p (List.mem_of_getElem? hp)).2
   have h1:∀ s∈mapK (gvP A) A.ps.length A.ss,(∀ j v,s.P j=some v→0≤v∧v≤1000000)∧∀ j v,s.B j=some v→0≤v∧v≤10 * (A.gv.length:Int):=by
     refine mapK_all (fun s hs=>⟨h.sP s hs,h.sB s hs⟩) fun i s hs=>?_
     have e:=giveP_k A.ps.length (rtA A.ps i) A.gv i s
     unfold gvP
     rw [e.2.1,e.2.2]
     exact ⟨h.sP s (List.mem_of_getElem? hs),h.sB s (List.mem_of_getElem? hs)⟩
   have hl:((stepA A).gv.length:Int)=A.gv.length+1:=by
     show ((A.gv++[roundR A]).length:Int)=_
     rw [List.length_append,List.length_singleton]; omega
   rw [hl]
   refine fun s hs=>?_
   refine mapK_all (P:=fun s:Sp=>∀ j v,s.B j=some v→0≤v∧v≤10 * ((A.gv.length:Int)+1)) (fun s hs=>bd_up (h1 s hs).2 (by omega)) (fun i s hs=>?_) s hs
   have h2:=h1 s (List.mem_of_getElem? hs)
   have h9:=h.n9
   unfold bhP behP
   split
   · have h3:=(behF_bd (C:=s.C) (f:=fun j=>lastV (A.gv++[roundR A]) j i) (K:=10 * (A.gv.length:Int)) (s:=(s.P,s.B)) (hrt i) (othV A.ps.length i) (by omega) h2.1 h2.2).2
     have h4:=othV_len A.ps.length i
     exact bd_up h3 (by omega)
   · exact bd_up h2.2 (by omega)
 gr r hr:=by
   have hr:r∈A.gv++[roundR A]:=hr
   rcases List.mem_append.1 hr with hr | hr
   · exact h.gr r hr
   · rw [List.mem_singleton.1 hr]; exact h.rok
 gt:=by
   have hl:((stepA A).gv.length:Int)=A.gv.length+1:=by
     show ((A.gv++[roundR A]).length:Int)=_
     rw [List.length_append,List.length_singleton]; omega
   refine ⟨(gotF_len _ _).trans h.gt.1,?_⟩
   rw [hl]
   have h1:=gotF_bd (R:=1000000) (by decide) (roundR A) h.gt.2 fun r hr=>(h.row_bd hr).2.1
   have h9:=h.n9
   rw [roundR_len] at h1
   exact h1.up (by omega)
 gg:=by
   have hl:((stepA A).gv.length:Int)=A.gv.length+1:=by
     show ((A.gv++[roundR A]).length:Int)=_
     rw [List.length_append,List.length_singleton]; omega
   refine ⟨mapK_len.trans h.gg.1,?_⟩
   rw [hl]
   refine mapK_all (P:=fun x=>0≤x∧x≤10000000 * ((A.gv.length:Int)+1)) (h.gg.2.up (by omega)) fun i x hx=>?_
   have h1:=h.gg.2.at hx
   have h2:0≤sumI ((roundR A).getD i [])∧sumI ((roundR A).getD i [])≤1000000:=by
     rw [List.getD_eq_getElem?_getD]
     cases hr:(roundR A)[i]? with
     | none=>show (0:Int)≤0∧(0:Int)≤1000000; decide
     | some r=>exact (h.row_bd (List.mem_of_getElem? hr)).2.2
   show 0≤x+sumI ((roundR A).getD i [])∧_≤_
   omega
 bw:=by
   have hl:((stepA A).gv.length:Int)=A.gv.length+1:=by
     show ((A.gv++[roundR A]).length:Int)=_
     rw [List.length_append,List.length_singleton]; omega
   refine ⟨mapK_len.trans h.bw.1,?_⟩
   rw [hl]
   refine mapK_all (P:=fun l:List Int=>l.length=A.ps.length∧BdL (10000000 * ((A.gv.length:Int)+1)) l) (fun l hl=>⟨(h.bw.2 l hl).1,(h.bw.2 l hl).2.up (by omega)⟩) fun i l hl=>?_
   have h1:=h.bw.2 l (List.mem_of_getElem? hl)
   refine ⟨(addL_len _ _).trans h1.1,?_⟩
   have h2:BdL 1000000 ((roundR A).getD i []):=by
     rw [List.getD_eq_getElem?_getD]
     cases hr:(roundR A)[i]? with
     | none=>exact fun x hx=>absurd hx List.not_mem_nil
     | some r=>exact (h.row_bd (List.mem_of_getElem? hr)).2.1
   exact (addL_bd h1.2 h2 (by decide)).up (by omega)
structure MOK (pl:List Rd) (X:GM):Prop where
 ok:GOK X.A
 mem:∀ r∈X.gs,r∈pl
theorem MOK.more {pl pl':List Rd} {X:GM} (h:MOK pl X) (hp:∀ r∈pl,r∈pl'):MOK pl' X:=⟨h.ok,fun r hr=>hp r (h.mem r hr)⟩
theorem MOK.gs {pl:List Rd} {X:GM} (h:MOK pl X):GsOK X.ps.length pl X.gs:=⟨h.mem,fun r hr=>h.ok.gr r.v (List.mem_map.2 ⟨r,hr,rfl⟩)⟩
theorem MOK.gvl {pl:List Rd} {X:GM} (h:MOK pl X):X.A.gv.length=X.gs.length:=List.length_map ..
theorem round_x {pl:List Rd} (X:GM) (h:MOK pl X) (hg:X.gs.length≤190) (w:World) (HS:S w [X.I,Pool pl]) :
   Calls Tryz.prog 13 #[.pointer (some ⟨X.g,0,none⟩)] w fun e w'=>∃ p' c' zz X' rd,e=.returned (.tuple #[.slice p' zz.length c',.int .i64 0])∧zz.map Ro.l=roundR X.A∧X'.A=stepA X.A∧X'.g=X.g∧X'.gs.length=X.gs.length+1∧MOK (pl++[rd]) X' ∧
     S w' ([Rw 43 1 p' zz.length c' (fl rowL zz),Lst BwI zz,X'.I,Pool (pl++[rd])]++[Old w (fps [X.I,Pool pl])]):=by
 have H:=HS.beginI
 have H1:=S.unbig (L:=[_,_,_,_,_,_,_,_,_]) H
 have hA:=h.ok
 have hgl:(X.A.gv.length:Int)=X.gs.length:=by rw [h.gvl]
 have hss:X.ss.length=X.ps.length:=by
   have:=hA.sl
   rwa [show X.A.ss.length=X.ss.length from List.length_map ..] at this
 have hkr:∀ s∈X.ss,1≤s.k∧s.k≤7:=fun s hs=>by
   have h1:s.k∈X.A.ss.map Sp.k:=List.mem_map.2 ⟨s.sp,List.mem_map.2 ⟨s,hs,rfl⟩,rfl⟩
   rw [hA.sk] at h1
   obtain ⟨p,hp,e⟩:=List.mem_map.1 h1
   rw [← e]
   exact (hA.pv p hp).1
 refine (round_s X.g X.sd X.pp X.pc X.ps X.sp X.sc X.ss X.tp X.tc X.got X.vp X.vc X.gave X.bp X.bc X.bs pl X.gs X.gp X.gc h.gs hg hA.n2 hA.n9 hA.sd (by
     have:=hA.bw.1
     rwa [show X.A.bw.length=X.bs.length from List.length_map ..] at this) (fun x hx=>(hA.bw.2 x.l (List.mem_map.2 ⟨x,hx,rfl⟩)).1) hss (fun p hp=>(hA.pv p hp).2) hkr
   (fun s hs=>hA.sP s.sp (List.mem_map.2 ⟨s,hs,rfl⟩)) (10 * (X.A.gv.length:Int)) (by omega) (fun s hs=>hA.sB s.sp (List.mem_map.2 ⟨s,hs,rfl⟩)) (10000000 * (X.A.gv.length:Int)) (by omega) hA.gt.1 hA.gt.2 hA.gg.1 hA.gg.2 (fun l hl=>(hA.bw.2 l hl).2) hA.rok w
   (H1.takes [0,1,2,3,4,5,6,7,8,9] (by decide))).mono ?_
 rintro e w' ⟨p',c',zz,rd,gp2,gc2,ssl2,gt,gv9,bl,rfl,hzz,hrd,hG2,⟨hl2,hsg2,hsp2⟩,⟨hgt,hgtl⟩,⟨hgv,hgvl⟩,hbm,H2⟩
 have H3:=H1.absorbI (new:=[Rw 43 1 p' zz.length c' (fl rowL zz),Lst BwI zz,Ob X.g (.cells #[.slice gp2 (X.gs++[rd]).length gc2,.string X.sd,.slice X.pp X.ps.length X.pc,.slice X.sp X.ss.length X.sc,.slice X.tp X.got.length X.tc,.slice X.vp X.gave.length X.vc,.slice X.bp bl.length X.bc] 61 (0,0)),
   Rw 39 1 gp2 (X.gs++[rd]).length gc2 (fl rowL (X.gs++[rd])),Rw 27 2 X.pp X.ps.length X.pc (fl plL X.ps),Rw 63 1 X.sp X.ss.length X.sc (fl sgL X.ss),Rw 3 1 X.tp X.got.length X.tc (fl intL gt),Rw 3 1 X.vp X.gave.length X.vc (fl intL gv9),Rw 43 1 X.bp bl.length X.bc (fl rowL bl),Lst BwI bl,Lst SgI ssl2,Pool (pl++[rd])]) [0,1,2,3,4,5,6,7,8,9] H2
 have hX:(⟨X.g,gp2,gc2,X.gs++[rd],X.sd,X.pp,X.pc,X.ps,X.sp,X.sc,ssl2,X.tp,X.tc,gt,X.vp,X.vc,gv9,X.bp,X.bc,bl⟩:GM).A=stepA X.A:=by
   unfold stepA GM.A
   dsimp only
   have e1:List.map Rd.v (X.gs++[rd])=List.map Rd.v X.gs++[roundR X.A]:=by rw [List.map_append]; show _++[rd.v]=_; rw [hrd]; rfl
   rw [e1]
   rw [show gt=_ from hgt,show gv9=_ from hgv,show ssl2.map Sg.sp=_ from hsp2,show bl.map Ro.l=_ from hbm]
   rfl
 refine ⟨p',c',zz,⟨X.g,gp2,gc2,X.gs++[rd],X.sd,X.pp,X.pc,X.ps,X.sp,X.sc,ssl2,X.tp,X.tc,gt,X.vp,X.vc,gv9,X.bp,X.bc,bl⟩,rd,rfl,hzz.trans hrd,hX,rfl,by rw [List.length_append,List.length_singleton],⟨hX ▸ hA.step,hG2.mem⟩,?_⟩
 have H4:=H3.takes [2,3,4,5,6,7,8,9,10,0,1,11,12] (by decide)
 rw [show fl sgL X.ss=fl sgL ssl2 from (fl_map hsg2).symm] at H4
 have e1:Ob X.g (.cells #[.slice gp2 (X.gs++[rd]).length gc2,.string X.sd,.slice X.pp X.ps.length X.pc,.slice X.sp X.ss.length X.sc,.slice X.tp X.got.length X.tc,.slice X.vp X.gave.length X.vc,.slice X.bp bl.length X.bc] 61 (0,0))=Ob X.g (.cells #[.slice gp2 (X.gs++[rd]).length gc2,.string X.sd,.slice X.pp X.ps.length X.pc,.slice X.sp ssl2.length X.sc,.slice X.tp gt.length X.tc,.slice X.vp gv9.length X.vc,.slice X.bp bl.length X.bc] 61 (0,0)):=by rw [hl2,hgtl,hgvl]
 have e2:Rw 63 1 X.sp X.ss.length X.sc (fl sgL ssl2)=Rw 63 1 X.sp ssl2.length X.sc (fl sgL ssl2):=by rw [hl2]
 have e3:Rw 3 1 X.tp X.got.length X.tc (fl intL gt)=Rw 3 1 X.tp gt.length X.tc (fl intL gt):=by rw [hgtl]
 have e4:Rw 3 1 X.vp X.gave.length X.vc (fl intL gv9)=Rw 3 1 X.vp gv9.length X.vc (fl intL gv9):=by rw [hgvl]
 rw [e1,e2,e3,e4] at H4
 have H5:=S.big (L:=[_,_,_,_,_,_,_,_,_]) H4
 exact H5.takes [1,2,0,3,4] (by decide)
theorem cl7:callable Tryz.prog 7=true:=by kernel_rfl
theorem fo27_0:foO Tryz.prog 27 0=some 0:=by kernel_rfl
theorem inf27:infO Tryz.prog 27=some (some (.agg #[.int .i64 0,.int .i64 0]),2,16):=by kernel_rfl
def valP (p:Pl):Bool:=decide (1≤p.st) && decide (p.st≤7) && decide (0≤p.rt) && decide (p.rt≤1000000)
def newE (sd:ByteArray) (l:List Pl):Int:=if 100<sd.size∨(l.any fun p=>!valP p)=true then 1 else if l.length<2∨40<l.length then 11 else 0
def newA (sd:ByteArray) (l:List Pl):GA:=⟨sd,l,l.map fun p=>spN p.st,[],List.replicate l.length 0,List.replicate l.length 0,List.replicate l.length (List.replicate l.length 0)⟩
theorem valid_p (x:Pl)  (w:World):Calls Tryz.prog 7 #[.agg #[.int .i64 (x.st),.int .i64 (x.rt)]] w fun e w'=>e=.returned (.bool (valP x))∧S w' [Old w no]:=by
 have H0:=S.old w
 refine enter 21 Tryz.func7 rfl rfl rfl ?_
 refine g_wk [(0,_)] ?_
 refine w_s ?_
 refine l_of (s_box H0 (wt0 rfl) rfl rfl rfl rfl ?_)
 intro g1 wq2 H3
 refine w_k7 ?_
 by_cases hb4:(1:Int)≤x.st
 ·
  refine w_g (decide_eq_true hb4) (xf 0) ?_
  refine w_g (decide_eq_true hb4) (xl H3 0) ?_
  refine w_g (decide_eq_true hb4) (x_bin rfl rfl rfl b_leq) ?_
  refine w_v (x_pick_t rfl rfl (decide_eq_true hb4) rfl) ?_
  refine w_m ?_
  by_cases hb5:(x.st:Int)≤7
  ·
   refine w_g (decide_eq_true hb5) (xf 1) ?_
   refine w_g (decide_eq_true hb5) (xl H3 0) ?_
   refine w_g (decide_eq_true hb5) (x_bin rfl rfl rfl b_geq) ?_
   refine w_v (x_pick_t rfl rfl (decide_eq_true hb5) rfl) ?_
   refine w_m ?_
   by_cases hb6:(0:Int)≤x.rt
   ·
    refine w_g (decide_eq_true hb6) (xf 1) ?_
    refine w_g (decide_eq_true hb6) (xl H3 0) ?_
    refine w_g (decide_eq_true hb6) (x_bin rfl rfl rfl b_leq) ?_
    refine w_v (x_pick_t rfl rfl (decide_eq_true hb6) rfl) ?_
    refine w_k3 ?_
    refine fin_r [.tmp 2] [.bool (decide ((x.rt:Int)≤1000000))] ?_
    exact ⟨by unfold valP; simp [hb4,hb5,hb6,tupled],H3.mask [false,true]⟩
   ·
    iterate 3 refine w_n (decide_eq_false hb6) ?_
    refine w_v (x_pick_f rfl rfl (decide_eq_false hb6) rfl) ?_
    refine w_k3 ?_
    refine fin_r [.tmp 2] [.bool false] ?_
    exact ⟨by unfold valP; simp [hb4,hb5,hb6,tupled],H3.mask [false,true]⟩
  ·
   iterate 3 refine w_n (decide_eq_false hb5) ?_
   refine w_v (x_pick_f rfl rfl (decide_eq_false hb5) rfl) ?_
   refine w_m ?_
   iterate 3 refine w_n rfl ?_
   refine w_v (x_pick_f rfl rfl rfl rfl) ?_
   refine w_k3 ?_
   refine fin_r [.tmp 2] [.bool false] ?_
   exact ⟨by unfold valP; simp [hb4,hb5,tupled],H3.mask [false,true]⟩
 ·
  iterate 3 refine w_n (decide_eq_false hb4) ?_
  refine w_v (x_pick_f rfl rfl (decide_eq_false hb4) rfl) ?_
  refine w_m ?_
  iterate 3 refine w_n rfl ?_
  refine w_v (x_pick_f rfl rfl rfl rfl) ?_
  refine w_m ?_
  iterate 3 refine w_n rfl ?_
  refine w_v (x_pick_f rfl rfl rfl rfl) ?_
  refine w_k3 ?_
  refine fin_r [.tmp 2] [.bool false] ?_
  exact ⟨by unfold valP; simp [hb4,tupled],H3.mask [false,true]⟩
theorem new1_p (x:Pl)  (w:World):Calls Tryz.prog 25 #[.agg #[.int .i64 (x.st),.int .i64 (x.rt)]] w fun e w'=>e=.returned (.bool (!valP x))∧S w' [Old w no]:=by
 have H0:=S.old w
 refine enter 6 Tryz.func25 rfl rfl rfl ?_
 refine g_wk [(0,_)] ?_
 refine w_s ?_
 refine l_of (s_box H0 (wt0 rfl) rfl rfl rfl rfl ?_)
 intro g1 wq2 H3
 refine w_k3 ?_
 refine w_v (v:=.agg #[.int .i64 (x.st),.int .i64 (x.rt)]) (x_loadA H3 0 rfl rfl Tryz.underlying27 rfl sz27 rfl rfl rfl) ?_
 refine l_of (s_call0 H3 (wt0 rfl) (x_call' rfl rfl cl7) (valid_p x _) rfl rfl ?_)
 intro wq4 H5
 refine w_v (x_not (b:=(valP x)) rfl rfl) ?_
 refine w_k3 ?_
 refine fin_r [.tmp 2] [.bool (!((valP x)))] ?_
 exact ⟨rfl,H5.mask [false,true]⟩
theorem new1_f (D:Pl→Prop):FunC Tryz.prog 25 #[] #[] (Big []) (fun x:Pl=>[(.agg #[.int .i64 x.st,.int .i64 x.rt])]) (fun x=>.bool ((fun p=>!valP p) x)) D:=
 FunC.pure (by kernel_rfl) fun x _ w=>new1_p x w
theorem indexF_p (l:List Pl) (p:Option Addr) (n c:Nat) (hn:n≤9223372036854775807) (q:Pl→Bool) (gc:Nat) (fi ca:Array Value) (X:Item) (D:Pl→Prop) (hq:FunC Tryz.prog gc fi ca X (fun x:Pl=>[(.agg #[.int .i64 x.st,.int .i64 x.rt])]) (fun x=>.bool (q x)) D) (hD:∀ x∈l,D x)  (w:World) (HS:S w [X]) (hr:Reads w p n c 2 (fl plL l)) (hap:Apart w X p n c 2 (fl plL l)):Calls Tryz.prog 49 #[.slice p n c,.func (.func gc) fi ca] w fun e w'=>e=.returned (.int .i64 (ixI q l))∧S w' ([X]++[Old w (fps [X])]):=by
 have H0:=HS.beginI
 have hn2:=hr.lenL plE
 refine enter 19 Tryz.func49 rfl rfl rfl ?_
 refine g_wk [(0,_),(1,_)] ?_
 refine w_s ?_
 refine w_k9 ?_
 refine g_loop (ι:=Nat) (fun i=>[(0,.slice p n c),(1,.func (.func gc) fi ca),(7,.int .i64 ((n:Int))),(8,.int .i64 ((i:Int)))]) (fun i wx=>(i≤n)∧(∀ y∈l.take i,q y=false)∧S wx [X,Old w (fps [X])]) (fun i=>n - i) (0) ⟨rfl,rfl,rfl,rfl,trivial⟩ ⟨Nat.zero_le _,(fun y hy=>by simp at hy),H0⟩ ?_
 rintro i wq1 ⟨hi,hno,H2⟩
 refine g_wk [(0,_),(1,_),(7,_),(8,_)] ?_
 refine w_s ?_
 refine w_k2 ?_
 refine g_seq ?_
 by_cases hb3:((i:Int):Int)<(n:Int)
 ·
  refine g_ct hb3 ?_
  refine w_k12 ?_
  refine w_v (x_i i ((hap _ (H2.tk [0,1])))) ?_
  obtain ⟨x4,hx4⟩:=((hap _ (H2.tk [0,1]))).exL plE i
  refine w_v (x_loadRA (vs:=plL x4) i ((hap _ (H2.tk [0,1]))) (by omega) rfl rfl Tryz.underlying27 rfl sz27 (by rfl) (plE.flAt hx4)) ?_
  refine l_of (s_call (wt0 rfl) (x_call rfl rfl rfl hq.ok) (hq.does x4 (hD _ (List.mem_of_getElem? hx4)) _ (H2.tk [0])) ?_)
  rintro _ wq5 ⟨rfl,H6⟩
  replace H6:S _ [_,_]:=H2.abI (new:=[_]) [0] H6 rfl
  refine b_ret rfl rfl ?_
  refine w_e ?_
  rcases Bool.eq_false_or_eq_true (q x4) with hb7 | hb7
  ·
   refine g_cond_t rfl hb7 ?_
   refine w_k10 ?_
   refine fin_r [.tmp 4] [.int .i64 ((i:Int))] ?_
   exact ⟨by rw [ixI_at hx4 hb7 hno]; rfl,H6.tk [0,1]⟩
  ·
   refine g_cond_f rfl hb7 ?_
   refine w_k4 ?_
   refine w_i i ?_
   refine w_k2 ?_
   refine g_rd (i:=(i)) ((i+1)) ⟨by omega,(no_take hno hx4 hb7),H6⟩
 ·
  refine g_cf hb3 ?_
  refine w_k9 ?_
  refine fin_r [.tmp 4] [.int .i64 (-1)] ?_
  rw [List.take_of_length_le (by omega)] at hno
  exact ⟨by rw [ixI_no hno]; rfl,H2.tk [0,1]⟩
theorem contF_p (l:List Pl) (p:Option Addr) (n c:Nat) (hn:n≤9223372036854775807) (q:Pl→Bool) (gc:Nat) (fi ca:Array Value) (X:Item) (D:Pl→Prop) (hq:FunC Tryz.prog gc fi ca X (fun x:Pl=>[(.agg #[.int .i64 x.st,.int .i64 x.rt])]) (fun x=>.bool (q x)) D) (hD:∀ x∈l,D x)  (w:World) (HS:S w [X]) (hr:Reads w p n c 2 (fl plL l)) (hap:Apart w X p n c 2 (fl plL l)):Calls Tryz.prog 24 #[.slice p n c,.func (.func gc) fi ca] w fun e w'=>e=.returned (.bool (l.any q))∧S w' ([X]++[Old w (fps [X])]):=by
 have H0:=HS.beginI
 refine enter 9 Tryz.func24 rfl rfl rfl ?_
 refine g_wk [(0,_),(1,_)] ?_
 refine w_s ?_
 refine w_k5 ?_
 refine l_of (s_cl (indexF_p l p n c hn q gc fi ca X D hq hD _ (H0.tk [0]) (hap _ (H0.tk [0,1])) (hap.nxt (H0.tk [0,1]))) ?_)
 rintro _ wq1 ⟨rfl,H2⟩
 replace H2:S _ [_,_]:=H0.abI (new:=[_]) [0] H2 rfl
 refine b_ret rfl rfl ?_
 refine w_k4 ?_
 refine fin_r [.tmp 4] [.bool (decide ((0:Int)≤(ixI q l)))] ?_
 exact ⟨by rw [← ixI_any]; rfl,H2.tk [0,1]⟩
theorem clone_p_s (l:List Pl) (a:Addr) (c:Nat) (hm:l.length≤1099511627776)  (w:World) (hr:Reads w (some a) l.length c 2 (fl plL l)):Calls Tryz.prog 26 #[.slice (some a) l.length c] w fun e w'=>∃ p' c',e=.returned (.slice p' l.length c')∧S w' ([Rw 27 2 p' l.length c' (fl plL l)]++[Old w no]):=by
 have H0:=S.old w
 refine enter 8 Tryz.func26 rfl rfl rfl ?_
 refine g_wk [(0,_)] ?_
 refine w_s ?_
 refine w_k5 ?_
 refine w_b (v:=.bool false) (hb:=(b_eqN (r:=false) Tryz.underlying22 rfl)) ?_
 refine w_e ?_
 refine g_cond_f rfl rfl ?_
 refine w_k3 ?_
 refine l_of (s_buildSlice0 H0 (wt0 rfl) rfl rfl rfl Tryz.underlying22 sz27 ?_)
 intro g1 wq2 H3
 replace H3:S wq2 [Rw 27 2 (some ⟨g1,0,none⟩) 0 0 (fl plL ([]:List Pl)),Old w no]:=S.obFl plE H3 (k:=0) rfl rfl (by decide) rfl
 refine w_m ?_
 have hln8a:=(H3.rr 0).lenL plE
 have hln8b:=(H3.exReads (k:=1) rfl hr (fun _ _ _ h=>h)).lenL plE
 have hln8:l.length=0+l.length:=by omega
 refine l_of (s_appLn (l:=[]) (l2:=l) plE H3 0 (wt0 rfl) rfl rfl rfl rfl rfl rfl Tryz.underlying22 inf27 rfl (by decide) (H3.exReads (k:=1) rfl hr (fun _ _ _ h=>h)) (by omega) ?_)
 intro p4 c5 wq6 H7
 rw [List.nil_append] at H7 ⊢
 replace H7:S wq6 [Rw 27 2 p4 l.length c5 (fl plL l),Old w no]:=H7
 refine w_k3 ?_
 refine fin_r [.tmp 2] [.slice p4 l.length c5] ?_
 exact ⟨_,_,rfl,H7⟩
theorem clone_p_n (n c:Nat)  (w:World):Calls Tryz.prog 26 #[.slice none n c] w fun e w'=>∃ p' c',e=.returned (.slice p' 0 c')∧S w' ([Rw 27 2 p' 0 c' (fl plL [])]++[Old w no]):=by
 have H0:=S.old w
 refine enter 8 Tryz.func26 rfl rfl rfl ?_
 refine g_wk [(0,_)] ?_
 refine w_s ?_
 refine w_k5 ?_
 refine w_b (v:=.bool true) (hb:=(b_eqN (r:=true) Tryz.underlying22 rfl)) ?_
 refine w_e ?_
 refine g_cond_t rfl rfl ?_
 refine w_k5 ?_
 refine fin_r [.tmp 2] [.slice none 0 0] ?_
 exact ⟨none,0,rfl,H0.nilFl 27 2 plL⟩
theorem clone_p (l:List Pl) (p:Option Addr) (n c:Nat) (hm:l.length≤1099511627776) (w:World) (hr:Reads w p n c 2 (fl plL l)):Calls Tryz.prog 26 #[.slice p n c] w fun e w'=>∃ p' c',e=.returned (.slice p' l.length c')∧S w' ([Rw 27 2 p' l.length c' (fl plL l)]++[Old w no]):=by
 have hn:=hr.lenL plE
 subst hn
 cases p with
 | some a=>exact clone_p_s l a c hm w hr
 | none =>
   have h0:l.length=0:=by
     refine Decidable.byContradiction fun hn=>?_
     obtain ⟨a,ha,_⟩:=hr.2.2 (by omega)
     cases ha
   obtain rfl:l=[]:=List.length_eq_zero_iff.1 h0
   exact clone_p_n 0 c w
theorem cl24:callable Tryz.prog 24=true:=by kernel_rfl
theorem cl27:callable Tryz.prog 27=true:=by kernel_rfl
theorem inf63:infO Tryz.prog 63=some (some (.nilIface),1,16):=by kernel_rfl
theorem ze27:zeO Tryz.prog 27=some (.agg #[.int .i64 0,.int .i64 0]):=by kernel_rfl
theorem ze63:zeO Tryz.prog 63=some (.nilIface):=by kernel_rfl
section
variable (sd:ByteArray) (l:List Pl) (p:Option Addr) (n c:Nat)
theorem new_b1 (hn9:n≤1000000) (h:100<sd.size)  (w:World) (hr:Reads w p n c 2 (fl plL l)):Calls Tryz.prog 9 #[.string sd,.slice p n c] w fun e w'=>e=.returned (.tuple #[.pointer none,.int .i64 (newE sd l)])∧S w' [Old w no]:=by
 have H0:=S.old w
 have hnl:=hr.lenL plE
 refine enter 67 Tryz.func9 rfl rfl rfl ?_
 refine g_wk [(0,_),(1,_)] ?_
 refine w_s ?_
 refine w_k6 ?_
 refine w_v (x_lens rfl rfl Tryz.underlying9) ?_
 refine w_k2 ?_
 refine l_of (s_not (wn1 rfl rfl rfl rfl (decide_eq_true (by omega))) rfl rfl ?_)
 refine l_of (s_not (wn1 rfl rfl rfl rfl (decide_eq_true (by omega))) rfl rfl ?_)
 refine w_v (x_pick_t rfl rfl (decide_eq_true (by omega)) rfl) ?_
 refine w_e ?_
 refine g_cond_t rfl rfl ?_
 refine w_k6 ?_
 refine fin_r [.tmp 4,.tmp 5] [.pointer none,.int .i64 1] ?_
 have hv:newE sd l=1:=if_pos (.inl h)
 rw [hv]
 exact ⟨rfl,H0.mask [true]⟩
theorem new_b2 (hn9:n≤1000000) (h:¬ 100<sd.size) (ha:(l.any fun p=>!valP p)=true)  (w:World) (hr:Reads w p n c 2 (fl plL l)):Calls Tryz.prog 9 #[.string sd,.slice p n c] w fun e w'=>e=.returned (.tuple #[.pointer none,.int .i64 (newE sd l)])∧S w' [Old w no]:=by
 have H0:=S.old w
 have hnl:=hr.lenL plE
 refine enter 67 Tryz.func9 rfl rfl rfl ?_
 refine g_wk [(0,_),(1,_)] ?_
 refine w_s ?_
 refine w_k6 ?_
 refine w_v (x_lens rfl rfl Tryz.underlying9) ?_
 refine w_k2 ?_
 refine l_of (s_val (v:=.slice p n c) (wt1 rfl rfl rfl rfl (decide_eq_false (by omega))) rfl rfl (x_move rfl rfl) ?_)
 have H1:S _ [_,_]:=H0.addNil
 refine l_of (s_call (wt1 rfl rfl rfl rfl (decide_eq_false (by omega))) (x_call' rfl rfl cl24) (contF_p l p n c (by omega) (fun p=>!valP p) 25 #[] #[] (Big []) (fun _=>True) (new1_f _) (fun _ _=>trivial) _ (H1.tk [0]) (H1.exReads (k:=1) rfl hr (fun _ _ _ h=>h)) (H1.apartOld (i:=1) (k:=0) rfl rfl (by decide) hr (by decide) (fun _ _ _ h=>h))) ?_)
 rintro _ wq2 ⟨rfl,H3⟩
 replace H3:S _ [_,_]:=H1.abI (new:=[_]) [0] H3 rfl
 refine b_ret rfl rfl ?_
 refine w_v (x_pick_f rfl rfl (decide_eq_false (by omega)) rfl) ?_
 refine w_e ?_
 refine g_cond_t rfl ha ?_
 refine w_k6 ?_
 refine fin_r [.tmp 4,.tmp 5] [.pointer none,.int .i64 1] ?_
 have hv:newE sd l=1:=if_pos (.inr ha)
 rw [hv]
 exact ⟨rfl,H3.mask [false,true]⟩
theorem new_b3 (h:¬ 100<sd.size) (ha:(l.any fun p=>!valP p)=false) (h2:l.length<2)  (w:World) (hr:Reads w p n c 2 (fl plL l)):Calls Tryz.prog 9 #[.string sd,.slice p n c] w fun e w'=>e=.returned (.tuple #[.pointer none,.int .i64 (newE sd l)])∧S w' [Old w no]:=by
 have H0:=S.old w
 have hnl:=hr.lenL plE
 refine enter 67 Tryz.func9 rfl rfl rfl ?_
 refine g_wk [(0,_),(1,_)] ?_
 refine w_s ?_
 refine w_k6 ?_
 refine w_v (x_lens rfl rfl Tryz.underlying9) ?_
 refine w_k2 ?_
 refine l_of (s_val (v:=.slice p n c) (wt1 rfl rfl rfl rfl (decide_eq_false (by omega))) rfl rfl (x_move rfl rfl) ?_)
 have H1:S _ [_,_]:=H0.addNil
 refine l_of (s_call (wt1 rfl rfl rfl rfl (decide_eq_false (by omega))) (x_call' rfl rfl cl24) (contF_p l p n c (by omega) (fun p=>!valP p) 25 #[] #[] (Big []) (fun _=>True) (new1_f _) (fun _ _=>trivial) _ (H1.tk [0]) (H1.exReads (k:=1) rfl hr (fun _ _ _ h=>h)) (H1.apartOld (i:=1) (k:=0) rfl rfl (by decide) hr (by decide) (fun _ _ _ h=>h))) ?_)
 rintro _ wq2 ⟨rfl,H3⟩
 replace H3:S _ [_,_]:=H1.abI (new:=[_]) [0] H3 rfl
 refine b_ret rfl rfl ?_
 refine w_v (x_pick_f rfl rfl (decide_eq_false (by omega)) rfl) ?_
 refine w_e ?_
 refine g_cond_f rfl ha ?_
 refine w_k8 ?_
 refine l_of (s_not (wn1 rfl rfl rfl rfl (decide_eq_true (by omega))) rfl rfl ?_)
 refine l_of (s_not (wn1 rfl rfl rfl rfl (decide_eq_true (by omega))) rfl rfl ?_)
 refine l_of (s_not (wn1 rfl rfl rfl rfl (decide_eq_true (by omega))) rfl rfl ?_)
 refine w_v (x_pick_t rfl rfl (decide_eq_true (by omega)) rfl) ?_
 refine w_e ?_
 refine g_cond_t rfl rfl ?_
 refine w_k6 ?_
 refine fin_r [.tmp 4,.tmp 5] [.pointer none,.int .i64 11] ?_
 have hv:newE sd l=11:=by unfold newE; rw [if_neg (fun h9=>h9.elim h (fun h8=>by rw [ha] at h8; cases h8)),if_pos (.inl h2)]
 rw [hv]
 exact ⟨rfl,H3.mask [false,true]⟩
theorem valid_at {l:List Pl} (h:(l.any fun p=>!valP p)=false) {i:Nat} {x:Pl} (hx:l[i]?=some x):(1≤x.st∧x.st≤7)∧0≤x.rt∧x.rt≤1000000:=by
 have h1:=List.any_eq_false.1 h x (List.mem_of_getElem? hx)
 unfold valP at h1
 simp only [Bool.not_eq_true,Bool.not_eq_false',Bool.and_eq_true,decide_eq_true_eq] at h1
 omega
theorem new_ok (sd:ByteArray) (l:List Pl) (p:Option Addr) (c:Nat) (h:¬ 100<sd.size) (ha:(l.any fun p=>!valP p)=false) (h2:2≤l.length) (h9:l.length≤9)  (w:World) (hr:Reads w p l.length c 2 (fl plL l)):Calls Tryz.prog 9 #[.string sd,.slice p l.length c] w fun e w'=>∃ X:GM,e=.returned (.tuple #[.pointer (some ⟨X.g,0,none⟩),.int .i64 0])∧X.A=newA sd l∧X.gs=[]∧S w' ([X.I]++[Old w no]):=by
 have H0:=S.old w
 have hnl:=hr.lenL plE
 refine enter 67 Tryz.func9 rfl rfl rfl ?_
 refine g_wk [(0,_),(1,_)] ?_
 refine w_s ?_
 refine w_k6 ?_
 refine w_v (x_lens rfl rfl Tryz.underlying9) ?_
 refine w_k2 ?_
 refine l_of (s_val (v:=.slice p l.length c) (wt1 rfl rfl rfl rfl (decide_eq_false (by omega))) rfl rfl (x_move rfl rfl) ?_)
 have H1:S _ [_,_]:=H0.addNil
 refine l_of (s_call (wt1 rfl rfl rfl rfl (decide_eq_false (by omega))) (x_call' rfl rfl cl24) (contF_p l p l.length c (by omega) (fun p=>!valP p) 25 #[] #[] (Big []) (fun _=>True) (new1_f _) (fun _ _=>trivial) _ (H1.tk [0]) (H1.exReads (k:=1) rfl hr (fun _ _ _ h=>h)) (H1.apartOld (i:=1) (k:=0) rfl rfl (by decide) hr (by decide) (fun _ _ _ h=>h))) ?_)
 rintro _ wq2 ⟨rfl,H3⟩
 replace H3:S _ [_,_]:=H1.abI (new:=[_]) [0] H3 rfl
 refine b_ret rfl rfl ?_
 refine w_v (x_pick_f rfl rfl (decide_eq_false (by omega)) rfl) ?_
 refine w_e ?_
 refine g_cond_f rfl ha ?_
 refine w_k8 ?_
 refine l_of (s_val (v:=.slice p l.length c) (wt1 rfl rfl rfl rfl (decide_eq_false (by omega))) rfl rfl (x_move rfl rfl) ?_)
 refine l_of (s_val (v:=.int .i64 ((l.length:Int))) (wt1 rfl rfl rfl rfl (decide_eq_false (by omega))) rfl rfl (x_lenl rfl rfl Tryz.underlying22) ?_)
 refine l_of (s_val (v:=.bool (decide ((40:Int)<(l.length:Int)))) (wt1 rfl rfl rfl rfl (decide_eq_false (by omega))) rfl rfl (x_bin rfl rfl rfl b_gtr) ?_)
 refine w_v (x_pick_f rfl rfl (decide_eq_false (by omega)) rfl) ?_
 refine w_e ?_
 refine g_cond_f rfl (decide_eq_false (by omega)) ?_
 refine w_k2 ?_
 refine g_seq ?_
 refine g_cut (ι:=Nat × Option Addr × Nat × Option Addr × Option Addr) (fun (g,pp,pc,tp,vp)=>[(1,.slice p l.length c),(6,.pointer (some ⟨g,0,none⟩))]) (fun (g,pp,pc,tp,vp) wx=>S wx [Ob g (.cells #[.slice none 0 0,.string sd,.slice pp l.length pc,.slice none 0 0,.slice tp l.length l.length,.slice vp l.length l.length,.slice none 0 0] 61 (0,0)),Rw 27 2 pp l.length pc (fl plL l),Rw 3 1 tp l.length l.length (fl intL (List.replicate l.length (0:Int))),Rw 3 1 vp l.length l.length (fl intL (List.replicate l.length (0:Int))),Old w no]) ?_ ?_
 ·
  refine g_anyY [] (fun wx=>S wx []) (fun wx=>S wx []) [] (by kernel_rfl) H3 (fun wq4 H5=>?_)
  refine y_p 0 rfl (fun _=>xm) ?_
  refine y_p 1 rfl (fun _=>xm) ?_
  refine y_p 3 rfl (fun _=>xm) ?_
  refine y_p 4 rfl (fun _=>x_q) ?_
  refine y_p 6 rfl (fun _=>xm) ?_
  refine y_p 7 rfl (fun _=>x_q) ?_
  refine y_three (i:=2) (j:=5) (k:=8) (by kernel_rfl) rfl rfl rfl ?_ ?_ ?_
  ·
   refine s_cl (clone_p l p l.length c (by omega) _ (H5.exReads (k:=1) rfl hr (fun _ _ _ h=>h))) ?_
   rintro _ wq8 ⟨pz6,cz7,rfl,H9⟩
   replace H9:S _ [_,_,_]:=H5.ab (new:=[_]) H9 rfl
   refine b_ret rfl rfl ?_
   refine y_k (H9.mask [false,false,false]) (H9.mask [false,false,false]) ?_
   refine y_two (i:=5) (j:=8) (by kernel_rfl) rfl rfl ?_ ?_
   ·
    refine s_make1 l.length H9 (wt0 rfl) rfl rfl rfl rfl rfl Tryz.underlying43 inf3 rfl (by omega) ?_
    intro g10 wq11 H12
    replace H12:S _ [_,_,_,_]:=S.obFl (l:=(List.replicate l.length (0:Int))) intE H12 (k:=0) rfl (by rw [List.length_replicate]) (by unfold maxLen; omega) (zero_fl _)
    have cm1:=H12.mask [false,false,false,false]
    refine y_k cm1 cm1 ?_
    refine y_one (i:=8) (by kernel_rfl) rfl ?_
    refine s_make1 l.length H12 (wt0 rfl) rfl rfl rfl rfl rfl Tryz.underlying43 inf3 rfl (by omega) ?_
    intro g13 wq14 H15
    replace H15:S _ [_,_,_,_,_]:=S.obFl (l:=(List.replicate l.length (0:Int))) intE H15 (k:=0) rfl (by rw [List.length_replicate]) (by unfold maxLen; omega) (zero_fl _)
    have cm2:=H15.mask [false,false,false,false,false]
    refine y_k cm2 cm2 ?_
    refine y_p (v:=.agg #[.slice none 0 0,.string sd,.slice pz6 l.length cz7,.slice none 0 0,.slice (some ⟨g10,0,none⟩:Option Addr) l.length l.length,.slice (some ⟨g13,0,none⟩:Option Addr) l.length l.length,.slice none 0 0]) 9 rfl (fun _=>x_build (vs:=[.string sd,.slice pz6 l.length cz7,.slice (some ⟨g10,0,none⟩:Option Addr) l.length l.length,.slice (some ⟨g13,0,none⟩:Option Addr) l.length l.length]) rfl rfl (cells:=#[.slice none 0 0,.string sd,.slice pz6 l.length cz7,.slice none 0 0,.slice (some ⟨g10,0,none⟩:Option Addr) l.length l.length,.slice (some ⟨g13,0,none⟩:Option Addr) l.length l.length,.slice none 0 0]) (by kernel_rfl)) ?_
    refine y_one (i:=10) (by kernel_rfl) rfl ?_
    refine s_box H15 (wt0 rfl) rfl rfl rfl rfl ?_
    intro g16 wq17 H18
    have cm3:=H18.mask [false,false,false,false,false,false]
    refine y_k cm3 cm3 ?_
    refine y_p 11 rfl (fun _=>xa) ?_
    refine y_done (by kernel_rfl) ?_
    refine w_0 ?_
    refine g_mid (g16,pz6,cz7,(some ⟨g10,0,none⟩:Option Addr),(some ⟨g13,0,none⟩:Option Addr)) ?_ ?_
    · exact ⟨rfl,rfl,trivial⟩
    · exact (H18.tk [0,3,2,1,5])
   ·
    refine s_make1 l.length H9 (wt0 rfl) rfl rfl rfl rfl rfl Tryz.underlying43 inf3 rfl (by omega) ?_
    intro g19 wq20 H21
    replace H21:S _ [_,_,_,_]:=S.obFl (l:=(List.replicate l.length (0:Int))) intE H21 (k:=0) rfl (by rw [List.length_replicate]) (by unfold maxLen; omega) (zero_fl _)
    have cm4:=H21.mask [false,false,false,false]
    refine y_k cm4 cm4 ?_
    refine y_one (i:=5) (by kernel_rfl) rfl ?_
    refine s_make1 l.length H21 (wt0 rfl) rfl rfl rfl rfl rfl Tryz.underlying43 inf3 rfl (by omega) ?_
    intro g22 wq23 H24
    replace H24:S _ [_,_,_,_,_]:=S.obFl (l:=(List.replicate l.length (0:Int))) intE H24 (k:=0) rfl (by rw [List.length_replicate]) (by unfold maxLen; omega) (zero_fl _)
    have cm5:=H24.mask [false,false,false,false,false]
    refine y_k cm5 cm5 ?_
    refine y_p (v:=.agg #[.slice none 0 0,.string sd,.slice pz6 l.length cz7,.slice none 0 0,.slice (some ⟨g22,0,none⟩:Option Addr) l.length l.length,.slice (some ⟨g19,0,none⟩:Option Addr) l.length l.length,.slice none 0 0]) 9 rfl (fun _=>x_build (vs:=[.string sd,.slice pz6 l.length cz7,.slice (some ⟨g22,0,none⟩:Option Addr) l.length l.length,.slice (some ⟨g19,0,none⟩:Option Addr) l.length l.length]) rfl rfl (cells:=#[.slice none 0 0,.string sd,.slice pz6 l.length cz7,.slice none 0 0,.slice (some ⟨g22,0,none⟩:Option Addr) l.length l.length,.slice (some ⟨g19,0,none⟩:Option Addr) l.length l.length,.slice none 0 0]) (by kernel_rfl)) ?_
    refine y_one (i:=10) (by kernel_rfl) rfl ?_
    refine s_box H24 (wt0 rfl) rfl rfl rfl rfl ?_
    intro g25 wq26 H27
    have cm6:=H27.mask [false,false,false,false,false,false]
    refine y_k cm6 cm6 ?_
    refine y_p 11 rfl (fun _=>xa) ?_
    refine y_done (by kernel_rfl) ?_
    refine w_0 ?_
    refine g_mid (g25,pz6,cz7,(some ⟨g22,0,none⟩:Option Addr),(some ⟨g19,0,none⟩:Option Addr)) ?_ ?_
    · exact ⟨rfl,rfl,trivial⟩
    · exact (H27.tk [0,3,1,2,5])
  ·
   refine s_make1 l.length H5 (wt0 rfl) rfl rfl rfl rfl rfl Tryz.underlying43 inf3 rfl (by omega) ?_
   intro g28 wq29 H30
   replace H30:S _ [_,_,_]:=S.obFl (l:=(List.replicate l.length (0:Int))) intE H30 (k:=0) rfl (by rw [List.length_replicate]) (by unfold maxLen; omega) (zero_fl _)
   refine y_k (H30.mask [false,false,false]) (H30.mask [false,false,false]) ?_
   refine y_two (i:=2) (j:=8) (by kernel_rfl) rfl rfl ?_ ?_
   ·
    refine s_cl (clone_p l p l.length c (by omega) _ (H30.exReads (k:=2) rfl hr (fun _ _ _ h=>h))) ?_
    rintro _ wq33 ⟨pz31,cz32,rfl,H34⟩
    replace H34:S _ [_,_,_,_]:=H30.ab (new:=[_]) H34 rfl
    refine b_ret rfl rfl ?_
    have cm7:=H34.mask [false,false,false,false]
    refine y_k cm7 cm7 ?_
    refine y_one (i:=8) (by kernel_rfl) rfl ?_
    refine s_make1 l.length H34 (wt0 rfl) rfl rfl rfl rfl rfl Tryz.underlying43 inf3 rfl (by omega) ?_
    intro g35 wq36 H37
    replace H37:S _ [_,_,_,_,_]:=S.obFl (l:=(List.replicate l.length (0:Int))) intE H37 (k:=0) rfl (by rw [List.length_replicate]) (by unfold maxLen; omega) (zero_fl _)
    have cm8:=H37.mask [false,false,false,false,false]
    refine y_k cm8 cm8 ?_
    refine y_p (v:=.agg #[.slice none 0 0,.string sd,.slice pz31 l.length cz32,.slice none 0 0,.slice (some ⟨g28,0,none⟩:Option Addr) l.length l.length,.slice (some ⟨g35,0,none⟩:Option Addr) l.length l.length,.slice none 0 0]) 9 rfl (fun _=>x_build (vs:=[.string sd,.slice pz31 l.length cz32,.slice (some ⟨g28,0,none⟩:Option Addr) l.length l.length,.slice (some ⟨g35,0,none⟩:Option Addr) l.length l.length]) rfl rfl (cells:=#[.slice none 0 0,.string sd,.slice pz31 l.length cz32,.slice none 0 0,.slice (some ⟨g28,0,none⟩:Option Addr) l.length l.length,.slice (some ⟨g35,0,none⟩:Option Addr) l.length l.length,.slice none 0 0]) (by kernel_rfl)) ?_
    refine y_one (i:=10) (by kernel_rfl) rfl ?_
    refine s_box H37 (wt0 rfl) rfl rfl rfl rfl ?_
    intro g38 wq39 H40
    have cm9:=H40.mask [false,false,false,false,false,false]
    refine y_k cm9 cm9 ?_
    refine y_p 11 rfl (fun _=>xa) ?_
    refine y_done (by kernel_rfl) ?_
    refine w_0 ?_
    refine g_mid (g38,pz31,cz32,(some ⟨g28,0,none⟩:Option Addr),(some ⟨g35,0,none⟩:Option Addr)) ?_ ?_
    · exact ⟨rfl,rfl,trivial⟩
    · exact (H40.tk [0,2,3,1,5])
   ·
    refine s_make1 l.length H30 (wt0 rfl) rfl rfl rfl rfl rfl Tryz.underlying43 inf3 rfl (by omega) ?_
    intro g41 wq42 H43
    replace H43:S _ [_,_,_,_]:=S.obFl (l:=(List.replicate l.length (0:Int))) intE H43 (k:=0) rfl (by rw [List.length_replicate]) (by unfold maxLen; omega) (zero_fl _)
    have cm10:=H43.mask [false,false,false,false]
    refine y_k cm10 cm10 ?_
    refine y_one (i:=2) (by kernel_rfl) rfl ?_
    refine s_cl (clone_p l p l.length c (by omega) _ (H43.exReads (k:=3) rfl hr (fun _ _ _ h=>h))) ?_
    rintro _ wq46 ⟨pz44,cz45,rfl,H47⟩
    replace H47:S _ [_,_,_,_,_]:=H43.ab (new:=[_]) H47 rfl
    refine b_ret rfl rfl ?_
    have cm11:=H47.mask [false,false,false,false,false]
    refine y_k cm11 cm11 ?_
    refine y_p (v:=.agg #[.slice none 0 0,.string sd,.slice pz44 l.length cz45,.slice none 0 0,.slice (some ⟨g28,0,none⟩:Option Addr) l.length l.length,.slice (some ⟨g41,0,none⟩:Option Addr) l.length l.length,.slice none 0 0]) 9 rfl (fun _=>x_build (vs:=[.string sd,.slice pz44 l.length cz45,.slice (some ⟨g28,0,none⟩:Option Addr) l.length l.length,.slice (some ⟨g41,0,none⟩:Option Addr) l.length l.length]) rfl rfl (cells:=#[.slice none 0 0,.string sd,.slice pz44 l.length cz45,.slice none 0 0,.slice (some ⟨g28,0,none⟩:Option Addr) l.length l.length,.slice (some ⟨g41,0,none⟩:Option Addr) l.length l.length,.slice none 0 0]) (by kernel_rfl)) ?_
    refine y_one (i:=10) (by kernel_rfl) rfl ?_
    refine s_box H47 (wt0 rfl) rfl rfl rfl rfl ?_
    intro g48 wq49 H50
    have cm12:=H50.mask [false,false,false,false,false,false]
    refine y_k cm12 cm12 ?_
    refine y_p 11 rfl (fun _=>xa) ?_
    refine y_done (by kernel_rfl) ?_
    refine w_0 ?_
    refine g_mid (g48,pz44,cz45,(some ⟨g28,0,none⟩:Option Addr),(some ⟨g41,0,none⟩:Option Addr)) ?_ ?_
    · exact ⟨rfl,rfl,trivial⟩
    · exact (H50.tk [0,1,3,2,5])
  ·
   refine s_make1 l.length H5 (wt0 rfl) rfl rfl rfl rfl rfl Tryz.underlying43 inf3 rfl (by omega) ?_
   intro g51 wq52 H53
   replace H53:S _ [_,_,_]:=S.obFl (l:=(List.replicate l.length (0:Int))) intE H53 (k:=0) rfl (by rw [List.length_replicate]) (by unfold maxLen; omega) (zero_fl _)
   refine y_k (H53.mask [false,false,false]) (H53.mask [false,false,false]) ?_
   refine y_two (i:=2) (j:=5) (by kernel_rfl) rfl rfl ?_ ?_
   ·
    refine s_cl (clone_p l p l.length c (by omega) _ (H53.exReads (k:=2) rfl hr (fun _ _ _ h=>h))) ?_
    rintro _ wq56 ⟨pz54,cz55,rfl,H57⟩
    replace H57:S _ [_,_,_,_]:=H53.ab (new:=[_]) H57 rfl
    refine b_ret rfl rfl ?_
    have cm13:=H57.mask [false,false,false,false]
    refine y_k cm13 cm13 ?_
    refine y_one (i:=5) (by kernel_rfl) rfl ?_
    refine s_make1 l.length H57 (wt0 rfl) rfl rfl rfl rfl rfl Tryz.underlying43 inf3 rfl (by omega) ?_
    intro g58 wq59 H60
    replace H60:S _ [_,_,_,_,_]:=S.obFl (l:=(List.replicate l.length (0:Int))) intE H60 (k:=0) rfl (by rw [List.length_replicate]) (by unfold maxLen; omega) (zero_fl _)
    have cm14:=H60.mask [false,false,false,false,false]
    refine y_k cm14 cm14 ?_
    refine y_p (v:=.agg #[.slice none 0 0,.string sd,.slice pz54 l.length cz55,.slice none 0 0,.slice (some ⟨g58,0,none⟩:Option Addr) l.length l.length,.slice (some ⟨g51,0,none⟩:Option Addr) l.length l.length,.slice none 0 0]) 9 rfl (fun _=>x_build (vs:=[.string sd,.slice pz54 l.length cz55,.slice (some ⟨g58,0,none⟩:Option Addr) l.length l.length,.slice (some ⟨g51,0,none⟩:Option Addr) l.length l.length]) rfl rfl (cells:=#[.slice none 0 0,.string sd,.slice pz54 l.length cz55,.slice none 0 0,.slice (some ⟨g58,0,none⟩:Option Addr) l.length l.length,.slice (some ⟨g51,0,none⟩:Option Addr) l.length l.length,.slice none 0 0]) (by kernel_rfl)) ?_
    refine y_one (i:=10) (by kernel_rfl) rfl ?_
    refine s_box H60 (wt0 rfl) rfl rfl rfl rfl ?_
    intro g61 wq62 H63
    have cm15:=H63.mask [false,false,false,false,false,false]
    refine y_k cm15 cm15 ?_
    refine y_p 11 rfl (fun _=>xa) ?_
    refine y_done (by kernel_rfl) ?_
    refine w_0 ?_
    refine g_mid (g61,pz54,cz55,(some ⟨g58,0,none⟩:Option Addr),(some ⟨g51,0,none⟩:Option Addr)) ?_ ?_
    · exact ⟨rfl,rfl,trivial⟩
    · exact (H63.tk [0,2,1,3,5])
   ·
    refine s_make1 l.length H53 (wt0 rfl) rfl rfl rfl rfl rfl Tryz.underlying43 inf3 rfl (by omega) ?_
    intro g64 wq65 H66
    replace H66:S _ [_,_,_,_]:=S.obFl (l:=(List.replicate l.length (0:Int))) intE H66 (k:=0) rfl (by rw [List.length_replicate]) (by unfold maxLen; omega) (zero_fl _)
    have cm16:=H66.mask [false,false,false,false]
    refine y_k cm16 cm16 ?_
    refine y_one (i:=2) (by kernel_rfl) rfl ?_
    refine s_cl (clone_p l p l.length c (by omega) _ (H66.exReads (k:=3) rfl hr (fun _ _ _ h=>h))) ?_
    rintro _ wq69 ⟨pz67,cz68,rfl,H70⟩
    replace H70:S _ [_,_,_,_,_]:=H66.ab (new:=[_]) H70 rfl
    refine b_ret rfl rfl ?_
    have cm17:=H70.mask [false,false,false,false,false]
    refine y_k cm17 cm17 ?_
    refine y_p (v:=.agg #[.slice none 0 0,.string sd,.slice pz67 l.length cz68,.slice none 0 0,.slice (some ⟨g64,0,none⟩:Option Addr) l.length l.length,.slice (some ⟨g51,0,none⟩:Option Addr) l.length l.length,.slice none 0 0]) 9 rfl (fun _=>x_build (vs:=[.string sd,.slice pz67 l.length cz68,.slice (some ⟨g64,0,none⟩:Option Addr) l.length l.length,.slice (some ⟨g51,0,none⟩:Option Addr) l.length l.length]) rfl rfl (cells:=#[.slice none 0 0,.string sd,.slice pz67 l.length cz68,.slice none 0 0,.slice (some ⟨g64,0,none⟩:Option Addr) l.length l.length,.slice (some ⟨g51,0,none⟩:Option Addr) l.length l.length,.slice none 0 0]) (by kernel_rfl)) ?_
    refine y_one (i:=10) (by kernel_rfl) rfl ?_
    refine s_box H70 (wt0 rfl) rfl rfl rfl rfl ?_
    intro g71 wq72 H73
    have cm18:=H73.mask [false,false,false,false,false,false]
    refine y_k cm18 cm18 ?_
    refine y_p 11 rfl (fun _=>xa) ?_
    refine y_done (by kernel_rfl) ?_
    refine w_0 ?_
    refine g_mid (g71,pz67,cz68,(some ⟨g64,0,none⟩:Option Addr),(some ⟨g51,0,none⟩:Option Addr)) ?_ ?_
    · exact ⟨rfl,rfl,trivial⟩
    · exact (H73.tk [0,1,2,3,5])
 rintro ⟨g,pp,pc,tp,vp⟩ wq74 H75
 refine g_wk [(1,_),(6,_)] ?_
 refine g_seq ?_
 refine w_k6 ?_
 refine g_loop (ι:=Nat × Option Addr × Nat × List Sg × Option Addr × Nat × List (Ro Int)) (fun (i,sp,sc,ssl,bp,bc,bl)=>[(1,.slice p l.length c),(6,.pointer (some ⟨g,0,none⟩)),(35,.slice p l.length c),(36,.int .i64 ((l.length:Int))),(37,.int .i64 ((i:Int)))]) (fun (i,sp,sc,ssl,bp,bc,bl) wx=>(i≤l.length)∧(ssl.map Sg.sp=(l.take i).map fun p=>spN p.st)∧(bl.map Ro.l=List.replicate i (List.replicate l.length 0))∧S wx [Rw 63 1 sp ssl.length sc (fl sgL ssl),(Lst SgI ssl),Rw 43 1 bp bl.length bc (fl rowL bl),(Lst BwI bl),Ob g (.cells #[.slice none 0 0,.string sd,.slice pp l.length pc,.slice sp ssl.length sc,.slice tp l.length l.length,.slice vp l.length l.length,.slice bp bl.length bc] 61 (0,0)),Rw 27 2 pp l.length pc (fl plL l),Rw 3 1 tp l.length l.length (fl intL (List.replicate l.length (0:Int))),Rw 3 1 vp l.length l.length (fl intL (List.replicate l.length (0:Int))),Old w no]) (fun (i,sp,sc,ssl,bp,bc,bl)=>l.length - i) (0,none,0,[],none,0,[]) ⟨rfl,rfl,rfl,rfl,rfl,trivial⟩ ⟨Nat.zero_le _,rfl,rfl,((S.lstNil (((S.lstNil (H75.nilFl 43 1 rowL) BwI)).nilFl 63 1 sgL) SgI).tk [1,0,3,2,4,5,6,7,8])⟩ ?_
 rintro ⟨i,sp,sc,ssl,bp,bc,bl⟩ wq76 ⟨hi,hss,hbl,H77⟩
 refine g_wk [(1,_),(6,_),(35,_),(36,_),(37,_)] ?_
 have hsln:ssl.length=i:=(by have h9:=congrArg List.length hss; rw [List.length_map,List.length_map,List.length_take] at h9; omega); have hbln:bl.length=i:=(by have h9:=congrArg List.length hbl; rw [List.length_map,List.length_replicate] at h9; exact h9)
 refine w_k3 ?_
 refine g_seq ?_
 by_cases hb78:((i:Int):Int)<(l.length:Int)
 ·
  refine g_ct hb78 ?_
  refine w_k5 ?_
  refine w_v (x_i i (H77.exReads (k:=8) rfl hr (fun _ _ _ h=>h))) ?_
  obtain ⟨x79,hx79⟩:=(H77.exReads (k:=8) rfl hr (fun _ _ _ h=>h)).exL plE i
  refine w_v (x_loadRA (vs:=plL x79) i (H77.exReads (k:=8) rfl hr (fun _ _ _ h=>h)) (by omega) rfl rfl Tryz.underlying27 rfl sz27 (by rfl) (plE.flAt hx79)) ?_
  refine l_of (s_alloc H77 (wt0 rfl) rfl rfl rfl ze27 ?_)
  intro g80 wq81 H82
  refine l_of (w_st #[.int .i64 (x79.st),.int .i64 (x79.rt)] H82 0 ?_)
  intro wq83 H84
  refine w_e ?_
  refine g_seq ?_
  refine g_anyY [] (fun wx=>S wx [Ob g80 (.cells #[.int .i64 (x79.st),.int .i64 (x79.rt)] 27 (0,0)),Ob g (.cells #[.slice none 0 0,.string sd,.slice pp l.length pc,.slice sp ssl.length sc,.slice tp l.length l.length,.slice vp l.length l.length,.slice bp bl.length bc] 61 (0,0))]) (fun wx=>S wx [Ob g80 (.cells #[.int .i64 (x79.st),.int .i64 (x79.rt)] 27 (0,0))]) [12] (by kernel_rfl) H84 (fun wq85 H86=>?_)
  refine y_p 0 rfl (fun _=>xm) ?_
  refine y_p 1 rfl (fun _=>xm) ?_
  refine y_p 2 rfl (fun _=>xn) ?_
  refine y_p 3 rfl (fun _=>xf 3) ?_
  have cm19:=H86.mask [true,false,false,false,false,true,false,false,false,false]
  refine y_t 4 rfl cm19 (fun _ H=>xl H 1) ?_
  refine y_p 5 rfl (fun _=>xf 0) ?_
  refine y_t 6 rfl cm19 (fun _ H=>xl H 0) ?_
  refine y_one (i:=7) (by kernel_rfl) rfl ?_
  have hvx:=valid_at ha hx79
  refine s_cl (made_all x79.st hvx.1 _) ?_
  rintro _ wq87 ⟨s9,rfl,hs9,H88⟩
  replace H88:S _ [_,_,_,_,_,_,_,_,_,_,_]:=H86.ab (new:=[_]) H88 rfl
  refine b_ret rfl rfl ?_
  refine y_k (H88.mask [false,true,false,false,false,false,true,false,false,false,false]) (H88.mask [false,true,false,false,false,false,false,false,false,false,false]) ?_
  refine y_one (i:=8) (by kernel_rfl) rfl ?_
  refine s_b1 ze63 #[.iface s9.ty (s9.va)] H88 ?_
  intro g89 wq90 H91
  refine y_k (H91.mask [false,false,true,false,false,false,false,true,false,false,false,false]) (H91.mask [false,false,true,false,false,false,false,false,false,false,false,false]) ?_
  refine y_one (i:=9) (by kernel_rfl) rfl ?_
  have hln96a:=(H91.rr 3).lenL sgE
  have hln96:(ssl++[s9]).length=ssl.length+1:=by simp only [List.length_append,List.length_cons,List.length_nil] <;> omega
  refine s_appBn (m:=1) (l:=ssl) (l2:=[s9]) sgE H91 3 (j0:=0) rfl rfl ⟨rfl,Nat.le_refl _⟩ (wt0 rfl) rfl rfl rfl rfl rfl rfl Tryz.underlying59 inf63 rfl (by decide) (by omega) ?_
  intro p92 c93 wq94 H95
  refine y_k (H95.mask [false,false,true,false,false,false,false,true,false,false,false,false]) (H95.mask [false,false,true,false,false,false,false,false,false,false,false,false]) ?_
  refine y_p 10 rfl (fun _=>xn) ?_
  refine y_p 11 rfl (fun _=>xf 3) ?_
  refine y_one (i:=12) (by kernel_rfl) rfl ?_
  refine w_st #[.slice none 0 0,.string sd,.slice pp l.length pc,.slice p92 ((ssl++[s9]).length) c93,.slice tp l.length l.length,.slice vp l.length l.length,.slice bp bl.length bc] H95 7 ?_
  intro wq97 H98
  refine y_kt rfl (H98.mask [false,false,true,false,false,false,false,false,false,false,false,false]) ?_
  refine y_done (by kernel_rfl) ?_
  refine w_0 ?_
  refine g_anyY [] (fun wx=>S wx [Ob g (.cells #[.slice none 0 0,.string sd,.slice pp l.length pc,.slice p92 ((ssl++[s9]).length) c93,.slice tp l.length l.length,.slice vp l.length l.length,.slice bp bl.length bc] 61 (0,0))]) (fun wx=>S wx []) [12] (by kernel_rfl) H98 (fun wq99 H100=>?_)
  refine y_p 0 rfl (fun _=>xm) ?_
  refine y_p 1 rfl (fun _=>xm) ?_
  refine y_p 2 rfl (fun _=>xn) ?_
  refine y_p 3 rfl (fun _=>xf 6) ?_
  refine y_t 4 rfl (H100.mask [false,false,false,false,false,false,false,true,false,false,false,false]) (fun _ H=>xl H 0) ?_
  refine y_p 5 rfl (fun _=>xm) ?_
  obtain ⟨z9,hz9⟩:∃ z9:List Int,z9=List.replicate l.length 0:=⟨_,rfl⟩
  have hz9l:z9.length=l.length:=by rw [hz9]; exact List.length_replicate
  have hz9r:List.replicate z9.length (0:Int)=z9:=by rw [hz9l]; exact hz9.symm
  refine y_p (v:=.int .i64 ((z9.length:Int))) 6 rfl (fun _=>ex_cast (x_lenl rfl rfl Tryz.underlying22) (by rw [hz9l])) ?_
  refine y_one (i:=7) (by kernel_rfl) rfl ?_
  refine s_make1 z9.length H100 (wt0 rfl) rfl rfl rfl rfl rfl Tryz.underlying43 inf3 rfl (by omega) ?_
  intro g101 wq102 H103
  replace H103:S _ [_,_,_,_,_,_,_,_,_,_,_,_,_]:=S.obFl (l:=z9) intE H103 (k:=0) rfl rfl (by unfold maxLen; omega) ((zero_fl _).trans (congrArg _ hz9r))
  refine y_k (H103.mask [false,false,false,false,false,false,false,false,true,false,false,false,false]) (H103.mask [false,false,false,false,false,false,false,false,false,false,false,false,false]) ?_
  refine y_one (i:=8) (by kernel_rfl) rfl ?_
  refine s_b1 ze43 #[.slice (some ⟨g101,0,none⟩:Option Addr) z9.length z9.length] H103 ?_
  intro g104 wq105 H106
  refine y_k (H106.mask [false,false,false,false,false,false,false,false,false,true,false,false,false,false]) (H106.mask [false,false,false,false,false,false,false,false,false,false,false,false,false,false]) ?_
  refine y_one (i:=9) (by kernel_rfl) rfl ?_
  have hln111a:=(H106.rr 7).lenL rowE
  have hln111:(bl++[(⟨(some ⟨g101,0,none⟩:Option Addr),z9.length,z9⟩:Ro Int)]).length=bl.length+1:=by simp only [List.length_append,List.length_cons,List.length_nil] <;> omega
  refine s_appBn (m:=1) (l:=bl) (l2:=[(⟨(some ⟨g101,0,none⟩:Option Addr),z9.length,z9⟩:Ro Int)]) rowE H106 7 (j0:=0) rfl rfl ⟨rfl,Nat.le_refl _⟩ (wt0 rfl) rfl rfl rfl rfl rfl rfl Tryz.underlying39 inf43 rfl (by decide) (by omega) ?_
  intro p107 c108 wq109 H110
  refine y_k (H110.mask [false,false,false,false,false,false,false,false,false,true,false,false,false,false]) (H110.mask [false,false,false,false,false,false,false,false,false,false,false,false,false,false]) ?_
  refine y_p 10 rfl (fun _=>xn) ?_
  refine y_p 11 rfl (fun _=>xf 6) ?_
  refine y_one (i:=12) (by kernel_rfl) rfl ?_
  refine w_st #[.slice none 0 0,.string sd,.slice pp l.length pc,.slice p92 ((ssl++[s9]).length) c93,.slice tp l.length l.length,.slice vp l.length l.length,.slice p107 ((bl++[(⟨(some ⟨g101,0,none⟩:Option Addr),z9.length,z9⟩:Ro Int)]).length) c108] H110 9 ?_
  intro wq112 H113
  refine y_kt rfl (H113.mask [false,false,false,false,false,false,false,false,false,false,false,false,false,false]) ?_
  refine y_done (by kernel_rfl) ?_
  refine w_k3 ?_
  refine w_i i ?_
  refine w_k2 ?_
  have hbw9:BwI (⟨(some ⟨g101,0,none⟩:Option Addr),z9.length,z9⟩:Ro Int)=Rw 3 1 (some ⟨g101,0,none⟩:Option Addr) z9.length z9.length (fl intL z9):=rfl
  have H114:S _ [_,_,_,_,_,_,_,_,_,_,_,_]:=(S.lstSnoc (F:=SgI) (x:=s9) ((S.lstSnoc (F:=BwI) (x:=(⟨(some ⟨g101,0,none⟩:Option Addr),z9.length,z9⟩:Ro Int)) (by rw [hbw9]; exact H113.tk [1,8,3,6,0,2,4,5,7,9,10,11,12,13])).tk [1,2,0,3,4,5,6,7,8,9,10,11,12]))
  refine g_rd (i:=(i,sp,sc,ssl,bp,bc,bl)) ((i+1),p92,c93,(ssl++[s9]),p107,c108,(bl++[(⟨(some ⟨g101,0,none⟩:Option Addr),z9.length,z9⟩:Ro Int)])) ⟨by omega,(by rw [take_snocT hx79,List.map_append,List.map_append,hss]; exact congrArg (_++[·]) hs9),(by rw [List.map_append,hbl,List.replicate_succ']; exact congrArg (_++[·]) hz9),(H114.tk [5,0,6,1,7,8,9,10,11])⟩
 ·
  refine g_cf hb78 ?_
  refine w_k11 ?_
  refine fin_r [.tmp 4,.tmp 5] [.pointer (some ⟨g,0,none⟩),.int .i64 0] ?_
  have hie:i=l.length:=by omega
  rw [hie,List.take_length] at hss
  rw [hie] at hbl
  have hrl:(List.replicate l.length (0:Int)).length=l.length:=List.length_replicate
  have H115:=S.nilFl (H77.tk [4,5,0,6,7,2,3,1,8]) 39 1 (rowL:Rd→List Value)
  refine ⟨(⟨g,none,0,[],sd,pp,pc,l,sp,sc,ssl,tp,l.length,List.replicate l.length 0,vp,l.length,List.replicate l.length 0,bp,bc,bl⟩:GM),rfl,by unfold GM.A newA; dsimp only; rw [hss,hbl]; rfl,rfl,?_⟩
  have e1:Rw 3 1 tp l.length l.length (fl intL (List.replicate l.length (0:Int)))=Rw 3 1 tp (List.replicate l.length (0:Int)).length l.length (fl intL (List.replicate l.length (0:Int))):=by rw [hrl]
  have e2:Rw 3 1 vp l.length l.length (fl intL (List.replicate l.length (0:Int)))=Rw 3 1 vp (List.replicate l.length (0:Int)).length l.length (fl intL (List.replicate l.length (0:Int))):=by rw [hrl]
  have e3:Ob g (.cells #[.slice none 0 0,.string sd,.slice pp l.length pc,.slice sp ssl.length sc,.slice tp l.length l.length,.slice vp l.length l.length,.slice bp bl.length bc] 61 (0,0))=Ob g (.cells #[.slice none 0 0,.string sd,.slice pp l.length pc,.slice sp ssl.length sc,.slice tp (List.replicate l.length (0:Int)).length l.length,.slice vp (List.replicate l.length (0:Int)).length l.length,.slice bp bl.length bc] 61 (0,0)):=by rw [hrl]
  rw [e1,e2,e3] at H115
  exact S.big (L:=[_,_,_,_,_,_,_,_,_]) (H115.tk [1,0,2,3,4,5,6,7,8,9])
end
end Go.Proofs.YtpbjekdjebjbkaaGreatDoor
