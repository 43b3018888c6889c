import Derived.Test.YtpbjekdjebjbkaaGreatDoorFm
import Derived.Test.YtpbjekdjebjbkaaGreatDoorRm
set_option linter.unusedSimpArgs false
set_option linter.unusedVariables false
namespace Go.Proofs.YtpbjekdjebjbkaaGreatDoor
open Go.RowKit
theorem inf4:infO Tryz.prog 4=some (some (.bool false),1,1):=by kernel_rfl
theorem inf76:infO Tryz.prog 76=some (some (.slice none 0 0),1,24):=by kernel_rfl
theorem sz76:szO Tryz.prog 76=some 1:=by kernel_rfl
theorem ze76:zeO Tryz.prog 76=some (.slice none 0 0):=by kernel_rfl
def stA (ps:List Pl) (i:Nat):Int:=((ps[i]?).map Pl.st).getD 0
theorem stA_is {ps:List Pl} {i:Nat} {pm:Pl} (h:ps[i]?=some pm):stA ps i=pm.st:=by unfold stA; rw [h]; rfl
noncomputable def chosR (R:RA) (i:Nat):List Int × List Int:=chosG R.sd R.ps.length R.gv (stA R.ps i) (rtA R.ps i) (fun j=>at2 R.px i j) i
noncomputable def rowQ (R:RA) (i:Nat):List Int:=putV R.ps.length (chosR R i).1 (chosR R i).2
noncomputable def roundQ (R:RA):List (List Int):=(List.range R.ps.length).map (rowQ R)
def updS (C:List Bool) (f:Int→Int) (rt:Int) (s:List Int × List Int) (i:Int):List Int × List Int:=
 if C.getD i.toNat false=false then (s.1,s.2.set i.toNat 0)
 else if 0<f i then (if 3≤s.2.getD i.toNat 0+1 then s.1.set i.toNat (s.1.getD i.toNat 0 - s.1.getD i.toNat 0 / 10) else s.1,s.2.set i.toNat (s.2.getD i.toNat 0+1))
 else (s.1.set i.toNat (min (s.1.getD i.toNat 0+max 1 (s.1.getD i.toNat 0 / 5)) rt),s.2.set i.toNat 0)
noncomputable def updR (R:RA) (i:Nat):List Int × List Int:=
 if stA R.ps i=6 then (othV R.ps.length i).foldl (updS (wasV R.ps.length (chosR R i).1) (fun j=>at2 (roundQ R) j i) (rtA R.ps i)) (R.px.getD i [],R.rw.getD i []) else (R.px.getD i [],R.rw.getD i [])
noncomputable def stepR (R:RA):RA:={ R with gv:=R.gv++[roundQ R],px:=mapK (fun i _=>(updR R i).1) R.ps.length R.px,rw:=mapK (fun i _=>(updR R i).2) R.ps.length R.rw }
section
variable {C:List Bool} {f:Int→Int} {rt:Int} {pa pb:List Int} {o v e:Int}
theorem upd_a (h:C.getD o.toNat false=false):(pa,pb.set o.toNat 0)=updS C f rt (pa,pb) o:=by unfold updS; rw [if_pos h]
theorem upd_b (h:C.getD o.toNat false=true) (hf:0<f o) (hv:pa[o.toNat]?=some v) (he:pb[o.toNat]?=some e) (h3:3≤e+1):(pa.set o.toNat (v - v / 10),pb.set o.toNat (e+1))=updS C f rt (pa,pb) o:=by
 unfold updS
 dsimp only
 rw [getD_atT hv,getD_atT he,if_neg (by rw [h]; decide),if_pos hf,if_pos h3]
theorem upd_c (h:C.getD o.toNat false=true) (hf:0<f o) (he:pb[o.toNat]?=some e) (h3:¬ 3≤e+1):(pa,pb.set o.toNat (e+1))=updS C f rt (pa,pb) o:=by
 unfold updS
 dsimp only
 rw [getD_atT he,if_neg (by rw [h]; decide),if_pos hf,if_neg h3]
theorem upd_d (h:C.getD o.toNat false=true) (hf:¬ 0<f o) (hv:pa[o.toNat]?=some v):(pa.set o.toNat (min (v+max 1 (v / 5)) rt),pb.set o.toNat 0)=updS C f rt (pa,pb) o:=by
 unfold updS
 dsimp only
 rw [getD_atT hv,if_neg (by rw [h]; decide),if_neg hf]
end
theorem BdL.set {B:Int} {l:List Int} (h:BdL B l) {i:Nat} {v:Int} (hv:0≤v∧v≤B):BdL B (l.set i v):=fun y hy=>by
 rcases List.mem_or_eq_of_mem_set hy with hy | rfl
 · exact h y hy
 · exact hv
section
variable {α:Type} {f:Nat→α→α} {k:Nat} {l m:List α} {x y:α}
theorem mk_skip (h:m=mapK f k l) (hx:l[k]?=some x) (hf:f k x=x):m=mapK f (k+1) l:=by
 rw [mapK_succ hx,hf,set_self (by rw [mapK_at (Nat.le_refl k)]; exact hx)]; exact h
theorem mk_set (h:m=mapK f k l) (hx:l[k]?=some x) (hf:f k x=y):m.set k y=mapK f (k+1) l:=by rw [mapK_succ hx,hf,h]
end
def BoI (b:Ro Bool):Item:=Rw 4 1 b.p b.l.length b.c (fl boolL b.l)
theorem S.boRd {w:World} {L:List Item} {k i:Nat} {bs:List (Ro Bool)} {x:Ro Bool} (h:S w L) (hk:L[k]?=some (Lst BoI bs)) (hx:bs[i]?=some x):Reads w x.p x.l.length x.c 1 (fl boolL x.l):=by
 have h1:S w [BoI x]:=h.lstAt hk hx
 exact h1.rwReads (k:=0) rfl
theorem zero_flB (n:Nat):(Array.replicate n (Value.bool false)).toList=fl boolL (List.replicate n false):=by
 rw [Array.toList_replicate]
 unfold fl
 induction n with
 | zero=>rfl
 | succ n ih=>rw [List.replicate_succ,List.replicate_succ,List.flatMap_cons,← ih]; rfl
set_option maxRecDepth 20000 in
set_option maxHeartbeats 4000000 in
theorem roundr_s (g:Nat) (sd:ByteArray) (lp:Option Addr) (lc:Nat) (ps:List Pl) (rp:Option Addr) (rc:Nat) (gs:List Rd) (xp:Option Addr) (xc:Nat) (xs:List (Ro Int)) (yp:Option Addr) (yc:Nat) (ys:List (Ro Int)) (pl:List Rd) (hG:GsOK ps.length pl gs) (hgl:gs.length≤190) (hnp:ps.length≤9) (h2p:2≤ps.length) (hsd:sd.size≤100) (hpv:∀ p∈ps,(1≤p.st∧p.st≤7)∧0≤p.rt∧p.rt≤1000000) (hxd:RdOK ps.length (xs.map Ro.l)) (hyl:ys.length=ps.length) (hyw:∀ y∈ys,y.l.length=ps.length) (Kb:Int) (hK:0≤Kb∧Kb≤1000000) (hyb:∀ y∈ys,BdL Kb y.l) (hrok:RdOK ps.length (roundQ (⟨sd,ps,gs.map Rd.v,xs.map Ro.l,ys.map Ro.l⟩:RA)))  (w:World) (HS:S w [Ob g (.cells #[.string sd,.slice lp ps.length lc,.slice rp gs.length rc,.slice xp xs.length xc,.slice yp ys.length yc] 66 (0,0)),Rw 27 2 lp ps.length lc (fl plL ps),Rw 39 1 rp gs.length rc (fl rowL gs),(Pool pl),Rw 43 1 xp xs.length xc (fl rowL xs),(Lst BwI xs),Rw 43 1 yp ys.length yc (fl rowL ys),(Lst BwI ys)]):Calls Tryz.prog 14 #[.pointer (some ⟨g,0,none⟩)] w fun e w'=>∃ rd rp2 rc2 xs9 ys9,e=.returned (.tuple #[.slice rd.p rd.l.length rd.c,.int .i64 0])∧rd.v=roundQ (⟨sd,ps,gs.map Rd.v,xs.map Ro.l,ys.map Ro.l⟩:RA)∧GsOK ps.length (pl++[rd]) (gs++[rd])∧xs9.map Ro.l=(stepR (⟨sd,ps,gs.map Rd.v,xs.map Ro.l,ys.map Ro.l⟩:RA)).px∧ys9.map Ro.l=(stepR (⟨sd,ps,gs.map Rd.v,xs.map Ro.l,ys.map Ro.l⟩:RA)).rw∧S w' ([Ob g (.cells #[.string sd,.slice lp ps.length lc,.slice rp2 ((gs++[rd]).length) rc2,.slice xp xs9.length xc,.slice yp ys9.length yc] 66 (0,0)),Rw 27 2 lp ps.length lc (fl plL ps),Rw 39 1 rp2 ((gs++[rd]).length) rc2 (fl rowL (gs++[rd])),Rw 43 1 xp xs9.length xc (fl rowL xs9),(Lst BwI xs9),Rw 43 1 yp ys9.length yc (fl rowL ys9),(Lst BwI ys9),(Pool (pl++[rd]))]++[Old w (fps [Ob g (.cells #[.string sd,.slice lp ps.length lc,.slice rp gs.length rc,.slice xp xs.length xc,.slice yp ys.length yc] 66 (0,0)),Rw 27 2 lp ps.length lc (fl plL ps),Rw 39 1 rp gs.length rc (fl rowL gs),(Pool pl),Rw 43 1 xp xs.length xc (fl rowL xs),(Lst BwI xs),Rw 43 1 yp ys.length yc (fl rowL ys),(Lst BwI ys)])]):=by
 have H0:=HS.beginI
 obtain ⟨z9,hz9⟩:∃ z9:List Int,z9=List.replicate ps.length 0:=⟨_,rfl⟩
 have hz9l:z9.length=ps.length:=by rw [hz9]; exact List.length_replicate
 have hz9r:List.replicate z9.length (0:Int)=z9:=by rw [hz9l]; exact hz9.symm
 obtain ⟨u9,hu9⟩:∃ u9:List Bool,u9=List.replicate ps.length false:=⟨_,rfl⟩
 have hu9l:u9.length=ps.length:=by rw [hu9]; exact List.length_replicate
 have hu9r:List.replicate u9.length false=u9:=by rw [hu9l]; exact hu9.symm
 have hxl:xs.length=ps.length:=by have h9:=hxd.len; rwa [List.length_map] at h9
 refine enter 212 Tryz.func14 rfl rfl rfl ?_
 refine g_wk [(0,_)] ?_
 refine w_s ?_
 refine w_r2 ?_
 refine w_e ?_
 refine g_seq ?_
 refine w_s ?_
 refine w_m ?_
 refine w_b (v:=.bool false) (hb:=(b_eqN (r:=false) Tryz.underlying33 rfl)) ?_
 refine w_e ?_
 refine g_cond_f rfl rfl ?_
 refine w_ht ?_
 refine g_seq ?_
 refine w_s ?_
 refine w_r3 ?_
 refine w_1 H0 0 ?_
 refine w_v (v:=.int .i64 ((gs.length:Int))) x_q ?_
 refine w_b ?_
 refine w_e ?_
 refine g_cond_f rfl (decide_eq_false (by omega)) ?_
 refine w_hs ?_
 have H1:S w [Rw 43 1 none 0 0 (fl rowL ([]:List (Ro Int))),Ob g (.cells #[.string sd,.slice lp ps.length lc,.slice rp gs.length rc,.slice xp xs.length xc,.slice yp ys.length yc] 66 (0,0)),Rw 27 2 lp ps.length lc (fl plL ps),Rw 39 1 rp gs.length rc (fl rowL gs),(Pool pl),Rw 43 1 xp xs.length xc (fl rowL xs),(Lst BwI xs),Rw 43 1 yp ys.length yc (fl rowL ys),(Lst BwI ys),Old w (fps [Ob g (.cells #[.string sd,.slice lp ps.length lc,.slice rp gs.length rc,.slice xp xs.length xc,.slice yp ys.length yc] 66 (0,0)),Rw 27 2 lp ps.length lc (fl plL ps),Rw 39 1 rp gs.length rc (fl rowL gs),(Pool pl),Rw 43 1 xp xs.length xc (fl rowL xs),(Lst BwI xs),Rw 43 1 yp ys.length yc (fl rowL ys),(Lst BwI ys)])]:=H0.nilFl 43 1 rowL
 refine w_a ?_
 refine w_es ?_
 have H2:S w [Rw 76 1 none 0 0 (fl rowL ([]:List (Ro Bool))),Rw 43 1 none 0 0 (fl rowL ([]:List (Ro Int))),Ob g (.cells #[.string sd,.slice lp ps.length lc,.slice rp gs.length rc,.slice xp xs.length xc,.slice yp ys.length yc] 66 (0,0)),Rw 27 2 lp ps.length lc (fl plL ps),Rw 39 1 rp gs.length rc (fl rowL gs),(Pool pl),Rw 43 1 xp xs.length xc (fl rowL xs),(Lst BwI xs),Rw 43 1 yp ys.length yc (fl rowL ys),(Lst BwI ys),Old w (fps [Ob g (.cells #[.string sd,.slice lp ps.length lc,.slice rp gs.length rc,.slice xp xs.length xc,.slice yp ys.length yc] 66 (0,0)),Rw 27 2 lp ps.length lc (fl plL ps),Rw 39 1 rp gs.length rc (fl rowL gs),(Pool pl),Rw 43 1 xp xs.length xc (fl rowL xs),(Lst BwI xs),Rw 43 1 yp ys.length yc (fl rowL ys),(Lst BwI ys)])]:=H1.nilFl 76 1 rowL
 refine w_a ?_
 refine w_e ?_
 refine g_seq ?_
 refine w_s ?_
 refine w_r3 ?_
 refine w_1 H2 2 ?_
 refine w_v (v:=.int .i64 ((ps.length:Int))) x_q ?_
 refine w_m ?_
 refine w_e ?_
 refine g_block ?_
 refine g_loop (ι:=Nat × Option Addr × Nat × List (Ro Int) × Option Addr × Nat × List (Ro Bool)) (fun (i,pq,cq,zs,aq,ac,as9)=>[(0,.pointer (some ⟨g,0,none⟩)),(4,.slice pq zs.length cq),(5,.slice aq as9.length ac),(30,.int .i64 ((ps.length:Int))),(31,.int .i64 ((i:Int)))]) (fun (i,pq,cq,zs,aq,ac,as9) wx=>(i≤ps.length)∧(zs.map Ro.l=(List.range i).map (rowQ (⟨sd,ps,gs.map Rd.v,xs.map Ro.l,ys.map Ro.l⟩:RA)))∧(as9.map Ro.l=(List.range i).map (fun t=>wasV ps.length (chosR (⟨sd,ps,gs.map Rd.v,xs.map Ro.l,ys.map Ro.l⟩:RA) t).1))∧S wx [Rw 43 1 pq zs.length cq (fl rowL zs),(Lst BwI zs),Rw 76 1 aq as9.length ac (fl rowL as9),(Lst BoI as9),Ob g (.cells #[.string sd,.slice lp ps.length lc,.slice rp gs.length rc,.slice xp xs.length xc,.slice yp ys.length yc] 66 (0,0)),Rw 27 2 lp ps.length lc (fl plL ps),Rw 39 1 rp gs.length rc (fl rowL gs),(Pool pl),Rw 43 1 xp xs.length xc (fl rowL xs),(Lst BwI xs),Rw 43 1 yp ys.length yc (fl rowL ys),(Lst BwI ys),Old w (fps [Ob g (.cells #[.string sd,.slice lp ps.length lc,.slice rp gs.length rc,.slice xp xs.length xc,.slice yp ys.length yc] 66 (0,0)),Rw 27 2 lp ps.length lc (fl plL ps),Rw 39 1 rp gs.length rc (fl rowL gs),(Pool pl),Rw 43 1 xp xs.length xc (fl rowL xs),(Lst BwI xs),Rw 43 1 yp ys.length yc (fl rowL ys),(Lst BwI ys)])]) (fun (i,pq,cq,zs,aq,ac,as9)=>ps.length - i) (0,none,0,[],none,0,[]) ⟨rfl,rfl,rfl,rfl,rfl,trivial⟩ ⟨Nat.zero_le _,rfl,rfl,((S.lstNil ((S.lstNil H2 BwI)) BoI).tk [3,1,2,0,4,5,6,7,8,9,10,11,12])⟩ ?_
 rintro ⟨i,pq,cq,zs,aq,ac,as9⟩ wq3 ⟨hi,hz,ha9,H4⟩
 refine g_wk [(0,_),(4,_),(5,_),(30,_),(31,_)] ?_
 have hzl:zs.length=i:=(by have h9:=congrArg List.length hz; rwa [List.length_map,List.length_map,List.length_range] at h9); have hal:as9.length=i:=(by have h9:=congrArg List.length ha9; rwa [List.length_map,List.length_map,List.length_range] at h9)
 refine w_s ?_
 refine w_b ?_
 refine w_e ?_
 refine g_seq ?_
 by_cases hb5:((i:Int):Int)<(ps.length:Int)
 ·
  refine g_ct hb5 ?_
  refine w_ht ?_
  refine g_seq ?_
  refine w_bs ?_
  refine w_r2 ?_
  refine w_e ?_
  refine g_seq ?_
  refine g_cut (ι:=Option Addr × Option Addr) (fun (ra9,wa9)=>[(0,.pointer (some ⟨g,0,none⟩)),(4,.slice pq zs.length cq),(5,.slice aq as9.length ac),(6,.int .i64 ((i:Int))),(7,.slice ra9 z9.length z9.length),(8,.slice wa9 u9.length u9.length),(30,.int .i64 ((ps.length:Int))),(31,.int .i64 ((i:Int)))]) (fun (ra9,wa9) wx=>S wx [Rw 3 1 ra9 z9.length z9.length (fl intL z9),Rw 4 1 wa9 u9.length u9.length (fl boolL u9),Rw 43 1 pq zs.length cq (fl rowL zs),(Lst BwI zs),Rw 76 1 aq as9.length ac (fl rowL as9),(Lst BoI as9),Ob g (.cells #[.string sd,.slice lp ps.length lc,.slice rp gs.length rc,.slice xp xs.length xc,.slice yp ys.length yc] 66 (0,0)),Rw 27 2 lp ps.length lc (fl plL ps),Rw 39 1 rp gs.length rc (fl rowL gs),(Pool pl),Rw 43 1 xp xs.length xc (fl rowL xs),(Lst BwI xs),Rw 43 1 yp ys.length yc (fl rowL ys),(Lst BwI ys),Old w (fps [Ob g (.cells #[.string sd,.slice lp ps.length lc,.slice rp gs.length rc,.slice xp xs.length xc,.slice yp ys.length yc] 66 (0,0)),Rw 27 2 lp ps.length lc (fl plL ps),Rw 39 1 rp gs.length rc (fl rowL gs),(Pool pl),Rw 43 1 xp xs.length xc (fl rowL xs),(Lst BwI xs),Rw 43 1 yp ys.length yc (fl rowL ys),(Lst BwI ys)])]) ?_ ?_
  ·
   refine g_any [] (fun wx=>S wx [Ob g (.cells #[.string sd,.slice lp ps.length lc,.slice rp gs.length rc,.slice xp xs.length xc,.slice yp ys.length yc] 66 (0,0))]) [] (by kernel_rfl) H4 (fun wq6 H7=>?_)
   have cm1:=H7.mask [false,false,false,false,true,false,false,false,false,false,false,false,false]
   refine w_t 0 rfl cm1 (fun _ _=>xm) ?_
   refine w_t 1 rfl cm1 (fun _ _=>xn) ?_
   refine w_t 2 rfl cm1 (fun _ _=>xf 1) ?_
   refine w_t 3 rfl cm1 (fun _ H=>xl H 0) ?_
   refine w_t (v:=.int .i64 ((z9.length:Int))) 4 rfl cm1 (fun _ _=>ex_cast (x_lenl rfl rfl Tryz.underlying22) (by rw [hz9l])) ?_
   refine w_t 6 rfl cm1 (fun _ _=>xm) ?_
   refine w_t 7 rfl cm1 (fun _ _=>xn) ?_
   refine w_t 8 rfl cm1 (fun _ _=>xf 1) ?_
   refine w_t 9 rfl cm1 (fun _ H=>xl H 0) ?_
   refine w_t (v:=.int .i64 ((u9.length:Int))) 10 rfl cm1 (fun _ _=>ex_cast (x_lenl rfl rfl Tryz.underlying22) (by rw [hu9l])) ?_
   refine a_two (i:=5) (j:=11) (by kernel_rfl) rfl rfl ?_ ?_
   ·
    refine s_make1 z9.length H7 (wt0 rfl) rfl rfl rfl rfl rfl Tryz.underlying43 inf3 rfl (by omega) ?_
    intro g8 wq9 H10
    replace H10:S wq9 [Rw 3 1 (some ⟨g8,0,none⟩:Option Addr) z9.length z9.length (fl intL z9),Rw 43 1 pq zs.length cq (fl rowL zs),(Lst BwI zs),Rw 76 1 aq as9.length ac (fl rowL as9),(Lst BoI as9),Ob g (.cells #[.string sd,.slice lp ps.length lc,.slice rp gs.length rc,.slice xp xs.length xc,.slice yp ys.length yc] 66 (0,0)),Rw 27 2 lp ps.length lc (fl plL ps),Rw 39 1 rp gs.length rc (fl rowL gs),(Pool pl),Rw 43 1 xp xs.length xc (fl rowL xs),(Lst BwI xs),Rw 43 1 yp ys.length yc (fl rowL ys),(Lst BwI ys),Old w (fps [Ob g (.cells #[.string sd,.slice lp ps.length lc,.slice rp gs.length rc,.slice xp xs.length xc,.slice yp ys.length yc] 66 (0,0)),Rw 27 2 lp ps.length lc (fl plL ps),Rw 39 1 rp gs.length rc (fl rowL gs),(Pool pl),Rw 43 1 xp xs.length xc (fl rowL xs),(Lst BwI xs),Rw 43 1 yp ys.length yc (fl rowL ys),(Lst BwI ys)])]:=S.obFl (l:=z9) intE H10 (k:=0) rfl rfl (by unfold maxLen; omega) ((zero_fl _).trans (congrArg _ hz9r))
    have cm2:=H10.mask [false,false,false,false,false,true,false,false,false,false,false,false,false,false]
    refine a_k cm2 ?_
    refine w_t 12 rfl cm2 (fun _ _=>xa) ?_
    refine a_one (i:=11) (by kernel_rfl) rfl ?_
    refine s_make1 u9.length H10 (wt0 rfl) rfl rfl rfl rfl rfl Tryz.underlying76 inf4 rfl (by omega) ?_
    intro g11 wq12 H13
    replace H13:S wq12 [Rw 4 1 (some ⟨g11,0,none⟩:Option Addr) u9.length u9.length (fl boolL u9),Rw 3 1 (some ⟨g8,0,none⟩:Option Addr) z9.length z9.length (fl intL z9),Rw 43 1 pq zs.length cq (fl rowL zs),(Lst BwI zs),Rw 76 1 aq as9.length ac (fl rowL as9),(Lst BoI as9),Ob g (.cells #[.string sd,.slice lp ps.length lc,.slice rp gs.length rc,.slice xp xs.length xc,.slice yp ys.length yc] 66 (0,0)),Rw 27 2 lp ps.length lc (fl plL ps),Rw 39 1 rp gs.length rc (fl rowL gs),(Pool pl),Rw 43 1 xp xs.length xc (fl rowL xs),(Lst BwI xs),Rw 43 1 yp ys.length yc (fl rowL ys),(Lst BwI ys),Old w (fps [Ob g (.cells #[.string sd,.slice lp ps.length lc,.slice rp gs.length rc,.slice xp xs.length xc,.slice yp ys.length yc] 66 (0,0)),Rw 27 2 lp ps.length lc (fl plL ps),Rw 39 1 rp gs.length rc (fl rowL gs),(Pool pl),Rw 43 1 xp xs.length xc (fl rowL xs),(Lst BwI xs),Rw 43 1 yp ys.length yc (fl rowL ys),(Lst BwI ys)])]:=S.obFl (l:=u9) boolE H13 (k:=0) rfl rfl (by unfold maxLen; omega) ((zero_flB _).trans (congrArg _ hu9r))
    have cm3:=H13.mask [false,false,false,false,false,false,true,false,false,false,false,false,false,false,false]
    refine a_k cm3 ?_
    refine w_t 13 rfl cm3 (fun _ _=>xa) ?_
    refine a_done (by kernel_rfl) ?_
    refine g_then ?_
    refine g_mid ((some ⟨g8,0,none⟩:Option Addr),(some ⟨g11,0,none⟩:Option Addr)) ?_ ?_
    · exact ⟨rfl,rfl,rfl,rfl,rfl,rfl,rfl,rfl,trivial⟩
    · exact (H13.tk [1,0,2,3,4,5,6,7,8,9,10,11,12,13,14])
   ·
    refine s_make1 u9.length H7 (wt0 rfl) rfl rfl rfl rfl rfl Tryz.underlying76 inf4 rfl (by omega) ?_
    intro g14 wq15 H16
    replace H16:S wq15 [Rw 4 1 (some ⟨g14,0,none⟩:Option Addr) u9.length u9.length (fl boolL u9),Rw 43 1 pq zs.length cq (fl rowL zs),(Lst BwI zs),Rw 76 1 aq as9.length ac (fl rowL as9),(Lst BoI as9),Ob g (.cells #[.string sd,.slice lp ps.length lc,.slice rp gs.length rc,.slice xp xs.length xc,.slice yp ys.length yc] 66 (0,0)),Rw 27 2 lp ps.length lc (fl plL ps),Rw 39 1 rp gs.length rc (fl rowL gs),(Pool pl),Rw 43 1 xp xs.length xc (fl rowL xs),(Lst BwI xs),Rw 43 1 yp ys.length yc (fl rowL ys),(Lst BwI ys),Old w (fps [Ob g (.cells #[.string sd,.slice lp ps.length lc,.slice rp gs.length rc,.slice xp xs.length xc,.slice yp ys.length yc] 66 (0,0)),Rw 27 2 lp ps.length lc (fl plL ps),Rw 39 1 rp gs.length rc (fl rowL gs),(Pool pl),Rw 43 1 xp xs.length xc (fl rowL xs),(Lst BwI xs),Rw 43 1 yp ys.length yc (fl rowL ys),(Lst BwI ys)])]:=S.obFl (l:=u9) boolE H16 (k:=0) rfl rfl (by unfold maxLen; omega) ((zero_flB _).trans (congrArg _ hu9r))
    refine a_k (H16.mask [false,false,false,false,false,true,false,false,false,false,false,false,false,false]) ?_
    refine a_one (i:=5) (by kernel_rfl) rfl ?_
    refine s_make1 z9.length H16 (wt0 rfl) rfl rfl rfl rfl rfl Tryz.underlying43 inf3 rfl (by omega) ?_
    intro g17 wq18 H19
    replace H19:S wq18 [Rw 3 1 (some ⟨g17,0,none⟩:Option Addr) z9.length z9.length (fl intL z9),Rw 4 1 (some ⟨g14,0,none⟩:Option Addr) u9.length u9.length (fl boolL u9),Rw 43 1 pq zs.length cq (fl rowL zs),(Lst BwI zs),Rw 76 1 aq as9.length ac (fl rowL as9),(Lst BoI as9),Ob g (.cells #[.string sd,.slice lp ps.length lc,.slice rp gs.length rc,.slice xp xs.length xc,.slice yp ys.length yc] 66 (0,0)),Rw 27 2 lp ps.length lc (fl plL ps),Rw 39 1 rp gs.length rc (fl rowL gs),(Pool pl),Rw 43 1 xp xs.length xc (fl rowL xs),(Lst BwI xs),Rw 43 1 yp ys.length yc (fl rowL ys),(Lst BwI ys),Old w (fps [Ob g (.cells #[.string sd,.slice lp ps.length lc,.slice rp gs.length rc,.slice xp xs.length xc,.slice yp ys.length yc] 66 (0,0)),Rw 27 2 lp ps.length lc (fl plL ps),Rw 39 1 rp gs.length rc (fl rowL gs),(Pool pl),Rw 43 1 xp xs.length xc (fl rowL xs),(Lst BwI xs),Rw 43 1 yp ys.length yc (fl rowL ys),(Lst BwI ys)])]:=S.obFl (l:=z9) intE H19 (k:=0) rfl rfl (by unfold maxLen; omega) ((zero_fl _).trans (congrArg _ hz9r))
    have cm4:=H19.mask [false,false,false,false,false,false,true,false,false,false,false,false,false,false,false]
    refine a_k cm4 ?_
    refine w_t 12 rfl cm4 (fun _ _=>xa) ?_
    refine w_t 13 rfl cm4 (fun _ _=>xa) ?_
    refine a_done (by kernel_rfl) ?_
    refine g_then ?_
    refine g_mid ((some ⟨g17,0,none⟩:Option Addr),(some ⟨g14,0,none⟩:Option Addr)) ?_ ?_
    · exact ⟨rfl,rfl,rfl,rfl,rfl,rfl,rfl,rfl,trivial⟩
    · exact (H19.tk [0,1,2,3,4,5,6,7,8,9,10,11,12,13,14])
  rintro ⟨ra9,wa9⟩ wq20 H21
  refine g_wk [(0,_),(4,_),(5,_),(6,_),(7,_),(8,_),(30,_),(31,_)] ?_
  refine w_s ?_
  refine w_r2 ?_
  obtain ⟨pm,hpm⟩:=ex_at (l:=ps) (j:=i) (by omega)
  have hpr:=hpv pm (List.mem_of_getElem? hpm)
  obtain ⟨px,hpx⟩:=ex_at (l:=xs) (j:=i) (by omega)
  obtain ⟨W9,V9,hWV⟩:∃ W9 V9,chosR (⟨sd,ps,gs.map Rd.v,xs.map Ro.l,ys.map Ro.l⟩:RA) i=(W9,V9):=⟨_,_,rfl⟩
  have hWV2:chosG sd ps.length (gs.map Rd.v) pm.st pm.rt (fun j=>at2 (xs.map Ro.l) i j) i=(W9,V9):=by rw [← hWV,← stA_is hpm,← rtA_is hpm]; rfl
  have hco:=chosG_ok hnp h2p ⟨by omega,by omega⟩ hWV2
  have hcl:=hco.len
  refine l_of (s_cl (chosen_all g sd lp lc ps rp rc gs xp xc xs yp yc ys pl hG (by omega) hnp h2p hsd i ⟨by omega,by omega⟩ pm hpm hpr px hpx (hxd.row px.l (List.mem_map.2 ⟨px,List.mem_of_getElem? hpx,rfl⟩)) (fun j=>at2 (xs.map Ro.l) i j) (fun j y hy _=>(at2_bw (a:=(i:Int)) (b:=(j:Int)) hpx hy).symm) (fun j=>hxd.at2 _ _) W9 V9 hWV2 _ (H21.tk [6,7,8,9,10,11])) ?_)
  rintro _ wq22 ⟨p9,c9,q9,d9,rfl,H23⟩
  replace H23:S _ [_,_,_,_,_,_,_,_,_,_,_,_,_,_,_,_,_]:=H21.abI (new:=[_,_,_,_,_,_,_,_]) [6,7,8,9,10,11] H23 rfl
  have hwl40:W9.length≤100:=chosG_len hnp hWV2
  refine b_ret rfl rfl ?_
  refine w_r5 ?_
  refine w_e ?_
  refine g_seq ?_
  refine w_s ?_
  refine w_m ?_
  refine w_v (v:=.int .i64 ((W9.length:Int))) x_q ?_
  refine w_m ?_
  refine w_e ?_
  refine g_block ?_
  refine g_loop (ι:=Nat × List Int × List Bool) (fun (qi,rl,bl)=>[(0,.pointer (some ⟨g,0,none⟩)),(4,.slice pq zs.length cq),(5,.slice aq as9.length ac),(7,.slice ra9 z9.length z9.length),(8,.slice wa9 u9.length u9.length),(10,.slice q9 V9.length d9),(30,.int .i64 ((ps.length:Int))),(31,.int .i64 ((i:Int))),(52,.slice p9 W9.length c9),(53,.int .i64 ((W9.length:Int))),(54,.int .i64 ((qi:Int)))]) (fun (qi,rl,bl) wx=>(qi≤W9.length)∧(rl=putV ps.length (W9.take qi) (V9.take qi))∧(bl=wasV ps.length (W9.take qi))∧S wx [Rw 3 1 ra9 z9.length z9.length (fl intL rl),Rw 4 1 wa9 u9.length u9.length (fl boolL bl),Rw 3 1 p9 W9.length c9 (fl intL W9),Rw 3 1 q9 V9.length d9 (fl intL V9),Rw 43 1 pq zs.length cq (fl rowL zs),(Lst BwI zs),Rw 76 1 aq as9.length ac (fl rowL as9),(Lst BoI as9),Ob g (.cells #[.string sd,.slice lp ps.length lc,.slice rp gs.length rc,.slice xp xs.length xc,.slice yp ys.length yc] 66 (0,0)),Rw 27 2 lp ps.length lc (fl plL ps),Rw 39 1 rp gs.length rc (fl rowL gs),(Pool pl),Rw 43 1 xp xs.length xc (fl rowL xs),(Lst BwI xs),Rw 43 1 yp ys.length yc (fl rowL ys),(Lst BwI ys),Old w (fps [Ob g (.cells #[.string sd,.slice lp ps.length lc,.slice rp gs.length rc,.slice xp xs.length xc,.slice yp ys.length yc] 66 (0,0)),Rw 27 2 lp ps.length lc (fl plL ps),Rw 39 1 rp gs.length rc (fl rowL gs),(Pool pl),Rw 43 1 xp xs.length xc (fl rowL xs),(Lst BwI xs),Rw 43 1 yp ys.length yc (fl rowL ys),(Lst BwI ys)])]) (fun (qi,rl,bl)=>W9.length - qi) (0,z9,u9) ⟨rfl,rfl,rfl,rfl,rfl,rfl,rfl,rfl,rfl,rfl,rfl,trivial⟩ ⟨Nat.zero_le _,(by rw [hz9]; rfl),(by rw [hu9]; rfl),(H23.tk [8,9,0,1,10,11,12,13,2,3,4,5,6,7,14,15,16])⟩ ?_
  rintro ⟨qi,rl,bl⟩ wq24 ⟨hqi,hrl,hbl,H25⟩
  refine g_wk [(0,_),(4,_),(5,_),(7,_),(8,_),(10,_),(30,_),(31,_),(52,_),(53,_),(54,_)] ?_
  have hrll:rl.length=ps.length:=(by rw [hrl]; exact put_len _ _ _); have hbll:bl.length=ps.length:=(by rw [hbl]; exact was_len _ _)
  refine w_s ?_
  refine w_b ?_
  refine w_e ?_
  refine g_seq ?_
  by_cases hb26:((qi:Int):Int)<(W9.length:Int)
  ·
   refine g_ct hb26 ?_
   refine w_ht ?_
   refine g_seq ?_
   refine w_bs ?_
   refine w_m ?_
   refine w_v (v:=.pointer ((p9).map fun q=>q.add (qi * 1))) (x_i qi (H25.rr 2)) ?_
   obtain ⟨x27,hx27⟩:=(H25.rr 2).exL intE qi
   have hmw9:=hco.mem x27 (List.mem_of_getElem? hx27)
   refine w_v (v:=.int .i64 x27) (x_r qi (H25.rr 2) (intE.flAt1 hx27 rfl)) ?_
   refine w_r2 ?_
   refine w_er ?_
   refine w_r6 ?_
   refine w_v (v:=.pointer ((q9).map fun q=>q.add (qi * 1))) (x_i qi (H25.rr 3)) ?_
   obtain ⟨x28,hx28⟩:=(H25.rr 3).exL intE qi
   refine w_v (v:=.int .i64 x28) (x_r qi (H25.rr 3) (intE.flAt1 hx28 rfl)) ?_
   refine w_v (v:=.pointer ((ra9).map fun q=>q.add (((x27).toNat) * 1))) (x_i ((x27).toNat) (H25.rr 0)) ?_
   refine l_of (s_stoL (j:=((x27).toNat)) intE x28 H25 0 (wt0 rfl) rfl rfl rfl rfl rfl rfl sz3 (by omega) ?_)
   intro wq29 H30
   refine w_v (v:=.pointer ((wa9).map fun q=>q.add (((x27).toNat) * 1))) (x_i ((x27).toNat) (H30.rr 1)) ?_
   refine l_of (s_stoL (j:=((x27).toNat)) boolE true H30 1 (wt0 rfl) rfl rfl rfl rfl rfl rfl sz4 (by omega) ?_)
   intro wq31 H32
   refine g_nil ?_
   refine g_in ?_
   refine g_then ?_
   refine g_region ?_
   refine w_b (v:=.int .i64 (((qi+1:Nat):Int))) (hb:=(b_add (by rw [w64 (by omega)]; omega))) ?_
   refine w_m ?_
   refine w_e ?_
   refine g_rd (i:=(qi,rl,bl)) ((qi+1),(rl.set ((x27).toNat) x28),(bl.set ((x27).toNat) true)) ⟨by omega,(by rw [take_snocT hx27,take_snocT hx28,put_snoc (by rw [List.length_take,List.length_take,hcl]),← hrl]),(by rw [take_snocT hx27,was_snoc,← hbl]),(H32.tk [0,1,2,3,4,5,6,7,8,9,10,11,12,13,14,15,16])⟩
  ·
   refine g_cf hb26 ?_
   refine g_exit ?_
   iterate 2 refine g_then_exit ?_
   refine g_in_hit ?_
   refine g_then ?_
   refine g_region ?_
   have hqe:qi=W9.length:=by omega
   rw [hqe,List.take_length,hcl,List.take_length] at hrl
   rw [hqe,List.take_length] at hbl
   have hrq9:rl=rowQ (⟨sd,ps,gs.map Rd.v,xs.map Ro.l,ys.map Ro.l⟩:RA) i:=by unfold rowQ; rw [hWV]; exact hrl
   have hwq9:bl=wasV ps.length (chosR (⟨sd,ps,gs.map Rd.v,xs.map Ro.l,ys.map Ro.l⟩:RA) i).1:=by rw [hWV]; exact hbl
   have hrz:z9.length=rl.length:=by omega
   have huz:u9.length=bl.length:=by omega
   rw [hrz,huz] at H25 ⊢
   refine w_r2 ?_
   refine l_of (s_buildSlice H25 (wt0 rfl) rfl rfl rfl (vs:=[.slice ra9 rl.length rl.length]) rfl Tryz.underlying39 sz43 ze43 rfl rfl (cells:=#[.slice ra9 rl.length rl.length]) (by kernel_rfl) ?_)
   intro g33 wq34 H35
   have hln40a:=(H35.rr 5).lenL rowE
   have hln40:(zs++[(⟨ra9,rl.length,rl⟩:Ro Int)]).length=zs.length+1:=by simp only [List.length_append,List.length_cons,List.length_nil] <;> omega
   refine l_of (s_appBn (m:=1) (l:=zs) (l2:=[(⟨ra9,rl.length,rl⟩:Ro Int)]) rowE H35 5 (j0:=0) rfl rfl ⟨rfl,Nat.le_refl _⟩ (wt0 rfl) rfl rfl rfl rfl rfl rfl Tryz.underlying39 inf43 rfl (by decide) (by omega) ?_)
   intro p36 c37 wq38 H39
   refine w_r2 ?_
   refine l_of (s_buildSlice H39 (wt0 rfl) rfl rfl rfl (vs:=[.slice wa9 bl.length bl.length]) rfl Tryz.underlying75 sz76 ze76 rfl rfl (cells:=#[.slice wa9 bl.length bl.length]) (by kernel_rfl) ?_)
   intro g41 wq42 H43
   have hln48a:=(H43.rr 8).lenL rowE
   have hln48:(as9++[(⟨wa9,bl.length,bl⟩:Ro Bool)]).length=as9.length+1:=by simp only [List.length_append,List.length_cons,List.length_nil] <;> omega
   refine l_of (s_appBn (m:=1) (l:=as9) (l2:=[(⟨wa9,bl.length,bl⟩:Ro Bool)]) rowE H43 8 (j0:=0) rfl rfl ⟨rfl,Nat.le_refl _⟩ (wt0 rfl) rfl rfl rfl rfl rfl rfl Tryz.underlying75 inf76 rfl (by decide) (by omega) ?_)
   intro p44 c45 wq46 H47
   refine w_r2 ?_
   refine g_nil ?_
   refine g_in ?_
   refine g_then ?_
   refine g_region ?_
   refine w_b (v:=.int .i64 (((i+1:Nat):Int))) (hb:=(b_add (by rw [w64 (by omega)]; omega))) ?_
   refine w_m ?_
   refine w_e ?_
   have H49:S wq46 [(Lst BoI (as9++[(⟨wa9,bl.length,bl⟩:Ro Bool)])),(Lst BwI (zs++[(⟨ra9,rl.length,rl⟩:Ro Int)])),Ob g41 (.cells #[.slice wa9 bl.length bl.length] 76 (0,0)),Ob g33 (.cells #[.slice ra9 rl.length rl.length] 43 (0,0)),Rw 3 1 p9 W9.length c9 (fl intL W9),Rw 3 1 q9 V9.length d9 (fl intL V9),Rw 43 1 p36 ((zs++[(⟨ra9,rl.length,rl⟩:Ro Int)]).length) c37 (fl rowL (zs++[(⟨ra9,rl.length,rl⟩:Ro Int)])),Rw 76 1 p44 ((as9++[(⟨wa9,bl.length,bl⟩:Ro Bool)]).length) c45 (fl rowL (as9++[(⟨wa9,bl.length,bl⟩:Ro Bool)])),Ob g (.cells #[.string sd,.slice lp ps.length lc,.slice rp gs.length rc,.slice xp xs.length xc,.slice yp ys.length yc] 66 (0,0)),Rw 27 2 lp ps.length lc (fl plL ps),Rw 39 1 rp gs.length rc (fl rowL gs),(Pool pl),Rw 43 1 xp xs.length xc (fl rowL xs),(Lst BwI xs),Rw 43 1 yp ys.length yc (fl rowL ys),(Lst BwI ys),Old w (fps [Ob g (.cells #[.string sd,.slice lp ps.length lc,.slice rp gs.length rc,.slice xp xs.length xc,.slice yp ys.length yc] 66 (0,0)),Rw 27 2 lp ps.length lc (fl plL ps),Rw 39 1 rp gs.length rc (fl rowL gs),(Pool pl),Rw 43 1 xp xs.length xc (fl rowL xs),(Lst BwI xs),Rw 43 1 yp ys.length yc (fl rowL ys),(Lst BwI ys)])]:=S.lstSnoc (F:=BoI) (x:=(⟨wa9,bl.length,bl⟩:Ro Bool)) ((S.lstSnoc (F:=BwI) (x:=(⟨ra9,rl.length,rl⟩:Ro Int)) (H47.tk [2,7,3,9,0,1,4,5,6,8,10,11,12,13,14,15,16,17,18])).tk [1,2,0,3,4,5,6,7,8,9,10,11,12,13,14,15,16,17])
   refine g_rd (i:=(i,pq,cq,zs,aq,ac,as9)) ((i+1),p36,c37,(zs++[(⟨ra9,rl.length,rl⟩:Ro Int)]),p44,c45,(as9++[(⟨wa9,bl.length,bl⟩:Ro Bool)])) ⟨by omega,(by rw [List.map_append,hz,List.range_succ,List.map_append]; exact congrArg (_++[·]) hrq9),(by rw [List.map_append,ha9,List.range_succ,List.map_append]; exact congrArg (_++[·]) hwq9),(H49.tk [6,1,7,0,8,9,10,11,12,13,14,15,16])⟩
 ·
  refine g_cf hb5 ?_
  refine g_exit ?_
  iterate 2 refine g_then_exit ?_
  refine g_in_hit ?_
  refine g_then ?_
  refine w_s ?_
  refine w_r4 ?_
  refine w_1 H4 4 ?_
  refine w_m ?_
  refine l_of (s_buildSlice H4 (wt0 rfl) rfl rfl rfl (vs:=[.slice pq zs.length cq]) rfl Tryz.underlying56 sz39 ze39 rfl rfl (cells:=#[.slice pq zs.length cq]) (by kernel_rfl) ?_)
  intro g50 wq51 H52
  have hln57a:=(H52.rr 7).lenL rowE
  have hln57:(gs++[(⟨pq,cq,zs⟩:Rd)]).length=gs.length+1:=by simp only [List.length_append,List.length_cons,List.length_nil] <;> omega
  refine l_of (s_appBn (m:=1) (l:=gs) (l2:=[(⟨pq,cq,zs⟩:Rd)]) rowE H52 7 (j0:=0) rfl rfl ⟨rfl,Nat.le_refl _⟩ (wt0 rfl) rfl rfl rfl rfl rfl rfl Tryz.underlying56 inf39 rfl (by decide) (by omega) ?_)
  intro p53 c54 wq55 H56
  refine w_r2 ?_
  refine l_of (w_st #[.string sd,.slice lp ps.length lc,.slice p53 ((gs++[(⟨pq,cq,zs⟩:Rd)]).length) c54,.slice xp xs.length xc,.slice yp ys.length yc] H56 5 ?_)
  intro wq58 H59
  refine w_e ?_
  refine g_seq ?_
  refine w_s ?_
  refine w_r3 ?_
  refine w_1 H59 5 ?_
  refine w_v (v:=.int .i64 ((ps.length:Int))) x_q ?_
  refine w_m ?_
  refine w_e ?_
  refine g_block ?_
  have hin:i=ps.length:=by omega
  have hzR:zs.map Ro.l=roundQ (⟨sd,ps,gs.map Rd.v,xs.map Ro.l,ys.map Ro.l⟩:RA):=by rw [hz,hin]; rfl
  have hasl:as9.length=ps.length:=by omega
  refine g_loop (ι:=Nat × Rd × Option Addr × Nat × List (Ro Int) × List (Ro Int)) (fun (k,rd,rp2,rc2,xs9,ys9)=>[(0,.pointer (some ⟨g,0,none⟩)),(4,.slice rd.p rd.l.length rd.c),(5,.slice aq as9.length ac),(92,.slice lp ps.length lc),(93,.int .i64 ((ps.length:Int))),(94,.int .i64 ((k:Int)))]) (fun (k,rd,rp2,rc2,xs9,ys9) wx=>(k≤ps.length)∧(rd.v=roundQ (⟨sd,ps,gs.map Rd.v,xs.map Ro.l,ys.map Ro.l⟩:RA))∧(GsOK ps.length (pl++[rd]) (gs++[rd]))∧(rd∈pl++[rd])∧(rd∈gs++[rd])∧(rd.l.length=ps.length)∧(xs9.map Ro.l=mapK (fun t (_:List Int)=>(updR (⟨sd,ps,gs.map Rd.v,xs.map Ro.l,ys.map Ro.l⟩:RA) t).1) k (xs.map Ro.l))∧(ys9.map Ro.l=mapK (fun t (_:List Int)=>(updR (⟨sd,ps,gs.map Rd.v,xs.map Ro.l,ys.map Ro.l⟩:RA) t).2) k (ys.map Ro.l))∧(xs9.length=xs.length)∧(ys9.length=ys.length)∧S wx [(Pool (pl++[rd])),Ob g (.cells #[.string sd,.slice lp ps.length lc,.slice rp2 ((gs++[rd]).length) rc2,.slice xp xs9.length xc,.slice yp ys9.length yc] 66 (0,0)),Rw 27 2 lp ps.length lc (fl plL ps),Rw 39 1 rp2 ((gs++[rd]).length) rc2 (fl rowL (gs++[rd])),Rw 43 1 xp xs9.length xc (fl rowL xs9),(Lst BwI xs9),Rw 43 1 yp ys9.length yc (fl rowL ys9),(Lst BwI ys9),Rw 76 1 aq as9.length ac (fl rowL as9),(Lst BoI as9),Old w (fps [Ob g (.cells #[.string sd,.slice lp ps.length lc,.slice rp gs.length rc,.slice xp xs.length xc,.slice yp ys.length yc] 66 (0,0)),Rw 27 2 lp ps.length lc (fl plL ps),Rw 39 1 rp gs.length rc (fl rowL gs),(Pool pl),Rw 43 1 xp xs.length xc (fl rowL xs),(Lst BwI xs),Rw 43 1 yp ys.length yc (fl rowL ys),(Lst BwI ys)])]) (fun (k,rd,rp2,rc2,xs9,ys9)=>ps.length - k) (0,(⟨pq,cq,zs⟩:Rd),p53,c54,xs,ys) ⟨rfl,rfl,rfl,rfl,rfl,rfl,trivial⟩ ⟨Nat.zero_le _,hzR,(gs_snoc hG (by show RdOK _ (zs.map Ro.l); rw [hzR]; exact hrok)),(List.mem_append_right _ List.mem_cons_self),(List.mem_append_right _ List.mem_cons_self),(by show zs.length=_; omega),mapK_zero.symm,mapK_zero.symm,rfl,rfl,(S.poolAdd (r:=(⟨pq,cq,zs⟩:Rd)) (H59.tk [1,2,8,5,6,7,9,10,11,12,3,4,13]))⟩ ?_
  rintro ⟨k,rd,rp2,rc2,xs9,ys9⟩ wq60 ⟨hk,hrdv,hG2,hrdm,hrdg,hrdl,hx9,hy9,hxl9,hyl9,H61⟩
  refine g_wk [(0,_),(4,_),(5,_),(92,_),(93,_),(94,_)] ?_
  refine w_s ?_
  refine w_b ?_
  refine w_e ?_
  refine g_seq ?_
  by_cases hb62:((k:Int):Int)<(ps.length:Int)
  ·
   refine g_ct hb62 ?_
   refine w_ht ?_
   refine g_seq ?_
   refine w_bs ?_
   try clear hgl
   try clear h2p
   try clear hsd
   try clear hzl
   try clear hal
   try clear hz9l
   try clear hu9l
   try clear hi
   try clear hln40a
   try clear hln40
   try clear hln48a
   try clear hln48
   try clear hln57a
   try clear hln57
   refine w_m ?_
   refine w_v (v:=.pointer ((lp).map fun q=>q.add (k * 2))) (x_i k (H61.rr 2)) ?_
   obtain ⟨x63,hx63⟩:=(H61.rr 2).exL plE k
   refine w_v (v:=.agg #[.int .i64 (x63.st),.int .i64 (x63.rt)]) (x_loadRA (vs:=plL x63) k (H61.rr 2) (by omega) rfl rfl Tryz.underlying27 rfl sz27 (by rfl) (plE.flAt hx63)) ?_
   refine l_of (s_alloc H61 (wt0 rfl) rfl rfl rfl ze27 ?_)
   intro g64 wq65 H66
   refine w_a ?_
   refine l_of (w_st #[.int .i64 (x63.st),.int .i64 (x63.rt)] H66 0 ?_)
   intro wq67 H68
   refine w_e ?_
   refine g_seq ?_
   refine w_s ?_
   refine w_f 0 ?_
   refine w_1 H68 0 ?_
   refine w_b (v:=.bool (!decide ((x63.st:Int)=6))) (hb:=b_neq) ?_
   refine w_e ?_
   by_cases hb69:(x63.st:Int)=6
   ·
    refine g_nf hb69 ?_
    refine w_hs ?_
    refine w_r2 ?_
    refine l_of (s_cl (others_r g sd lp lc ps rp2 rc2 (gs++[rd]) xp xc xs9 yp yc ys9 hnp k _ (H68.tk [2])) ?_)
    rintro _ wq70 ⟨po,co,rfl,H71⟩
    replace H71:S _ [_,_,_,_,_,_,_,_,_,_,_,_,_]:=H68.abI (new:=[_,_]) [2] H71 rfl
    have hol:=othV_len ps.length k
    refine b_ret rfl rfl ?_
    refine w_v (v:=.int .i64 (((othV ps.length k).length:Int))) x_q ?_
    refine w_m ?_
    refine w_e ?_
    refine g_block ?_
    obtain ⟨xa,hxa⟩:=ex_at (l:=xs9) (j:=k) (by omega)
    obtain ⟨ya,hya⟩:=ex_at (l:=ys9) (j:=k) (by omega)
    obtain ⟨b9,hb9⟩:=ex_at (l:=as9) (j:=k) (by omega)
    have hxk:(xs.map Ro.l)[k]?=some xa.l:=by rw [← mapK_at (f:=(fun t (_:List Int)=>(updR (⟨sd,ps,gs.map Rd.v,xs.map Ro.l,ys.map Ro.l⟩:RA) t).1)) (l:=xs.map Ro.l) (Nat.le_refl k),← hx9,List.getElem?_map,hxa]; rfl
    have hyk:(ys.map Ro.l)[k]?=some ya.l:=by rw [← mapK_at (f:=(fun t (_:List Int)=>(updR (⟨sd,ps,gs.map Rd.v,xs.map Ro.l,ys.map Ro.l⟩:RA) t).2)) (l:=ys.map Ro.l) (Nat.le_refl k),← hy9,List.getElem?_map,hya]; rfl
    have hxal:xa.l.length=ps.length:=hxd.row xa.l (List.mem_of_getElem? hxk)
    have hyak:ya.l.length=ps.length∧BdL Kb ya.l:=by obtain ⟨y0,hy0,e0⟩:=List.mem_map.1 (List.mem_of_getElem? hyk); rw [← e0]; exact ⟨hyw y0 hy0,hyb y0 hy0⟩
    have hyal:=hyak.1
    have hb9v:b9.l=wasV ps.length (chosR (⟨sd,ps,gs.map Rd.v,xs.map Ro.l,ys.map Ro.l⟩:RA) k).1:=by have h9:=congrArg (fun l=>l[k]?) ha9; simp only [List.getElem?_map,hb9,List.getElem?_range (show k<i by omega),Option.map_some,Option.some.injEq] at h9; exact h9
    have hb9l:b9.l.length=ps.length:=by rw [hb9v]; exact was_len _ _
    have hxab:BdL 1000000 xa.l:=fun y hy=>hxd.pos xa.l (List.mem_of_getElem? hxk) y hy
    have hpr9:=hpv x63 (List.mem_of_getElem? hx63)
    have H72:S wq70 [Rw 3 1 xa.p xa.l.length xa.c (fl intL xa.l),(Lst BwI (xs9.eraseIdx k)),(Lst BwI ys9),Rw 3 1 po ((othV ps.length k).length) co (fl intL (othV ps.length k)),Ob g (.cells #[.string sd,.slice lp ps.length lc,.slice rp2 ((gs++[rd]).length) rc2,.slice xp xs9.length xc,.slice yp ys9.length yc] 66 (0,0)),Ob g64 (.cells #[.int .i64 (x63.st),.int .i64 (x63.rt)] 27 (0,0)),(Pool (pl++[rd])),Rw 27 2 lp ps.length lc (fl plL ps),Rw 39 1 rp2 ((gs++[rd]).length) rc2 (fl rowL (gs++[rd])),Rw 43 1 xp xs9.length xc (fl rowL xs9),Rw 43 1 yp ys9.length yc (fl rowL ys9),Rw 76 1 aq as9.length ac (fl rowL as9),(Lst BoI as9),Old w (fps [Ob g (.cells #[.string sd,.slice lp ps.length lc,.slice rp gs.length rc,.slice xp xs.length xc,.slice yp ys.length yc] 66 (0,0)),Rw 27 2 lp ps.length lc (fl plL ps),Rw 39 1 rp gs.length rc (fl rowL gs),(Pool pl),Rw 43 1 xp xs.length xc (fl rowL xs),(Lst BwI xs),Rw 43 1 yp ys.length yc (fl rowL ys),(Lst BwI ys)])]:=S.lstOut (F:=BwI) (H71.tk [7,9,0,1,2,3,4,5,6,8,10,11,12]) hxa
    have H73:S wq70 [Rw 3 1 ya.p ya.l.length ya.c (fl intL ya.l),(Lst BwI (ys9.eraseIdx k)),Rw 3 1 xa.p xa.l.length xa.c (fl intL xa.l),(Lst BwI (xs9.eraseIdx k)),Rw 3 1 po ((othV ps.length k).length) co (fl intL (othV ps.length k)),Ob g (.cells #[.string sd,.slice lp ps.length lc,.slice rp2 ((gs++[rd]).length) rc2,.slice xp xs9.length xc,.slice yp ys9.length yc] 66 (0,0)),Ob g64 (.cells #[.int .i64 (x63.st),.int .i64 (x63.rt)] 27 (0,0)),(Pool (pl++[rd])),Rw 27 2 lp ps.length lc (fl plL ps),Rw 39 1 rp2 ((gs++[rd]).length) rc2 (fl rowL (gs++[rd])),Rw 43 1 xp xs9.length xc (fl rowL xs9),Rw 43 1 yp ys9.length yc (fl rowL ys9),Rw 76 1 aq as9.length ac (fl rowL as9),(Lst BoI as9),Old w (fps [Ob g (.cells #[.string sd,.slice lp ps.length lc,.slice rp gs.length rc,.slice xp xs.length xc,.slice yp ys.length yc] 66 (0,0)),Rw 27 2 lp ps.length lc (fl plL ps),Rw 39 1 rp gs.length rc (fl rowL gs),(Pool pl),Rw 43 1 xp xs.length xc (fl rowL xs),(Lst BwI xs),Rw 43 1 yp ys.length yc (fl rowL ys),(Lst BwI ys)])]:=S.lstOut (F:=BwI) (H72.tk [2,0,1,3,4,5,6,7,8,9,10,11,12,13]) hya
    refine g_loop (ι:=Nat × List Int × List Int) (fun (j,pa,pb)=>[(0,.pointer (some ⟨g,0,none⟩)),(4,.slice rd.p rd.l.length rd.c),(5,.slice aq as9.length ac),(13,.int .i64 ((k:Int))),(14,.pointer (some ⟨g64,0,none⟩)),(92,.slice lp ps.length lc),(93,.int .i64 ((ps.length:Int))),(94,.int .i64 ((k:Int))),(104,.slice po ((othV ps.length k).length) co),(105,.int .i64 (((othV ps.length k).length:Int))),(106,.int .i64 ((j:Int)))]) (fun (j,pa,pb) wx=>(j≤(othV ps.length k).length)∧((pa,pb)=((othV ps.length k).take j).foldl (updS b9.l (fun t=>at2 rd.v t k) x63.rt) (xa.l,ya.l))∧(BdL 1000000 pa)∧(BdL (Kb+j) pb)∧(pa.length=xa.l.length)∧(pb.length=ya.l.length)∧S wx [Rw 3 1 po ((othV ps.length k).length) co (fl intL (othV ps.length k)),Rw 3 1 xa.p xa.l.length xa.c (fl intL pa),(Lst BwI (xs9.eraseIdx k)),Rw 3 1 ya.p ya.l.length ya.c (fl intL pb),(Lst BwI (ys9.eraseIdx k)),(Pool (pl++[rd])),Ob g (.cells #[.string sd,.slice lp ps.length lc,.slice rp2 ((gs++[rd]).length) rc2,.slice xp xs9.length xc,.slice yp ys9.length yc] 66 (0,0)),Rw 27 2 lp ps.length lc (fl plL ps),Rw 39 1 rp2 ((gs++[rd]).length) rc2 (fl rowL (gs++[rd])),Rw 43 1 xp xs9.length xc (fl rowL xs9),Rw 43 1 yp ys9.length yc (fl rowL ys9),Rw 76 1 aq as9.length ac (fl rowL as9),(Lst BoI as9),Old w (fps [Ob g (.cells #[.string sd,.slice lp ps.length lc,.slice rp gs.length rc,.slice xp xs.length xc,.slice yp ys.length yc] 66 (0,0)),Rw 27 2 lp ps.length lc (fl plL ps),Rw 39 1 rp gs.length rc (fl rowL gs),(Pool pl),Rw 43 1 xp xs.length xc (fl rowL xs),(Lst BwI xs),Rw 43 1 yp ys.length yc (fl rowL ys),(Lst BwI ys)]),Ob g64 (.cells #[.int .i64 (x63.st),.int .i64 (x63.rt)] 27 (0,0))]) (fun (j,pa,pb)=>((othV ps.length k).length) - j) (0,xa.l,ya.l) ⟨rfl,rfl,rfl,rfl,rfl,rfl,rfl,rfl,rfl,rfl,rfl,trivial⟩ ⟨Nat.zero_le _,rfl,hxab,(by simpa using hyak.2),rfl,rfl,(H73.tk [4,2,3,0,1,7,5,8,9,10,11,12,13,14,6])⟩ ?_
    rintro ⟨j,pa,pb⟩ wq74 ⟨hj,hPB,hpa,hpb,hpal,hpbl,H75⟩
    refine g_wk [(0,_),(4,_),(5,_),(13,_),(14,_),(92,_),(93,_),(94,_),(104,_),(105,_),(106,_)] ?_
    refine w_s ?_
    refine w_b ?_
    refine w_e ?_
    refine g_seq ?_
    by_cases hb76:((j:Int):Int)<((othV ps.length k).length:Int)
    ·
     refine g_ct hb76 ?_
     refine w_ht ?_
     refine g_seq ?_
     refine w_bs ?_
     have hA1:xs9.length=ps.length:=by omega
     have hA2:ys9.length=ps.length:=by omega
     try clear hxl
     try clear hyl
     try clear hxl9
     try clear hyl9
     try clear hin
     try clear hqe
     try clear hrdl2
     try clear hK2
     try clear hln40a
     try clear hln40
     try clear hln48a
     try clear hln48
     try clear hln57a
     try clear hln57
     refine w_v (v:=.pointer ((po).map fun q=>q.add (j * 1))) (x_i j (H75.rr 0)) ?_
     obtain ⟨x77,hx77⟩:=(H75.rr 0).exL intE j
     have hox9:=othV_at hx77
     refine w_v (v:=.int .i64 x77) (x_r j (H75.rr 0) (intE.flAt1 hx77 rfl)) ?_
     refine w_a ?_
     refine w_es ?_
     refine w_r3 ?_
     refine w_1 H75 6 ?_
     refine w_m ?_
     refine w_v (v:=.pointer ((xp).map fun q=>q.add (k * 1))) (x_i k (H75.rr 9)) ?_
     refine w_v (v:=.slice xa.p xa.l.length xa.c) (x_r k (H75.rr 9) (rowE.flAt1 hxa rfl)) ?_
     refine w_m ?_
     refine w_v (v:=.pointer ((xa.p).map fun q=>q.add (((x77).toNat) * 1))) (x_i ((x77).toNat) (H75.rr 1)) ?_
     obtain ⟨x78,hx78⟩:=(H75.rr 1).exL intE ((x77).toNat)
     have hvb9:=hpa.at hx78
     refine w_v (v:=.int .i64 x78) (x_r ((x77).toNat) (H75.rr 1) (intE.flAt1 hx78 rfl)) ?_
     refine w_a ?_
     refine w_e ?_
     refine w_bs ?_
     refine w_r2 ?_
     refine w_v (v:=.pointer ((aq).map fun q=>q.add (k * 1))) (x_i k (H75.rr 11)) ?_
     refine w_v (v:=.slice b9.p b9.l.length b9.c) (x_r k (H75.rr 11) (rowE.flAt1 hb9 rfl)) ?_
     refine w_m ?_
     refine w_v (v:=.pointer ((b9.p).map fun q=>q.add (((x77).toNat) * 1))) (x_i ((x77).toNat) (H75.boRd (k:=12) rfl hb9)) ?_
     obtain ⟨x79,hx79⟩:=(H75.boRd (k:=12) rfl hb9).exL boolE ((x77).toNat)
     have hbu9:b9.l.getD (x77).toNat false=x79:=getD_atT hx79
     refine w_v (v:=.bool x79) (x_r ((x77).toNat) (H75.boRd (k:=12) rfl hb9) (boolE.flAt1 hx79 rfl)) ?_
     refine w_v (v:=.bool (!x79)) (x_not (b:=x79) rfl rfl) ?_
     refine w_a ?_
     refine w_e ?_
     rcases Bool.eq_false_or_eq_true (x79) with hb80 | hb80
     ·
      refine g_cond_f rfl (neg_of hb80) ?_
      refine w_s ?_
      refine w_r2 ?_
      refine w_v (v:=.pointer ((rd.p).map fun q=>q.add (((x77).toNat) * 1))) (x_i ((x77).toNat) (H75.poolRd (k:=5) rfl hrdm)) ?_
      obtain ⟨x81,hx81⟩:=(H75.poolRd (k:=5) rfl hrdm).exL rowE ((x77).toNat)
      have hzl9:=(hG2.ok rd hrdg).row_at hx81
      refine w_v (v:=.slice x81.p x81.l.length x81.c) (x_r ((x77).toNat) (H75.poolRd (k:=5) rfl hrdm) (rowE.flAt1 hx81 rfl)) ?_
      refine w_m ?_
      refine w_v (v:=.pointer ((x81.p).map fun q=>q.add (k * 1))) (x_i k (H75.poolRow (k:=5) rfl hrdm hx81)) ?_
      obtain ⟨x82,hx82⟩:=(H75.poolRow (k:=5) rfl hrdm hx81).exL intE k
      have hat9:at2 rd.v x77 k=x82:=at2_is hx81 hx82
      refine w_v (v:=.int .i64 x82) (x_r k (H75.poolRow (k:=5) rfl hrdm hx81) (intE.flAt1 hx82 rfl)) ?_
      refine w_b ?_
      refine w_a ?_
      refine w_e ?_
      by_cases hb83:(0:Int)<x82
      ·
       refine g_ct hb83 ?_
       refine w_s ?_
       refine w_r3 ?_
       refine w_1 H75 6 ?_
       refine w_m ?_
       refine w_v (v:=.pointer ((yp).map fun q=>q.add (k * 1))) (x_i k (H75.rr 10)) ?_
       refine w_v (v:=.slice ya.p ya.l.length ya.c) (x_r k (H75.rr 10) (rowE.flAt1 hya rfl)) ?_
       refine w_m ?_
       refine w_v (v:=.pointer ((ya.p).map fun q=>q.add (((x77).toNat) * 1))) (x_i ((x77).toNat) (H75.rr 3)) ?_
       obtain ⟨x84,hx84⟩:=(H75.rr 3).exL intE ((x77).toNat)
       have heb9:=hpb.at hx84
       refine w_v (v:=.int .i64 x84) (x_r ((x77).toNat) (H75.rr 3) (intE.flAt1 hx84 rfl)) ?_
       refine w_b (v:=.int .i64 (x84+1)) (hb:=(b_add (w64 (by omega)))) ?_
       refine w_v (v:=.pointer ((ya.p).map fun q=>q.add (((x77).toNat) * 1))) (x_i ((x77).toNat) (H75.rr 3)) ?_
       refine l_of (s_stoL (j:=((x77).toNat)) intE (x84+1) H75 3 (wt0 rfl) rfl rfl rfl rfl rfl rfl sz3 (by omega) ?_)
       intro wq85 H86
       refine w_e ?_
       refine g_wk [(0,_),(4,_),(5,_),(13,_),(14,_),(16,_),(17,_),(92,_),(93,_),(94,_),(104,_),(105,_),(106,_)] ?_
       refine w_s ?_
       refine w_r3 ?_
       refine w_1 H86 6 ?_
       refine w_m ?_
       refine w_v (v:=.pointer ((yp).map fun q=>q.add (k * 1))) (x_i k (H86.rr 10)) ?_
       refine w_v (v:=.slice ya.p ya.l.length ya.c) (x_r k (H86.rr 10) (rowE.flAt1 hya rfl)) ?_
       refine w_m ?_
       refine w_v (v:=.pointer ((ya.p).map fun q=>q.add (((x77).toNat) * 1))) (x_i ((x77).toNat) (H86.rr 3)) ?_
       obtain ⟨x87,hx87⟩:=(H86.rr 3).exL intE ((x77).toNat)
       have heq9:x87=x84+1:=Option.some.inj (hx87.symm.trans (List.getElem?_set_self (List.getElem?_eq_some_iff.1 hx84).1))
       refine w_v (v:=.int .i64 x87) (x_r ((x77).toNat) (H86.rr 3) (intE.flAt1 hx87 rfl)) ?_
       refine w_b ?_
       refine w_e ?_
       by_cases hb88:(3:Int)≤x87
       ·
        refine g_ct hb88 ?_
        refine g_region ?_
        refine w_r3 ?_
        refine w_1 H86 6 ?_
        refine w_m ?_
        refine w_v (v:=.pointer ((xp).map fun q=>q.add (k * 1))) (x_i k (H86.rr 9)) ?_
        refine w_v (v:=.slice xa.p xa.l.length xa.c) (x_r k (H86.rr 9) (rowE.flAt1 hxa rfl)) ?_
        refine w_r3 ?_
        refine w_b (v:=.int .i64 ((x78 / 10))) (hb:=(b_quo (by omega) (quo64 (by omega)))) ?_
        refine w_b (v:=.int .i64 (x78 - (x78 / 10))) (hb:=(b_sub (w64 (by omega)))) ?_
        refine w_v (v:=.pointer ((xa.p).map fun q=>q.add (((x77).toNat) * 1))) (x_i ((x77).toNat) (H86.rr 1)) ?_
        refine l_of (s_stoL (j:=((x77).toNat)) intE (x78 - (x78 / 10)) H86 1 (wt0 rfl) rfl rfl rfl rfl rfl rfl sz3 (by omega) ?_)
        intro wq89 H90
        refine g_nil ?_
        iterate 2 refine g_in ?_
        refine g_then ?_
        refine g_region ?_
        refine w_b (v:=.int .i64 (((j+1:Nat):Int))) (hb:=(b_add (by rw [w64 (by omega)]; omega))) ?_
        refine w_m ?_
        refine w_e ?_
        refine g_rd (i:=(j,pa,pb)) ((j+1),(pa.set ((x77).toNat) (x78 - (x78 / 10))),(pb.set ((x77).toNat) (x84+1))) ⟨by omega,(by rw [take_snocT hx77,List.foldl_append,← hPB]; exact upd_b (f:=(fun t=>at2 rd.v t k)) (rt:=x63.rt) (hbu9.trans hb80) (by show 0<at2 rd.v x77 k; rw [hat9]; exact hb83) hx78 hx84 (by omega)),(by first | exact hpa | exact hpa.set (by omega)),(by first | exact (hpb.set (by omega)).up (by omega) | exact (hpb.up (by omega)).set (by omega)),(by first | exact hpal | (rw [List.length_set]; exact hpal)),(by rw [List.length_set]; exact hpbl),(H90.tk [0,1,2,3,4,5,6,7,8,9,10,11,12,13,14])⟩
       ·
        refine g_cf hb88 ?_
        refine g_skip ?_
        iterate 2 refine g_in ?_
        refine g_then ?_
        refine g_region ?_
        refine w_b (v:=.int .i64 (((j+1:Nat):Int))) (hb:=(b_add (by rw [w64 (by omega)]; omega))) ?_
        refine w_m ?_
        refine w_e ?_
        refine g_rd (i:=(j,pa,pb)) ((j+1),pa,(pb.set ((x77).toNat) (x84+1))) ⟨by omega,(by rw [take_snocT hx77,List.foldl_append,← hPB]; exact upd_c (f:=(fun t=>at2 rd.v t k)) (rt:=x63.rt) (hbu9.trans hb80) (by show 0<at2 rd.v x77 k; rw [hat9]; exact hb83) hx84 (by omega)),(by first | exact hpa | exact hpa.set (by omega)),(by first | exact (hpb.set (by omega)).up (by omega) | exact (hpb.up (by omega)).set (by omega)),(by first | exact hpal | (rw [List.length_set]; exact hpal)),(by rw [List.length_set]; exact hpbl),(H86.tk [0,1,2,3,4,5,6,7,8,9,10,11,12,13,14])⟩
      ·
       refine g_cf hb83 ?_
       refine w_s ?_
       refine w_r3 ?_
       refine w_1 H75 6 ?_
       refine w_m ?_
       refine w_v (v:=.pointer ((yp).map fun q=>q.add (k * 1))) (x_i k (H75.rr 10)) ?_
       refine w_v (v:=.slice ya.p ya.l.length ya.c) (x_r k (H75.rr 10) (rowE.flAt1 hya rfl)) ?_
       refine w_m ?_
       refine w_v (v:=.pointer ((ya.p).map fun q=>q.add (((x77).toNat) * 1))) (x_i ((x77).toNat) (H75.rr 3)) ?_
       refine l_of (s_stoL (j:=((x77).toNat)) intE 0 H75 3 (wt0 rfl) rfl rfl rfl rfl rfl rfl sz3 (by omega) ?_)
       intro wq91 H92
       refine w_e ?_
       refine g_wk [(0,_),(4,_),(5,_),(13,_),(14,_),(16,_),(17,_),(92,_),(93,_),(94,_),(104,_),(105,_),(106,_)] ?_
       refine g_any [] (fun wx=>S wx [Rw 3 1 po ((othV ps.length k).length) co (fl intL (othV ps.length k)),Rw 3 1 xa.p xa.l.length xa.c (fl intL pa),(Lst BwI (xs9.eraseIdx k)),Rw 3 1 ya.p ya.l.length ya.c (fl intL (pb.set ((x77).toNat) 0)),(Lst BwI (ys9.eraseIdx k)),(Pool (pl++[rd])),Ob g (.cells #[.string sd,.slice lp ps.length lc,.slice rp2 ((gs++[rd]).length) rc2,.slice xp xs9.length xc,.slice yp ys9.length yc] 66 (0,0)),Rw 27 2 lp ps.length lc (fl plL ps),Rw 39 1 rp2 ((gs++[rd]).length) rc2 (fl rowL (gs++[rd])),Rw 43 1 xp xs9.length xc (fl rowL xs9),Rw 43 1 yp ys9.length yc (fl rowL ys9),Rw 76 1 aq as9.length ac (fl rowL as9),(Lst BoI as9),Old w (fps [Ob g (.cells #[.string sd,.slice lp ps.length lc,.slice rp gs.length rc,.slice xp xs.length xc,.slice yp ys.length yc] 66 (0,0)),Rw 27 2 lp ps.length lc (fl plL ps),Rw 39 1 rp gs.length rc (fl rowL gs),(Pool pl),Rw 43 1 xp xs.length xc (fl rowL xs),(Lst BwI xs),Rw 43 1 yp ys.length yc (fl rowL ys),(Lst BwI ys)]),Ob g64 (.cells #[.int .i64 (x63.st),.int .i64 (x63.rt)] 27 (0,0))]) [17] (by kernel_rfl) H92 (fun wq93 H94=>?_)
       refine w_t 0 rfl H94 (fun _ _=>xm) ?_
       refine w_t 1 rfl H94 (fun _ _=>xn) ?_
       refine w_t 2 rfl H94 (fun _ _=>xf 3) ?_
       refine w_t 3 rfl H94 (fun _ H=>xl H 6) ?_
       refine w_t 4 rfl H94 (fun _ _=>xm) ?_
       refine w_t (v:=.pointer ((xp).map fun q=>q.add (k * 1))) 5 rfl H94 (fun _ _=>x_ip k ((H94.rr 9).some (by omega))) ?_
       refine w_t (v:=.slice xa.p xa.l.length xa.c) 6 rfl H94 (fun _ H=>x_r k (H.rr 9) (rowE.flAt1 hxa rfl)) ?_
       refine w_t 7 rfl H94 (fun _ _=>xm) ?_
       refine w_t 8 rfl H94 (fun _ _=>xm) ?_
       refine w_t 9 rfl H94 (fun _ _=>xm) ?_
       refine w_t (v:=.int .i64 ((x78 / 5))) 10 rfl H94 (fun _ _=>x_bin rfl rfl rfl (b_quo (by omega) (quo64 (by omega)))) ?_
       refine w_t (v:=.int .i64 (max 1 (x78 / 5))) 11 rfl H94 (fun _ _=>x_max rfl rfl rfl) ?_
       refine w_t (v:=.int .i64 (x78+(max 1 (x78 / 5)))) 12 rfl H94 (fun _ _=>x_bin rfl rfl rfl (b_add (w64 (by omega)))) ?_
       refine w_t 13 rfl H94 (fun _ _=>xf 1) ?_
       refine w_t 14 rfl H94 (fun _ H=>xl H 14) ?_
       refine w_t (v:=.int .i64 (min (x78+(max 1 (x78 / 5))) x63.rt)) 15 rfl H94 (fun _ _=>x_min rfl rfl rfl) ?_
       refine w_t (v:=.pointer ((xa.p).map fun q=>q.add (((x77).toNat) * 1))) 16 rfl H94 (fun _ _=>x_ip ((x77).toNat) ((H94.rr 1).some (by omega))) ?_
       refine a_one (i:=17) (by kernel_rfl) rfl ?_
       refine s_stoL (j:=((x77).toNat)) intE (min (x78+(max 1 (x78 / 5))) x63.rt) H94 1 (wt0 rfl) rfl rfl rfl rfl rfl rfl sz3 (by omega) ?_
       intro wq95 H96
       refine a_kt rfl ?_
       refine a_done (by kernel_rfl) ?_
       iterate 2 refine g_in ?_
       refine g_then ?_
       refine g_region ?_
       refine w_b (v:=.int .i64 (((j+1:Nat):Int))) (hb:=(b_add (by rw [w64 (by omega)]; omega))) ?_
       refine w_m ?_
       refine w_e ?_
       refine g_rd (i:=(j,pa,pb)) ((j+1),(pa.set ((x77).toNat) (min (x78+(max 1 (x78 / 5))) x63.rt)),(pb.set ((x77).toNat) 0)) ⟨by omega,(by rw [take_snocT hx77,List.foldl_append,← hPB]; exact upd_d (f:=(fun t=>at2 rd.v t k)) (rt:=x63.rt) (hbu9.trans hb80) (fun h9=>hb83 (by rw [← hat9]; exact h9)) hx78),(by first | exact hpa | exact hpa.set (by omega)),(by first | exact (hpb.set (by omega)).up (by omega) | exact (hpb.up (by omega)).set (by omega)),(by first | exact hpal | (rw [List.length_set]; exact hpal)),(by rw [List.length_set]; exact hpbl),(H96.tk [0,1,2,3,4,5,6,7,8,9,10,11,12,13,14])⟩
     ·
      refine g_cond_t rfl (neg_of hb80) ?_
      refine g_region ?_
      refine w_r3 ?_
      refine w_1 H75 6 ?_
      refine w_m ?_
      refine w_v (v:=.pointer ((yp).map fun q=>q.add (k * 1))) (x_i k (H75.rr 10)) ?_
      refine w_v (v:=.slice ya.p ya.l.length ya.c) (x_r k (H75.rr 10) (rowE.flAt1 hya rfl)) ?_
      refine w_m ?_
      refine w_v (v:=.pointer ((ya.p).map fun q=>q.add (((x77).toNat) * 1))) (x_i ((x77).toNat) (H75.rr 3)) ?_
      refine l_of (s_stoL (j:=((x77).toNat)) intE 0 H75 3 (wt0 rfl) rfl rfl rfl rfl rfl rfl sz3 (by omega) ?_)
      intro wq97 H98
      refine g_nil ?_
      iterate 2 refine g_in ?_
      refine g_then ?_
      refine g_region ?_
      refine w_b (v:=.int .i64 (((j+1:Nat):Int))) (hb:=(b_add (by rw [w64 (by omega)]; omega))) ?_
      refine w_m ?_
      refine w_e ?_
      refine g_rd (i:=(j,pa,pb)) ((j+1),pa,(pb.set ((x77).toNat) 0)) ⟨by omega,(by rw [take_snocT hx77,List.foldl_append,← hPB]; exact upd_a (f:=(fun t=>at2 rd.v t k)) (rt:=x63.rt) (hbu9.trans hb80)),(by first | exact hpa | exact hpa.set (by omega)),(by first | exact (hpb.set (by omega)).up (by omega) | exact (hpb.up (by omega)).set (by omega)),(by first | exact hpal | (rw [List.length_set]; exact hpal)),(by rw [List.length_set]; exact hpbl),(H98.tk [0,1,2,3,4,5,6,7,8,9,10,11,12,13,14])⟩
    ·
     refine g_cf hb76 ?_
     refine g_exit ?_
     iterate 2 refine g_then_exit ?_
     refine g_in_hit ?_
     refine g_in ?_
     refine g_then ?_
     refine g_region ?_
     refine w_b (v:=.int .i64 (((k+1:Nat):Int))) (hb:=(b_add (by rw [w64 (by omega)]; omega))) ?_
     refine w_m ?_
     refine w_e ?_
     rw [List.take_of_length_le (by omega)] at hPB
     have hs6:stA ps k=6:=by rw [stA_is hx63]; first | exact hb69 | (exact Decidable.not_not.1 hb69)
     have hup:updR (⟨sd,ps,gs.map Rd.v,xs.map Ro.l,ys.map Ro.l⟩:RA) k=(pa,pb):=by unfold updR; rw [if_pos hs6]; show List.foldl (updS _ (fun t=>at2 (roundQ (⟨sd,ps,gs.map Rd.v,xs.map Ro.l,ys.map Ro.l⟩:RA)) t k) (rtA ps k)) ((xs.map Ro.l).getD k [],(ys.map Ro.l).getD k []) _=_; rw [← hrdv,← hb9v,rtA_is hx63,getD_atT hxk,getD_atT hyk]; exact hPB.symm
     have hbx9:BwI (⟨xa.p,xa.c,pa⟩:Ro Int)=Rw 3 1 xa.p xa.l.length xa.c (fl intL pa):=by unfold BwI; dsimp only; rw [hpal]
     have hby9:BwI (⟨ya.p,ya.c,pb⟩:Ro Int)=Rw 3 1 ya.p ya.l.length ya.c (fl intL pb):=by unfold BwI; dsimp only; rw [hpbl]
     have hrx9:rowL (⟨xa.p,xa.c,pa⟩:Ro Int)=rowL xa:=by unfold rowL roV; dsimp only; rw [hpal]
     have hry9:rowL (⟨ya.p,ya.c,pb⟩:Ro Int)=rowL ya:=by unfold rowL roV; dsimp only; rw [hpbl]
     have H99:=S.lstIn (F:=BwI) (x:=(⟨xa.p,xa.c,pa⟩:Ro Int)) (l:=xs9) (j:=k) (by rw [hbx9]; exact H75.tk [1,2,3,4,5,6,7,8,9,10,11,12,13]) (List.getElem?_eq_some_iff.1 hxa).1
     have H100:=S.lstIn (F:=BwI) (x:=(⟨ya.p,ya.c,pb⟩:Ro Int)) (l:=ys9) (j:=k) (by rw [hby9]; exact H99.tk [1,2,0,3,4,5,6,7,8,9,10,11]) (List.getElem?_eq_some_iff.1 hya).1
     have hlx9:(xs9.set k (⟨xa.p,xa.c,pa⟩:Ro Int)).length=xs9.length:=List.length_set ..
     have hly9:(ys9.set k (⟨ya.p,ya.c,pb⟩:Ro Int)).length=ys9.length:=List.length_set ..
     rw [← hlx9,← hly9,show fl rowL xs9=fl rowL (xs9.set k (⟨xa.p,xa.c,pa⟩:Ro Int)) from (fl_map (map_setS hxa hrx9)).symm,show fl rowL ys9=fl rowL (ys9.set k (⟨ya.p,ya.c,pb⟩:Ro Int)) from (fl_map (map_setS hya hry9)).symm] at H100
     have H101:S wq74 [(Lst BwI (ys9.set k (⟨ya.p,ya.c,pb⟩:Ro Int))),(Lst BwI (xs9.set k (⟨xa.p,xa.c,pa⟩:Ro Int))),(Pool (pl++[rd])),Ob g (.cells #[.string sd,.slice lp ps.length lc,.slice rp2 ((gs++[rd]).length) rc2,.slice xp ((xs9.set k (⟨xa.p,xa.c,pa⟩:Ro Int)).length) xc,.slice yp ((ys9.set k (⟨ya.p,ya.c,pb⟩:Ro Int)).length) yc] 66 (0,0)),Rw 27 2 lp ps.length lc (fl plL ps),Rw 39 1 rp2 ((gs++[rd]).length) rc2 (fl rowL (gs++[rd])),Rw 43 1 xp ((xs9.set k (⟨xa.p,xa.c,pa⟩:Ro Int)).length) xc (fl rowL (xs9.set k (⟨xa.p,xa.c,pa⟩:Ro Int))),Rw 43 1 yp ((ys9.set k (⟨ya.p,ya.c,pb⟩:Ro Int)).length) yc (fl rowL (ys9.set k (⟨ya.p,ya.c,pb⟩:Ro Int))),Rw 76 1 aq as9.length ac (fl rowL as9),(Lst BoI as9),Old w (fps [Ob g (.cells #[.string sd,.slice lp ps.length lc,.slice rp gs.length rc,.slice xp xs.length xc,.slice yp ys.length yc] 66 (0,0)),Rw 27 2 lp ps.length lc (fl plL ps),Rw 39 1 rp gs.length rc (fl rowL gs),(Pool pl),Rw 43 1 xp xs.length xc (fl rowL xs),(Lst BwI xs),Rw 43 1 yp ys.length yc (fl rowL ys),(Lst BwI ys)])]:=H100
     refine g_rd (i:=(k,rd,rp2,rc2,xs9,ys9)) ((k+1),rd,rp2,rc2,(xs9.set k (⟨xa.p,xa.c,pa⟩:Ro Int)),(ys9.set k (⟨ya.p,ya.c,pb⟩:Ro Int))) ⟨by omega,hrdv,hG2,hrdm,hrdg,hrdl,(by rw [List.map_set]; exact mk_set hx9 hxk (by show (updR (⟨sd,ps,gs.map Rd.v,xs.map Ro.l,ys.map Ro.l⟩:RA) k).1=_; rw [hup])),(by rw [List.map_set]; exact mk_set hy9 hyk (by show (updR (⟨sd,ps,gs.map Rd.v,xs.map Ro.l,ys.map Ro.l⟩:RA) k).2=_; rw [hup])),(by first | exact hxl9 | (rw [List.length_set]; exact hxl9)),(by first | exact hyl9 | (rw [List.length_set]; exact hyl9)),(H101.tk [2,3,4,5,6,1,7,0,8,9,10])⟩
   ·
    refine g_nt hb69 ?_
    refine g_exit ?_
    refine g_then_exit ?_
    refine g_in_hit ?_
    refine g_then ?_
    refine g_region ?_
    refine w_b (v:=.int .i64 (((k+1:Nat):Int))) (hb:=(b_add (by rw [w64 (by omega)]; omega))) ?_
    refine w_m ?_
    refine w_e ?_
    have hs6:¬ stA ps k=6:=by rw [stA_is hx63]; first | exact hb69 | (intro h9; exact hb69 h9)
    obtain ⟨xa,hxa⟩:=ex_at (l:=xs) (j:=k) (by omega)
    obtain ⟨ya,hya⟩:=ex_at (l:=ys) (j:=k) (by omega)
    have hxk:(xs.map Ro.l)[k]?=some xa.l:=by rw [List.getElem?_map,hxa]; rfl
    have hyk:(ys.map Ro.l)[k]?=some ya.l:=by rw [List.getElem?_map,hya]; rfl
    refine g_rd (i:=(k,rd,rp2,rc2,xs9,ys9)) ((k+1),rd,rp2,rc2,xs9,ys9) ⟨by omega,hrdv,hG2,hrdm,hrdg,hrdl,(mk_skip hx9 hxk (by show (updR (⟨sd,ps,gs.map Rd.v,xs.map Ro.l,ys.map Ro.l⟩:RA) k).1=_; unfold updR; rw [if_neg hs6]; exact getD_atT hxk)),(mk_skip hy9 hyk (by show (updR (⟨sd,ps,gs.map Rd.v,xs.map Ro.l,ys.map Ro.l⟩:RA) k).2=_; unfold updR; rw [if_neg hs6]; exact getD_atT hyk)),(by first | exact hxl9 | (rw [List.length_set]; exact hxl9)),(by first | exact hyl9 | (rw [List.length_set]; exact hyl9)),(H68.tk [1,2,3,4,5,6,7,8,9,10,11])⟩
  ·
   refine g_cf hb62 ?_
   refine g_exit ?_
   iterate 2 refine g_then_exit ?_
   refine g_in_hit ?_
   refine g_then ?_
   refine w_s ?_
   refine w_r3 ?_
   refine w_e ?_
   refine g_ret ?_
   refine fin_r [.tmp 2,.tmp 3] [.slice rd.p rd.l.length rd.c,.int .i64 0] ?_
   have hke:k=ps.length:=by omega
   rw [hke] at hx9 hy9
   exact ⟨rd,rp2,rc2,xs9,ys9,rfl,hrdv,hG2,hx9,hy9,H61.tk [1,2,3,4,5,6,7,0,10]⟩
end Go.Proofs.YtpbjekdjebjbkaaGreatDoor
