import Derived.Test.YtpbjekdjebjbkaaGreatDoorFm
import Derived.Test.YtpbjekdjebjbkaaGreatDoorYe
import Derived.Test.YtpbjekdjebjbkaaGreatDoorLw
set_option maxRecDepth 20000
set_option maxHeartbeats 4000000
set_option linter.unusedSimpArgs false
set_option linter.unusedVariables false
namespace Go.Proofs.YtpbjekdjebjbkaaGreatDoor
open Go.RowKit
structure GR where
 g:Nat
 sd:ByteArray
 lp:Option Addr
 lc:Nat
 ps:List Pl
 rp:Option Addr
 rc:Nat
 gs:List Rd
 xp:Option Addr
 xc:Nat
 xs:List (Ro Int)
 yp:Option Addr
 yc:Nat
 ys:List (Ro Int)
def GR.I (X:GR):Item:=Big [Ob X.g (.cells #[.string X.sd,.slice X.lp X.ps.length X.lc,.slice X.rp X.gs.length X.rc,.slice X.xp X.xs.length X.xc,.slice X.yp X.ys.length X.yc] 66 (0,0)),Rw 27 2 X.lp X.ps.length X.lc (fl plL X.ps),Rw 39 1 X.rp X.gs.length X.rc (fl rowL X.gs),Rw 43 1 X.xp X.xs.length X.xc (fl rowL X.xs),Lst BwI X.xs,Rw 43 1 X.yp X.ys.length X.yc (fl rowL X.ys),Lst BwI X.ys]
def gvK (G:List (List (List Int))) (a b k:Int):Int:=if (G.length:Int)<k then 0 else at2 (G.getD ((G.length:Int) - k).toNat []) a b
theorem gvK_1 (G:List (List (List Int))) (a b:Int):gvK G a b 1=lastV G a b:=by
 unfold gvK lastV
 rw [List.getLast?_eq_getElem?]
 by_cases h:(G.length:Int)<1
 · rw [if_pos h,List.getElem?_eq_none (by omega)]
 · rw [if_neg h,show ((G.length:Int) - 1).toNat=G.length - 1 by omega]
   obtain ⟨r,hr⟩:=ex_at (l:=G) (j:=G.length - 1) (by omega)
   rw [hr,getD_atT hr]
theorem gvK_bd {n:Nat} {pl gs:List Rd} (h:GsOK n pl gs) (a b k:Int):0≤gvK (gs.map Rd.v) a b k∧gvK (gs.map Rd.v) a b k≤1000000:=by
 unfold gvK
 split
 · exact ⟨Int.le_refl _,by decide⟩
 · rw [List.getD_eq_getElem?_getD]
   cases e:(gs.map Rd.v)[(((gs.map Rd.v).length:Int) - k).toNat]? with
   | none =>
     show 0≤at2 [] a b∧at2 [] a b≤1000000
     rw [at2_def]; simp
   | some r =>
     obtain ⟨x,hx,rfl⟩:=List.mem_map.1 (List.mem_of_getElem? e)
     exact (h.ok x hx).at2 a b
theorem gvK_lo {gs:List Rd} {a b k:Int} (h:(gs.length:Int)<k):gvK (gs.map Rd.v) a b k=0:=if_pos (by rw [List.length_map]; exact h)
theorem gvK_at {gs:List Rd} {a b k:Int} {r:Rd} (h:¬ (gs.length:Int)<k) (hr:gs[((gs.length:Int) - k).toNat]?=some r):gvK (gs.map Rd.v) a b k=at2 r.v a b:=by
 unfold gvK
 rw [if_neg (by rw [List.length_map]; exact h),List.length_map,getD_atT (x:=r.v) (by rw [List.getElem?_map,hr]; rfl)]
def bstS (f:Int→Int) (s:Int × Int) (i:Int):Int × Int:=if s.2<f i then (i,f i) else s
theorem bst_most (f:Int→Int) (d:Int):∀ l:List Int,l ≠ []→l.foldl (bstS f) (d,0)=if 0<f (mostF f l) then (mostF f l,f (mostF f l)) else (d,0):=by
 intro l
 induction hn:l.length generalizing l with
 | zero=>intro h; exact absurd (List.length_eq_zero_iff.1 hn) h
 | succ m ih0 =>
   intro _
   obtain ⟨l',x,rfl⟩:∃ l' x,l=l'++[x]:=by
     rcases List.eq_nil_or_concat l with h | ⟨l',x,h⟩
     · rw [h] at hn; cases hn
     · exact ⟨l',x,by rw [h,List.concat_eq_append]⟩
   have ih:=ih0 l' (by rw [List.length_append,List.length_singleton] at hn; omega)
   clear hn ih0
   revert ih
   generalize l'=l
   intro ih
   rw [List.foldl_append]
   by_cases hl:l=[]
   · subst hl
     show bstS f (d,0) x=if 0<f x then (x,f x) else (d,0)
     rfl
   · rw [ih hl,mostF_snoc hl]
     show bstS f _ x=_
     by_cases h1:0<f (mostF f l)
     · rw [if_pos h1]
       unfold bstS
       dsimp only
       by_cases h2:f (mostF f l)<f x
       · rw [if_pos h2,if_pos (show 0<f x - f (mostF f l) by omega),if_pos (by omega)]
       · rw [if_neg h2,if_neg (show ¬ 0<f x - f (mostF f l) by omega),if_pos h1]
     · rw [if_neg h1]
       unfold bstS
       dsimp only
       by_cases h2:0<f x
       · rw [if_pos h2,if_pos (show 0<f x - f (mostF f l) by omega),if_pos h2]
       · rw [if_neg h2]
         by_cases h3:0<f x - f (mostF f l)
         · rw [if_pos h3,if_neg h2]
         · rw [if_neg h3,if_neg h1]
theorem bst_next {n:Nat} {G:List (List (List Int))} {me:Int} (h:2≤n):((othV n me).foldl (bstS fun i=>lastV G i me) ((me+1) % (n:Int),0)).1=nextV n G me:=by
 rw [bst_most _ _ _ (othV_ne h)]
 unfold nextV
 split <;> rfl
theorem keep_snoc {α:Type} {q:α→Bool} {l:List α} {x:α}:keepS q (l++[x])=if q x=true then keepS q l else keepS q l++[x]:=by
 unfold keepS
 rw [List.filter_append]
 cases h:q x <;> simp [h]
section
variable (g:Nat) (sd:ByteArray) (lp:Option Addr) (lc:Nat) (ps:List Pl) (rp:Option Addr) (rc:Nat) (gs:List Rd) (xp:Option Addr) (xc:Nat) (xs:List (Ro Int)) (yp:Option Addr) (yc:Nat) (ys:List (Ro Int))
abbrev DRa0:=Ob g (.cells #[.string sd,.slice lp ps.length lc,.slice rp gs.length rc,.slice xp xs.length xc,.slice yp ys.length yc] 66 (0,0))
theorem gave_r (pl:List Rd) (hG:GsOK ps.length pl gs) (hgl:gs.length≤200) (hnp:ps.length≤9) (a b:Int) (ha:0≤a∧a<ps.length) (hb:0≤b∧b<ps.length) (k:Int) (hk:1≤k∧k≤3)  (w:World) (HS:S w [DRa0 g sd lp lc ps rp rc gs xp xc xs yp yc ys,Rw 39 1 rp gs.length rc (fl rowL gs),(Pool pl)]):Calls Tryz.prog 55 #[.pointer (some ⟨g,0,none⟩),.int .i64 a,.int .i64 b,.int .i64 k] w fun e w'=>e=.returned (.int .i64 (gvK (gs.map Rd.v) a b k))∧S w' ([DRa0 g sd lp lc ps rp rc gs xp xc xs yp yc ys,Rw 39 1 rp gs.length rc (fl rowL gs),(Pool pl)]++[Old w (fps [DRa0 g sd lp lc ps rp rc gs xp xc xs yp yc ys,Rw 39 1 rp gs.length rc (fl rowL gs),(Pool pl)])]):=by
 have H0:=HS.beginI
 refine enter 35 Tryz.func55 rfl rfl rfl ?_
 refine g_wk [(0,_),(1,_),(2,_),(3,_)] ?_
 refine w_s ?_
 refine w_k12 ?_
 by_cases hb1:((gs.length:Int):Int)<k
 ·
  refine g_ct hb1 ?_
  refine w_k5 ?_
  refine fin_r [.tmp 8] [.int .i64 0] ?_
  rw [gvK_lo hb1]
  exact ⟨rfl,(H0.tk [0,1,2,3])⟩
 ·
  refine g_cf hb1 ?_
  refine w_k2 ?_
  refine g_seq ?_
  refine g_quiet (by kernel_rfl) (by kernel_rfl) H0 ?_
  refine q_v (fun _ _=>xm) ?_
  refine q_v (fun _ _=>xn) ?_
  refine q_v (fun _ _=>x_f) ?_
  refine q_v (fun _ H=>xl H 0) ?_
  refine q_v (fun _ _=>xm) ?_
  refine q_v (fun _ _=>xn) ?_
  refine q_v (fun _ _=>x_f) ?_
  refine q_v (fun _ H=>xl H 0) ?_
  refine q_v (fun _ _=>x_q) ?_
  refine q_v (fun _ _=>xm) ?_
  refine q_v (v:=.int .i64 ((gs.length:Int) - k)) (fun _ _=>x_bin rfl rfl rfl (b_sub (w64 (by omega)))) ?_
  refine q_v (fun _ _=>x_ip (((gs.length:Int) - k).toNat) ((H0.rr 1).some (by omega))) ?_
  obtain ⟨x2,hx2⟩:=(H0.rr 1).exL rowE (((gs.length:Int) - k).toNat)
  have hlr9:=(hG.ok x2 (List.mem_of_getElem? hx2)).lenR
  have hox2:=hG.ok x2 (List.mem_of_getElem? hx2)
  refine q_v (fun _ H=>x_r (((gs.length:Int) - k).toNat) (H.rr 1) (rowE.flAt1 hx2 rfl)) ?_
  refine q_v (fun _ _=>xm) ?_
  refine q_v (fun _ _=>x_ip ((a).toNat) ((H0.poolRd (k:=2) rfl (hG.mem x2 (List.mem_of_getElem? hx2))).some (by omega))) ?_
  obtain ⟨x3,hx3⟩:=(H0.poolRd (k:=2) rfl (hG.mem x2 (List.mem_of_getElem? hx2))).exL rowE ((a).toNat)
  have hlx3:=(hG.ok x2 (List.mem_of_getElem? hx2)).row_at hx3
  refine q_v (fun _ H=>x_r ((a).toNat) (H.poolRd (k:=2) rfl (hG.mem x2 (List.mem_of_getElem? hx2))) (rowE.flAt1 hx3 rfl)) ?_
  refine q_v (fun _ _=>xm) ?_
  refine q_v (fun _ _=>x_ip ((b).toNat) ((H0.poolRow (k:=2) rfl (hG.mem x2 (List.mem_of_getElem? hx2)) hx3).some (by omega))) ?_
  obtain ⟨x4,hx4⟩:=(H0.poolRow (k:=2) rfl (hG.mem x2 (List.mem_of_getElem? hx2)) hx3).exL intE ((b).toNat)
  refine q_v (fun _ H=>x_r ((b).toNat) (H.poolRow (k:=2) rfl (hG.mem x2 (List.mem_of_getElem? hx2)) hx3) (intE.flAt1 hx4 rfl)) ?_
  refine q_v (fun _ _=>xa) ?_
  refine q_nil (fun wq5 H6=>?_)
  refine w_k2 ?_
  refine fin_r [.tmp 8] [.int .i64 x4] ?_
  rw [gvK_at hb1 hx2,at2_is hx3 hx4]
  exact ⟨rfl,(H6.tk [0,1,2,3])⟩
theorem there_r (hnp:ps.length≤9) (n:Int)  (w:World) (HS:S w [DRa0 g sd lp lc ps rp rc gs xp xc xs yp yc ys]):Calls Tryz.prog 30 #[.pointer (some ⟨g,0,none⟩),.int .i64 n] w fun e w'=>e=.returned (.bool (decide (0≤n∧n<(ps.length:Int))))∧S w' ([DRa0 g sd lp lc ps rp rc gs xp xc xs yp yc ys]++[Old w (fps [DRa0 g sd lp lc ps rp rc gs xp xc xs yp yc ys])]):=by
 have H0:=HS.beginI
 refine enter 16 Tryz.func30 rfl rfl rfl ?_
 refine g_wk [(0,_),(1,_)] ?_
 refine w_s ?_
 refine w_k6 ?_
 by_cases hb1:(0:Int)≤n
 ·
  iterate 2 refine w_g (decide_eq_true hb1) xm ?_
  refine w_g (decide_eq_true hb1) xn ?_
  refine w_g (decide_eq_true hb1) (xf 1) ?_
  refine w_g (decide_eq_true hb1) (xl H0 0) ?_
  refine w_g (decide_eq_true hb1) x_q ?_
  refine w_g (decide_eq_true hb1) (x_bin rfl rfl rfl b_lss) ?_
  refine w_v (x_pick_t rfl rfl (decide_eq_true hb1) rfl) ?_
  refine w_k3 ?_
  refine fin_r [.tmp 4] [.bool (decide ((n:Int)<(ps.length:Int)))] ?_
  exact ⟨by first | (rw [decide_eq_false (show ¬ (0≤n∧n<(ps.length:Int)) from fun h=>by omega)]; rfl) | (rw [decide_eq_decide.2 (show (0≤n∧n<(ps.length:Int)) ↔ n<(ps.length:Int) from ⟨fun h=>h.2,fun h=>⟨by omega,h⟩⟩)]; rfl),H0.tk [0,1]⟩
 ·
  iterate 7 refine w_n (decide_eq_false hb1) ?_
  refine w_v (x_pick_f rfl rfl (decide_eq_false hb1) rfl) ?_
  refine w_k3 ?_
  refine fin_r [.tmp 4] [.bool false] ?_
  exact ⟨by first | (rw [decide_eq_false (show ¬ (0≤n∧n<(ps.length:Int)) from fun h=>by omega)]; rfl) | (rw [decide_eq_decide.2 (show (0≤n∧n<(ps.length:Int)) ↔ n<(ps.length:Int) from ⟨fun h=>h.2,fun h=>⟨by omega,h⟩⟩)]; rfl),H0.tk [0,1]⟩
theorem others_r (g:Nat) (sd:ByteArray) (lp:Option Addr) (lc:Nat) (ps:List Pl) (rp:Option Addr) (rc:Nat) (gs:List Rd) (xp:Option Addr) (xc:Nat) (xs:List (Ro Int)) (yp:Option Addr) (yc:Nat) (ys:List (Ro Int)) (hnp:ps.length≤9) (me:Int)  (w:World) (HS:S w [Ob g (.cells #[.string sd,.slice lp ps.length lc,.slice rp gs.length rc,.slice xp xs.length xc,.slice yp ys.length yc] 66 (0,0))]):Calls Tryz.prog 35 #[.pointer (some ⟨g,0,none⟩),.int .i64 me] w fun e w'=>∃ p' c',e=.returned (.slice p' (othV ps.length me).length c')∧S w' ([Rw 3 1 p' (othV ps.length me).length c' (fl intL (othV ps.length me)),Ob g (.cells #[.string sd,.slice lp ps.length lc,.slice rp gs.length rc,.slice xp xs.length xc,.slice yp ys.length yc] 66 (0,0))]++[Old w (fps [Ob g (.cells #[.string sd,.slice lp ps.length lc,.slice rp gs.length rc,.slice xp xs.length xc,.slice yp ys.length yc] 66 (0,0))])]):=by
 have H0:=HS.beginI
 refine enter 24 Tryz.func35 rfl rfl rfl ?_
 refine g_wk [(0,_),(1,_)] ?_
 refine w_s ?_
 refine w_k3 ?_
 have H1:S _ [_,_,_]:=H0.nilFl 3 1 intL
 refine w_k12 ?_
 refine g_loop (ι:=Nat × Option Addr × Nat × Nat) (fun (i,pq,cq,nq)=>[(1,.int .i64 me),(5,.slice pq nq cq),(11,.int .i64 ((ps.length:Int))),(12,.int .i64 ((i:Int)))]) (fun (i,pq,cq,nq) wx=>(i≤ps.length)∧(nq=(othV i me).length)∧S wx [Rw 3 1 pq nq cq (fl intL (othV i me)),Ob g (.cells #[.string sd,.slice lp ps.length lc,.slice rp gs.length rc,.slice xp xs.length xc,.slice yp ys.length yc] 66 (0,0)),Old w (fps [Ob g (.cells #[.string sd,.slice lp ps.length lc,.slice rp gs.length rc,.slice xp xs.length xc,.slice yp ys.length yc] 66 (0,0))])]) (fun (i,pq,cq,nq)=>ps.length - i) (0,none,0,0) ⟨rfl,rfl,rfl,rfl,trivial⟩ ⟨Nat.zero_le _,rfl,(H1.tk [0,1,2])⟩ ?_
 rintro ⟨i,pq,cq,nq⟩ wq2 ⟨hi,hnq,H3⟩
 refine g_wk [(1,_),(5,_),(11,_),(12,_)] ?_
 have hoi:=othV_len i me
 refine w_k3 ?_
 refine g_seq ?_
 by_cases hb4:((i:Int):Int)<(ps.length:Int)
 ·
  refine g_ct hb4 ?_
  refine w_k11 ?_
  refine w_b (v:=.bool (!decide (((i:Int):Int)=me))) (hb:=b_neq) ?_
  refine w_e ?_
  by_cases hb5:((i:Int):Int)=me
  ·
   refine g_nf hb5 ?_
   refine w_k4 ?_
   refine w_i i ?_
   refine w_k2 ?_
   have he9:=othV_f hb5
   refine g_rd (i:=(i,pq,cq,nq)) ((i+1),pq,cq,nq) ⟨by omega,(by first | (rw [he9]; done) | (rw [he9]; exact hnq)),(by rw [he9]; exact (H3.tk [0,1,2]))⟩
  ·
   refine g_nt hb5 ?_
   refine w_k3 ?_
   refine l_of (s_b1 ze3 #[.int .i64 ((i:Int))] H3 ?_)
   intro g6 wq7 H8
   have hln13a:=(H8.rr 1).lenL intE
   have hln13:((othV i me)++[(i:Int)]).length=nq+1:=by simp only [List.length_append,List.length_cons,List.length_nil] <;> omega
   refine l_of (s_appBn (m:=1) (l:=(othV i me)) (l2:=[(i:Int)]) intE H8 1 (j0:=0) rfl rfl ⟨rfl,Nat.le_refl _⟩ (wt0 rfl) rfl rfl rfl rfl rfl rfl Tryz.underlying43 inf3 rfl (by decide) (by omega) ?_)
   intro p9 c10 wq11 H12
   refine w_k5 ?_
   refine w_i i ?_
   refine w_k2 ?_
   have he9:=othV_t hb5
   refine g_rd (i:=(i,pq,cq,nq)) ((i+1),p9,c10,((othV i me)++[(i:Int)]).length) ⟨by omega,(by first | (rw [he9]; done) | (rw [he9]; exact hnq)),(by rw [he9]; exact (H12.tk [1,2,3]))⟩
 ·
  refine g_cf hb4 ?_
  refine w_k10 ?_
  refine fin_r [.tmp 4] [.slice pq nq cq] ?_
  have hie:i=ps.length:=by omega
  subst hie
  subst hnq
  exact ⟨_,_,rfl,H3.tk [0,1,2]⟩
end
theorem cl55:callable Tryz.prog 55=true:=by kernel_rfl
section
variable (g:Nat) (sd:ByteArray) (lp:Option Addr) (lc:Nat) (ps:List Pl) (rp:Option Addr) (rc:Nat) (gs:List Rd) (xp:Option Addr) (xc:Nat) (xs:List (Ro Int)) (yp:Option Addr) (yc:Nat) (ys:List (Ro Int)) (pl:List Rd)
abbrev DRb0:=Ob g (.cells #[.string sd,.slice lp ps.length lc,.slice rp gs.length rc,.slice xp xs.length xc,.slice yp ys.length yc] 66 (0,0))
theorem gave1_r (hG:GsOK ps.length pl gs) (hgl:gs.length≤200) (hnp:ps.length≤9) (a b:Int) (ha:0≤a∧a<ps.length) (hb:0≤b∧b<ps.length) (w:World) (HS:S w [DRb0 g sd lp lc ps rp rc gs xp xc xs yp yc ys,Rw 39 1 rp gs.length rc (fl rowL gs),(Pool pl)]):Calls Tryz.prog 55 #[.pointer (some ⟨g,0,none⟩),.int .i64 a,.int .i64 b,.int .i64 1] w fun e w'=>e=.returned (.int .i64 (lastV (gs.map Rd.v) a b))∧S w' ([DRb0 g sd lp lc ps rp rc gs xp xc xs yp yc ys,Rw 39 1 rp gs.length rc (fl rowL gs),(Pool pl)]++[Old w (fps [DRb0 g sd lp lc ps rp rc gs xp xc xs yp yc ys,Rw 39 1 rp gs.length rc (fl rowL gs),(Pool pl)])]):=by
 have h:=gave_r g sd lp lc ps rp rc gs xp xc xs yp yc ys pl hG hgl hnp a b ha hb 1 (by decide) w HS
 rw [gvK_1] at h
 exact h
theorem grim_all {gs:List Rd} {n:Nat} {pl:List Rd} (h:GsOK n pl gs) {me i:Int}:(gs.all fun r=>decide (0<at2 r.v i me))=!grimB (gs.map Rd.v) me i:=by
 cases hg:grimB (gs.map Rd.v) me i with
 | true =>
   unfold grimB at hg
   obtain ⟨y,hy,hz⟩:=List.any_eq_true.1 hg
   obtain ⟨r,hr,rfl⟩:=List.mem_map.1 hy
   have hz:=of_decide_eq_true hz
   exact List.all_eq_false.2 ⟨r,hr,by rw [hz]; decide⟩
 | false =>
   unfold grimB at hg
   refine List.all_eq_true.2 fun r hr=>?_
   have h1:=List.any_eq_false.1 hg r.v (List.mem_map.2 ⟨r,hr,rfl⟩)
   have h2:=((h.ok r hr).at2 i me).1
   have h3:¬ at2 r.v i me=0:=fun e=>h1 (decide_eq_true e)
   exact decide_eq_true (by omega)
theorem grim_isb {gs:List Rd} {n:Nat} {pl:List Rd} (h:GsOK n pl gs) {me i:Int} {b:Bool} (hb:b=gs.all fun r=>decide (0<at2 r.v i me)):grimB (gs.map Rd.v) me i=!b:=by rw [hb,grim_all h,Bool.not_not]
theorem grim_s1 {q:Int→Bool} {l:List Int} {i:Nat} {x:Int} {oz:List Int} (h:oz=keepS q (l.take i)) (hx:l[i]?=some x) (hq:q x=true):oz=keepS q (l.take (i+1)):=by rw [take_snocT hx,keep_snoc,if_pos hq]; exact h
theorem grim_s2 {q:Int→Bool} {l:List Int} {i:Nat} {x:Int} {oz:List Int} (h:oz=keepS q (l.take i)) (hx:l[i]?=some x) (hq:q x=false):oz++[x]=keepS q (l.take (i+1)):=by rw [take_snocT hx,keep_snoc,if_neg (by rw [hq]; decide),h]
theorem all_snoc {f:Rd→Bool} {l:List Rd} {j:Nat} {r:Rd} {b b2:Bool} (h:b=(l.take j).all f) (hr:l[j]?=some r) (h2:b2=(b && f r)):b2=(l.take (j+1)).all f:=by rw [take_snocT hr,List.all_append,← h,h2]; simp
theorem grim_r (g:Nat) (sd:ByteArray) (lp:Option Addr) (lc:Nat) (ps:List Pl) (rp:Option Addr) (rc:Nat) (gs:List Rd) (xp:Option Addr) (xc:Nat) (xs:List (Ro Int)) (yp:Option Addr) (yc:Nat) (ys:List (Ro Int)) (pl:List Rd) (hG:GsOK ps.length pl gs) (hgl:gs.length≤200) (hnp:ps.length≤9) (me:Int) (hme:0≤me∧me<ps.length)  (w:World) (HS:S w [Ob g (.cells #[.string sd,.slice lp ps.length lc,.slice rp gs.length rc,.slice xp xs.length xc,.slice yp ys.length yc] 66 (0,0)),Rw 39 1 rp gs.length rc (fl rowL gs),(Pool pl)]):Calls Tryz.prog 52 #[.pointer (some ⟨g,0,none⟩),.int .i64 me] w fun e w'=>∃ p' c',e=.returned (.slice p' (keepS (grimB (gs.map Rd.v) me) (othV ps.length me)).length c')∧S w' ([Rw 3 1 p' (keepS (grimB (gs.map Rd.v) me) (othV ps.length me)).length c' (fl intL (keepS (grimB (gs.map Rd.v) me) (othV ps.length me))),Ob g (.cells #[.string sd,.slice lp ps.length lc,.slice rp gs.length rc,.slice xp xs.length xc,.slice yp ys.length yc] 66 (0,0)),Rw 39 1 rp gs.length rc (fl rowL gs),(Pool pl)]++[Old w (fps [Ob g (.cells #[.string sd,.slice lp ps.length lc,.slice rp gs.length rc,.slice xp xs.length xc,.slice yp ys.length yc] 66 (0,0)),Rw 39 1 rp gs.length rc (fl rowL gs),(Pool pl)])]):=by
 have H0:=HS.beginI
 refine enter 47 Tryz.func52 rfl rfl rfl ?_
 refine g_wk [(0,_),(1,_)] ?_
 refine w_s ?_
 refine w_k3 ?_
 have H1:S _ [_,_,_,_,_]:=H0.nilFl 3 1 intL
 refine w_k6 ?_
 refine l_of (s_cl (others_r g sd lp lc ps rp rc gs xp xc xs yp yc ys hnp me _ (H1.tk [1])) ?_)
 rintro _ wq4 ⟨po2,co3,rfl,H5⟩
 replace H5:S _ [_,_,_,_,_,_]:=H1.abI (new:=[_,_]) [1] H5 rfl
 have hol:=othV_len ps.length me
 refine b_ret rfl rfl ?_
 refine w_k4 ?_
 refine g_loop (ι:=Nat × Option Addr × Nat × List Int) (fun (i,pq,cq,oz)=>[(0,.pointer (some ⟨g,0,none⟩)),(1,.int .i64 me),(5,.slice pq oz.length cq),(13,.slice po2 ((othV ps.length me).length) co3),(14,.int .i64 (((othV ps.length me).length:Int))),(15,.int .i64 ((i:Int)))]) (fun (i,pq,cq,oz) wx=>(i≤(othV ps.length me).length)∧(oz=keepS (grimB (gs.map Rd.v) me) ((othV ps.length me).take i))∧S wx [Rw 3 1 pq oz.length cq (fl intL oz),Rw 3 1 po2 ((othV ps.length me).length) co3 (fl intL (othV ps.length me)),Ob g (.cells #[.string sd,.slice lp ps.length lc,.slice rp gs.length rc,.slice xp xs.length xc,.slice yp ys.length yc] 66 (0,0)),Rw 39 1 rp gs.length rc (fl rowL gs),(Pool pl),Old w (fps [Ob g (.cells #[.string sd,.slice lp ps.length lc,.slice rp gs.length rc,.slice xp xs.length xc,.slice yp ys.length yc] 66 (0,0)),Rw 39 1 rp gs.length rc (fl rowL gs),(Pool pl)])]) (fun (i,pq,cq,oz)=>((othV ps.length me).length) - i) (0,none,0,[]) ⟨rfl,rfl,rfl,rfl,rfl,rfl,trivial⟩ ⟨Nat.zero_le _,rfl,(H5.tk [2,0,1,3,4,5])⟩ ?_
 rintro ⟨i,pq,cq,oz⟩ wq6 ⟨hi,hoz,H7⟩
 refine g_wk [(0,_),(1,_),(5,_),(13,_),(14,_),(15,_)] ?_
 have hozl:oz.length≤i:=(by rw [hoz]; exact Nat.le_trans (keepS_len _ _) (by rw [List.length_take]; exact Nat.min_le_left _ _))
 refine w_k3 ?_
 refine g_seq ?_
 by_cases hb8:((i:Int):Int)<((othV ps.length me).length:Int)
 ·
  refine g_ct hb8 ?_
  refine w_k5 ?_
  refine w_v (x_i i (H7.rr 1)) ?_
  obtain ⟨x9,hx9⟩:=(H7.rr 1).exL intE i
  have hox9:=othV_at hx9
  refine w_v (x_r i (H7.rr 1) (intE.flAt1 hx9 rfl)) ?_
  refine w_k15 ?_
  refine g_loop (ι:=Nat × Bool) (fun (j,isb)=>[(0,.pointer (some ⟨g,0,none⟩)),(1,.int .i64 me),(5,.slice pq oz.length cq),(7,.int .i64 x9),(8,.bool isb),(13,.slice po2 ((othV ps.length me).length) co3),(14,.int .i64 (((othV ps.length me).length:Int))),(15,.int .i64 ((i:Int))),(22,.slice rp gs.length rc),(23,.int .i64 ((gs.length:Int))),(24,.int .i64 ((j:Int)))]) (fun (j,isb) wx=>(j≤gs.length)∧(isb=(gs.take j).all fun r=>decide (0<at2 r.v x9 me))∧S wx [Rw 3 1 pq oz.length cq (fl intL oz),Rw 3 1 po2 ((othV ps.length me).length) co3 (fl intL (othV ps.length me)),Ob g (.cells #[.string sd,.slice lp ps.length lc,.slice rp gs.length rc,.slice xp xs.length xc,.slice yp ys.length yc] 66 (0,0)),Rw 39 1 rp gs.length rc (fl rowL gs),(Pool pl),Old w (fps [Ob g (.cells #[.string sd,.slice lp ps.length lc,.slice rp gs.length rc,.slice xp xs.length xc,.slice yp ys.length yc] 66 (0,0)),Rw 39 1 rp gs.length rc (fl rowL gs),(Pool pl)])]) (fun (j,isb)=>gs.length - j) (0,true) ⟨rfl,rfl,rfl,rfl,rfl,rfl,rfl,rfl,rfl,rfl,rfl,trivial⟩ ⟨Nat.zero_le _,rfl,(H7.tk [0,1,2,3,4,5])⟩ ?_
  rintro ⟨j,isb⟩ wq10 ⟨hj,his,H11⟩
  refine g_wk [(0,_),(1,_),(5,_),(7,_),(8,_),(13,_),(14,_),(15,_),(22,_),(23,_),(24,_)] ?_
  refine w_s ?_
  refine w_k2 ?_
  refine g_seq ?_
  by_cases hb12:((j:Int):Int)<(gs.length:Int)
  ·
   refine g_ct hb12 ?_
   refine w_k5 ?_
   refine w_v (x_i j (H11.rr 3)) ?_
   obtain ⟨x13,hx13⟩:=(H11.rr 3).exL rowE j
   have hlr9:=(hG.ok x13 (List.mem_of_getElem? hx13)).lenR
   have hox13:=hG.ok x13 (List.mem_of_getElem? hx13)
   refine w_v (x_r j (H11.rr 3) (rowE.flAt1 hx13 rfl)) ?_
   refine w_k5 ?_
   rcases Bool.eq_false_or_eq_true (isb) with hb14 | hb14
   ·
    iterate 2 refine w_g hb14 xm ?_
    refine w_g hb14 (x_i ((x9).toNat) (H11.poolRd (k:=4) rfl (hG.mem x13 (List.mem_of_getElem? hx13)))) ?_
    obtain ⟨x15,hx15⟩:=(H11.poolRd (k:=4) rfl (hG.mem x13 (List.mem_of_getElem? hx13))).exL rowE ((x9).toNat)
    have hlx15:=(hG.ok x13 (List.mem_of_getElem? hx13)).row_at hx15
    refine w_g hb14 (x_r ((x9).toNat) (H11.poolRd (k:=4) rfl (hG.mem x13 (List.mem_of_getElem? hx13))) (rowE.flAt1 hx15 rfl)) ?_
    refine w_g hb14 xm ?_
    refine w_g hb14 (x_i ((me).toNat) (H11.poolRow (k:=4) rfl (hG.mem x13 (List.mem_of_getElem? hx13)) hx15)) ?_
    obtain ⟨x16,hx16⟩:=(H11.poolRow (k:=4) rfl (hG.mem x13 (List.mem_of_getElem? hx13)) hx15).exL intE ((me).toNat)
    refine w_g hb14 (x_r ((me).toNat) (H11.poolRow (k:=4) rfl (hG.mem x13 (List.mem_of_getElem? hx13)) hx15) (intE.flAt1 hx16 rfl)) ?_
    refine w_g hb14 (x_bin rfl rfl rfl b_gtr) ?_
    refine w_v (x_pick_t rfl rfl hb14 rfl) ?_
    refine w_k5 ?_
    refine w_i j ?_
    refine w_k2 ?_
    refine g_rd (i:=(j,isb)) ((j+1),(decide ((0:Int)<x16))) ⟨by omega,(all_snoc his hx13 (by rw [hb14,at2_is hx15 hx16]; simp_all)),(H11.tk [0,1,2,3,4,5])⟩
   ·
    iterate 8 refine w_n hb14 ?_
    refine w_v (x_pick_f rfl rfl hb14 rfl) ?_
    refine w_k5 ?_
    refine w_i j ?_
    refine w_k2 ?_
    refine g_rd (i:=(j,isb)) ((j+1),false) ⟨by omega,(all_snoc his hx13 (by rw [hb14]; rfl)),(H11.tk [0,1,2,3,4,5])⟩
  ·
   refine g_cf hb12 ?_
   refine w_k8 ?_
   rcases Bool.eq_false_or_eq_true (isb) with hb17 | hb17
   ·
    refine g_cond_t rfl hb17 ?_
    refine w_k3 ?_
    refine l_of (s_b1 ze3 #[.int .i64 x9] H11 ?_)
    intro g18 wq19 H20
    have hln25a:=(H20.rr 1).lenL intE
    have hln25:(oz++[x9]).length=oz.length+1:=by simp only [List.length_append,List.length_cons,List.length_nil] <;> omega
    refine l_of (s_appBn (m:=1) (l:=oz) (l2:=[x9]) intE H20 1 (j0:=0) rfl rfl ⟨rfl,Nat.le_refl _⟩ (wt0 rfl) rfl rfl rfl rfl rfl rfl Tryz.underlying43 inf3 rfl (by decide) (by omega) ?_)
    intro p21 c22 wq23 H24
    refine w_k5 ?_
    refine w_i i ?_
    refine w_k2 ?_
    rw [List.take_of_length_le (by omega)] at his
    have hgq:(grimB (gs.map Rd.v) me) x9=false:=by have h9:=grim_isb hG his; rw [hb17] at h9; exact h9
    refine g_rd (i:=(i,pq,cq,oz)) ((i+1),p21,c22,(oz++[x9])) ⟨by omega,(grim_s2 hoz hx9 hgq),(H24.tk [1,2,3,4,5,6])⟩
   ·
    refine g_cond_f rfl hb17 ?_
    refine w_k4 ?_
    refine w_i i ?_
    refine w_k2 ?_
    rw [List.take_of_length_le (by omega)] at his
    have hgq:(grimB (gs.map Rd.v) me) x9=true:=by have h9:=grim_isb hG his; rw [hb17] at h9; exact h9
    refine g_rd (i:=(i,pq,cq,oz)) ((i+1),pq,cq,oz) ⟨by omega,(grim_s1 hoz hx9 hgq),(H11.tk [0,1,2,3,4,5])⟩
 ·
  refine g_cf hb8 ?_
  refine w_k10 ?_
  refine fin_r [.tmp 4] [.slice pq oz.length cq] ?_
  rw [List.take_of_length_le (by omega)] at hoz
  rw [← hoz]
  exact ⟨_,_,rfl,H7.tk [0,2,3,4,5]⟩
theorem best_r (g:Nat) (sd:ByteArray) (lp:Option Addr) (lc:Nat) (ps:List Pl) (rp:Option Addr) (rc:Nat) (gs:List Rd) (xp:Option Addr) (xc:Nat) (xs:List (Ro Int)) (yp:Option Addr) (yc:Nat) (ys:List (Ro Int)) (pl:List Rd) (hG:GsOK ps.length pl gs) (hgl:gs.length≤200) (hnp:ps.length≤9) (h2p:2≤ps.length) (me:Int) (hme:0≤me∧me<ps.length)  (w:World) (HS:S w [Ob g (.cells #[.string sd,.slice lp ps.length lc,.slice rp gs.length rc,.slice xp xs.length xc,.slice yp ys.length yc] 66 (0,0)),Rw 39 1 rp gs.length rc (fl rowL gs),(Pool pl)]):Calls Tryz.prog 53 #[.pointer (some ⟨g,0,none⟩),.int .i64 me] w fun e w'=>∃ p' c',e=.returned (.slice p' [nextV ps.length (gs.map Rd.v) me].length c')∧S w' ([Rw 3 1 p' [nextV ps.length (gs.map Rd.v) me].length c' (fl intL [nextV ps.length (gs.map Rd.v) me]),Ob g (.cells #[.string sd,.slice lp ps.length lc,.slice rp gs.length rc,.slice xp xs.length xc,.slice yp ys.length yc] 66 (0,0)),Rw 39 1 rp gs.length rc (fl rowL gs),(Pool pl)]++[Old w (fps [Ob g (.cells #[.string sd,.slice lp ps.length lc,.slice rp gs.length rc,.slice xp xs.length xc,.slice yp ys.length yc] 66 (0,0)),Rw 39 1 rp gs.length rc (fl rowL gs),(Pool pl)])]):=by
 have H0:=HS.beginI
 refine enter 38 Tryz.func53 rfl rfl rfl ?_
 refine g_wk [(0,_),(1,_)] ?_
 refine w_s ?_
 refine w_k4 ?_
 refine w_b (v:=.int .i64 (me+1)) (hb:=(b_add (w64 (by omega)))) ?_
 refine w_k5 ?_
 refine w_b (v:=.int .i64 ((me+1) % (ps.length:Int))) (hb:=(b_rem (by omega) (rem0 (by omega)))) ?_
 refine w_k7 ?_
 refine l_of (s_cl (others_r g sd lp lc ps rp rc gs xp xc xs yp yc ys hnp me _ (H0.tk [0])) ?_)
 rintro _ wq3 ⟨po1,co2,rfl,H4⟩
 replace H4:S _ [_,_,_,_,_]:=H0.abI (new:=[_,_]) [0] H4 rfl
 have hol:=othV_len ps.length me
 refine b_ret rfl rfl ?_
 refine w_k4 ?_
 refine g_loop (ι:=Nat × Int × Int) (fun (i,at9,mo)=>[(0,.pointer (some ⟨g,0,none⟩)),(1,.int .i64 me),(5,.int .i64 at9),(6,.int .i64 mo),(20,.slice po1 ((othV ps.length me).length) co2),(21,.int .i64 (((othV ps.length me).length:Int))),(22,.int .i64 ((i:Int)))]) (fun (i,at9,mo) wx=>(i≤(othV ps.length me).length)∧((at9,mo)=((othV ps.length me).take i).foldl (bstS (fun i=>lastV (gs.map Rd.v) i me)) (((me+1) % (ps.length:Int)),0))∧S wx [Rw 3 1 po1 ((othV ps.length me).length) co2 (fl intL (othV ps.length me)),Ob g (.cells #[.string sd,.slice lp ps.length lc,.slice rp gs.length rc,.slice xp xs.length xc,.slice yp ys.length yc] 66 (0,0)),Rw 39 1 rp gs.length rc (fl rowL gs),(Pool pl),Old w (fps [Ob g (.cells #[.string sd,.slice lp ps.length lc,.slice rp gs.length rc,.slice xp xs.length xc,.slice yp ys.length yc] 66 (0,0)),Rw 39 1 rp gs.length rc (fl rowL gs),(Pool pl)])]) (fun (i,at9,mo)=>((othV ps.length me).length) - i) (0,((me+1) % (ps.length:Int)),0) ⟨rfl,rfl,rfl,rfl,rfl,rfl,rfl,trivial⟩ ⟨Nat.zero_le _,rfl,(H4.tk [0,1,2,3,4])⟩ ?_
 rintro ⟨i,at9,mo⟩ wq5 ⟨hi,hbs,H6⟩
 refine g_wk [(0,_),(1,_),(5,_),(6,_),(20,_),(21,_),(22,_)] ?_
 refine w_s ?_
 refine w_k2 ?_
 refine g_seq ?_
 by_cases hb7:((i:Int):Int)<((othV ps.length me).length:Int)
 ·
  refine g_ct hb7 ?_
  refine w_k5 ?_
  refine w_v (x_i i (H6.rr 0)) ?_
  obtain ⟨x8,hx8⟩:=(H6.rr 0).exL intE i
  have hox9:=othV_at hx8
  refine w_v (x_r i (H6.rr 0) (intE.flAt1 hx8 rfl)) ?_
  refine w_k6 ?_
  refine l_of (s_cl (gave1_r g sd lp lc ps rp rc gs xp xc xs yp yc ys pl hG hgl hnp x8 me hox9.1 hme _ (H6.tk [1,2,3])) ?_)
  rintro _ wq10 ⟨rfl,H11⟩
  replace H11:S _ [_,_,_,_,_]:=H6.abI (new:=[_,_,_]) [1,2,3] H11 rfl
  have hlbq9:=lastV_bd hG x8 me
  refine b_ret rfl rfl ?_
  refine w_k7 ?_
  by_cases hb12:(mo:Int)<(lastV (gs.map Rd.v) x8 me)
  ·
   refine g_ct hb12 ?_
   refine w_k9 ?_
   refine w_i i ?_
   refine w_k2 ?_
   refine g_rd (i:=(i,at9,mo)) ((i+1),x8,(lastV (gs.map Rd.v) x8 me)) ⟨by omega,(by rw [take_snocT hx8,List.foldl_append,← hbs]; exact (if_pos hb12).symm),(H11.tk [3,0,1,2,4])⟩
  ·
   refine g_cf hb12 ?_
   refine w_k4 ?_
   refine w_i i ?_
   refine w_k2 ?_
   refine g_rd (i:=(i,at9,mo)) ((i+1),at9,mo) ⟨by omega,(by rw [take_snocT hx8,List.foldl_append,← hbs]; exact (if_neg hb12).symm),(H11.tk [3,0,1,2,4])⟩
 ·
  refine g_cf hb7 ?_
  refine w_k7 ?_
  refine l_of (s_b1 ze3 #[.int .i64 at9] H6 ?_)
  intro g13 wq14 H15
  refine w_k3 ?_
  refine fin_r [.tmp 4] [.slice (some ⟨g13,0,none⟩) (1) (1)] ?_
  have H16:S wq14 [Rw 3 1 (some ⟨g13,0,none⟩) 1 1 (fl intL ([at9])),Rw 3 1 po1 ((othV ps.length me).length) co2 (fl intL (othV ps.length me)),Ob g (.cells #[.string sd,.slice lp ps.length lc,.slice rp gs.length rc,.slice xp xs.length xc,.slice yp ys.length yc] 66 (0,0)),Rw 39 1 rp gs.length rc (fl rowL gs),(Pool pl),Old w (fps [Ob g (.cells #[.string sd,.slice lp ps.length lc,.slice rp gs.length rc,.slice xp xs.length xc,.slice yp ys.length yc] 66 (0,0)),Rw 39 1 rp gs.length rc (fl rowL gs),(Pool pl)])]:=S.obFl intE H15 (k:=0) rfl rfl (by decide) rfl
  rw [List.take_of_length_le (by omega)] at hbs
  have hnx:nextV ps.length (gs.map Rd.v) me=at9:=by rw [← bst_next h2p,← hbs]
  rw [hnx]
  exact ⟨_,_,rfl,H16.tk [0,2,3,4,5]⟩
def tyrCm (G:List (List (List Int))) (m:Int→Int) (me a b:Int):Int:=if lastV G a me=0∨lastV G b me=0 then lastV G b me - lastV G a me else lastV G b me * m a - lastV G a me * m b
theorem ahead_r (hG:GsOK ps.length pl gs) (hgl:gs.length≤200) (hnp:ps.length≤9) (me:Int) (hme:0≤me∧me<ps.length) (px:Ro Int) (hpx:xs[me.toNat]?=some px) (hpl:px.l.length=ps.length) (m:Int→Int) (hm:∀ (j:Nat) y,px.l[j]?=some y→¬ (j:Int)=me→y=m j) (hmb:∀ i,0≤m i∧m i≤1000000) (a z:Int) (ha:(0≤a∧a<ps.length)∧a ≠ me) (hz:(0≤z∧z<ps.length)∧z ≠ me)  (w:World) (HS:S w [DRb0 g sd lp lc ps rp rc gs xp xc xs yp yc ys,Rw 39 1 rp gs.length rc (fl rowL gs),(Pool pl),Rw 43 1 xp xs.length xc (fl rowL xs),(Lst BwI xs)]):Calls Tryz.prog 60 #[.pointer (some ⟨g,0,none⟩),.int .i64 me,.int .i64 a,.int .i64 z] w fun e w'=>e=.returned (.bool (decide (tyrCm (gs.map Rd.v) m me a z<0)))∧S w' ([DRb0 g sd lp lc ps rp rc gs xp xc xs yp yc ys,Rw 39 1 rp gs.length rc (fl rowL gs),(Pool pl),Rw 43 1 xp xs.length xc (fl rowL xs),(Lst BwI xs)]++[Old w (fps [DRb0 g sd lp lc ps rp rc gs xp xc xs yp yc ys,Rw 39 1 rp gs.length rc (fl rowL gs),(Pool pl),Rw 43 1 xp xs.length xc (fl rowL xs),(Lst BwI xs)])]):=by
 have H0:=HS.beginI
 have hmx9:=(List.getElem?_eq_some_iff.1 hpx).1
 refine enter 53 Tryz.func60 rfl rfl rfl ?_
 refine g_wk [(0,_),(1,_),(2,_),(3,_)] ?_
 refine w_s ?_
 refine w_k6 ?_
 refine l_of (s_cl (gave1_r g sd lp lc ps rp rc gs xp xc xs yp yc ys pl hG hgl hnp a me ha.1 hme _ (H0.tk [0,1,2])) ?_)
 rintro _ wq2 ⟨rfl,H3⟩
 replace H3:S _ [_,_,_,_,_,_]:=H0.abI (new:=[_,_,_]) [0,1,2] H3 rfl
 have hlbq1:=lastV_bd hG a me
 refine b_ret rfl rfl ?_
 refine w_r3 ?_
 refine l_of (s_cl (gave1_r g sd lp lc ps rp rc gs xp xc xs yp yc ys pl hG hgl hnp z me hz.1 hme _ (H3.tk [0,1,2])) ?_)
 rintro _ wq5 ⟨rfl,H6⟩
 replace H6:S _ [_,_,_,_,_,_]:=H3.abI (new:=[_,_,_]) [0,1,2] H6 rfl
 have hlbq4:=lastV_bd hG z me
 refine b_ret rfl rfl ?_
 refine w_k8 ?_
 by_cases hb7:((lastV (gs.map Rd.v) a me):Int)=0
 ·
  iterate 2 refine w_n (decide_eq_true hb7) ?_
  refine w_v (x_pick_t rfl rfl (decide_eq_true hb7) rfl) ?_
  refine w_e ?_
  refine g_cond_t rfl rfl ?_
  refine w_k8 ?_
  refine fin_r [.tmp 8] [.bool (decide (((lastV (gs.map Rd.v) z me):Int)<(lastV (gs.map Rd.v) a me)))] ?_
  have hv:decide (tyrCm (gs.map Rd.v) m me a z<0)=decide (((lastV (gs.map Rd.v) z me):Int)<(lastV (gs.map Rd.v) a me)):=decide_eq_decide.2 (by unfold tyrCm; rw [if_pos (by omega)]; constructor <;> intro h9 <;> omega)
  rw [hv]
  exact ⟨rfl,(H6.tk [0,1,2,3,4,5])⟩
 ·
  refine w_g (decide_eq_false hb7) xm ?_
  refine w_g (decide_eq_false hb7) (x_bin rfl rfl rfl b_eql) ?_
  refine w_v (x_pick_f rfl rfl (decide_eq_false hb7) rfl) ?_
  refine w_e ?_
  by_cases hb8:((lastV (gs.map Rd.v) z me):Int)=0
  ·
   refine g_ct hb8 ?_
   refine w_k8 ?_
   refine fin_r [.tmp 8] [.bool (decide (((lastV (gs.map Rd.v) z me):Int)<(lastV (gs.map Rd.v) a me)))] ?_
   have hv:decide (tyrCm (gs.map Rd.v) m me a z<0)=decide (((lastV (gs.map Rd.v) z me):Int)<(lastV (gs.map Rd.v) a me)):=decide_eq_decide.2 (by unfold tyrCm; rw [if_pos (by omega)]; constructor <;> intro h9 <;> omega)
   rw [hv]
   exact ⟨rfl,(H6.tk [0,1,2,3,4,5])⟩
  ·
   refine g_cf hb8 ?_
   refine w_k2 ?_
   refine g_seq ?_
   refine g_quiet (by kernel_rfl) (by kernel_rfl) H6 ?_
   iterate 2 refine q_v (fun _ _=>xm) ?_
   refine q_v (fun _ _=>xn) ?_
   refine q_v (fun _ _=>x_f) ?_
   refine q_v (fun _ H=>xl H 0) ?_
   refine q_v (fun _ _=>xm) ?_
   refine q_v (fun _ _=>x_ip ((me).toNat) ((H6.rr 3).some (by omega))) ?_
   obtain ⟨x9,hx9⟩:=(H6.rr 3).exL rowE ((me).toNat)
   have hxqx9:x9=px:=Option.some.inj (hx9.symm.trans hpx)
   have hlxx9:x9.l.length=ps.length:=by rw [hxqx9]; exact hpl
   refine q_v (fun _ H=>x_r ((me).toNat) (H.rr 3) (rowE.flAt1 hx9 rfl)) ?_
   refine q_v (fun _ _=>xm) ?_
   refine q_v (fun _ _=>x_ip ((z).toNat) ((H6.bwRd (k:=4) rfl hx9).some (by omega))) ?_
   obtain ⟨x10,hx10⟩:=(H6.bwRd (k:=4) rfl hx9).exL intE ((z).toNat)
   have hmxx10:x10=m z:=by have h9:=hm (z).toNat x10 (by rw [← hxqx9]; exact hx10) (by omega); rw [h9]; congr 1; omega
   have hmyx10:=hmb z
   refine q_v (fun _ H=>x_r ((z).toNat) (H.bwRd (k:=4) rfl hx9) (intE.flAt1 hx10 rfl)) ?_
   have hp11:=mul_bd (lastV_bd hG a me) (hmb z)
   rw [← hmxx10] at hp11
   refine q_v (v:=.int .i64 ((lastV (gs.map Rd.v) a me) * x10)) (fun _ _=>x_bin rfl rfl rfl (b_mul (w64 (by omega)))) ?_
   iterate 2 refine q_v (fun _ _=>xm) ?_
   refine q_v (fun _ _=>xn) ?_
   refine q_v (fun _ _=>x_f) ?_
   refine q_v (fun _ H=>xl H 0) ?_
   refine q_v (fun _ _=>xm) ?_
   refine q_v (fun _ _=>x_ip ((me).toNat) ((H6.rr 3).some (by omega))) ?_
   refine q_v (fun _ H=>x_r ((me).toNat) (H.rr 3) (rowE.flAt1 hx9 rfl)) ?_
   refine q_v (fun _ _=>xm) ?_
   refine q_v (fun _ _=>x_ip ((a).toNat) ((H6.bwRd (k:=4) rfl hx9).some (by omega))) ?_
   obtain ⟨x12,hx12⟩:=(H6.bwRd (k:=4) rfl hx9).exL intE ((a).toNat)
   have hmxx12:x12=m a:=by have h9:=hm (a).toNat x12 (by rw [← hxqx9]; exact hx12) (by omega); rw [h9]; congr 1; omega
   have hmyx12:=hmb a
   refine q_v (fun _ H=>x_r ((a).toNat) (H.bwRd (k:=4) rfl hx9) (intE.flAt1 hx12 rfl)) ?_
   have hp13:=mul_bd (lastV_bd hG z me) (hmb a)
   rw [← hmxx12] at hp13
   refine q_v (v:=.int .i64 ((lastV (gs.map Rd.v) z me) * x12)) (fun _ _=>x_bin rfl rfl rfl (b_mul (w64 (by omega)))) ?_
   refine q_v (fun _ _=>x_bin rfl rfl rfl b_gtr) ?_
   refine q_v (fun _ _=>xa) ?_
   refine q_nil (fun wq14 H15=>?_)
   refine w_0 ?_
   refine g_wk [(8,_)] ?_
   refine g_ret ?_
   refine fin_r [.tmp 8] [.bool (decide (((lastV (gs.map Rd.v) z me) * x12:Int)<(lastV (gs.map Rd.v) a me) * x10))] ?_
   have hv:decide (tyrCm (gs.map Rd.v) m me a z<0)=decide (((lastV (gs.map Rd.v) z me) * x12:Int)<(lastV (gs.map Rd.v) a me) * x10):=decide_eq_decide.2 (by rw [hmxx10,hmxx12]; unfold tyrCm; rw [if_neg (by omega)]; constructor <;> intro h9 <;> omega)
   rw [hv]
   exact ⟨rfl,(H15.tk [0,1,2,3,4,5])⟩
end
theorem cl60:callable Tryz.prog 60=true:=by kernel_rfl
def posV (c:Int→Int→Int) (o:List Int) (x:Int):Nat→Nat
 | 0=>0
 | k+1=>if c x (o.getD k 0)<0 then posV c o x k else k+1
def insV (c:Int→Int→Int) (o:List Int) (x:Int):List Int:=o.take (posV c o x o.length)++[x]++o.drop (posV c o x o.length)
def rankV (c:Int→Int→Int) (l:List Int):List Int:=l.foldl (insV c) []
theorem posV_le (c:Int→Int→Int) (o:List Int) (x:Int):∀ k,posV c o x k≤k
 | 0=>Nat.le_refl _
 | k+1=>by
   unfold posV
   split
   · exact Nat.le_succ_of_le (posV_le c o x k)
   · exact Nat.le_refl _
theorem posV_all {c:Int→Int→Int} {o:List Int} {x:Int} (h:∀ y,¬ c x y<0):∀ k,posV c o x k=k
 | 0=>rfl
 | k+1=>by unfold posV; rw [if_neg (h _)]
theorem posV_go {c:Int→Int→Int} {o:List Int} {x y:Int} {k:Nat} (h0:0<k) (hy:o[k - 1]?=some y) (h:c x y<0):posV c o x k=posV c o x (k - 1):=by
 obtain ⟨j,rfl⟩:∃ j,k=j+1:=⟨k - 1,by omega⟩
 show (if c x (o.getD j 0)<0 then posV c o x j else j+1)=posV c o x j
 rw [getD_atT (show o[j]?=some y from hy),if_pos h]
theorem posV_stay {c:Int→Int→Int} {o:List Int} {x y:Int} {k:Nat} (h0:0<k) (hy:o[k - 1]?=some y) (h:¬ c x y<0):posV c o x k=k:=by
 obtain ⟨j,rfl⟩:∃ j,k=j+1:=⟨k - 1,by omega⟩
 show (if c x (o.getD j 0)<0 then posV c o x j else j+1)=j+1
 rw [getD_atT (show o[j]?=some y from hy),if_neg h]
theorem insV_len (c:Int→Int→Int) (o:List Int) (x:Int):(insV c o x).length=o.length+1:=by
 have:=posV_le c o x o.length
 unfold insV
 rw [List.length_append,List.length_append,List.length_take,List.length_drop,List.length_singleton]; omega
theorem insV_mem {c:Int→Int→Int} {o:List Int} {x y:Int} (h:y∈insV c o x):y∈o∨y=x:=by
 unfold insV at h
 rcases List.mem_append.1 h with h | h
 · rcases List.mem_append.1 h with h | h
   · exact .inl (List.mem_of_mem_take h)
   · exact .inr (List.mem_singleton.1 h)
 · exact .inl (List.mem_of_mem_drop h)
theorem tyrCm_nil {m:Int→Int} {me:Int} {G:List (List (List Int))} (h:¬ 0<G.length) (a b:Int):¬ tyrCm G m me a b<0:=by
 have e:G=[]:=List.length_eq_zero_iff.1 (by omega)
 subst e
 unfold tyrCm
 rw [if_pos (.inl rfl)]
 show ¬ (0:Int) - 0<0
 decide
theorem ins_is {c:Int→Int→Int} {o:List Int} {x:Int} {k:Nat} (h:posV c o x o.length=k):(o.take k++[x])++o.drop k=insV c o x:=by unfold insV; rw [h]
theorem ranked_r (g:Nat) (sd:ByteArray) (lp:Option Addr) (lc:Nat) (ps:List Pl) (rp:Option Addr) (rc:Nat) (gs:List Rd) (xp:Option Addr) (xc:Nat) (xs:List (Ro Int)) (yp:Option Addr) (yc:Nat) (ys:List (Ro Int)) (pl:List Rd) (hG:GsOK ps.length pl gs) (hgl:gs.length≤200) (hnp:ps.length≤9) (me:Int) (hme:0≤me∧me<ps.length) (px:Ro Int) (hpx:xs[me.toNat]?=some px) (hpl:px.l.length=ps.length) (m:Int→Int) (hm:∀ (j:Nat) y,px.l[j]?=some y→¬ (j:Int)=me→y=m j) (hmb:∀ i,0≤m i∧m i≤1000000)  (w:World) (HS:S w [Ob g (.cells #[.string sd,.slice lp ps.length lc,.slice rp gs.length rc,.slice xp xs.length xc,.slice yp ys.length yc] 66 (0,0)),Rw 39 1 rp gs.length rc (fl rowL gs),(Pool pl),Rw 43 1 xp xs.length xc (fl rowL xs),(Lst BwI xs)]):Calls Tryz.prog 54 #[.pointer (some ⟨g,0,none⟩),.int .i64 me] w fun e w'=>∃ p' c',e=.returned (.slice p' (rankV (tyrCm (gs.map Rd.v) m me) (othV ps.length me)).length c')∧S w' ([Rw 3 1 p' (rankV (tyrCm (gs.map Rd.v) m me) (othV ps.length me)).length c' (fl intL (rankV (tyrCm (gs.map Rd.v) m me) (othV ps.length me))),Ob g (.cells #[.string sd,.slice lp ps.length lc,.slice rp gs.length rc,.slice xp xs.length xc,.slice yp ys.length yc] 66 (0,0)),Rw 39 1 rp gs.length rc (fl rowL gs),(Pool pl),Rw 43 1 xp xs.length xc (fl rowL xs),(Lst BwI xs)]++[Old w (fps [Ob g (.cells #[.string sd,.slice lp ps.length lc,.slice rp gs.length rc,.slice xp xs.length xc,.slice yp ys.length yc] 66 (0,0)),Rw 39 1 rp gs.length rc (fl rowL gs),(Pool pl),Rw 43 1 xp xs.length xc (fl rowL xs),(Lst BwI xs)])]):=by
 have H0:=HS.beginI
 refine enter 59 Tryz.func54 rfl rfl rfl ?_
 refine g_wk [(0,_),(1,_)] ?_
 refine w_s ?_
 refine w_k3 ?_
 have H1:S _ [_,_,_,_,_,_,_]:=H0.nilFl 3 1 intL
 refine w_k6 ?_
 refine l_of (s_cl (others_r g sd lp lc ps rp rc gs xp xc xs yp yc ys hnp me _ (H1.tk [1])) ?_)
 rintro _ wq4 ⟨po2,co3,rfl,H5⟩
 replace H5:S _ [_,_,_,_,_,_,_,_]:=H1.abI (new:=[_,_]) [1] H5 rfl
 have hol:=othV_len ps.length me
 refine b_ret rfl rfl ?_
 refine w_k4 ?_
 refine g_loop (ι:=Nat × Option Addr × Nat × List Int) (fun (i,pq,cq,oz)=>[(0,.pointer (some ⟨g,0,none⟩)),(1,.int .i64 me),(5,.slice pq oz.length cq),(12,.slice po2 ((othV ps.length me).length) co3),(13,.int .i64 (((othV ps.length me).length:Int))),(14,.int .i64 ((i:Int)))]) (fun (i,pq,cq,oz) wx=>(i≤(othV ps.length me).length)∧(oz=rankV (tyrCm (gs.map Rd.v) m me) ((othV ps.length me).take i))∧(oz.length=i)∧(∀ y∈oz,(0≤y∧y<(ps.length:Int))∧y ≠ me)∧S wx [Rw 3 1 pq oz.length cq (fl intL oz),Rw 3 1 po2 ((othV ps.length me).length) co3 (fl intL (othV ps.length me)),Ob g (.cells #[.string sd,.slice lp ps.length lc,.slice rp gs.length rc,.slice xp xs.length xc,.slice yp ys.length yc] 66 (0,0)),Rw 39 1 rp gs.length rc (fl rowL gs),(Pool pl),Rw 43 1 xp xs.length xc (fl rowL xs),(Lst BwI xs),Old w (fps [Ob g (.cells #[.string sd,.slice lp ps.length lc,.slice rp gs.length rc,.slice xp xs.length xc,.slice yp ys.length yc] 66 (0,0)),Rw 39 1 rp gs.length rc (fl rowL gs),(Pool pl),Rw 43 1 xp xs.length xc (fl rowL xs),(Lst BwI xs)])]) (fun (i,pq,cq,oz)=>((othV ps.length me).length) - i) (0,none,0,[]) ⟨rfl,rfl,rfl,rfl,rfl,rfl,trivial⟩ ⟨Nat.zero_le _,rfl,rfl,(fun y hy=>absurd hy List.not_mem_nil),(H5.tk [2,0,1,3,4,5,6,7])⟩ ?_
 rintro ⟨i,pq,cq,oz⟩ wq6 ⟨hi,hoz,hozl,hozm,H7⟩
 refine g_wk [(0,_),(1,_),(5,_),(12,_),(13,_),(14,_)] ?_
 refine w_s ?_
 refine w_k2 ?_
 refine g_seq ?_
 by_cases hb8:((i:Int):Int)<((othV ps.length me).length:Int)
 ·
  refine g_ct hb8 ?_
  refine w_k5 ?_
  refine w_v (x_i i (H7.rr 1)) ?_
  obtain ⟨x9,hx9⟩:=(H7.rr 1).exL intE i
  have hox9:=othV_at hx9
  refine w_v (x_r i (H7.rr 1) (intE.flAt1 hx9 rfl)) ?_
  refine w_k9 ?_
  refine g_loop (ι:=Nat) (fun kk=>[(0,.pointer (some ⟨g,0,none⟩)),(1,.int .i64 me),(5,.slice pq oz.length cq),(7,.int .i64 x9),(8,.int .i64 ((kk:Int))),(12,.slice po2 ((othV ps.length me).length) co3),(13,.int .i64 (((othV ps.length me).length:Int))),(14,.int .i64 ((i:Int)))]) (fun kk wx=>(kk≤oz.length)∧(posV (tyrCm (gs.map Rd.v) m me) oz x9 oz.length=posV (tyrCm (gs.map Rd.v) m me) oz x9 kk)∧S wx [Rw 3 1 pq oz.length cq (fl intL oz),Rw 3 1 po2 ((othV ps.length me).length) co3 (fl intL (othV ps.length me)),Ob g (.cells #[.string sd,.slice lp ps.length lc,.slice rp gs.length rc,.slice xp xs.length xc,.slice yp ys.length yc] 66 (0,0)),Rw 39 1 rp gs.length rc (fl rowL gs),(Pool pl),Rw 43 1 xp xs.length xc (fl rowL xs),(Lst BwI xs),Old w (fps [Ob g (.cells #[.string sd,.slice lp ps.length lc,.slice rp gs.length rc,.slice xp xs.length xc,.slice yp ys.length yc] 66 (0,0)),Rw 39 1 rp gs.length rc (fl rowL gs),(Pool pl),Rw 43 1 xp xs.length xc (fl rowL xs),(Lst BwI xs)])]) (fun kk=>kk) (oz.length) ⟨rfl,rfl,rfl,rfl,rfl,rfl,rfl,rfl,trivial⟩ ⟨(Nat.le_refl _),rfl,(H7.tk [0,1,2,3,4,5,6,7])⟩ ?_
  rintro kk wq10 ⟨hkk,hps,H11⟩
  refine g_wk [(0,_),(1,_),(5,_),(7,_),(8,_),(12,_),(13,_),(14,_)] ?_
  refine g_seq ?_
  refine w_k8 ?_
  by_cases hb12:(0:Int)<(gs.length:Int)
  ·
   refine w_g (decide_eq_true hb12) xm ?_
   refine w_g (decide_eq_true hb12) (x_bin rfl rfl rfl b_gtr) ?_
   refine w_v (x_pick_t rfl rfl (decide_eq_true hb12) rfl) ?_
   refine w_m ?_
   by_cases hb13:(0:Int)<(kk:Int)
   ·
    iterate 5 refine w_g (decide_eq_true hb13) xm ?_
    refine w_g (v:=.int .i64 (((kk - 1:Nat):Int))) (decide_eq_true hb13) (x_bin rfl rfl rfl (b_sub (by rw [w64 (by omega)]; omega))) ?_
    refine w_g (decide_eq_true hb13) (x_i (kk - 1) (H11.rr 0)) ?_
    obtain ⟨x14,hx14⟩:=(H11.rr 0).exL intE (kk - 1)
    have hoy9:=hozm x14 (List.mem_of_getElem? hx14)
    refine w_g (decide_eq_true hb13) (x_r (kk - 1) (H11.rr 0) (intE.flAt1 hx14 rfl)) ?_
    refine l_of (s_call (wt1 rfl rfl rfl rfl (decide_eq_true hb13)) (x_call' rfl rfl cl60) (ahead_r g sd lp lc ps rp rc gs xp xc xs yp yc ys pl hG hgl hnp me hme px hpx hpl m hm hmb x9 x14 hox9 hoy9 _ (H11.tk [2,3,4,5,6])) ?_)
    rintro _ wq15 ⟨rfl,H16⟩
    replace H16:S _ [_,_,_,_,_,_,_,_]:=H11.abI (new:=[_,_,_,_,_]) [2,3,4,5,6] H16 rfl
    refine b_ret rfl rfl ?_
    refine w_v (x_pick_t rfl rfl (decide_eq_true hb13) rfl) ?_
    refine w_e ?_
    by_cases hb17:((tyrCm (gs.map Rd.v) m me) x9 x14<0)
    ·
     refine g_ct hb17 ?_
     refine w_k5 ?_
     refine w_b (v:=.int .i64 (((kk - 1:Nat):Int))) (hb:=(b_sub (by rw [w64 (by omega)]; omega))) ?_
     refine w_k4 ?_
     refine g_rd (i:=(kk)) ((kk - 1)) ⟨(by omega),(hps.trans (posV_go (by omega) hx14 hb17)),(H16.tk [5,6,0,1,2,3,4,7])⟩
    ·
     refine g_cf hb17 ?_
     refine w_0 ?_
     have hpk:posV (tyrCm (gs.map Rd.v) m me) oz x9 oz.length=kk:=hps.trans (posV_stay (by omega) hx14 hb17)
     refine w_k11 ?_
     have hnc:=(H16.rr 5).2.1
     refine w_v (v:=.slice pq kk cq) (ex_cast (x_sliceH kk rfl rfl rfl Tryz.underlying43 sz3 (by omega)) (by rw [cutP0])) ?_
     have H18:S _ [_,_,_,_,_,_,_,_,_]:=H16.nilFl 3 1 intL
     have hln23a:=(H18.rr 0).lenL intE
     have hln23b:=((H18.rr 6).takeL intE kk (by omega)).lenL intE
     have hln23:(oz.take kk).length=0+kk:=by omega
     refine l_of (s_appLn (l:=[]) (l2:=(oz.take kk)) intE H18 0 (wt0 rfl) rfl rfl rfl rfl rfl rfl Tryz.underlying43 inf3 rfl (by decide) ((H18.rr 6).takeL intE kk (by omega)) (by omega) ?_)
     intro p19 c20 wq21 H22
     rw [List.nil_append] at H22 ⊢
     replace H22:S wq21 [Rw 3 1 p19 ((oz.take kk).length) c20 (fl intL (oz.take kk)),Ob g (.cells #[.string sd,.slice lp ps.length lc,.slice rp gs.length rc,.slice xp xs.length xc,.slice yp ys.length yc] 66 (0,0)),Rw 39 1 rp gs.length rc (fl rowL gs),(Pool pl),Rw 43 1 xp xs.length xc (fl rowL xs),(Lst BwI xs),Rw 3 1 pq oz.length cq (fl intL oz),Rw 3 1 po2 ((othV ps.length me).length) co3 (fl intL (othV ps.length me)),Old w (fps [Ob g (.cells #[.string sd,.slice lp ps.length lc,.slice rp gs.length rc,.slice xp xs.length xc,.slice yp ys.length yc] 66 (0,0)),Rw 39 1 rp gs.length rc (fl rowL gs),(Pool pl),Rw 43 1 xp xs.length xc (fl rowL xs),(Lst BwI xs)])]:=H22
     refine w_k5 ?_
     refine l_of (s_b1 ze3 #[.int .i64 x9] H22 ?_)
     intro g24 wq25 H26
     have hln31a:=(H26.rr 1).lenL intE
     have hln31:((oz.take kk)++[x9]).length=((oz.take kk).length)+1:=by simp only [List.length_append,List.length_cons,List.length_nil] <;> omega
     refine l_of (s_appBn (m:=1) (l:=(oz.take kk)) (l2:=[x9]) intE H26 1 (j0:=0) rfl rfl ⟨rfl,Nat.le_refl _⟩ (wt0 rfl) rfl rfl rfl rfl rfl rfl Tryz.underlying43 inf3 rfl (by decide) (by omega) ?_)
     intro p27 c28 wq29 H30
     refine w_k6 ?_
     have hnc:=(H30.rr 7).2.1
     have hnl:=(H30.rr 7).lenL intE
     have hdl:(oz.drop kk).length=oz.length - kk:=by rw [List.length_drop,← hnl]
     refine w_v (v:=.slice (cutP pq kk cq 1) ((oz.drop kk).length) (cq - kk)) (ex_cast (x_cut kk rfl rfl rfl Tryz.underlying43 sz3 (by omega)) (by rw [List.length_drop,← hnl])) ?_
     have hln36a:=(H30.rr 1).lenL intE
     have hln36b:=((H30.rr 7).cutLn intE kk (by omega)).lenL intE
     have hln36:(((oz.take kk)++[x9])++(oz.drop kk)).length=(((oz.take kk)++[x9]).length)+((oz.drop kk).length):=by simp only [List.length_append,List.length_cons,List.length_nil] <;> omega
     refine l_of (s_appLn (l:=((oz.take kk)++[x9])) (l2:=(oz.drop kk)) intE H30 1 (wt0 rfl) rfl rfl rfl rfl rfl rfl Tryz.underlying43 inf3 rfl (by decide) ((H30.rr 7).cutLn intE kk (by omega)) (by omega) ?_)
     intro p32 c33 wq34 H35
     refine w_k5 ?_
     refine w_i i ?_
     refine w_k2 ?_
     refine g_rd (i:=(i,pq,cq,oz)) ((i+1),p32,c33,(((oz.take kk)++[x9])++(oz.drop kk))) ⟨by omega,(by rw [ins_is hpk,take_snocT hx9]; unfold rankV; rw [List.foldl_append]; show insV _ oz _=insV _ (rankV _ _) _; rw [← hoz]),(by rw [ins_is hpk,insV_len,hozl]),(fun y hy=>by rw [ins_is hpk] at hy; rcases insV_mem hy with hy | rfl; exact hozm y hy; exact hox9),(H35.tk [1,8,2,3,4,5,6,9])⟩
   ·
    iterate 9 refine w_n (decide_eq_false hb13) ?_
    refine w_v (x_pick_f rfl rfl (decide_eq_false hb13) rfl) ?_
    refine w_e ?_
    refine g_cond_f rfl rfl ?_
    refine w_0 ?_
    have hpk:posV (tyrCm (gs.map Rd.v) m me) oz x9 oz.length=kk:=hps.trans (by rw [show kk=0 by omega]; rfl)
    refine w_k11 ?_
    have hnc:=(H11.rr 0).2.1
    refine w_v (v:=.slice pq kk cq) (ex_cast (x_sliceH kk rfl rfl rfl Tryz.underlying43 sz3 (by omega)) (by rw [cutP0])) ?_
    have H37:S _ [_,_,_,_,_,_,_,_,_]:=H11.nilFl 3 1 intL
    have hln42a:=(H37.rr 0).lenL intE
    have hln42b:=((H37.rr 1).takeL intE kk (by omega)).lenL intE
    have hln42:(oz.take kk).length=0+kk:=by omega
    refine l_of (s_appLn (l:=[]) (l2:=(oz.take kk)) intE H37 0 (wt0 rfl) rfl rfl rfl rfl rfl rfl Tryz.underlying43 inf3 rfl (by decide) ((H37.rr 1).takeL intE kk (by omega)) (by omega) ?_)
    intro p38 c39 wq40 H41
    rw [List.nil_append] at H41 ⊢
    replace H41:S wq40 [Rw 3 1 p38 ((oz.take kk).length) c39 (fl intL (oz.take kk)),Rw 3 1 pq oz.length cq (fl intL oz),Rw 3 1 po2 ((othV ps.length me).length) co3 (fl intL (othV ps.length me)),Ob g (.cells #[.string sd,.slice lp ps.length lc,.slice rp gs.length rc,.slice xp xs.length xc,.slice yp ys.length yc] 66 (0,0)),Rw 39 1 rp gs.length rc (fl rowL gs),(Pool pl),Rw 43 1 xp xs.length xc (fl rowL xs),(Lst BwI xs),Old w (fps [Ob g (.cells #[.string sd,.slice lp ps.length lc,.slice rp gs.length rc,.slice xp xs.length xc,.slice yp ys.length yc] 66 (0,0)),Rw 39 1 rp gs.length rc (fl rowL gs),(Pool pl),Rw 43 1 xp xs.length xc (fl rowL xs),(Lst BwI xs)])]:=H41
    refine w_k5 ?_
    refine l_of (s_b1 ze3 #[.int .i64 x9] H41 ?_)
    intro g43 wq44 H45
    have hln50a:=(H45.rr 1).lenL intE
    have hln50:((oz.take kk)++[x9]).length=((oz.take kk).length)+1:=by simp only [List.length_append,List.length_cons,List.length_nil] <;> omega
    refine l_of (s_appBn (m:=1) (l:=(oz.take kk)) (l2:=[x9]) intE H45 1 (j0:=0) rfl rfl ⟨rfl,Nat.le_refl _⟩ (wt0 rfl) rfl rfl rfl rfl rfl rfl Tryz.underlying43 inf3 rfl (by decide) (by omega) ?_)
    intro p46 c47 wq48 H49
    refine w_k6 ?_
    have hnc:=(H49.rr 2).2.1
    have hnl:=(H49.rr 2).lenL intE
    have hdl:(oz.drop kk).length=oz.length - kk:=by rw [List.length_drop,← hnl]
    refine w_v (v:=.slice (cutP pq kk cq 1) ((oz.drop kk).length) (cq - kk)) (ex_cast (x_cut kk rfl rfl rfl Tryz.underlying43 sz3 (by omega)) (by rw [List.length_drop,← hnl])) ?_
    have hln55a:=(H49.rr 1).lenL intE
    have hln55b:=((H49.rr 2).cutLn intE kk (by omega)).lenL intE
    have hln55:(((oz.take kk)++[x9])++(oz.drop kk)).length=(((oz.take kk)++[x9]).length)+((oz.drop kk).length):=by simp only [List.length_append,List.length_cons,List.length_nil] <;> omega
    refine l_of (s_appLn (l:=((oz.take kk)++[x9])) (l2:=(oz.drop kk)) intE H49 1 (wt0 rfl) rfl rfl rfl rfl rfl rfl Tryz.underlying43 inf3 rfl (by decide) ((H49.rr 2).cutLn intE kk (by omega)) (by omega) ?_)
    intro p51 c52 wq53 H54
    refine w_k5 ?_
    refine w_i i ?_
    refine w_k2 ?_
    refine g_rd (i:=(i,pq,cq,oz)) ((i+1),p51,c52,(((oz.take kk)++[x9])++(oz.drop kk))) ⟨by omega,(by rw [ins_is hpk,take_snocT hx9]; unfold rankV; rw [List.foldl_append]; show insV _ oz _=insV _ (rankV _ _) _; rw [← hoz]),(by rw [ins_is hpk,insV_len,hozl]),(fun y hy=>by rw [ins_is hpk] at hy; rcases insV_mem hy with hy | rfl; exact hozm y hy; exact hox9),(H54.tk [1,3,4,5,6,7,8,9])⟩
  ·
   iterate 2 refine w_n (decide_eq_false hb12) ?_
   refine w_v (x_pick_f rfl rfl (decide_eq_false hb12) rfl) ?_
   refine w_m ?_
   iterate 9 refine w_n rfl ?_
   refine w_v (x_pick_f rfl rfl rfl rfl) ?_
   refine w_e ?_
   refine g_cond_f rfl rfl ?_
   refine w_0 ?_
   have hpk:posV (tyrCm (gs.map Rd.v) m me) oz x9 oz.length=kk:=hps.trans (posV_all (tyrCm_nil (by rw [List.length_map]; omega) _) _)
   refine w_k11 ?_
   have hnc:=(H11.rr 0).2.1
   refine w_v (v:=.slice pq kk cq) (ex_cast (x_sliceH kk rfl rfl rfl Tryz.underlying43 sz3 (by omega)) (by rw [cutP0])) ?_
   have H56:S _ [_,_,_,_,_,_,_,_,_]:=H11.nilFl 3 1 intL
   have hln61a:=(H56.rr 0).lenL intE
   have hln61b:=((H56.rr 1).takeL intE kk (by omega)).lenL intE
   have hln61:(oz.take kk).length=0+kk:=by omega
   refine l_of (s_appLn (l:=[]) (l2:=(oz.take kk)) intE H56 0 (wt0 rfl) rfl rfl rfl rfl rfl rfl Tryz.underlying43 inf3 rfl (by decide) ((H56.rr 1).takeL intE kk (by omega)) (by omega) ?_)
   intro p57 c58 wq59 H60
   rw [List.nil_append] at H60 ⊢
   replace H60:S wq59 [Rw 3 1 p57 ((oz.take kk).length) c58 (fl intL (oz.take kk)),Rw 3 1 pq oz.length cq (fl intL oz),Rw 3 1 po2 ((othV ps.length me).length) co3 (fl intL (othV ps.length me)),Ob g (.cells #[.string sd,.slice lp ps.length lc,.slice rp gs.length rc,.slice xp xs.length xc,.slice yp ys.length yc] 66 (0,0)),Rw 39 1 rp gs.length rc (fl rowL gs),(Pool pl),Rw 43 1 xp xs.length xc (fl rowL xs),(Lst BwI xs),Old w (fps [Ob g (.cells #[.string sd,.slice lp ps.length lc,.slice rp gs.length rc,.slice xp xs.length xc,.slice yp ys.length yc] 66 (0,0)),Rw 39 1 rp gs.length rc (fl rowL gs),(Pool pl),Rw 43 1 xp xs.length xc (fl rowL xs),(Lst BwI xs)])]:=H60
   refine w_k5 ?_
   refine l_of (s_b1 ze3 #[.int .i64 x9] H60 ?_)
   intro g62 wq63 H64
   have hln69a:=(H64.rr 1).lenL intE
   have hln69:((oz.take kk)++[x9]).length=((oz.take kk).length)+1:=by simp only [List.length_append,List.length_cons,List.length_nil] <;> omega
   refine l_of (s_appBn (m:=1) (l:=(oz.take kk)) (l2:=[x9]) intE H64 1 (j0:=0) rfl rfl ⟨rfl,Nat.le_refl _⟩ (wt0 rfl) rfl rfl rfl rfl rfl rfl Tryz.underlying43 inf3 rfl (by decide) (by omega) ?_)
   intro p65 c66 wq67 H68
   refine w_k6 ?_
   have hnc:=(H68.rr 2).2.1
   have hnl:=(H68.rr 2).lenL intE
   have hdl:(oz.drop kk).length=oz.length - kk:=by rw [List.length_drop,← hnl]
   refine w_v (v:=.slice (cutP pq kk cq 1) ((oz.drop kk).length) (cq - kk)) (ex_cast (x_cut kk rfl rfl rfl Tryz.underlying43 sz3 (by omega)) (by rw [List.length_drop,← hnl])) ?_
   have hln74a:=(H68.rr 1).lenL intE
   have hln74b:=((H68.rr 2).cutLn intE kk (by omega)).lenL intE
   have hln74:(((oz.take kk)++[x9])++(oz.drop kk)).length=(((oz.take kk)++[x9]).length)+((oz.drop kk).length):=by simp only [List.length_append,List.length_cons,List.length_nil] <;> omega
   refine l_of (s_appLn (l:=((oz.take kk)++[x9])) (l2:=(oz.drop kk)) intE H68 1 (wt0 rfl) rfl rfl rfl rfl rfl rfl Tryz.underlying43 inf3 rfl (by decide) ((H68.rr 2).cutLn intE kk (by omega)) (by omega) ?_)
   intro p70 c71 wq72 H73
   refine w_k5 ?_
   refine w_i i ?_
   refine w_k2 ?_
   refine g_rd (i:=(i,pq,cq,oz)) ((i+1),p70,c71,(((oz.take kk)++[x9])++(oz.drop kk))) ⟨by omega,(by rw [ins_is hpk,take_snocT hx9]; unfold rankV; rw [List.foldl_append]; show insV _ oz _=insV _ (rankV _ _) _; rw [← hoz]),(by rw [ins_is hpk,insV_len,hozl]),(fun y hy=>by rw [ins_is hpk] at hy; rcases insV_mem hy with hy | rfl; exact hozm y hy; exact hox9),(H73.tk [1,3,4,5,6,7,8,9])⟩
 ·
  refine g_cf hb8 ?_
  refine w_k10 ?_
  refine fin_r [.tmp 4] [.slice pq oz.length cq] ?_
  rw [List.take_of_length_le (by omega)] at hoz
  rw [← hoz]
  exact ⟨_,_,rfl,H7.tk [0,2,3,4,5,6,7]⟩
def snbK (G:List (List (List Int))) (me i:Int):Nat→Bool
 | 0=>decide (3≤G.length)
 | k+1=>snbK G me i k && (decide (gvK G i me ((k+1:Nat):Int)=0) && decide (0<gvK G me i ((k+1:Nat):Int)))
def letR (G:List (List (List Int))) (me i:Int):Int:=if (G.any fun r=>decide (0<at2 r me i))=true then 0 else -1
def rvR (G:List (List (List Int))) (me i:Int):Rv:=⟨i,true,decide (lastV G i me=0),lastV G i me,lastV G me i,letR G me i,0,snbK G me i 3,false,false⟩
theorem let_nil (gs:List Rd) (me i:Int):(-1:Int)=letR ((gs.take 0).map Rd.v) me i:=rfl
theorem let_go {gs:List Rd} {me i lt:Int} {j:Nat} {r:Rd} (h:lt=letR ((gs.take j).map Rd.v) me i) (hr:gs[j]?=some r) (h2:0<at2 r.v me i):(0:Int)=letR ((gs.take (j+1)).map Rd.v) me i:=by
 unfold letR
 rw [take_snocT hr,List.map_append,List.any_append]
 rw [if_pos (by simp [h2])]
theorem let_stay {gs:List Rd} {me i lt:Int} {j:Nat} {r:Rd} (h:lt=letR ((gs.take j).map Rd.v) me i) (hr:gs[j]?=some r) (h2:¬ 0<at2 r.v me i):lt=letR ((gs.take (j+1)).map Rd.v) me i:=by
 rw [h]
 unfold letR
 rw [take_snocT hr,List.map_append,List.any_append]
 have e:([r].map Rd.v).any (fun r=>decide (0<at2 r me i))=false:=by simp [h2]
 rw [e,Bool.or_false]
theorem letR_bd (G:List (List (List Int))) (me i:Int):-1≤letR G me i∧letR G me i≤0:=by
 unfold letR
 split <;> decide
theorem rvR_valid {n:Nat} {pl gs:List Rd} {me i:Int} (h:GsOK n pl gs) (hn:n≤9) (hi:0≤i∧i<n):validR (rvR (gs.map Rd.v) me i)=true:=by
 have h2:=lastV_bd h i me
 have h3:=lastV_bd h me i
 have h4:=letR_bd (gs.map Rd.v) me i
 have e1:(rvR (gs.map Rd.v) me i).id=i:=rfl
 have e2:(rvR (gs.map Rd.v) me i).frm=lastV (gs.map Rd.v) i me:=rfl
 have e3:(rvR (gs.map Rd.v) me i).to=lastV (gs.map Rd.v) me i:=rfl
 have e4:(rvR (gs.map Rd.v) me i).since=0:=rfl
 have e5:(rvR (gs.map Rd.v) me i).lt=letR (gs.map Rd.v) me i:=rfl
 unfold validR numB
 simp only [Bool.and_eq_true,decide_eq_true_eq,e1,e2,e3,e4,e5]
 omega
theorem rvR_ids (n:Nat) (G:List (List (List Int))) (me:Int):((othV n me).map (rvR G me)).map Rv.id=othV n me:=by
 rw [List.map_map]
 exact (List.map_congr_left (g:=id) fun x _=>rfl).trans (List.map_id _)
noncomputable def fairR (sd:ByteArray) (n:Nat) (G:List (List (List Int))) (me:Int):List Int:=sortI ((let1 G.length 4 ((sd++⟨#[32]⟩)++itS me) ((othV n me).map (rvR G me))).map Rv.id)
theorem fair_r (g:Nat) (sd:ByteArray) (lp:Option Addr) (lc:Nat) (ps:List Pl) (rp:Option Addr) (rc:Nat) (gs:List Rd) (xp:Option Addr) (xc:Nat) (xs:List (Ro Int)) (yp:Option Addr) (yc:Nat) (ys:List (Ro Int)) (pl:List Rd) (hG:GsOK ps.length pl gs) (hgl:gs.length≤200) (hnp:ps.length≤9) (hsd:sd.size≤100) (me:Int) (hme:0≤me∧me<ps.length)  (w:World) (HS:S w [Ob g (.cells #[.string sd,.slice lp ps.length lc,.slice rp gs.length rc,.slice xp xs.length xc,.slice yp ys.length yc] 66 (0,0)),Rw 39 1 rp gs.length rc (fl rowL gs),(Pool pl)]):Calls Tryz.prog 51 #[.pointer (some ⟨g,0,none⟩),.int .i64 me] w fun e w'=>∃ p' c',e=.returned (.slice p' (fairR sd ps.length (gs.map Rd.v) me).length c')∧S w' ([Rw 3 1 p' (fairR sd ps.length (gs.map Rd.v) me).length c' (fl intL (fairR sd ps.length (gs.map Rd.v) me)),Ob g (.cells #[.string sd,.slice lp ps.length lc,.slice rp gs.length rc,.slice xp xs.length xc,.slice yp ys.length yc] 66 (0,0)),Rw 39 1 rp gs.length rc (fl rowL gs),(Pool pl)]++[Old w (fps [Ob g (.cells #[.string sd,.slice lp ps.length lc,.slice rp gs.length rc,.slice xp xs.length xc,.slice yp ys.length yc] 66 (0,0)),Rw 39 1 rp gs.length rc (fl rowL gs),(Pool pl)])]):=by
 have H0:=HS.beginI
 have hs1:(sd++(⟨#[32]⟩:ByteArray)).size=sd.size+1:=by rw [ByteArray.size_append]; rfl
 refine enter 106 Tryz.func51 rfl rfl rfl ?_
 refine g_wk [(0,_),(1,_)] ?_
 refine w_s ?_
 refine w_k3 ?_
 have H1:S _ [_,_,_,_,_]:=H0.nilFl 111 10 rvL
 refine w_k6 ?_
 refine l_of (s_cl (others_r g sd lp lc ps rp rc gs xp xc xs yp yc ys hnp me _ (H1.tk [1])) ?_)
 rintro _ wq4 ⟨po2,co3,rfl,H5⟩
 replace H5:S _ [_,_,_,_,_,_]:=H1.abI (new:=[_,_]) [1] H5 rfl
 have hol:=othV_len ps.length me
 refine b_ret rfl rfl ?_
 refine w_k4 ?_
 refine g_loop (ι:=Nat × Option Addr × Nat × List Rv) (fun (i,pq,cq,rl)=>[(0,.pointer (some ⟨g,0,none⟩)),(1,.int .i64 me),(5,.slice pq rl.length cq),(13,.slice po2 ((othV ps.length me).length) co3),(14,.int .i64 (((othV ps.length me).length:Int))),(15,.int .i64 ((i:Int)))]) (fun (i,pq,cq,rl) wx=>(i≤(othV ps.length me).length)∧(rl=((othV ps.length me).take i).map (rvR (gs.map Rd.v) me))∧S wx [Rw 111 10 pq rl.length cq (fl rvL rl),Rw 3 1 po2 ((othV ps.length me).length) co3 (fl intL (othV ps.length me)),Ob g (.cells #[.string sd,.slice lp ps.length lc,.slice rp gs.length rc,.slice xp xs.length xc,.slice yp ys.length yc] 66 (0,0)),Rw 39 1 rp gs.length rc (fl rowL gs),(Pool pl),Old w (fps [Ob g (.cells #[.string sd,.slice lp ps.length lc,.slice rp gs.length rc,.slice xp xs.length xc,.slice yp ys.length yc] 66 (0,0)),Rw 39 1 rp gs.length rc (fl rowL gs),(Pool pl)])]) (fun (i,pq,cq,rl)=>((othV ps.length me).length) - i) (0,none,0,[]) ⟨rfl,rfl,rfl,rfl,rfl,rfl,trivial⟩ ⟨Nat.zero_le _,rfl,(H5.tk [2,0,1,3,4,5])⟩ ?_
 rintro ⟨i,pq,cq,rl⟩ wq6 ⟨hi,hrl,H7⟩
 refine g_wk [(0,_),(1,_),(5,_),(13,_),(14,_),(15,_)] ?_
 have hrll:rl.length≤i:=(by rw [hrl,List.length_map,List.length_take]; exact Nat.min_le_left _ _)
 refine w_k3 ?_
 refine g_seq ?_
 by_cases hb8:((i:Int):Int)<((othV ps.length me).length:Int)
 ·
  refine g_ct hb8 ?_
  refine w_k5 ?_
  refine w_v (x_i i (H7.rr 1)) ?_
  obtain ⟨x9,hx9⟩:=(H7.rr 1).exL intE i
  have hox9:=othV_at hx9
  refine w_v (x_r i (H7.rr 1) (intE.flAt1 hx9 rfl)) ?_
  refine w_k2 ?_
  refine g_seq ?_
  refine g_cut (ι:=Nat) (fun rb=>[(0,.pointer (some ⟨g,0,none⟩)),(1,.int .i64 me),(5,.slice pq rl.length cq),(7,.int .i64 x9),(8,.pointer (some ⟨rb,0,none⟩)),(13,.slice po2 ((othV ps.length me).length) co3),(14,.int .i64 (((othV ps.length me).length:Int))),(15,.int .i64 ((i:Int)))]) (fun rb wx=>S wx [Ob rb (.cells #[.int .i64 x9,.bool true,.bool false,.int .i64 ((lastV (gs.map Rd.v) x9 me)),.int .i64 ((lastV (gs.map Rd.v) me x9)),.int .i64 ((-1)),.int .i64 0,.bool ((decide ((3:Int)≤(gs.length:Int)))),.bool false,.bool false] 111 (0,0)),Rw 111 10 pq rl.length cq (fl rvL rl),Rw 3 1 po2 ((othV ps.length me).length) co3 (fl intL (othV ps.length me)),Ob g (.cells #[.string sd,.slice lp ps.length lc,.slice rp gs.length rc,.slice xp xs.length xc,.slice yp ys.length yc] 66 (0,0)),Rw 39 1 rp gs.length rc (fl rowL gs),(Pool pl),Old w (fps [Ob g (.cells #[.string sd,.slice lp ps.length lc,.slice rp gs.length rc,.slice xp xs.length xc,.slice yp ys.length yc] 66 (0,0)),Rw 39 1 rp gs.length rc (fl rowL gs),(Pool pl)])]) ?_ ?_
  ·
   refine g_anyY [] (fun wx=>S wx [Ob g (.cells #[.string sd,.slice lp ps.length lc,.slice rp gs.length rc,.slice xp xs.length xc,.slice yp ys.length yc] 66 (0,0))]) (fun wx=>S wx [Ob g (.cells #[.string sd,.slice lp ps.length lc,.slice rp gs.length rc,.slice xp xs.length xc,.slice yp ys.length yc] 66 (0,0))]) [] (by kernel_rfl) H7 (fun wq10 H11=>?_)
   refine y_p 0 rfl (fun _=>xm) ?_
   refine y_p 1 rfl (fun _=>xm) ?_
   refine y_p 2 rfl (fun _=>xm) ?_
   refine y_p 3 rfl (fun _=>xm) ?_
   refine y_p 5 rfl (fun _=>xm) ?_
   refine y_p 6 rfl (fun _=>xm) ?_
   refine y_p 7 rfl (fun _=>xm) ?_
   refine y_p 9 rfl (fun _=>xm) ?_
   refine y_p 10 rfl (fun _=>xn) ?_
   refine y_p 11 rfl (fun _=>xf 2) ?_
   refine y_t 12 rfl (H11.mask [false,false,true,false,false,false]) (fun _ H=>xl H 0) ?_
   refine y_p 13 rfl (fun _=>x_q) ?_
   refine y_p 14 rfl (fun _=>x_bin rfl rfl rfl b_geq) ?_
   refine y_two (i:=4) (j:=16) (by kernel_rfl) rfl rfl ?_ ?_
   ·
    refine s_cl (gave1_r g sd lp lc ps rp rc gs xp xc xs yp yc ys pl hG hgl hnp x9 me hox9.1 hme _ (H11.tk [2,3,4])) ?_
    rintro _ wq13 ⟨rfl,H14⟩
    replace H14:S _ [_,_,_,_,_,_]:=H11.abI (new:=[_,_,_]) [2,3,4] H14 rfl
    have hlbq12:=lastV_bd hG x9 me
    refine b_ret rfl rfl ?_
    have cm1:=H14.mask [true,false,false,false,false,false]
    refine y_k cm1 cm1 ?_
    refine y_two (i:=8) (j:=16) (by kernel_rfl) rfl rfl ?_ ?_
    ·
     refine s_cl (gave1_r g sd lp lc ps rp rc gs xp xc xs yp yc ys pl hG hgl hnp me x9 hme hox9.1 _ (H14.tk [0,1,2])) ?_
     rintro _ wq16 ⟨rfl,H17⟩
     replace H17:S _ [_,_,_,_,_,_]:=H14.abI (new:=[_,_,_]) [0,1,2] H17 rfl
     have hlbq15:=lastV_bd hG me x9
     refine b_ret rfl rfl ?_
     have cm2:=H17.mask [true,false,false,false,false,false]
     refine y_k cm2 cm2 ?_
     refine y_p (v:=.agg #[.int .i64 x9,.bool true,.bool false,.int .i64 ((lastV (gs.map Rd.v) x9 me)),.int .i64 ((lastV (gs.map Rd.v) me x9)),.int .i64 (-1),.int .i64 0,.bool (decide ((3:Int)≤(gs.length:Int))),.bool false,.bool false]) 15 rfl (fun _=>x_build (vs:=[.int .i64 x9,.bool true,.int .i64 ((lastV (gs.map Rd.v) x9 me)),.int .i64 ((lastV (gs.map Rd.v) me x9)),.int .i64 (-1),.bool (decide ((3:Int)≤(gs.length:Int)))]) rfl rfl (cells:=#[.int .i64 x9,.bool true,.bool false,.int .i64 ((lastV (gs.map Rd.v) x9 me)),.int .i64 ((lastV (gs.map Rd.v) me x9)),.int .i64 (-1),.int .i64 0,.bool (decide ((3:Int)≤(gs.length:Int))),.bool false,.bool false]) (by kernel_rfl)) ?_
     refine y_one (i:=16) (by kernel_rfl) rfl ?_
     refine s_alloc H17 (wt0 rfl) rfl rfl rfl ze111 ?_
     intro g18 wq19 H20
     have cm3:=H20.mask [false,true,false,false,false,false,false]
     refine y_k cm3 cm3 ?_
     refine y_one (i:=17) (by kernel_rfl) rfl ?_
     refine w_st #[.int .i64 x9,.bool true,.bool false,.int .i64 ((lastV (gs.map Rd.v) x9 me)),.int .i64 ((lastV (gs.map Rd.v) me x9)),.int .i64 (-1),.int .i64 0,.bool (decide ((3:Int)≤(gs.length:Int))),.bool false,.bool false] H20 0 ?_
     intro wq21 H22
     have cm4:=H22.mask [false,true,false,false,false,false,false]
     refine y_k cm4 cm4 ?_
     refine y_done (by kernel_rfl) ?_
     refine w_0 ?_
     refine g_mid (g18) ?_ ?_
     · exact ⟨rfl,rfl,rfl,rfl,rfl,rfl,rfl,rfl,trivial⟩
     · exact (H22.tk [0,4,5,1,2,3,6])
    ·
     refine s_alloc H14 (wt0 rfl) rfl rfl rfl ze111 ?_
     intro g23 wq24 H25
     have cm5:=H25.mask [false,true,false,false,false,false,false]
     refine y_k cm5 cm5 ?_
     refine y_one (i:=8) (by kernel_rfl) rfl ?_
     refine s_cl (gave1_r g sd lp lc ps rp rc gs xp xc xs yp yc ys pl hG hgl hnp me x9 hme hox9.1 _ (H25.tk [1,2,3])) ?_
     rintro _ wq27 ⟨rfl,H28⟩
     replace H28:S _ [_,_,_,_,_,_,_]:=H25.abI (new:=[_,_,_]) [1,2,3] H28 rfl
     have hlbq26:=lastV_bd hG me x9
     refine b_ret rfl rfl ?_
     have cm6:=H28.mask [true,false,false,false,false,false,false]
     refine y_k cm6 cm6 ?_
     refine y_p (v:=.agg #[.int .i64 x9,.bool true,.bool false,.int .i64 ((lastV (gs.map Rd.v) x9 me)),.int .i64 ((lastV (gs.map Rd.v) me x9)),.int .i64 (-1),.int .i64 0,.bool (decide ((3:Int)≤(gs.length:Int))),.bool false,.bool false]) 15 rfl (fun _=>x_build (vs:=[.int .i64 x9,.bool true,.int .i64 ((lastV (gs.map Rd.v) x9 me)),.int .i64 ((lastV (gs.map Rd.v) me x9)),.int .i64 (-1),.bool (decide ((3:Int)≤(gs.length:Int)))]) rfl rfl (cells:=#[.int .i64 x9,.bool true,.bool false,.int .i64 ((lastV (gs.map Rd.v) x9 me)),.int .i64 ((lastV (gs.map Rd.v) me x9)),.int .i64 (-1),.int .i64 0,.bool (decide ((3:Int)≤(gs.length:Int))),.bool false,.bool false]) (by kernel_rfl)) ?_
     refine y_one (i:=17) (by kernel_rfl) rfl ?_
     refine w_st #[.int .i64 x9,.bool true,.bool false,.int .i64 ((lastV (gs.map Rd.v) x9 me)),.int .i64 ((lastV (gs.map Rd.v) me x9)),.int .i64 (-1),.int .i64 0,.bool (decide ((3:Int)≤(gs.length:Int))),.bool false,.bool false] H28 3 ?_
     intro wq29 H30
     have cm7:=H30.mask [true,false,false,false,false,false,false]
     refine y_k cm7 cm7 ?_
     refine y_done (by kernel_rfl) ?_
     refine w_0 ?_
     refine g_mid (g23) ?_ ?_
     · exact ⟨rfl,rfl,rfl,rfl,rfl,rfl,rfl,rfl,trivial⟩
     · exact (H30.tk [3,4,5,0,1,2,6])
   ·
    refine s_alloc H11 (wt0 rfl) rfl rfl rfl ze111 ?_
    intro g31 wq32 H33
    have cm8:=H33.mask [false,false,false,true,false,false,false]
    refine y_k cm8 cm8 ?_
    refine y_one (i:=4) (by kernel_rfl) rfl ?_
    refine s_cl (gave1_r g sd lp lc ps rp rc gs xp xc xs yp yc ys pl hG hgl hnp x9 me hox9.1 hme _ (H33.tk [3,4,5])) ?_
    rintro _ wq35 ⟨rfl,H36⟩
    replace H36:S _ [_,_,_,_,_,_,_]:=H33.abI (new:=[_,_,_]) [3,4,5] H36 rfl
    have hlbq34:=lastV_bd hG x9 me
    refine b_ret rfl rfl ?_
    have cm9:=H36.mask [true,false,false,false,false,false,false]
    refine y_k cm9 cm9 ?_
    refine y_one (i:=8) (by kernel_rfl) rfl ?_
    refine s_cl (gave1_r g sd lp lc ps rp rc gs xp xc xs yp yc ys pl hG hgl hnp me x9 hme hox9.1 _ (H36.tk [0,1,2])) ?_
    rintro _ wq38 ⟨rfl,H39⟩
    replace H39:S _ [_,_,_,_,_,_,_]:=H36.abI (new:=[_,_,_]) [0,1,2] H39 rfl
    have hlbq37:=lastV_bd hG me x9
    refine b_ret rfl rfl ?_
    have cm10:=H39.mask [true,false,false,false,false,false,false]
    refine y_k cm10 cm10 ?_
    refine y_p (v:=.agg #[.int .i64 x9,.bool true,.bool false,.int .i64 ((lastV (gs.map Rd.v) x9 me)),.int .i64 ((lastV (gs.map Rd.v) me x9)),.int .i64 (-1),.int .i64 0,.bool (decide ((3:Int)≤(gs.length:Int))),.bool false,.bool false]) 15 rfl (fun _=>x_build (vs:=[.int .i64 x9,.bool true,.int .i64 ((lastV (gs.map Rd.v) x9 me)),.int .i64 ((lastV (gs.map Rd.v) me x9)),.int .i64 (-1),.bool (decide ((3:Int)≤(gs.length:Int)))]) rfl rfl (cells:=#[.int .i64 x9,.bool true,.bool false,.int .i64 ((lastV (gs.map Rd.v) x9 me)),.int .i64 ((lastV (gs.map Rd.v) me x9)),.int .i64 (-1),.int .i64 0,.bool (decide ((3:Int)≤(gs.length:Int))),.bool false,.bool false]) (by kernel_rfl)) ?_
    refine y_one (i:=17) (by kernel_rfl) rfl ?_
    refine w_st #[.int .i64 x9,.bool true,.bool false,.int .i64 ((lastV (gs.map Rd.v) x9 me)),.int .i64 ((lastV (gs.map Rd.v) me x9)),.int .i64 (-1),.int .i64 0,.bool (decide ((3:Int)≤(gs.length:Int))),.bool false,.bool false] H39 3 ?_
    intro wq40 H41
    have cm11:=H41.mask [true,false,false,false,false,false,false]
    refine y_k cm11 cm11 ?_
    refine y_done (by kernel_rfl) ?_
    refine w_0 ?_
    refine g_mid (g31) ?_ ?_
    · exact ⟨rfl,rfl,rfl,rfl,rfl,rfl,rfl,rfl,trivial⟩
    · exact (H41.tk [3,4,5,0,1,2,6])
  rintro rb wq42 H43
  refine g_wk [(0,_),(1,_),(5,_),(7,_),(8,_),(13,_),(14,_),(15,_)] ?_
  refine w_s ?_
  refine w_k4 ?_
  refine l_of (w_st #[.int .i64 x9,.bool true,.bool (decide (((lastV (gs.map Rd.v) x9 me):Int)=0)),.int .i64 ((lastV (gs.map Rd.v) x9 me)),.int .i64 ((lastV (gs.map Rd.v) me x9)),.int .i64 ((-1)),.int .i64 0,.bool ((decide ((3:Int)≤(gs.length:Int)))),.bool false,.bool false] H43 0 ?_)
  intro wq44 H45
  refine w_k11 ?_
  refine g_loop (ι:=Nat × Int) (fun (j,lt)=>[(0,.pointer (some ⟨g,0,none⟩)),(1,.int .i64 me),(5,.slice pq rl.length cq),(7,.int .i64 x9),(8,.pointer (some ⟨rb,0,none⟩)),(13,.slice po2 ((othV ps.length me).length) co3),(14,.int .i64 (((othV ps.length me).length:Int))),(15,.int .i64 ((i:Int))),(43,.int .i64 ((gs.length:Int))),(44,.int .i64 ((j:Int)))]) (fun (j,lt) wx=>(j≤gs.length)∧(lt=letR ((gs.take j).map Rd.v) me x9)∧S wx [Ob rb (.cells #[.int .i64 x9,.bool true,.bool (decide ((lastV (gs.map Rd.v) x9 me)=0)),.int .i64 ((lastV (gs.map Rd.v) x9 me)),.int .i64 ((lastV (gs.map Rd.v) me x9)),.int .i64 lt,.int .i64 0,.bool ((decide ((3:Int)≤(gs.length:Int)))),.bool false,.bool false] 111 (0,0)),Rw 111 10 pq rl.length cq (fl rvL rl),Rw 3 1 po2 ((othV ps.length me).length) co3 (fl intL (othV ps.length me)),Ob g (.cells #[.string sd,.slice lp ps.length lc,.slice rp gs.length rc,.slice xp xs.length xc,.slice yp ys.length yc] 66 (0,0)),Rw 39 1 rp gs.length rc (fl rowL gs),(Pool pl),Old w (fps [Ob g (.cells #[.string sd,.slice lp ps.length lc,.slice rp gs.length rc,.slice xp xs.length xc,.slice yp ys.length yc] 66 (0,0)),Rw 39 1 rp gs.length rc (fl rowL gs),(Pool pl)])]) (fun (j,lt)=>gs.length - j) (0,(-1)) ⟨rfl,rfl,rfl,rfl,rfl,rfl,rfl,rfl,rfl,rfl,trivial⟩ ⟨Nat.zero_le _,(let_nil gs me x9),(H45.tk [0,1,2,3,4,5,6])⟩ ?_
  rintro ⟨j,lt⟩ wq46 ⟨hj,hlt,H47⟩
  refine g_wk [(0,_),(1,_),(5,_),(7,_),(8,_),(13,_),(14,_),(15,_),(43,_),(44,_)] ?_
  refine w_s ?_
  refine w_k2 ?_
  refine g_seq ?_
  by_cases hb48:((j:Int):Int)<(gs.length:Int)
  ·
   refine g_ct hb48 ?_
   refine w_k14 ?_
   refine w_v (x_i j (H47.rr 4)) ?_
   obtain ⟨x49,hx49⟩:=(H47.rr 4).exL rowE j
   have hlr9:=(hG.ok x49 (List.mem_of_getElem? hx49)).lenR
   have hox49:=hG.ok x49 (List.mem_of_getElem? hx49)
   refine w_v (x_r j (H47.rr 4) (rowE.flAt1 hx49 rfl)) ?_
   refine w_m ?_
   refine w_v (x_i ((me).toNat) (H47.poolRd (k:=5) rfl (hG.mem x49 (List.mem_of_getElem? hx49)))) ?_
   obtain ⟨x50,hx50⟩:=(H47.poolRd (k:=5) rfl (hG.mem x49 (List.mem_of_getElem? hx49))).exL rowE ((me).toNat)
   have hlx50:=(hG.ok x49 (List.mem_of_getElem? hx49)).row_at hx50
   refine w_v (x_r ((me).toNat) (H47.poolRd (k:=5) rfl (hG.mem x49 (List.mem_of_getElem? hx49))) (rowE.flAt1 hx50 rfl)) ?_
   refine w_m ?_
   refine w_v (x_i ((x9).toNat) (H47.poolRow (k:=5) rfl (hG.mem x49 (List.mem_of_getElem? hx49)) hx50)) ?_
   obtain ⟨x51,hx51⟩:=(H47.poolRow (k:=5) rfl (hG.mem x49 (List.mem_of_getElem? hx49)) hx50).exL intE ((x9).toNat)
   refine w_v (x_r ((x9).toNat) (H47.poolRow (k:=5) rfl (hG.mem x49 (List.mem_of_getElem? hx49)) hx50) (intE.flAt1 hx51 rfl)) ?_
   refine w_k2 ?_
   by_cases hb52:(0:Int)<x51
   ·
    refine g_ct hb52 ?_
    refine w_k2 ?_
    refine l_of (w_st #[.int .i64 x9,.bool true,.bool (decide ((lastV (gs.map Rd.v) x9 me)=0)),.int .i64 ((lastV (gs.map Rd.v) x9 me)),.int .i64 ((lastV (gs.map Rd.v) me x9)),.int .i64 0,.int .i64 0,.bool ((decide ((3:Int)≤(gs.length:Int)))),.bool false,.bool false] H47 0 ?_)
    intro wq53 H54
    refine w_k4 ?_
    refine w_i j ?_
    refine w_k2 ?_
    refine g_rd (i:=(j,lt)) ((j+1),0) ⟨by omega,(let_go hlt hx49 (by rw [at2_is hx50 hx51]; exact hb52)),(H54.tk [0,1,2,3,4,5,6])⟩
   ·
    refine g_cf hb52 ?_
    refine w_k4 ?_
    refine w_i j ?_
    refine w_k2 ?_
    refine g_rd (i:=(j,lt)) ((j+1),lt) ⟨by omega,(let_stay hlt hx49 (by rw [at2_is hx50 hx51]; exact hb52)),(H47.tk [0,1,2,3,4,5,6])⟩
  ·
   refine g_cf hb48 ?_
   refine w_k10 ?_
   rw [List.take_of_length_le (by omega)] at hlt
   refine g_loop (ι:=Nat × Bool) (fun (k,sb)=>[(0,.pointer (some ⟨g,0,none⟩)),(1,.int .i64 me),(5,.slice pq rl.length cq),(7,.int .i64 x9),(8,.pointer (some ⟨rb,0,none⟩)),(10,.int .i64 ((k:Int))),(13,.slice po2 ((othV ps.length me).length) co3),(14,.int .i64 (((othV ps.length me).length:Int))),(15,.int .i64 ((i:Int)))]) (fun (k,sb) wx=>(1≤k∧k≤4)∧(sb=snbK (gs.map Rd.v) me x9 (k - 1))∧S wx [Ob rb (.cells #[.int .i64 x9,.bool true,.bool (decide ((lastV (gs.map Rd.v) x9 me)=0)),.int .i64 ((lastV (gs.map Rd.v) x9 me)),.int .i64 ((lastV (gs.map Rd.v) me x9)),.int .i64 lt,.int .i64 0,.bool sb,.bool false,.bool false] 111 (0,0)),Rw 111 10 pq rl.length cq (fl rvL rl),Rw 3 1 po2 ((othV ps.length me).length) co3 (fl intL (othV ps.length me)),Ob g (.cells #[.string sd,.slice lp ps.length lc,.slice rp gs.length rc,.slice xp xs.length xc,.slice yp ys.length yc] 66 (0,0)),Rw 39 1 rp gs.length rc (fl rowL gs),(Pool pl),Old w (fps [Ob g (.cells #[.string sd,.slice lp ps.length lc,.slice rp gs.length rc,.slice xp xs.length xc,.slice yp ys.length yc] 66 (0,0)),Rw 39 1 rp gs.length rc (fl rowL gs),(Pool pl)])]) (fun (k,sb)=>4 - k) (1,(decide ((3:Int)≤(gs.length:Int)))) ⟨rfl,rfl,rfl,rfl,rfl,rfl,rfl,rfl,rfl,trivial⟩ ⟨(by omega),(by show _=decide (3≤(gs.map Rd.v).length); rw [List.length_map]; exact decide_eq_decide.2 (by omega)),(H47.tk [0,1,2,3,4,5,6])⟩ ?_
   rintro ⟨k,sb⟩ wq55 ⟨hk,hsb,H56⟩
   refine g_wk [(0,_),(1,_),(5,_),(7,_),(8,_),(10,_),(13,_),(14,_),(15,_)] ?_
   refine g_seq ?_
   refine w_k4 ?_
   by_cases hb57:((k:Int):Int)≤3
   ·
    refine g_ct hb57 ?_
    refine w_k8 ?_
    rcases Bool.eq_false_or_eq_true (sb) with hb58 | hb58
    ·
     iterate 4 refine w_g hb58 xm ?_
     refine l_of (s_call (wt1 rfl rfl rfl rfl hb58) (x_call' rfl rfl cl55) (gave_r g sd lp lc ps rp rc gs xp xc xs yp yc ys pl hG hgl hnp x9 me hox9.1 hme (k:Int) ⟨by omega,by omega⟩ _ (H56.tk [3,4,5])) ?_)
     rintro _ wq60 ⟨rfl,H61⟩
     replace H61:S _ [_,_,_,_,_,_,_]:=H56.abI (new:=[_,_,_]) [3,4,5] H61 rfl
     have hgbq59:=gvK_bd hG x9 me (k:Int)
     refine b_ret rfl rfl ?_
     refine w_g hb58 (x_bin rfl rfl rfl b_eql) ?_
     refine w_v (x_pick_t rfl rfl hb58 rfl) ?_
     refine w_m ?_
     by_cases hb62:((gvK (gs.map Rd.v) x9 me (k:Int)):Int)=0
     ·
      iterate 4 refine w_g (decide_eq_true hb62) xm ?_
      refine l_of (s_call (wt1 rfl rfl rfl rfl (decide_eq_true hb62)) (x_call' rfl rfl cl55) (gave_r g sd lp lc ps rp rc gs xp xc xs yp yc ys pl hG hgl hnp me x9 hme hox9.1 (k:Int) ⟨by omega,by omega⟩ _ (H61.tk [0,1,2])) ?_)
      rintro _ wq64 ⟨rfl,H65⟩
      replace H65:S _ [_,_,_,_,_,_,_]:=H61.abI (new:=[_,_,_]) [0,1,2] H65 rfl
      have hgbq63:=gvK_bd hG me x9 (k:Int)
      refine b_ret rfl rfl ?_
      refine w_g (decide_eq_true hb62) (x_bin rfl rfl rfl b_gtr) ?_
      refine w_v (x_pick_t rfl rfl (decide_eq_true hb62) rfl) ?_
      refine w_0 ?_
      refine l_of (w_st #[.int .i64 x9,.bool true,.bool (decide ((lastV (gs.map Rd.v) x9 me)=0)),.int .i64 ((lastV (gs.map Rd.v) x9 me)),.int .i64 ((lastV (gs.map Rd.v) me x9)),.int .i64 lt,.int .i64 0,.bool (decide ((0:Int)<(gvK (gs.map Rd.v) me x9 (k:Int)))),.bool false,.bool false] H65 3 ?_)
      intro wq66 H67
      refine w_k5 ?_
      refine w_i k ?_
      refine w_k2 ?_
      refine g_rd (i:=(k,sb)) ((k+1),(decide ((0:Int)<(gvK (gs.map Rd.v) me x9 (k:Int))))) ⟨(by omega),(by obtain ⟨k9,rfl⟩:∃ q,k=q+1:=⟨k - 1,by omega⟩; show _=(snbK (gs.map Rd.v) me x9 k9 && _); have hsb9:sb=snbK (gs.map Rd.v) me x9 k9:=hsb; rw [← hsb9]; simp_all),(H67.tk [3,4,5,0,1,2,6])⟩
     ·
      iterate 6 refine w_n (decide_eq_false hb62) ?_
      refine w_v (x_pick_f rfl rfl (decide_eq_false hb62) rfl) ?_
      refine w_0 ?_
      refine l_of (w_st #[.int .i64 x9,.bool true,.bool (decide ((lastV (gs.map Rd.v) x9 me)=0)),.int .i64 ((lastV (gs.map Rd.v) x9 me)),.int .i64 ((lastV (gs.map Rd.v) me x9)),.int .i64 lt,.int .i64 0,.bool false,.bool false,.bool false] H61 3 ?_)
      intro wq68 H69
      refine w_k5 ?_
      refine w_i k ?_
      refine w_k2 ?_
      refine g_rd (i:=(k,sb)) ((k+1),false) ⟨(by omega),(by obtain ⟨k9,rfl⟩:∃ q,k=q+1:=⟨k - 1,by omega⟩; show _=(snbK (gs.map Rd.v) me x9 k9 && _); have hsb9:sb=snbK (gs.map Rd.v) me x9 k9:=hsb; rw [← hsb9]; simp_all),(H69.tk [3,4,5,0,1,2,6])⟩
    ·
     iterate 6 refine w_n hb58 ?_
     refine w_v (x_pick_f rfl rfl hb58 rfl) ?_
     refine w_m ?_
     iterate 6 refine w_n rfl ?_
     refine w_v (x_pick_f rfl rfl rfl rfl) ?_
     refine w_0 ?_
     refine l_of (w_st #[.int .i64 x9,.bool true,.bool (decide ((lastV (gs.map Rd.v) x9 me)=0)),.int .i64 ((lastV (gs.map Rd.v) x9 me)),.int .i64 ((lastV (gs.map Rd.v) me x9)),.int .i64 lt,.int .i64 0,.bool false,.bool false,.bool false] H56 0 ?_)
     intro wq70 H71
     refine w_k5 ?_
     refine w_i k ?_
     refine w_k2 ?_
     refine g_rd (i:=(k,sb)) ((k+1),false) ⟨(by omega),(by obtain ⟨k9,rfl⟩:∃ q,k=q+1:=⟨k - 1,by omega⟩; show _=(snbK (gs.map Rd.v) me x9 k9 && _); have hsb9:sb=snbK (gs.map Rd.v) me x9 k9:=hsb; rw [← hsb9]; simp_all),(H71.tk [0,1,2,3,4,5,6])⟩
   ·
    refine g_cf hb57 ?_
    refine w_k7 ?_
    refine w_v (v:=.agg #[.int .i64 x9,.bool true,.bool (decide ((lastV (gs.map Rd.v) x9 me)=0)),.int .i64 ((lastV (gs.map Rd.v) x9 me)),.int .i64 ((lastV (gs.map Rd.v) me x9)),.int .i64 lt,.int .i64 0,.bool sb,.bool false,.bool false]) (x_loadA H56 0 rfl rfl Tryz.underlying111 rfl sz111 rfl rfl rfl) ?_
    refine l_of (s_b1 ze111 #[.int .i64 x9,.bool true,.bool (decide ((lastV (gs.map Rd.v) x9 me)=0)),.int .i64 ((lastV (gs.map Rd.v) x9 me)),.int .i64 ((lastV (gs.map Rd.v) me x9)),.int .i64 lt,.int .i64 0,.bool sb,.bool false,.bool false] H56 ?_)
    intro g72 wq73 H74
    have hln79a:=(H74.rr 2).lenL rvE
    have hln79:(rl++[(⟨x9,true,decide ((lastV (gs.map Rd.v) x9 me)=0),(lastV (gs.map Rd.v) x9 me),(lastV (gs.map Rd.v) me x9),lt,0,sb,false,false⟩:Rv)]).length=rl.length+1:=by simp only [List.length_append,List.length_cons,List.length_nil] <;> omega
    refine l_of (s_appBn (m:=1) (l:=rl) (l2:=[(⟨x9,true,decide ((lastV (gs.map Rd.v) x9 me)=0),(lastV (gs.map Rd.v) x9 me),(lastV (gs.map Rd.v) me x9),lt,0,sb,false,false⟩:Rv)]) rvE H74 2 (j0:=0) rfl rfl ⟨rfl,Nat.le_refl _⟩ (wt0 rfl) rfl rfl rfl rfl rfl rfl Tryz.underlying109 inf111 rfl (by decide) (by omega) ?_)
    intro p75 c76 wq77 H78
    refine w_k5 ?_
    refine w_i i ?_
    refine w_k2 ?_
    have hk4:k=4:=by omega
    rw [hk4] at hsb
    have hltE:lt=letR (gs.map Rd.v) me x9:=hlt
    have hsbE:sb=snbK (gs.map Rd.v) me x9 3:=hsb
    refine g_rd (i:=(i,pq,cq,rl)) ((i+1),p75,c76,(rl++[(⟨x9,true,decide ((lastV (gs.map Rd.v) x9 me)=0),(lastV (gs.map Rd.v) x9 me),(lastV (gs.map Rd.v) me x9),lt,0,sb,false,false⟩:Rv)])) ⟨by omega,(by rw [take_snocT hx9,List.map_append,← hrl]; show _=rl++[(rvR (gs.map Rd.v) me) x9]; unfold rvR; rw [← hltE,← hsbE]),(H78.tk [2,3,4,5,6,7])⟩
 ·
  refine g_cf hb8 ?_
  refine w_k5 ?_
  refine g_seq ?_
  refine g_anyY [] (fun wx=>S wx [Ob g (.cells #[.string sd,.slice lp ps.length lc,.slice rp gs.length rc,.slice xp xs.length xc,.slice yp ys.length yc] 66 (0,0))]) (fun wx=>S wx [Ob g (.cells #[.string sd,.slice lp ps.length lc,.slice rp gs.length rc,.slice xp xs.length xc,.slice yp ys.length yc] 66 (0,0))]) [] (by kernel_rfl) H7 (fun wq80 H81=>?_)
  refine y_p 0 rfl (fun _=>xm) ?_
  refine y_p 1 rfl (fun _=>xn) ?_
  refine y_p 2 rfl (fun _=>xf 2) ?_
  have cm12:=H81.mask [false,false,true,false,false,false]
  refine y_t 3 rfl cm12 (fun _ H=>xl H 0) ?_
  refine y_p 4 rfl (fun _=>x_q) ?_
  refine y_p 5 rfl (fun _=>xm) ?_
  refine y_p 6 rfl (fun _=>xn) ?_
  refine y_p 7 rfl (fun _=>xf 0) ?_
  refine y_t 8 rfl cm12 (fun _ H=>xl H 0) ?_
  have hsz82:(sd++(⟨#[32]⟩:ByteArray)).size=sd.size+(⟨#[32]⟩:ByteArray).size:=ByteArray.size_append
  refine y_p (v:=.string (sd++(⟨#[32]⟩:ByteArray))) 9 rfl (fun _=>x_bin rfl rfl rfl (b_cat (by omega))) ?_
  refine y_p 10 rfl (fun _=>xm) ?_
  refine y_p 13 rfl (fun _=>xm) ?_
  refine y_one (i:=11) (by kernel_rfl) rfl ?_
  refine s_cl (itoa_s me (by omega) (by omega) _ trivial) ?_
  rintro _ wq83 ⟨rfl,H84⟩
  replace H84:=H81.ab0 H84
  have hits:=itS_size (n:=me) (by omega) (by omega)
  have hs2:((sd++(⟨#[32]⟩:ByteArray))++itS me).size=sd.size+1+(itS me).size:=by rw [ByteArray.size_append,hs1]
  refine b_ret rfl rfl ?_
  have cm13:=H84.mask [false,false,true,false,false,false]
  refine y_k cm13 cm13 ?_
  have hsz85:((sd++(⟨#[32]⟩:ByteArray))++(itS me)).size=(sd++(⟨#[32]⟩:ByteArray)).size+(itS me).size:=ByteArray.size_append
  refine y_p (v:=.string ((sd++(⟨#[32]⟩:ByteArray))++(itS me))) 12 rfl (fun _=>x_bin rfl rfl rfl (b_cat (by omega))) ?_
  refine y_one (i:=14) (by kernel_rfl) rfl ?_
  have hrv9:rl=(othV ps.length me).map (rvR (gs.map Rd.v) me):=by rw [hrl,List.take_of_length_le (by omega)]
  refine s_cl (let1_r (gs.length:Int) 4 ((sd++(⟨#[32]⟩:ByteArray))++(itS me)) (by omega) (by omega) (by omega) rl pq rl.length cq (by omega) (fun x hx=>by rw [hrv9] at hx; obtain ⟨i9,hi9,rfl⟩:=List.mem_map.1 hx; exact rvR_valid hG hnp (othV_mem.1 hi9).1) _ (H84.rr 0) trivial) ?_
  rintro _ wq88 ⟨pd86,cd87,rfl,H89⟩
  replace H89:S _ [_,_,_,_,_,_,_]:=H84.ab (new:=[_]) H89 rfl
  refine b_ret rfl rfl ?_
  have cm14:=H89.mask [false,false,false,true,false,false,false]
  refine y_k cm14 cm14 ?_
  refine y_p 15 rfl (fun _=>xa) ?_
  refine y_done (by kernel_rfl) ?_
  refine w_k2 ?_
  refine fin_r [.tmp 4] [.slice pd86 ((sortI ((let1 (gs.length:Int) 4 ((sd++(⟨#[32]⟩:ByteArray))++(itS me)) rl).map Rv.id)).length) cd87] ?_
  have hv:(fairR sd ps.length (gs.map Rd.v) me)=(sortI ((let1 (gs.length:Int) 4 ((sd++(⟨#[32]⟩:ByteArray))++(itS me)) rl).map Rv.id)):=by unfold fairR; rw [hrv9,List.length_map]
  rw [hv]
  exact ⟨_,_,rfl,H89.tk [0,3,4,5,6]⟩
end Go.Proofs.YtpbjekdjebjbkaaGreatDoor
