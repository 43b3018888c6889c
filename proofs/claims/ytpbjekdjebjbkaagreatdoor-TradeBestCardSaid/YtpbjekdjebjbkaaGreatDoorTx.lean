import Derived.Test.YtpbjekdjebjbkaaGreatDoorFm
import Derived.Test.YtpbjekdjebjbkaaGreatDoorTt
set_option maxRecDepth 20000
set_option maxHeartbeats 4000000
set_option linter.unusedSimpArgs false
set_option linter.unusedVariables false
namespace Go.Proofs.YtpbjekdjebjbkaaGreatDoor
open Go.RowKit
theorem cl29:callable Tryz.prog 29=true:=by kernel_rfl
def askN (n:Nat) (l:List Int):Int:=if ∀ x∈l,0≤x∧x<(n:Int) then 0 else 7
theorem askN_0 {n:Nat} {l:List Int}:askN n l=0 ↔ ∀ x∈l,0≤x∧x<(n:Int):=by
 unfold askN
 split
 · exact ⟨fun _=>by assumption,fun _=>rfl⟩
 · exact ⟨fun h=>absurd h (by decide),fun h=>absurd h (by assumption)⟩
theorem askN_7 {n:Nat} {l:List Int} {x:Int} (hx:x∈l) (h:¬ (0≤x∧x<(n:Int))):askN n l=7:=if_neg fun h9=>h (h9 x hx)
section
variable (g:Nat) (gp:Option Addr) (gc gn:Nat) (seed:ByteArray) (pp:Option Addr) (pc:Nat) (ps:List Pl) (sp:Option Addr) (sc sn:Nat) (tp:Option Addr) (tc tn:Nat) (vp:Option Addr) (vc vn:Nat) (bp:Option Addr) (bc bn:Nat)
abbrev DTu0:=Ob g (.cells #[.slice gp gn gc,.string seed,.slice pp ps.length pc,.slice sp sn sc,.slice tp tn tc,.slice vp vn vc,.slice bp bn bc] 61 (0,0))
theorem asked_s (l:List Int) (q:Option Addr) (d:Nat) (hl:l.length≤100) (hnp:ps.length≤40)  (w:World) (HS:S w [Rw 3 1 q l.length d (fl intL l),DTu0 g gp gc gn seed pp pc ps sp sc sn tp tc tn vp vc vn bp bc bn]):Calls Tryz.prog 29 #[.pointer (some ⟨g,0,none⟩),.slice q l.length d] w fun e w'=>e=.returned (.int .i64 (askN ps.length l))∧S w' ([Rw 3 1 q l.length d (fl intL l),DTu0 g gp gc gn seed pp pc ps sp sc sn tp tc tn vp vc vn bp bc bn]++[Old w (fps [Rw 3 1 q l.length d (fl intL l),DTu0 g gp gc gn seed pp pc ps sp sc sn tp tc tn vp vc vn bp bc bn])]):=by
 have H0:=HS.beginI
 refine enter 27 Tryz.func29 rfl rfl rfl ?_
 refine g_wk [(0,_),(1,_)] ?_
 refine w_s ?_
 refine w_k5 ?_
 refine w_b (v:=.bool false) (hb:=(b_eqN (r:=false) Tryz.underlying29 rfl)) ?_
 refine w_e ?_
 refine g_cond_f rfl rfl ?_
 refine w_k9 ?_
 refine g_loop (ι:=Nat) (fun i=>[(0,.pointer (some ⟨g,0,none⟩)),(9,.slice q l.length d),(10,.int .i64 ((l.length:Int))),(11,.int .i64 ((i:Int)))]) (fun i wx=>(i≤l.length)∧(∀ x∈l.take i,0≤x∧x<(ps.length:Int))∧S wx [Rw 3 1 q l.length d (fl intL l),DTu0 g gp gc gn seed pp pc ps sp sc sn tp tc tn vp vc vn bp bc bn,Old w (fps [Rw 3 1 q l.length d (fl intL l),DTu0 g gp gc gn seed pp pc ps sp sc sn tp tc tn vp vc vn bp bc bn])]) (fun i=>l.length - i) (0) ⟨rfl,rfl,rfl,rfl,trivial⟩ ⟨Nat.zero_le _,(fun x hx=>by simp at hx),(H0.tk [0,1,2])⟩ ?_
 rintro i wq1 ⟨hi,hall,H2⟩
 refine g_wk [(0,_),(9,_),(10,_),(11,_)] ?_
 refine w_s ?_
 refine w_k2 ?_
 refine g_seq ?_
 by_cases hb3:((i:Int):Int)<(l.length:Int)
 ·
  refine g_ct hb3 ?_
  refine w_k5 ?_
  refine w_v (x_i i (H2.rr 0)) ?_
  obtain ⟨x4,hx4⟩:=(H2.rr 0).exL intE i
  refine w_v (x_r i (H2.rr 0) (intE.flAt1 hx4 rfl)) ?_
  refine w_k6 ?_
  by_cases hb5:(x4:Int)<0
  ·
   iterate 7 refine w_n (decide_eq_true hb5) ?_
   refine w_v (x_pick_t rfl rfl (decide_eq_true hb5) rfl) ?_
   refine w_e ?_
   refine g_cond_t rfl rfl ?_
   refine w_k9 ?_
   refine fin_r [.tmp 4] [.int .i64 7] ?_
   rw [askN_7 (n:=ps.length) (List.mem_of_getElem? hx4) (by omega)]
   exact ⟨rfl,(H2.tk [0,1,2])⟩
  ·
   iterate 2 refine w_g (decide_eq_false hb5) xm ?_
   refine w_g (decide_eq_false hb5) xn ?_
   refine w_g (decide_eq_false hb5) (xf 2) ?_
   refine w_g (decide_eq_false hb5) (xl H2 1) ?_
   refine w_g (decide_eq_false hb5) x_q ?_
   refine w_g (decide_eq_false hb5) (x_bin rfl rfl rfl b_geq) ?_
   refine w_v (x_pick_f rfl rfl (decide_eq_false hb5) rfl) ?_
   refine w_e ?_
   by_cases hb6:((ps.length:Int):Int)≤x4
   ·
    refine g_ct hb6 ?_
    refine w_k9 ?_
    refine fin_r [.tmp 4] [.int .i64 7] ?_
    rw [askN_7 (n:=ps.length) (List.mem_of_getElem? hx4) (by omega)]
    exact ⟨rfl,(H2.tk [0,1,2])⟩
   ·
    refine g_cf hb6 ?_
    refine w_k4 ?_
    refine w_i i ?_
    refine w_k2 ?_
    refine g_rd (i:=(i)) ((i+1)) ⟨by omega,(no_takeP hall hx4 (by omega)),(H2.tk [0,1,2])⟩
 ·
  refine g_cf hb3 ?_
  refine w_k9 ?_
  refine fin_r [.tmp 4] [.int .i64 0] ?_
  rw [List.take_of_length_le (by omega)] at hall
  rw [askN_0.2 hall]
  exact ⟨rfl,(H2.tk [0,1,2])⟩
theorem got_s (g:Nat) (gp:Option Addr) (gc gn:Nat) (seed:ByteArray) (pp:Option Addr) (pc:Nat) (ps:List Pl) (sp:Option Addr) (sc sn:Nat) (tp:Option Addr) (tc tn:Nat) (vp:Option Addr) (vc vn:Nat) (bp:Option Addr) (bc bn:Nat) (got:List Int) (hgt:got.length=ps.length) (i:Int) (hnp:ps.length≤40)  (w:World) (HS:S w [Ob g (.cells #[.slice gp gn gc,.string seed,.slice pp ps.length pc,.slice sp sn sc,.slice tp got.length tc,.slice vp vn vc,.slice bp bn bc] 61 (0,0)),Rw 3 1 tp got.length tc (fl intL got)]):Calls Tryz.prog 23 #[.pointer (some ⟨g,0,none⟩),.int .i64 i] w fun e w'=>e=.returned (.tuple #[.int .i64 (if askN ps.length [i]=0 then got.getD i.toNat 0 else 0),.int .i64 (askN ps.length [i])])∧S w' ([Ob g (.cells #[.slice gp gn gc,.string seed,.slice pp ps.length pc,.slice sp sn sc,.slice tp got.length tc,.slice vp vn vc,.slice bp bn bc] 61 (0,0)),Rw 3 1 tp got.length tc (fl intL got)]++[Old w (fps [Ob g (.cells #[.slice gp gn gc,.string seed,.slice pp ps.length pc,.slice sp sn sc,.slice tp got.length tc,.slice vp vn vc,.slice bp bn bc] 61 (0,0)),Rw 3 1 tp got.length tc (fl intL got)])]):=by
 have H0:=HS.beginI
 refine enter 21 Tryz.func23 rfl rfl rfl ?_
 refine g_wk [(0,_),(1,_)] ?_
 refine w_s ?_
 refine w_k7 ?_
 refine l_of (s_b1 ze3 #[.int .i64 i] H0 ?_)
 intro g1 wq2 H3
 have H4:S wq2 [Rw 3 1 (some ⟨g1,0,none⟩) 1 1 (fl intL ([i])),Ob g (.cells #[.slice gp gn gc,.string seed,.slice pp ps.length pc,.slice sp sn sc,.slice tp got.length tc,.slice vp vn vc,.slice bp bn bc] 61 (0,0)),Rw 3 1 tp got.length tc (fl intL got),Old w (fps [Ob g (.cells #[.slice gp gn gc,.string seed,.slice pp ps.length pc,.slice sp sn sc,.slice tp got.length tc,.slice vp vn vc,.slice bp bn bc] 61 (0,0)),Rw 3 1 tp got.length tc (fl intL got)])]:=S.obFl intE H3 (k:=0) rfl rfl (by decide) rfl
 refine l_of (s_cl (asked_s g gp gc gn seed pp pc ps sp sc sn tp tc got.length vp vc vn bp bc bn [i] (some ⟨g1,0,none⟩) 1 (by simp) hnp _ (H4.tk [0,1])) ?_)
 rintro _ wq5 ⟨rfl,H6⟩
 replace H6:S _ [_,_,_,_]:=H4.abI (new:=[_,_]) [0,1] H6 rfl
 refine b_ret rfl rfl ?_
 refine w_k4 ?_
 refine w_b (v:=.bool (!decide (((askN ps.length [i]):Int)=0))) (hb:=b_neq) ?_
 refine w_e ?_
 by_cases hb7:((askN ps.length [i]):Int)=0
 ·
  have hq0:askN ps.length [i]=0:=by omega
  have hqa:=askN_0.1 hq0
  have hii:=hqa i (by simp)
  refine g_nf hb7 ?_
  refine w_k8 ?_
  refine w_v (x_i ((i).toNat) (H6.rr 2)) ?_
  obtain ⟨x8,hx8⟩:=(H6.rr 2).exL intE ((i).toNat)
  refine w_v (x_r ((i).toNat) (H6.rr 2) (intE.flAt1 hx8 rfl)) ?_
  refine w_k4 ?_
  refine fin_r [.tmp 4,.tmp 5] [.int .i64 x8,.int .i64 0] ?_
  rw [if_pos hq0,hq0]
  rw [getD_atT hx8]
  exact ⟨rfl,H6.tk [1,2,3]⟩
 ·
  refine g_nt hb7 ?_
  refine w_k7 ?_
  refine fin_r [.tmp 4,.tmp 5] [.int .i64 0,.int .i64 ((askN ps.length [i]))] ?_
  rw [if_neg (show ¬ askN ps.length [i]=0 by omega)]
  exact ⟨rfl,H6.tk [1,2,3]⟩
end
section
variable {w:World} {X:GM} {g0:Nat}
theorem GOK.lens (h:GOK X.A):X.ss.length=X.ps.length∧X.bs.length=X.ps.length∧X.got.length=X.ps.length∧X.gave.length=X.ps.length∧∀ x∈X.bs,x.l.length=X.ps.length:=by
 refine ⟨?_,?_,h.gt.1,h.gg.1,fun x hx=>(h.bw.2 x.l (List.mem_map.2 ⟨x,hx,rfl⟩)).1⟩
 · have:=h.sl
   rwa [show X.A.ss.length=X.ss.length from List.length_map ..] at this
 · have:=h.bw.1
   rwa [show X.A.bw.length=X.bs.length from List.length_map ..] at this
theorem got_g (h:GOK X.A) (hg:X.g=g0) (i:Int) (HS:S w [X.I]):Calls Tryz.prog 23 #[.pointer (some ⟨g0,0,none⟩),.int .i64 i] w fun e w'=>e=.returned (.tuple #[.int .i64 (if askN X.A.ps.length [i]=0 then X.A.got.getD i.toNat 0 else 0),.int .i64 (askN X.A.ps.length [i])])∧S w' ([X.I]++[Old w (fps [X.I])]):=by
 subst hg
 have H:=HS.beginI
 have H1:=S.unbig (L:=[_,_,_,_,_,_,_,_,_]) H
 have h9:=h.n9
 refine (got_s X.g X.gp X.gc X.gs.length X.sd X.pp X.pc X.ps X.sp X.sc X.ss.length X.tp X.tc X.got.length X.vp X.vc X.gave.length X.bp X.bc X.bs.length X.got h.lens.2.2.1 i (Nat.le_trans h9 (by decide)) w (H1.takes [0,4] (by decide))).mono ?_
 rintro e w' ⟨rfl,h2⟩
 have h3:=H1.absorbI (new:=[_,_]) [0,4] h2
 exact ⟨rfl,S.big (L:=[_,_,_,_,_,_,_,_,_]) (h3.takes [0,2,3,4,1,5,6,7,8,9] (by decide))⟩
theorem round_g {pl:List Rd} (h:MOK pl X) (hgl:X.gs.length≤190) (hg:X.g=g0) (HS:S w [X.I,Pool pl]) :
   Calls Tryz.prog 13 #[.pointer (some ⟨g0,0,none⟩)] w fun e w'=>∃ p' c' zz X' rd,e=.returned (.tuple #[.slice p' zz.length c',.int .i64 0])∧zz.map Ro.l=roundR X.A∧X'.A=stepA X.A∧X'.g=g0∧X'.gs.length=X.gs.length+1∧MOK (pl++[rd]) X' ∧
     S w' ([Rw 43 1 p' zz.length c' (fl rowL zz),Lst BwI zz,X'.I,Pool (pl++[rd])]++[Old w (fps [X.I,Pool pl])]):=by
 subst hg
 exact round_x X h hgl w HS
end
noncomputable def stepsA:Nat→GA→GA
 | 0,A=>A
 | k+1,A=>stepA (stepsA k A)
theorem stepsA_ps (A:GA):∀ k,(stepsA k A).ps=A.ps
 | 0=>rfl
 | k+1=>stepsA_ps A k
theorem newA_ok {sd:ByteArray} {l:List Pl} (hsd:sd.size≤100) (ha:(l.any fun p=>!valP p)=false) (h2:2≤l.length) (h9:l.length≤9):GOK (newA sd l) where
 n2:=h2
 n9:=h9
 sd:=hsd
 pv p hp:=by
   obtain ⟨i,hi⟩:=List.getElem?_of_mem hp
   exact valid_at ha hi
 sk:=by
   show (l.map fun p=>spN p.st).map Sp.k=_
   rw [List.map_map]; rfl
 sP s hs j v hv:=by
   obtain ⟨p,_,rfl⟩:=List.mem_map.1 hs
   cases hv
 sB s hs j v hv:=by
   obtain ⟨p,_,rfl⟩:=List.mem_map.1 hs
   cases hv
 gr r hr:=absurd hr List.not_mem_nil
 gt:=⟨List.length_replicate,fun x hx=>by rw [(List.mem_replicate.1 hx).2]; exact ⟨Int.le_refl _,Int.le_refl _⟩⟩
 gg:=⟨List.length_replicate,fun x hx=>by rw [(List.mem_replicate.1 hx).2]; exact ⟨Int.le_refl _,Int.le_refl _⟩⟩
 bw:=⟨List.length_replicate,fun l' hl=>by
   rw [(List.mem_replicate.1 hl).2]
   exact ⟨List.length_replicate,fun x hx=>by rw [(List.mem_replicate.1 hx).2]; exact ⟨Int.le_refl _,Int.le_refl _⟩⟩⟩
theorem play_x (pl:List Rd) (X:GM) (hX:MOK pl X) (rn:Int) (hr0:0≤rn∧rn≤200) (hrg:X.gs.length+rn.toNat≤190)  (w:World) (HS:S w [X.I,Pool pl]):Calls Tryz.prog 17 #[.pointer (some ⟨X.g,0,none⟩),.int .i64 rn] w fun e w'=>∃ X' pl',e=.returned (.int .i64 0)∧X'.A=stepsA rn.toNat X.A∧X'.g=X.g∧X'.gs.length=X.gs.length+rn.toNat∧MOK pl' X'∧(∀ r∈pl,r∈pl')∧S w' ([X'.I,Pool pl']++[Old w (fps [X.I,Pool pl])]):=by
 have H0:=HS.beginI
 replace H0:S _ [_,_,_,_,_,_,_,_,_,_,_]:=S.unbig (L:=[_,_,_,_,_,_,_,_,_]) H0
 refine enter 31 Tryz.func17 rfl rfl rfl ?_
 refine g_wk [(0,_),(1,_)] ?_
 refine w_s ?_
 refine w_k6 ?_
 refine w_b (v:=.bool false) (hb:=(b_eqN (r:=false) Tryz.underlying29 rfl)) ?_
 refine w_k2 ?_
 refine g_cond_f rfl rfl ?_
 refine w_k4 ?_
 refine l_of (s_val (v:=.int .i64 rn) (wt1 rfl rfl rfl rfl (decide_eq_false (by omega))) rfl rfl (x_move rfl rfl) ?_)
 refine l_of (s_val (v:=.bool (decide ((200:Int)<rn))) (wt1 rfl rfl rfl rfl (decide_eq_false (by omega))) rfl rfl (x_bin rfl rfl rfl b_gtr) ?_)
 refine w_v (x_pick_f rfl rfl (decide_eq_false (by omega)) rfl) ?_
 refine w_k2 ?_
 refine g_cond_f rfl (decide_eq_false (by omega)) ?_
 refine w_k8 ?_
 refine w_b (v:=.int .i64 ((X.gs.length:Int)+rn)) (hb:=(b_add (w64 (by omega)))) ?_
 refine w_k3 ?_
 refine g_cond_f rfl (decide_eq_false (by omega)) ?_
 refine w_k9 ?_
 refine g_loop (ι:=Nat × GM × List Rd) (fun (k,Y,pl2)=>[(0,.pointer (some ⟨X.g,0,none⟩)),(25,.int .i64 rn),(26,.int .i64 ((k:Int)))]) (fun (k,Y,pl2) wx=>((k:Int)≤rn)∧(Y.A=stepsA k X.A)∧(Y.g=X.g)∧(Y.gs.length=X.gs.length+k)∧(MOK pl2 Y)∧(∀ r∈pl,r∈pl2)∧S wx [(GM.I Y),(Pool pl2),Old w (fps [X.I,Pool pl])]) (fun (k,Y,pl2)=>rn.toNat - k) (0,X,pl) ⟨rfl,rfl,rfl,trivial⟩ ⟨(by omega),rfl,rfl,rfl,hX,(fun _ h=>h),(S.big (L:=[_,_,_,_,_,_,_,_,_]) (H0.tk [0,1,2,3,4,5,6,7,8,9,10]))⟩ ?_
 rintro ⟨k,Y,pl2⟩ wq1 ⟨hk,hYA,hYg,hYl,hYM,hYp,H2⟩
 refine g_wk [(0,_),(25,_),(26,_)] ?_
 refine w_s ?_
 refine w_k2 ?_
 refine g_seq ?_
 by_cases hb3:((k:Int):Int)<rn
 ·
  refine g_ct hb3 ?_
  refine w_k6 ?_
  refine l_of (s_cl (round_g hYM (by omega) hYg (H2.tk [0,1])) ?_)
  rintro _ wq4 ⟨pz1,cz1,zz1,X1,rd1,rfl,hzz1,hA1,hg1,hl1,hM1,H5⟩
  replace H5:S _ [_,_,_,_,_]:=H2.abI (new:=[_,_,_,_]) [0,1] H5 rfl
  refine b_ret rfl rfl ?_
  refine w_k4 ?_
  refine w_i k ?_
  refine w_k2 ?_
  refine g_rd (i:=(k,Y,pl2)) ((k+1),X1,(pl2++[rd1])) ⟨(by omega),(by rw [hA1,hYA]; rfl),hg1,(by omega),hM1,(fun r hr=>List.mem_append_left _ (hYp r hr)),(H5.tk [2,3,4])⟩
 ·
  refine g_cf hb3 ?_
  refine w_k9 ?_
  refine fin_r [.tmp 4] [.int .i64 0] ?_
  have hke:k=rn.toNat:=by omega
  subst hke
  exact ⟨Y,pl2,rfl,hYA,hYg,hYl,hYM,hYp,H2.tk [0,1,2]⟩
theorem play_g {pl:List Rd} {X:GM} {g0:Nat} {w:World} (hX:MOK pl X) (rn:Int) (hr0:0≤rn∧rn≤200) (hrg:X.gs.length+rn.toNat≤190) (hg:X.g=g0) (HS:S w [X.I,Pool pl]):Calls Tryz.prog 17 #[.pointer (some ⟨g0,0,none⟩),.int .i64 rn] w fun e w'=>∃ X' pl',e=.returned (.int .i64 0)∧X'.A=stepsA rn.toNat X.A∧X'.g=g0∧X'.gs.length=X.gs.length+rn.toNat∧MOK pl' X'∧(∀ r∈pl,r∈pl')∧S w' ([X'.I,Pool pl']++[Old w (fps [X.I,Pool pl])]):=by
 subst hg
 exact play_x pl X hX rn hr0 hrg w HS
theorem newE_0 {sd:ByteArray} {l:List Pl} (h:newE sd l=0):¬ 100<sd.size∧(l.any fun p=>!valP p)=false∧2≤l.length:=by
 unfold newE at h
 split at h
 · cases h
 · rename_i h1
   split at h
   · cases h
   · rename_i h2
     refine ⟨fun h3=>h1 (.inl h3),?_,by omega⟩
     cases h4:l.any fun p=>!valP p with
     | false=>rfl
     | true=>exact absurd (.inr h4) h1
theorem new_any (sd:ByteArray) (l:List Pl) (p:Option Addr) (n c:Nat) (h9:n≤9) (w:World) (hr:Reads w p n c 2 (fl plL l)):Calls Tryz.prog 9 #[.string sd,.slice p n c] w fun e w' =>
   (e=.returned (.tuple #[.pointer none,.int .i64 (newE sd l)])∧¬ newE sd l=0∧S w' ([]++[Old w no]))∨∃ X:GM,e=.returned (.tuple #[.pointer (some ⟨X.g,0,none⟩),.int .i64 0])∧newE sd l=0∧X.A=newA sd l∧MOK [] X∧X.gs.length=0∧S w' ([X.I]++[Old w no]):=by
 have hnl:=hr.lenL plE
 by_cases hE:newE sd l=0
 · obtain ⟨h1,h2,h3⟩:=newE_0 hE
   subst hnl
   refine (new_ok sd l p c h1 h2 h3 h9 w hr).mono ?_
   rintro e w' ⟨X,rfl,hA,hs,h⟩
   exact .inr ⟨X,rfl,hE,hA,⟨hA ▸ newA_ok (by omega) h2 h3 h9,fun r hr=>by rw [hs] at hr; exact absurd hr List.not_mem_nil⟩,by rw [hs]; rfl,h⟩
 · by_cases h1:100<sd.size
   · exact (new_b1 sd l p n c (by omega) h1 w hr).mono fun e w' ⟨he,h⟩=>.inl ⟨he,hE,h⟩
   · cases h2:(l.any fun p=>!valP p) with
     | true=>exact (new_b2 sd l p n c (by omega) h1 h2 w hr).mono fun e w' ⟨he,h⟩=>.inl ⟨he,hE,h⟩
     | false =>
       by_cases h3:l.length<2
       · exact (new_b3 sd l p n c h1 h2 h3 w hr).mono fun e w' ⟨he,h⟩=>.inl ⟨he,hE,h⟩
       · exact absurd (by unfold newE; rw [if_neg (fun h9=>h9.elim h1 (fun h8=>by rw [h2] at h8; cases h8)),if_neg (by omega)]) hE
theorem rowR_len {A:GA} (h:GOK A) {i:Nat} (hi:i<A.ps.length):(rowR A i).length=A.ps.length:=by
 obtain ⟨p,s,hp,_⟩:=h.at hi
 exact (h.row hp).len
theorem free_row {A:GA} (h:GOK A) {i:Nat} {p:Pl} (hp:A.ps[i]?=some p) (hst:p.st=2):rowR A i=List.replicate A.ps.length 0:=by
 obtain ⟨p',s,hp',hs,hk,_⟩:=h.at (List.getElem?_eq_some_iff.1 hp).1
 rw [hp] at hp'
 obtain rfl:=Option.some.inj hp'
 rw [rowR_is hp hs]
 unfold giveV
 rw [if_neg (by omega),if_pos (by omega)]
 rfl
def FreeInv (A:GA):Prop:=∀ r∈A.gv,∀ (a:Int) (i:Nat) (p:Pl),A.ps[i]?=some p→p.st=2→at2 r i a=0
theorem FreeInv.step {A:GA} (h:GOK A) (hf:FreeInv A):FreeInv (stepA A):=fun r hr a i p hp hst=>by
 have hr:r∈A.gv++[roundR A]:=hr
 have hp:A.ps[i]?=some p:=hp
 rcases List.mem_append.1 hr with hr | hr
 · exact hf r hr a i p hp hst
 · rw [List.mem_singleton.1 hr,at2_def,Int.toNat_natCast,GOK.round_at (List.getElem?_eq_some_iff.1 hp).1,free_row h hp hst]
   show ((List.replicate A.ps.length (0:Int))[a.toNat]?).getD 0=0
   rw [List.getElem?_replicate]
   split <;> rfl
theorem range_getD:∀ (l:List Int),(List.range l.length).map (fun t=>l.getD t 0)=l:=fun l=>by
 apply List.ext_getElem?
 intro i
 rw [List.getElem?_map]
 by_cases h:i<l.length
 · rw [List.getElem?_range h,List.getElem?_eq_getElem h]
   show some (l.getD i 0)=_
   rw [getD_atT (List.getElem?_eq_getElem h)]
 · rw [List.getElem?_eq_none (by rw [List.length_range]; omega),List.getElem?_eq_none (by omega)]; rfl
def exL:List Pl:=[⟨3,10⟩,⟨3,20⟩]
theorem ex_r0:rowR (newA ⟨#[]⟩ exL) 0=[0,10]:=by
 rw [rowR_is (A:=newA ⟨#[]⟩ exL) (pm:=⟨3,10⟩) (s:=spN 3) rfl rfl]
 unfold giveV
 rw [if_neg (show ¬ (spN 3).k=1 by decide),if_neg (show ¬ (spN 3).k=2 by decide),if_pos (show (spN 3).k=3 from rfl)]
 decide
theorem ex_r1:rowR (newA ⟨#[]⟩ exL) 1=[20,0]:=by
 rw [rowR_is (A:=newA ⟨#[]⟩ exL) (pm:=⟨3,20⟩) (s:=spN 3) rfl rfl]
 unfold giveV
 rw [if_neg (show ¬ (spN 3).k=1 by decide),if_neg (show ¬ (spN 3).k=2 by decide),if_pos (show (spN 3).k=3 from rfl)]
 decide
theorem ex_round:roundR (newA ⟨#[]⟩ exL)=[[0,10],[20,0]]:=by
 show [rowR (newA ⟨#[]⟩ exL) 0,rowR (newA ⟨#[]⟩ exL) 1]=_
 rw [ex_r0,ex_r1]
theorem ex_got:(stepsA 1 (newA ⟨#[]⟩ exL)).got=[20,10]:=by
 show gotF (roundR (newA ⟨#[]⟩ exL)) [0,0]=_
 rw [ex_round]
 decide
theorem ex_newE:newE ⟨#[]⟩ exL=0:=by decide
end Go.Proofs.YtpbjekdjebjbkaaGreatDoor
