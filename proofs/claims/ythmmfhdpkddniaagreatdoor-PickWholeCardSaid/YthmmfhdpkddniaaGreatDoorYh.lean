import Derived.Test.YthmmfhdpkddniaaGreatDoorFm
import Derived.Test.YthmmfhdpkddniaaGreatDoorYf
set_option linter.unusedSimpArgs false
set_option linter.unusedVariables false
namespace Go.Proofs.YthmmfhdpkddniaaGreatDoor
open Go.RowKit
theorem cl11:callable Tryz.prog 11=true:=by kernel_rfl
theorem fullRn {n:Int} (m:Nat) (e:(m:Int)=n) (hn:m≤4096) (w:World):Calls Tryz.prog 11 #[.int .i64 n] w fun e' w'=>e'=.returned (.tuple #[.string (fieldS (List.replicate m true)),.int .i64 0])∧S w' [Old w no]:=by
 subst e
 exact fullR m hn w
abbrev DYh0 (n pz la:Int) (sd:ByteArray) (ino:Bool):Array Value:=#[.int .i64 n,.int .i64 pz,.int .i64 la,.string sd,.bool ino]
set_option maxRecDepth 20000 in
set_option maxHeartbeats 4000000 in
theorem whole_law (n pz la:Int) (sd:ByteArray) (ino:Bool) (hni:okI n) (l:List Wis) (p:Option Addr) (nl c:Nat) (hl:nl≤9223372036854775807) (most:Int) (hmo:okI most)  (w:World) (hr:Reads w p nl c 2 (fl wisL l)):Calls Tryz.prog 3 #[.agg (DYh0 n pz la sd ino),.slice p nl c,.int .i64 most] w fun e w'=>e=.returned (.bool true)∧S w' [Old w no]:=by
 have H0:=S.old w
 have hnl:=hr.lenL wisE
 unfold okI at hni
 refine enter 177 Tryz.func3 rfl rfl rfl ?_
 refine g_wk [(0,_),(1,_),(2,_)] ?_
 refine w_s ?_
 refine l_of (s_box H0 (wt0 rfl) rfl rfl rfl rfl ?_)
 intro g1 wq2 H3
 refine w_k4 ?_
 refine w_v (v:=.agg (DYh0 n pz la sd ino)) (x_loadA H3 0 rfl rfl Tryz.underlying23 rfl sz23 rfl rfl rfl) ?_
 refine l_of (s_call0 H3 (wt0 rfl) (x_call' rfl rfl cl8) (light_s n pz la sd ino _) rfl rfl ?_)
 intro wq4 H5
 refine w_v (x_not (b:=decide ((lightP n pz sd))) rfl rfl) ?_
 refine w_m ?_
 by_cases hb6:(lightP n pz sd)
 ·
  refine w_g (nf hb6) xm ?_
  refine w_g (nf hb6) (x_bin rfl rfl rfl b_lss) ?_
  refine w_v (x_pick_f rfl rfl (nf hb6) rfl) ?_
  refine w_m ?_
  by_cases hb7:(most:Int)<1
  ·
   iterate 3 refine w_n (decide_eq_true hb7) ?_
   refine w_v (x_pick_t rfl rfl (decide_eq_true hb7) rfl) ?_
   refine w_e ?_
   refine g_wk [(1,_),(2,_),(3,_),(37,_)] ?_
   refine g_cond_t rfl rfl ?_
   refine w_s ?_
   refine l_of (s_call0 H5 (wt0 rfl) (x_call' rfl rfl cl9) (awake_s _) rfl rfl ?_)
   intro wq8 H9
   refine w_k4 ?_
   refine fin_r [.tmp 6] [.bool true] ?_
   exact ⟨rfl,H9.mask [false,true]⟩
  ·
   refine w_g (decide_eq_false hb7) xm ?_
   refine w_g (decide_eq_false hb7) x_q ?_
   refine w_g (decide_eq_false hb7) (x_bin rfl rfl rfl b_gtr) ?_
   refine w_v (x_pick_f rfl rfl (decide_eq_false hb7) rfl) ?_
   refine w_e ?_
   refine g_wk [(1,_),(2,_),(3,_),(37,_)] ?_
   by_cases hb10:(30:Int)<(nl:Int)
   ·
    refine g_ct hb10 ?_
    refine w_s ?_
    refine l_of (s_call0 H5 (wt0 rfl) (x_call' rfl rfl cl9) (awake_s _) rfl rfl ?_)
    intro wq11 H12
    refine w_k4 ?_
    refine fin_r [.tmp 6] [.bool true] ?_
    exact ⟨rfl,H12.mask [false,true]⟩
   ·
    refine g_cf hb10 ?_
    refine w_k3 ?_
    refine w_v (v:=.agg (DYh0 n pz la sd ino)) (x_loadA H5 0 rfl rfl Tryz.underlying23 rfl sz23 rfl rfl rfl) ?_
    refine l_of (s_cl (begin_s n pz la sd ino hb6 _) ?_)
    rintro ee15 wq13 hor16
    rcases hor16 with ⟨hne,rfl,H14⟩ | ⟨X,Z,hne,hX,hZ,rfl,H14⟩
    ·
     replace H14:=H5.ab0 H14
     refine b_ret rfl rfl ?_
     refine w_k11 ?_
     refine w_v (x_not (b:=true) rfl rfl) ?_
     refine w_m ?_
     refine w_g rfl xm ?_
     refine w_g (v:=.bool true) rfl (x_bin rfl rfl rfl (b_eqN (r:=true) Tryz.underlying26 rfl)) ?_
     refine w_v (x_pick_f rfl rfl rfl rfl) ?_
     refine w_e ?_
     refine g_wk [(1,_),(2,_),(3,_),(7,_),(8,_),(9,_),(50,_)] ?_
     refine g_cond_t rfl rfl ?_
     refine w_k3 ?_
     refine l_of (s_call0 H14 (wt1 rfl rfl rfl rfl rfl) (x_call' rfl rfl cl9) (awake_s _) rfl rfl ?_)
     intro wq17 H18
     refine w_v (x_pick_t rfl rfl rfl rfl) ?_
     refine w_k4 ?_
     refine fin_r [.tmp 6] [.bool true] ?_
     exact ⟨rfl,H18.mask [false,true]⟩
    ·
     replace H14:S _ [_,_,_,_]:=H5.ab (new:=[_,_]) H14 rfl
     have hnn9:n≤1000:=by have h9:=newE_0 hne (show lightS n pz from ⟨(hb6).2.1,(hb6).2.2⟩); omega
     refine b_ret rfl rfl ?_
     refine w_k11 ?_
     refine w_v (x_not (b:=true) rfl rfl) ?_
     refine w_m ?_
     refine w_g rfl xm ?_
     refine w_g (v:=.bool false) rfl (x_bin rfl rfl rfl (b_eqN (r:=false) Tryz.underlying26 rfl)) ?_
     refine w_v (x_pick_f rfl rfl rfl rfl) ?_
     refine w_e ?_
     refine g_wk [(1,_),(2,_),(3,_),(7,_),(8,_),(9,_),(50,_)] ?_
     refine g_cond_f rfl rfl ?_
     refine w_k3 ?_
     have hg9:=newE_0 hne (show lightS n pz from ⟨(hb6).2.1,(hb6).2.2⟩)
     have hnA:((n.toNat:Nat):Int)=n:=by omega
     obtain ⟨hS1,hS2,hS3,hS4⟩:=whole_is (n:=n.toNat) (pz:=pz.toNat) (la:=la.toNat) (sd:=sd) (ino:=ino) (by omega)
     refine w_k2 ?_
     refine l_of (s_call0 H14 (wt0 rfl) (x_call' rfl rfl cl11) (fullRn n.toNat hnA (by omega) _) rfl rfl ?_)
     intro wq19 H20
     refine w_k9 ?_
     refine l_of (s_cl (join_p hX 7 (by omega) _ (H20.tk [0])) ?_)
     rintro _ wq21 ⟨Y23,hY24,rfl,H22⟩
     replace H22:S _ [_,_,_,_]:=H20.abI (new:=[_]) [0] H22 rfl
     refine b_ret rfl rfl ?_
     refine w_b (v:=.bool (!decide ((((newPK n.toNat pz.toNat la.toNat sd ino).joinE 7):Int)=0))) (hb:=b_neq) ?_
     refine w_m ?_
     by_cases hb25:(((newPK n.toNat pz.toNat la.toNat sd ino).joinE 7):Int)=0
     ·
      iterate 2 refine w_g (nf hb25) xm ?_
      refine l_of (s_call (wt1 rfl rfl rfl rfl (nf hb25)) (x_call' rfl rfl cl13) (hasF_p hY24 7 (fieldS (List.replicate n.toNat true)) (by omega) _ (H22.tk [0])) ?_)
      rintro _ wq26 ⟨Y28,hY29,rfl,H27⟩
      replace H27:S _ [_,_,_,_]:=H22.abI (new:=[_]) [0] H27 rfl
      refine b_ret rfl rfl ?_
      refine w_g (nf hb25) (x_bin rfl rfl rfl b_neq) ?_
      refine w_v (x_pick_f rfl rfl (nf hb25) rfl) ?_
      refine w_e ?_
      refine g_wk [(1,_),(2,_),(3,_),(7,_),(8,_),(69,_)] ?_
      by_cases hb30:((((newPK n.toNat pz.toNat la.toNat sd ino).joinA 7).hasFE 7 (fieldS (List.replicate n.toNat true))):Int)=0
      ·
       refine g_nf hb30 ?_
       refine w_k5 ?_
       refine l_of (s_cl (choke_p hY29 7 false false (by omega) _ (H27.tk [0])) ?_)
       rintro _ wq31 ⟨Y33,hY34,pv35,cv36,rfl,H32⟩
       replace H32:S _ [_,_,_,_,_]:=H27.abI (new:=[_,_]) [0] H32 rfl
       have hlr37:((((newPK n.toNat pz.toNat la.toNat sd ino).joinA 7).hasFA 7 (fieldS (List.replicate n.toNat true))).chokeL 7 false false).length≤400 * ((0+1)+1)+400:=len9_choke hY29.inv _ _ _
       refine b_ret rfl rfl ?_
       refine w_k7 ?_
       have hX3:OX X.g Y33 (whole0 n.toNat pz.toNat la.toNat sd ino) 3:=by have h9:=hY34; rw [hS4] at h9; exact h9
       have H38:S wq31 [Rw 44 3 pv35 (((((newPK n.toNat pz.toNat la.toNat sd ino).joinA 7).hasFA 7 (fieldS (List.replicate n.toNat true))).chokeL 7 false false).length) cv36 (fl choL ((((newPK n.toNat pz.toNat la.toNat sd ino).joinA 7).hasFA 7 (fieldS (List.replicate n.toNat true))).chokeL 7 false false)),(XI Y33 (whole0 n.toNat pz.toNat la.toNat sd ino)),(ZI Z (newPK n.toNat pz.toNat la.toNat sd ino)),Ob g1 (.cells (DYh0 n pz la sd ino) 23 (0,0)),Old w no]:=by rw [← hS4]; exact H32
       refine w_m ?_
       refine w_b (v:=.bool (!decide ((((((newPK n.toNat pz.toNat la.toNat sd ino).joinA 7).hasFA 7 (fieldS (List.replicate n.toNat true))).peE 7):Int)=0))) (hb:=b_neq) ?_
       refine w_e ?_
       by_cases hb39:(((((newPK n.toNat pz.toNat la.toNat sd ino).joinA 7).hasFA 7 (fieldS (List.replicate n.toNat true))).peE 7):Int)=0
       ·
        refine g_nf hb39 ?_
        refine w_k5 ?_
        refine l_of (s_makeB ((n).toNat) H38 (wt0 rfl) rfl rfl rfl rfl rfl Tryz.underlying38 inf4 (by omega) ?_)
        intro g40 wq41 H42
        refine w_k2 ?_
        refine g_wk [(1,_),(2,_),(7,_),(8,_),(14,_)] ?_
        refine g_seq ?_
        refine w_s ?_
        have hrl9:(List.replicate n.toNat false).length=n.toNat:=List.length_replicate
        rw [hrl9] at H42 ⊢
        refine w_k5 ?_
        refine g_loop (ι:=Nat × Option Addr × List Bool) (fun (ii,wp,wl0)=>[(1,.slice p nl c),(2,.int .i64 most),(7,.pointer (some ⟨X.g,0,none⟩)),(8,.pointer (some ⟨Z.g,0,none⟩)),(14,.slice wp n.toNat ((n).toNat)),(81,.int .i64 ((n.toNat:Int))),(82,.int .i64 ((ii:Int)))]) (fun (ii,wp,wl0) wx=>(ii≤n.toNat)∧(wl0=List.replicate ii true++List.replicate (n.toNat - ii) false)∧(wl0.length=n.toNat)∧S wx [Rw 4 1 wp n.toNat ((n).toNat) (fl boolL wl0),(XI Y33 (whole0 n.toNat pz.toNat la.toNat sd ino)),(ZI Z (newPK n.toNat pz.toNat la.toNat sd ino)),Ob g1 (.cells (DYh0 n pz la sd ino) 23 (0,0)),Old w no]) (fun (ii,wp,wl0)=>n.toNat - ii) (0,(some ⟨g40,0,none⟩),(List.replicate ((n).toNat) false)) ⟨rfl,rfl,rfl,rfl,rfl,rfl,rfl,trivial⟩ ⟨(Nat.zero_le _),(by rw [Nat.sub_zero]; rfl),List.length_replicate,(H42.tk [0,2,3,4,5])⟩ ?_
        rintro ⟨ii,wp,wl0⟩ wq43 ⟨hii,hwl0,hwn0,H44⟩
        refine g_wk [(1,_),(2,_),(7,_),(8,_),(14,_),(81,_),(82,_)] ?_
        refine w_s ?_
        refine w_k2 ?_
        refine g_seq ?_
        by_cases hb45:((ii:Int):Int)<(n.toNat:Int)
        ·
         refine g_ct hb45 ?_
         refine w_k11 ?_
         refine w_v (x_i ii (H44.rr 0)) ?_
         refine l_of (s_stoL (j:=ii) boolE true H44 0 (wt0 rfl) rfl rfl rfl rfl rfl rfl sz4 (by omega) ?_)
         intro wq46 H47
         refine w_k4 ?_
         refine w_i ii ?_
         refine w_k2 ?_
         refine g_rd (i:=(ii,wp,wl0)) ((ii+1),wp,(wl0.set ii true)) ⟨(by omega),(by rw [hwl0]; exact rep_set _ _ _ _ (by omega)),(by rw [List.length_set]; exact hwn0),(H47.tk [0,1,2,3,4])⟩
        ·
         refine g_cf hb45 ?_
         refine w_0 ?_
         have hwl1:wl0=List.replicate n.toNat true:=by rw [hwl0,show ii=n.toNat from by omega,Nat.sub_self]; exact List.append_nil _
         refine w_k11 ?_
         refine g_loop (ι:=Nat × XP × ZP × PK × PK × List Bool) (fun (iw,Xw,Zw,Aw,Bw,wl)=>[(2,.int .i64 most),(7,.pointer (some ⟨X.g,0,none⟩)),(8,.pointer (some ⟨Z.g,0,none⟩)),(14,.slice wp n.toNat ((n).toNat)),(89,.slice p nl c),(90,.int .i64 ((nl:Int))),(91,.int .i64 ((iw:Int)))]) (fun (iw,Xw,Zw,Aw,Bw,wl) wx=>(iw≤nl)∧(OX X.g Xw Aw (iw+3))∧(OZ Z.g Zw Bw iw)∧(WhI Aw wl [])∧(∀ z,bitAt Aw.had z=false)∧(Aw.n=n.toNat∧Bw.n=n.toNat)∧(wl.length=n.toNat)∧S wx [Rw 4 1 wp n.toNat ((n).toNat) (fl boolL wl),(XI Xw Aw),(ZI Zw Bw),Ob g1 (.cells (DYh0 n pz la sd ino) 23 (0,0)),Old w no]) (fun (iw,Xw,Zw,Aw,Bw,wl)=>nl - iw) (0,Y33,Z,(whole0 n.toNat pz.toNat la.toNat sd ino),(newPK n.toNat pz.toNat la.toNat sd ino),wl0) ⟨rfl,rfl,rfl,rfl,rfl,rfl,rfl,trivial⟩ ⟨Nat.zero_le _,hX3,hZ,(by rw [hwl1]; exact whole_start hX3.inv),(fun z=>bitAt_no),⟨rfl,rfl⟩,hwn0,(H44.tk [0,1,2,3,4])⟩ ?_
         rintro ⟨iw,Xw,Zw,Aw,Bw,wl⟩ wq48 ⟨hiw,hXw,hZw,hWw,hWf,hWN,hwn,H49⟩
         refine g_wk [(2,_),(7,_),(8,_),(14,_),(89,_),(90,_),(91,_)] ?_
         refine w_s ?_
         refine w_k2 ?_
         refine g_seq ?_
         by_cases hb50:((iw:Int):Int)<(nl:Int)
         ·
          refine g_ct hb50 ?_
          refine w_k6 ?_
          refine w_v (x_i iw (H49.exReads (k:=4) rfl hr (fun _ _ _ h=>h))) ?_
          obtain ⟨x51,hx51⟩:=(H49.exReads (k:=4) rfl hr (fun _ _ _ h=>h)).exL wisE iw
          have hEE9:Bw.wishE (iw:Int) x51=Aw.wishE (iw:Int) x51:=wishE_n (hWN.2.trans hWN.1.symm) _ _
          refine w_v (x_loadRA (vs:=wisL x51) iw (H49.exReads (k:=4) rfl hr (fun _ _ _ h=>h)) (by omega) rfl rfl Tryz.underlying40 rfl sz40 (by rfl) (wisE.flAt hx51)) ?_
          refine l_of (s_alloc H49 (wt0 rfl) rfl rfl rfl ze40 ?_)
          intro g52 wq53 H54
          refine w_a ?_
          refine l_of (w_st #[.int .i64 (x51.lv),.int .i64 (x51.du)] H54 0 ?_)
          intro wq55 H56
          refine w_k4 ?_
          refine w_v (v:=.agg #[.int .i64 (x51.lv),.int .i64 (x51.du)]) (x_loadA H56 0 rfl rfl Tryz.underlying40 rfl sz40 rfl rfl rfl) ?_
          refine l_of (s_cl (wish_p hXw (iw:Int) x51 (by omega) _ (H56.tk [2])) ?_)
          rintro _ wq57 ⟨Y59,hY60,rfl,H58⟩
          replace H58:S _ [_,_,_,_,_,_]:=H56.abI (new:=[_]) [2] H58 rfl
          refine b_ret rfl rfl ?_
          refine w_k7 ?_
          refine w_v (v:=.agg #[.int .i64 (x51.lv),.int .i64 (x51.du)]) (x_loadA H58 1 rfl rfl Tryz.underlying40 rfl sz40 rfl rfl rfl) ?_
          refine l_of (s_cl (wish_z hZw (iw:Int) x51 (by omega) _ (H58.tk [3])) ?_)
          rintro _ wq61 ⟨Y63,hY64,rfl,H62⟩
          replace H62:S _ [_,_,_,_,_,_]:=H58.abI (new:=[_]) [3] H62 rfl
          refine b_ret rfl rfl ?_
          refine w_b (v:=.bool (!decide (((Aw.wishE (iw:Int) x51):Int)=(Bw.wishE (iw:Int) x51)))) (hb:=b_neq) ?_
          refine w_e ?_
          refine g_wk [(2,_),(7,_),(8,_),(14,_),(16,_),(17,_),(18,_),(89,_),(90,_),(91,_),(105,_)] ?_
          by_cases hb65:((Aw.wishE (iw:Int) x51):Int)=(Bw.wishE (iw:Int) x51)
          ·
           refine g_nf hb65 ?_
           refine w_k6 ?_
           by_cases hb66:((Aw.wishE (iw:Int) x51):Int)=0
           ·
            have hwq9:=wishE_in hb66
            refine g_ct hb66 ?_
            refine w_k6 ?_
            refine w_v (x_i iw (H62.rr 3)) ?_
            refine l_of (s_stoL (j:=iw) boolE (decide ((0:Int)<x51.lv)) H62 3 (wt0 rfl) rfl rfl rfl rfl rfl rfl sz4 (by omega) ?_)
            intro wq67 H68
            refine w_k3 ?_
            refine g_wk [(2,_),(7,_),(8,_),(14,_),(89,_),(90,_),(91,_)] ?_
            refine g_region ?_
            refine w_i iw ?_
            refine w_k2 ?_
            refine g_rd (i:=(iw,Xw,Zw,Aw,Bw,wl)) ((iw+1),Y59,Y63,(Aw.wishA (iw:Int) x51),(Bw.wishA (iw:Int) x51),(wl.set iw (decide ((0:Int)<x51.lv)))) ⟨by omega,hY60,hY64,(hWw.wish hXw.inv hWf hb66),(fun z=>by rw [(wishA_had Aw (iw:Int) x51).1]; exact hWf z),(by rw [(wishA_had Aw (iw:Int) x51).2,(wishA_had Bw (iw:Int) x51).2]; exact hWN),(by first | exact hwn | (rw [List.length_set]; exact hwn)),(H68.tk [3,1,0,4,5])⟩
           ·
            refine g_cf hb66 ?_
            refine w_k4 ?_
            refine w_i iw ?_
            refine w_k2 ?_
            refine g_rd (i:=(iw,Xw,Zw,Aw,Bw,wl)) ((iw+1),Y59,Y63,(Aw.wishA (iw:Int) x51),(Bw.wishA (iw:Int) x51),wl) ⟨by omega,hY60,hY64,(by rw [wishA_no hb66]; exact hWw),(fun z=>by rw [(wishA_had Aw (iw:Int) x51).1]; exact hWf z),(by rw [(wishA_had Aw (iw:Int) x51).2,(wishA_had Bw (iw:Int) x51).2]; exact hWN),(by first | exact hwn | (rw [List.length_set]; exact hwn)),(H62.tk [3,1,0,4,5])⟩
          ·
           refine g_nt hb65 ?_
           refine w_k10 ?_
           refine fin_r [.tmp 6] [.bool false] ?_
           exfalso
           first | omega | simp_all
         ·
          refine g_cf hb50 ?_
          refine w_k10 ?_
          refine g_loop (ι:=Nat × XP × PK × Nat) (fun (r,Xr,Ar,jr)=>[(2,.int .i64 most),(7,.pointer (some ⟨X.g,0,none⟩)),(14,.slice wp n.toNat ((n).toNat)),(115,.int .i64 ((r:Int)))]) (fun (r,Xr,Ar,jr) wx=>(OX X.g Xr Ar jr)∧(WhI Ar wl [])∧(Ar.leftN+r≤192)∧(jr+2 * Ar.leftN≤500+r)∧S wx [Rw 4 1 wp n.toNat ((n).toNat) (fl boolL wl),(XI Xr Ar),Ob g1 (.cells (DYh0 n pz la sd ino) 23 (0,0)),Old w no]) (fun (r,Xr,Ar,jr)=>193 - r) (0,Xw,Aw,(nl+3)) ⟨rfl,rfl,rfl,rfl,trivial⟩ ⟨(by rw [show nl+3=iw+3 from by omega]; exact hXw),hWw,(by have h9:=left_le hXw.inv; omega),(by have h9:=left_le hXw.inv; omega),(H49.tk [0,1,3,4])⟩ ?_
          rintro ⟨r,Xr,Ar,jr⟩ wq69 ⟨hXr,hWr,hLr,hJr,H70⟩
          refine g_wk [(2,_),(7,_),(14,_),(115,_)] ?_
          refine w_s ?_
          refine w_k2 ?_
          refine g_seq ?_
          by_cases hb71:((r:Int):Int)<193
          ·
           refine g_ct hb71 ?_
           refine w_k7 ?_
           refine l_of (s_cl (next_p hXr 7 most (by omega) (by first | assumption | (unfold okI; omega)) _ (H70.tk [1])) ?_)
           rintro _ wq72 ⟨Y74,hY75,pv76,cv77,rfl,H73⟩
           replace H73:S _ [_,_,_,_,_]:=H70.abI (new:=[_,_]) [1] H73 rfl
           have hlr78:(Ar.lookV 7 most).length≤400 * jr+400:=len9_look hXr.inv _ _
           have hNx:=hWr.next (most:=most) (by omega)
           refine b_ret rfl rfl ?_
           refine w_k9 ?_
           refine w_b (v:=.bool (!decide (((Ar.lookE 7 most):Int)=0))) (hb:=b_neq) ?_
           refine w_e ?_
           by_cases hb79:((Ar.lookE 7 most):Int)=0
           ·
            refine g_nf hb79 ?_
            refine w_k9 ?_
            refine g_loop (ι:=Nat × XP × PK × Nat) (fun (qq,Xq,Aq,jq)=>[(2,.int .i64 most),(7,.pointer (some ⟨X.g,0,none⟩)),(14,.slice wp n.toNat ((n).toNat)),(19,.slice pv76 ((Ar.lookV 7 most).length) cv77),(115,.int .i64 ((r:Int))),(125,.slice pv76 ((Ar.lookV 7 most).length) cv77),(126,.int .i64 (((Ar.lookV 7 most).length:Int))),(127,.int .i64 ((qq:Int)))]) (fun (qq,Xq,Aq,jq) wx=>(qq≤(Ar.lookV 7 most).length)∧(OX X.g Xq Aq jq)∧(WhI Aq wl ((Ar.lookV 7 most).drop qq))∧(Aq.leftN+qq=Ar.leftN)∧(jq+2 * Aq.leftN≤501+r)∧S wx [Rw 44 3 pv76 ((Ar.lookV 7 most).length) cv77 (fl choL (Ar.lookV 7 most)),Rw 4 1 wp n.toNat ((n).toNat) (fl boolL wl),(XI Xq Aq),Ob g1 (.cells (DYh0 n pz la sd ino) 23 (0,0)),Old w no]) (fun (qq,Xq,Aq,jq)=>((Ar.lookV 7 most).length) - qq) (0,Y74,(Ar.nextA 7 most),(jr+1)) ⟨rfl,rfl,rfl,rfl,rfl,rfl,rfl,rfl,trivial⟩ ⟨Nat.zero_le _,hY75,hNx.2.1,(by have h9:=hNx.2.2; omega),(by have h9:=hNx.2.2; omega),(H73.tk [0,2,1,3,4])⟩ ?_
            rintro ⟨qq,Xq,Aq,jq⟩ wq80 ⟨hqq,hXq,hWq,hLq,hJq,H81⟩
            refine g_wk [(2,_),(7,_),(14,_),(19,_),(115,_),(125,_),(126,_),(127,_)] ?_
            refine w_s ?_
            refine w_k2 ?_
            refine g_seq ?_
            by_cases hb82:((qq:Int):Int)<((Ar.lookV 7 most).length:Int)
            ·
             refine g_ct hb82 ?_
             refine w_k5 ?_
             refine w_v (x_i qq (H81.rr 0)) ?_
             obtain ⟨x83,hx83⟩:=(H81.rr 0).exL choE qq
             have hdr9:(Ar.lookV 7 most).drop qq=x83 :: (Ar.lookV 7 most).drop (qq+1):=by obtain ⟨h8,h9⟩:=List.getElem?_eq_some_iff.1 hx83; rw [List.drop_eq_getElem_cons h8,h9]
             have hWc:WhI Aq wl (x83 :: (Ar.lookV 7 most).drop (qq+1)):=by rw [← hdr9]; exact hWq
             obtain ⟨hcE,hcL⟩:=hWc.hereE
             have hcl9:(Aq.hereL 7 x83).length=0:=by rw [hcL]; rfl
             refine w_v (x_loadRA (vs:=choL x83) qq (H81.rr 0) (by omega) rfl rfl Tryz.underlying44 rfl sz44 (by rfl) (choE.flAt hx83)) ?_
             refine l_of (s_alloc H81 (wt0 rfl) rfl rfl rfl ze44 ?_)
             intro g84 wq85 H86
             refine l_of (w_st #[.int .i64 (x83.pc),.int .i64 (x83.bg),.int .i64 (x83.ln)] H86 0 ?_)
             intro wq87 H88
             refine w_k3 ?_
             refine w_v (v:=.agg #[.int .i64 (x83.pc),.int .i64 (x83.bg),.int .i64 (x83.ln)]) (x_loadA H88 0 rfl rfl Tryz.underlying44 rfl sz44 rfl rfl rfl) ?_
             refine l_of (s_cl (here_p hXq 7 x83 (by omega) _ (H88.tk [3])) ?_)
             rintro _ wq89 ⟨Y91,hY92,pv93,cv94,rfl,H90⟩
             replace H90:S _ [_,_,_,_,_,_,_]:=H88.abI (new:=[_,_]) [3] H90 rfl
             have hlr95:(Aq.hereL 7 x83).length≤400 * jq+400:=len9_here hXq.inv _ _
             refine b_ret rfl rfl ?_
             refine w_k10 ?_
             refine w_b (v:=.bool (!decide (((Aq.hereE 7 x83):Int)=0))) (hb:=b_neq) ?_
             refine w_m ?_
             by_cases hb96:((Aq.hereE 7 x83):Int)=0
             ·
              refine w_g (nf hb96) xm ?_
              refine w_g (nf hb96) x_q ?_
              refine w_g (nf hb96) (x_bin rfl rfl rfl b_neq) ?_
              refine w_v (x_pick_f rfl rfl (nf hb96) rfl) ?_
              refine w_m ?_
              by_cases hb97:(((Aq.hereL 7 x83).length:Int):Int)=0
              ·
               iterate 2 refine w_g (nf hb97) xm ?_
               rcases Bool.eq_false_or_eq_true ((Aq.hereW 7 x83)) with hb98 | hb98
               ·
                have hdW:Aq.hereW 7 x83=true:=hb98
                have hdE:=(hWc.done hXq.inv hdW).1
                refine w_g hb98 xm ?_
                refine w_g hb98 (xf 0) ?_
                refine w_g hb98 (xl H90 2) ?_
                refine l_of (s_call (wt1 rfl rfl rfl rfl hb98) (x_call' rfl rfl cl19) (done_p hY92 x83.pc true (by omega) _ (H90.tk [1])) ?_)
                rintro _ wq99 ⟨Y101,hY102,rfl,H100⟩
                replace H100:S _ [_,_,_,_,_,_,_]:=H90.abI (new:=[_]) [1] H100 rfl
                refine b_ret rfl rfl ?_
                refine w_g hb98 (x_bin rfl rfl rfl b_neq) ?_
                refine w_g (nf hb97) (x_pick_t rfl rfl hb98 rfl) ?_
                refine w_v (x_pick_f rfl rfl (nf hb97) rfl) ?_
                refine w_e ?_
                refine g_wk [(2,_),(7,_),(14,_),(19,_),(115,_),(125,_),(126,_),(127,_),(154,_)] ?_
                by_cases hb103:(((Aq.hereA 7 x83).doneE x83.pc):Int)=0
                ·
                 refine g_nf hb103 ?_
                 refine w_k4 ?_
                 refine w_i qq ?_
                 refine w_k2 ?_
                 refine g_rd (i:=(qq,Xq,Aq,jq)) ((qq+1),Y101,((Aq.hereA 7 x83).doneA x83.pc true),((jq+1)+1)) ⟨by omega,hY102,(hWc.done hXq.inv hdW).2.1,(by have h9:=(hWc.done hXq.inv hdW).2.2; have h8:=hWc.here_left; omega),(by have h9:=(hWc.done hXq.inv hdW).2.2; have h8:=hWc.here_left; omega),(H100.tk [3,4,0,5,6])⟩
                ·
                 refine g_nt hb103 ?_
                 refine w_k14 ?_
                 refine fin_r [.tmp 6] [.bool false] ?_
                 exfalso
                 first | omega | simp_all
               ·
                iterate 5 refine w_n hb98 ?_
                refine w_g (nf hb97) (x_pick_f rfl rfl hb98 rfl) ?_
                refine w_v (x_pick_f rfl rfl (nf hb97) rfl) ?_
                refine w_e ?_
                refine g_wk [(2,_),(7,_),(14,_),(19,_),(115,_),(125,_),(126,_),(127,_),(154,_)] ?_
                refine g_cond_f rfl rfl ?_
                refine w_k4 ?_
                refine w_i qq ?_
                refine w_k2 ?_
                refine g_rd (i:=(qq,Xq,Aq,jq)) ((qq+1),Y91,(Aq.hereA 7 x83),(jq+1)) ⟨by omega,hY92,(hWc.go hb98),(by have h8:=hWc.here_left; omega),(by have h8:=hWc.here_left; omega),(H90.tk [3,4,1,5,6])⟩
              ·
               iterate 2 refine w_n (nt hb97) ?_
               refine l_of (s_not (wn2 rfl rfl rfl rfl) rfl rfl ?_)
               refine l_of (s_not (wn2 rfl rfl rfl rfl) rfl rfl ?_)
               refine l_of (s_not (wn2 rfl rfl rfl rfl) rfl rfl ?_)
               refine l_of (s_not (wn2 rfl rfl rfl rfl) rfl rfl ?_)
               refine l_of (s_not (wn2 rfl rfl rfl rfl) rfl rfl ?_)
               refine w_n (nt hb97) ?_
               refine w_v (x_pick_t rfl rfl (nt hb97) rfl) ?_
               refine w_e ?_
               refine g_wk [(2,_),(7,_),(14,_),(19,_),(115,_),(125,_),(126,_),(127,_),(154,_)] ?_
               refine g_cond_t rfl rfl ?_
               refine w_k14 ?_
               refine fin_r [.tmp 6] [.bool false] ?_
               exfalso
               first | omega | simp_all
             ·
              iterate 3 refine w_n (nt hb96) ?_
              refine w_v (x_pick_t rfl rfl (nt hb96) rfl) ?_
              refine w_m ?_
              iterate 2 refine w_n rfl ?_
              refine l_of (s_not (wn2 rfl rfl rfl rfl) rfl rfl ?_)
              refine l_of (s_not (wn2 rfl rfl rfl rfl) rfl rfl ?_)
              refine l_of (s_not (wn2 rfl rfl rfl rfl) rfl rfl ?_)
              refine l_of (s_not (wn2 rfl rfl rfl rfl) rfl rfl ?_)
              refine l_of (s_not (wn2 rfl rfl rfl rfl) rfl rfl ?_)
              refine w_n rfl ?_
              refine w_v (x_pick_t rfl rfl rfl rfl) ?_
              refine w_e ?_
              refine g_wk [(2,_),(7,_),(14,_),(19,_),(115,_),(125,_),(126,_),(127,_),(154,_)] ?_
              refine g_cond_t rfl rfl ?_
              refine w_k14 ?_
              refine fin_r [.tmp 6] [.bool false] ?_
              exfalso
              first | omega | simp_all
            ·
             refine g_cf hb82 ?_
             refine w_0 ?_
             have hWe:WhI Aq wl []:=by have h9:=hWq; rw [List.drop_eq_nil_of_le (by omega)] at h9; exact h9
             refine w_k9 ?_
             by_cases hb104:(((Ar.lookV 7 most).length:Int):Int)=0
             ·
              refine g_ct hb104 ?_
              refine w_0 ?_
              have hLn9:(Ar.lookV 7 most)=[]:=List.eq_nil_of_length_eq_zero (by omega)
              have hL0:Aq.leftN=0:=by have h9:=hWr.some (most:=most) (by omega) hLn9; omega
              obtain ⟨hHd,hEd⟩:=hWe.end_ hXq.inv hL0
              have hHS:fieldS Aq.had=fieldS wl:=by rw [hHd]
              refine w_k7 ?_
              refine l_of (s_cl (had_p hXq  (by omega) _ (H81.tk [2])) ?_)
              rintro _ wq105 ⟨rfl,H106⟩
              replace H106:S _ [_,_,_,_,_]:=H81.abI (new:=[_]) [2] H106 rfl
              refine b_ret rfl rfl ?_
              refine w_m ?_
              refine l_of (s_call0 H106 (wt0 rfl) (x_call' rfl rfl cl21) (fieldR wl n.toNat ((n).toNat) wp hwn.symm (by omega) _ (H106.rr 2)) rfl rfl ?_)
              intro wq107 H108
              refine w_b (v:=.bool (decide ((fieldS Aq.had)=(fieldS wl)))) (hb:=b_eqs) ?_
              refine w_m ?_
              by_cases hb109:(fieldS Aq.had)=(fieldS wl)
              ·
               refine w_g (decide_eq_true hb109) xm ?_
               refine l_of (s_call (wt1 rfl rfl rfl rfl (decide_eq_true hb109)) (x_call' rfl rfl cl22) (left_p hXq  (by omega) _ (H108.tk [0])) ?_)
               rintro _ wq110 ⟨rfl,H111⟩
               replace H111:S _ [_,_,_,_,_]:=H108.abI (new:=[_]) [0] H111 rfl
               refine b_ret rfl rfl ?_
               refine w_g (decide_eq_true hb109) (x_bin rfl rfl rfl b_eql) ?_
               refine w_v (x_pick_t rfl rfl (decide_eq_true hb109) rfl) ?_
               refine w_m ?_
               by_cases hb112:((Aq.leftN:Int):Int)=0
               ·
                refine w_g (decide_eq_true hb112) xm ?_
                refine l_of (s_call (wt1 rfl rfl rfl rfl (decide_eq_true hb112)) (x_call' rfl rfl cl23) (ending_p hXq  (by omega) _ (H111.tk [0])) ?_)
                rintro _ wq113 ⟨rfl,H114⟩
                replace H114:S _ [_,_,_,_,_]:=H111.abI (new:=[_]) [0] H114 rfl
                refine b_ret rfl rfl ?_
                refine w_v (x_pick_t rfl rfl (decide_eq_true hb112) rfl) ?_
                refine w_m ?_
                refine l_of (s_call0 H114 (wt1 rfl rfl rfl rfl hEd) (x_call' rfl rfl cl9) (awake_s _) rfl rfl ?_)
                intro wq115 H116
                refine w_v (x_pick_t rfl rfl hEd rfl) ?_
                refine w_k2 ?_
                refine g_wk [(6,_)] ?_
                refine g_ret ?_
                refine fin_r [.tmp 6] [.bool true] ?_
                exact ⟨rfl,H116.mask [false,false,false,false,true]⟩
               ·
                iterate 2 refine w_n (decide_eq_false hb112) ?_
                refine w_v (x_pick_f rfl rfl (decide_eq_false hb112) rfl) ?_
                refine w_m ?_
                refine w_n rfl ?_
                refine w_v (x_pick_f rfl rfl rfl rfl) ?_
                refine w_k2 ?_
                refine g_wk [(6,_)] ?_
                refine g_ret ?_
                refine fin_r [.tmp 6] [.bool false] ?_
                exfalso
                first | omega | simp_all
              ·
               iterate 3 refine w_n (decide_eq_false hb109) ?_
               refine w_v (x_pick_f rfl rfl (decide_eq_false hb109) rfl) ?_
               refine w_m ?_
               iterate 2 refine w_n rfl ?_
               refine w_v (x_pick_f rfl rfl rfl rfl) ?_
               refine w_m ?_
               refine w_n rfl ?_
               refine w_v (x_pick_f rfl rfl rfl rfl) ?_
               refine w_k2 ?_
               refine g_wk [(6,_)] ?_
               refine g_ret ?_
               refine fin_r [.tmp 6] [.bool false] ?_
               exfalso
               first | omega | simp_all
             ·
              refine g_cf hb104 ?_
              refine w_k4 ?_
              refine w_i r ?_
              refine w_k2 ?_
              refine g_rd (i:=(r,Xr,Ar,jr)) ((r+1),Xq,Aq,jq) ⟨hXq,hWe,(by omega),(by omega),(H81.tk [1,2,3,4])⟩
           ·
            refine g_nt hb79 ?_
            refine w_k3 ?_
            refine g_wk [(6,_)] ?_
            refine g_ret ?_
            refine w_k6 ?_
            refine fin_r [.tmp 6] [.bool false] ?_
            exfalso
            first | omega | simp_all
          ·
           refine g_cf hb71 ?_
           refine w_0 ?_
           exfalso
           omega
       ·
        refine g_nt hb39 ?_
        refine w_k3 ?_
        refine g_wk [(6,_)] ?_
        refine g_ret ?_
        refine w_0 ?_
        refine fin_r [.tmp 6] [.bool false] ?_
        exfalso
        first | omega | simp_all
      ·
       refine g_nt hb30 ?_
       refine w_k5 ?_
       refine fin_r [.tmp 6] [.bool false] ?_
       exfalso
       first | omega | simp_all
     ·
      iterate 4 refine w_n (nt hb25) ?_
      refine w_v (x_pick_t rfl rfl (nt hb25) rfl) ?_
      refine w_e ?_
      refine g_wk [(1,_),(2,_),(3,_),(7,_),(8,_),(69,_)] ?_
      refine g_cond_t rfl rfl ?_
      refine w_k5 ?_
      refine fin_r [.tmp 6] [.bool false] ?_
      exfalso
      first | omega | simp_all
 ·
  iterate 2 refine w_n (nt hb6) ?_
  refine w_v (x_pick_t rfl rfl (nt hb6) rfl) ?_
  refine w_m ?_
  iterate 3 refine w_n rfl ?_
  refine w_v (x_pick_t rfl rfl rfl rfl) ?_
  refine w_e ?_
  refine g_wk [(1,_),(2,_),(3,_),(37,_)] ?_
  refine g_cond_t rfl rfl ?_
  refine w_s ?_
  refine l_of (s_call0 H5 (wt0 rfl) (x_call' rfl rfl cl9) (awake_s _) rfl rfl ?_)
  intro wq117 H118
  refine w_k4 ?_
  refine fin_r [.tmp 6] [.bool true] ?_
  exact ⟨rfl,H118.mask [false,true]⟩
end Go.Proofs.YthmmfhdpkddniaaGreatDoor
