import Derived.Test.YthmmfhdpkddniaaGreatDoorFm
import Derived.Test.YthmmfhdpkddniaaGreatDoorPh
set_option linter.unusedSimpArgs false
set_option linter.unusedVariables false
namespace Go.Proofs.YthmmfhdpkddniaaGreatDoor
open Go.RowKit
set_option maxRecDepth 20000 in
set_option maxHeartbeats 4000000 in
theorem newX_o (n pz la:Nat) (seed:ByteArray) (ino:Bool) (h:(1≤n∧n≤24∧16≤pz∧pz≤128∧1≤la∧la≤pz∧seed.size≤100)∧(pz:Int) % 16=0)  (w:World):Calls Tryz.prog 34 #[.int .i64 ((n:Int)),.int .i64 ((pz:Int)),.int .i64 ((la:Int)),.string seed,.bool ino] w fun e w'=>∃ X:XP,XOK X (newPK n pz la seed ino)∧e=.returned (.tuple #[.pointer (some ⟨X.g,0,none⟩),.int .i64 0])∧S w' ([(XI X (newPK n pz la seed ino))]++[Old w no]):=by
 have H0:=S.old w
 have hrl:(List.replicate n (⟨0,0⟩:Wis)).length=n:=List.length_replicate
 have hrh:(List.replicate n false).length=n:=List.length_replicate
 refine enter 78 Tryz.func34 rfl rfl rfl ?_
 refine g_wk [(0,_),(1,_),(2,_),(3,_),(4,_)] ?_
 refine w_s ?_
 refine w_k7 ?_
 refine w_v (x_lens rfl rfl Tryz.underlying9) ?_
 refine w_k3 ?_
 refine g_cond_f rfl (decide_eq_false (by omega)) ?_
 refine w_k4 ?_
 refine l_of (s_val (v:=.int .i64 ((n:Int))) (wt1 rfl rfl rfl rfl (decide_eq_false (by omega))) rfl rfl (x_move rfl rfl) ?_)
 refine l_of (s_val (v:=.bool (decide ((4096:Int)<(n:Int)))) (wt1 rfl rfl rfl rfl (decide_eq_false (by omega))) rfl rfl (x_bin rfl rfl rfl b_gtr) ?_)
 refine w_v (x_pick_f rfl rfl (decide_eq_false (by omega)) rfl) ?_
 refine w_m ?_
 refine l_of (s_val (v:=.int .i64 ((pz:Int))) (wt1 rfl rfl rfl rfl (decide_eq_false (by omega))) rfl rfl (x_move rfl rfl) ?_)
 refine l_of (s_val (v:=.bool (decide (((pz:Int):Int)<16))) (wt1 rfl rfl rfl rfl (decide_eq_false (by omega))) rfl rfl (x_bin rfl rfl rfl b_lss) ?_)
 refine w_v (x_pick_f rfl rfl (decide_eq_false (by omega)) rfl) ?_
 refine w_m ?_
 refine l_of (s_val (v:=.int .i64 ((pz:Int))) (wt1 rfl rfl rfl rfl (decide_eq_false (by omega))) rfl rfl (x_move rfl rfl) ?_)
 refine l_of (s_val (v:=.bool (decide ((1024:Int)<(pz:Int)))) (wt1 rfl rfl rfl rfl (decide_eq_false (by omega))) rfl rfl (x_bin rfl rfl rfl b_gtr) ?_)
 refine w_v (x_pick_f rfl rfl (decide_eq_false (by omega)) rfl) ?_
 refine w_m ?_
 refine l_of (s_val (v:=.int .i64 ((pz:Int))) (wt1 rfl rfl rfl rfl (decide_eq_false (by omega))) rfl rfl (x_move rfl rfl) ?_)
 refine l_of (s_val (v:=.int .i64 ((pz:Int) % 16)) (wt1 rfl rfl rfl rfl (decide_eq_false (by omega))) rfl rfl (x_bin rfl rfl rfl (b_rem (by omega) (rem0 (by omega)))) ?_)
 refine l_of (s_val (v:=.bool (!decide (((pz:Int) % 16:Int)=0))) (wt1 rfl rfl rfl rfl (decide_eq_false (by omega))) rfl rfl (x_bin rfl rfl rfl b_neq) ?_)
 refine w_v (x_pick_f rfl rfl (decide_eq_false (by omega)) rfl) ?_
 refine w_m ?_
 refine l_of (s_val (v:=.int .i64 ((la:Int))) (wt1 rfl rfl rfl rfl (nf (by omega))) rfl rfl (x_move rfl rfl) ?_)
 refine l_of (s_val (v:=.bool (decide (((la:Int):Int)<1))) (wt1 rfl rfl rfl rfl (nf (by omega))) rfl rfl (x_bin rfl rfl rfl b_lss) ?_)
 refine w_v (x_pick_f rfl rfl (nf (by omega)) rfl) ?_
 refine w_m ?_
 refine l_of (s_val (v:=.int .i64 ((la:Int))) (wt1 rfl rfl rfl rfl (decide_eq_false (by omega))) rfl rfl (x_move rfl rfl) ?_)
 refine l_of (s_val (v:=.int .i64 ((pz:Int))) (wt1 rfl rfl rfl rfl (decide_eq_false (by omega))) rfl rfl (x_move rfl rfl) ?_)
 refine l_of (s_val (v:=.bool (decide (((pz:Int):Int)<(la:Int)))) (wt1 rfl rfl rfl rfl (decide_eq_false (by omega))) rfl rfl (x_bin rfl rfl rfl b_gtr) ?_)
 refine w_v (x_pick_f rfl rfl (decide_eq_false (by omega)) rfl) ?_
 refine w_k2 ?_
 refine g_wk [(0,_),(1,_),(2,_),(3,_),(4,_),(18,_)] ?_
 refine g_cond_f rfl (decide_eq_false (by omega)) ?_
 refine w_k3 ?_
 refine g_seq ?_
 refine g_cut (ι:=Nat × Option Addr × Option Addr × Nat × Nat) (fun (g,hp,wp,mg,bg)=>[(12,.pointer (some ⟨g,0,none⟩))]) (fun (g,hp,wp,mg,bg) wx=>S wx [Ob g (.cells #[.map (some mg),.int .i64 ((n:Int)),.int .i64 ((pz:Int)),.int .i64 ((la:Int)),.string seed,.bool ino,.slice hp ((List.replicate n false).length) n,.slice wp ((List.replicate n (⟨0,0⟩:Wis)).length) n,.map (some bg)] 85 (0,0)),Rw 4 1 hp ((List.replicate n false).length) n (fl boolL (List.replicate n false)),Rw 40 2 wp ((List.replicate n (⟨0,0⟩:Wis)).length) n (fl wisL (List.replicate n (⟨0,0⟩:Wis))),Mp (Value.int .i64) ptV okI mg (fun _=>none),Mp plK ptV okP bg (fun _=>none),Old w no]) ?_ ?_
 ·
  refine g_any [] (fun _=>True) [] (by kernel_rfl) H0 (fun wq1 H2=>?_)
  refine a_pure (v:=.int .i64 ((n:Int))) 2 rfl (wt0 rfl) rfl rfl rfl (by kernel_rfl) (by kernel_rfl) (by kernel_rfl) (.inr fun _=>trivial) (fun wx=>x_move rfl rfl) ?_
  refine a_pure (v:=.int .i64 ((pz:Int))) 3 rfl (wt0 rfl) rfl rfl rfl (by kernel_rfl) (by kernel_rfl) (by kernel_rfl) (.inr fun _=>trivial) (fun wx=>x_move rfl rfl) ?_
  refine a_pure (v:=.int .i64 ((la:Int))) 4 rfl (wt0 rfl) rfl rfl rfl (by kernel_rfl) (by kernel_rfl) (by kernel_rfl) (.inr fun _=>trivial) (fun wx=>x_move rfl rfl) ?_
  refine a_pure (v:=.string seed) 5 rfl (wt0 rfl) rfl rfl rfl (by kernel_rfl) (by kernel_rfl) (by kernel_rfl) (.inr fun _=>trivial) (fun wx=>x_move rfl rfl) ?_
  refine a_pure (v:=.bool ino) 6 rfl (wt0 rfl) rfl rfl rfl (by kernel_rfl) (by kernel_rfl) (by kernel_rfl) (.inr fun _=>trivial) (fun wx=>x_move rfl rfl) ?_
  refine a_pure (v:=.int .i64 ((n:Int))) 7 rfl (wt0 rfl) rfl rfl rfl (by kernel_rfl) (by kernel_rfl) (by kernel_rfl) (.inr fun _=>trivial) (fun wx=>x_move rfl rfl) ?_
  refine a_pure (v:=.int .i64 ((n:Int))) 9 rfl (wt0 rfl) rfl rfl rfl (by kernel_rfl) (by kernel_rfl) (by kernel_rfl) (.inr fun _=>trivial) (fun wx=>x_move rfl rfl) ?_
  refine a_four (i:=0) (j:=8) (k:=10) (l:=11) (by kernel_rfl) rfl rfl rfl rfl ?_ ?_ ?_ ?_
  ·
   refine s_makeMap (α:=Nat) (Value.int .i64) ptV okI H2 (wt0 rfl) rfl rfl rfl ?_
   intro mg3 wq4 H5
   refine a_k trivial ?_
   refine a_pure (v:=.agg #[.map (some mg3)]) 1 rfl (wt0 rfl) rfl rfl rfl (by kernel_rfl) (by kernel_rfl) (by kernel_rfl) (.inr fun _=>trivial) (fun wx=>x_build (vs:=[.map (some mg3)]) rfl rfl (cells:=#[.map (some mg3)]) (by kernel_rfl)) ?_
   refine a_three (i:=8) (j:=10) (k:=11) (by kernel_rfl) rfl rfl rfl ?_ ?_ ?_
   ·
    refine s_makeB n H5 (wt0 rfl) rfl rfl rfl rfl rfl Tryz.underlying38 inf4 (by omega) ?_
    intro g6 wq7 H8
    refine a_k trivial ?_
    refine a_two (i:=10) (j:=11) (by kernel_rfl) rfl rfl ?_ ?_
    ·
     refine s_makeW n H8 (wt0 rfl) rfl rfl rfl rfl rfl Tryz.underlying24 inf40 rfl (by omega) ?_
     intro g9 wq10 H11
     refine a_k trivial ?_
     refine a_one (i:=11) (by kernel_rfl) rfl ?_
     refine s_makeMap (α:=Nat) plK ptV okP H11 (wt0 rfl) rfl rfl rfl ?_
     intro mg12 wq13 H14
     refine a_k trivial ?_
     refine a_pure (v:=.agg #[.map (some mg3),.int .i64 ((n:Int)),.int .i64 ((pz:Int)),.int .i64 ((la:Int)),.string seed,.bool ino,.slice (some ⟨g6,0,none⟩) ((List.replicate n false).length) n,.slice (some ⟨g9,0,none⟩) ((List.replicate n (⟨0,0⟩:Wis)).length) n,.map (some mg12)]) 12 rfl (wt0 rfl) rfl rfl rfl (by kernel_rfl) (by kernel_rfl) (by kernel_rfl) (.inr fun _=>trivial) (fun wx=>x_build (vs:=[.agg #[.map (some mg3)],.int .i64 ((n:Int)),.int .i64 ((pz:Int)),.int .i64 ((la:Int)),.string seed,.bool ino,.slice (some ⟨g6,0,none⟩) ((List.replicate n false).length) n,.slice (some ⟨g9,0,none⟩) ((List.replicate n (⟨0,0⟩:Wis)).length) n,.map (some mg12)]) rfl rfl (cells:=#[.map (some mg3),.int .i64 ((n:Int)),.int .i64 ((pz:Int)),.int .i64 ((la:Int)),.string seed,.bool ino,.slice (some ⟨g6,0,none⟩) ((List.replicate n false).length) n,.slice (some ⟨g9,0,none⟩) ((List.replicate n (⟨0,0⟩:Wis)).length) n,.map (some mg12)]) (by kernel_rfl)) ?_
     refine a_one (i:=13) (by kernel_rfl) rfl ?_
     refine s_box H14 (wt0 rfl) rfl rfl rfl rfl ?_
     intro g15 wq16 H17
     refine a_k trivial ?_
     refine a_one (i:=14) (by kernel_rfl) rfl ?_
     refine s_v xa ?_
     refine a_k trivial ?_
     refine a_done (by kernel_rfl) ?_
     refine w_0 ?_
     refine g_mid (g15,(some ⟨g6,0,none⟩),(some ⟨g9,0,none⟩),mg3,mg12) ?_ ?_
     · exact ⟨rfl,trivial⟩
     · exact (H17.tk [0,3,2,4,1,5])
    ·
     refine s_makeMap (α:=Nat) plK ptV okP H8 (wt0 rfl) rfl rfl rfl ?_
     intro mg18 wq19 H20
     refine a_k trivial ?_
     refine a_one (i:=10) (by kernel_rfl) rfl ?_
     refine s_makeW n H20 (wt0 rfl) rfl rfl rfl rfl rfl Tryz.underlying24 inf40 rfl (by omega) ?_
     intro g21 wq22 H23
     refine a_k trivial ?_
     refine a_pure (v:=.agg #[.map (some mg3),.int .i64 ((n:Int)),.int .i64 ((pz:Int)),.int .i64 ((la:Int)),.string seed,.bool ino,.slice (some ⟨g6,0,none⟩) ((List.replicate n false).length) n,.slice (some ⟨g21,0,none⟩) ((List.replicate n (⟨0,0⟩:Wis)).length) n,.map (some mg18)]) 12 rfl (wt0 rfl) rfl rfl rfl (by kernel_rfl) (by kernel_rfl) (by kernel_rfl) (.inr fun _=>trivial) (fun wx=>x_build (vs:=[.agg #[.map (some mg3)],.int .i64 ((n:Int)),.int .i64 ((pz:Int)),.int .i64 ((la:Int)),.string seed,.bool ino,.slice (some ⟨g6,0,none⟩) ((List.replicate n false).length) n,.slice (some ⟨g21,0,none⟩) ((List.replicate n (⟨0,0⟩:Wis)).length) n,.map (some mg18)]) rfl rfl (cells:=#[.map (some mg3),.int .i64 ((n:Int)),.int .i64 ((pz:Int)),.int .i64 ((la:Int)),.string seed,.bool ino,.slice (some ⟨g6,0,none⟩) ((List.replicate n false).length) n,.slice (some ⟨g21,0,none⟩) ((List.replicate n (⟨0,0⟩:Wis)).length) n,.map (some mg18)]) (by kernel_rfl)) ?_
     refine a_one (i:=13) (by kernel_rfl) rfl ?_
     refine s_box H23 (wt0 rfl) rfl rfl rfl rfl ?_
     intro g24 wq25 H26
     refine a_k trivial ?_
     refine a_one (i:=14) (by kernel_rfl) rfl ?_
     refine s_v xa ?_
     refine a_k trivial ?_
     refine a_done (by kernel_rfl) ?_
     refine w_0 ?_
     refine g_mid (g24,(some ⟨g6,0,none⟩),(some ⟨g21,0,none⟩),mg3,mg18) ?_ ?_
     · exact ⟨rfl,trivial⟩
     · exact (H26.tk [0,3,1,4,2,5])
   ·
    refine s_makeW n H5 (wt0 rfl) rfl rfl rfl rfl rfl Tryz.underlying24 inf40 rfl (by omega) ?_
    intro g27 wq28 H29
    refine a_k trivial ?_
    refine a_two (i:=8) (j:=11) (by kernel_rfl) rfl rfl ?_ ?_
    ·
     refine s_makeB n H29 (wt0 rfl) rfl rfl rfl rfl rfl Tryz.underlying38 inf4 (by omega) ?_
     intro g30 wq31 H32
     refine a_k trivial ?_
     refine a_one (i:=11) (by kernel_rfl) rfl ?_
     refine s_makeMap (α:=Nat) plK ptV okP H32 (wt0 rfl) rfl rfl rfl ?_
     intro mg33 wq34 H35
     refine a_k trivial ?_
     refine a_pure (v:=.agg #[.map (some mg3),.int .i64 ((n:Int)),.int .i64 ((pz:Int)),.int .i64 ((la:Int)),.string seed,.bool ino,.slice (some ⟨g30,0,none⟩) ((List.replicate n false).length) n,.slice (some ⟨g27,0,none⟩) ((List.replicate n (⟨0,0⟩:Wis)).length) n,.map (some mg33)]) 12 rfl (wt0 rfl) rfl rfl rfl (by kernel_rfl) (by kernel_rfl) (by kernel_rfl) (.inr fun _=>trivial) (fun wx=>x_build (vs:=[.agg #[.map (some mg3)],.int .i64 ((n:Int)),.int .i64 ((pz:Int)),.int .i64 ((la:Int)),.string seed,.bool ino,.slice (some ⟨g30,0,none⟩) ((List.replicate n false).length) n,.slice (some ⟨g27,0,none⟩) ((List.replicate n (⟨0,0⟩:Wis)).length) n,.map (some mg33)]) rfl rfl (cells:=#[.map (some mg3),.int .i64 ((n:Int)),.int .i64 ((pz:Int)),.int .i64 ((la:Int)),.string seed,.bool ino,.slice (some ⟨g30,0,none⟩) ((List.replicate n false).length) n,.slice (some ⟨g27,0,none⟩) ((List.replicate n (⟨0,0⟩:Wis)).length) n,.map (some mg33)]) (by kernel_rfl)) ?_
     refine a_one (i:=13) (by kernel_rfl) rfl ?_
     refine s_box H35 (wt0 rfl) rfl rfl rfl rfl ?_
     intro g36 wq37 H38
     refine a_k trivial ?_
     refine a_one (i:=14) (by kernel_rfl) rfl ?_
     refine s_v xa ?_
     refine a_k trivial ?_
     refine a_done (by kernel_rfl) ?_
     refine w_0 ?_
     refine g_mid (g36,(some ⟨g30,0,none⟩),(some ⟨g27,0,none⟩),mg3,mg33) ?_ ?_
     · exact ⟨rfl,trivial⟩
     · exact (H38.tk [0,2,3,4,1,5])
    ·
     refine s_makeMap (α:=Nat) plK ptV okP H29 (wt0 rfl) rfl rfl rfl ?_
     intro mg39 wq40 H41
     refine a_k trivial ?_
     refine a_one (i:=8) (by kernel_rfl) rfl ?_
     refine s_makeB n H41 (wt0 rfl) rfl rfl rfl rfl rfl Tryz.underlying38 inf4 (by omega) ?_
     intro g42 wq43 H44
     refine a_k trivial ?_
     refine a_pure (v:=.agg #[.map (some mg3),.int .i64 ((n:Int)),.int .i64 ((pz:Int)),.int .i64 ((la:Int)),.string seed,.bool ino,.slice (some ⟨g42,0,none⟩) ((List.replicate n false).length) n,.slice (some ⟨g27,0,none⟩) ((List.replicate n (⟨0,0⟩:Wis)).length) n,.map (some mg39)]) 12 rfl (wt0 rfl) rfl rfl rfl (by kernel_rfl) (by kernel_rfl) (by kernel_rfl) (.inr fun _=>trivial) (fun wx=>x_build (vs:=[.agg #[.map (some mg3)],.int .i64 ((n:Int)),.int .i64 ((pz:Int)),.int .i64 ((la:Int)),.string seed,.bool ino,.slice (some ⟨g42,0,none⟩) ((List.replicate n false).length) n,.slice (some ⟨g27,0,none⟩) ((List.replicate n (⟨0,0⟩:Wis)).length) n,.map (some mg39)]) rfl rfl (cells:=#[.map (some mg3),.int .i64 ((n:Int)),.int .i64 ((pz:Int)),.int .i64 ((la:Int)),.string seed,.bool ino,.slice (some ⟨g42,0,none⟩) ((List.replicate n false).length) n,.slice (some ⟨g27,0,none⟩) ((List.replicate n (⟨0,0⟩:Wis)).length) n,.map (some mg39)]) (by kernel_rfl)) ?_
     refine a_one (i:=13) (by kernel_rfl) rfl ?_
     refine s_box H44 (wt0 rfl) rfl rfl rfl rfl ?_
     intro g45 wq46 H47
     refine a_k trivial ?_
     refine a_one (i:=14) (by kernel_rfl) rfl ?_
     refine s_v xa ?_
     refine a_k trivial ?_
     refine a_done (by kernel_rfl) ?_
     refine w_0 ?_
     refine g_mid (g45,(some ⟨g42,0,none⟩),(some ⟨g27,0,none⟩),mg3,mg39) ?_ ?_
     · exact ⟨rfl,trivial⟩
     · exact (H47.tk [0,1,3,4,2,5])
   ·
    refine s_makeMap (α:=Nat) plK ptV okP H5 (wt0 rfl) rfl rfl rfl ?_
    intro mg48 wq49 H50
    refine a_k trivial ?_
    refine a_two (i:=8) (j:=10) (by kernel_rfl) rfl rfl ?_ ?_
    ·
     refine s_makeB n H50 (wt0 rfl) rfl rfl rfl rfl rfl Tryz.underlying38 inf4 (by omega) ?_
     intro g51 wq52 H53
     refine a_k trivial ?_
     refine a_one (i:=10) (by kernel_rfl) rfl ?_
     refine s_makeW n H53 (wt0 rfl) rfl rfl rfl rfl rfl Tryz.underlying24 inf40 rfl (by omega) ?_
     intro g54 wq55 H56
     refine a_k trivial ?_
     refine a_pure (v:=.agg #[.map (some mg3),.int .i64 ((n:Int)),.int .i64 ((pz:Int)),.int .i64 ((la:Int)),.string seed,.bool ino,.slice (some ⟨g51,0,none⟩) ((List.replicate n false).length) n,.slice (some ⟨g54,0,none⟩) ((List.replicate n (⟨0,0⟩:Wis)).length) n,.map (some mg48)]) 12 rfl (wt0 rfl) rfl rfl rfl (by kernel_rfl) (by kernel_rfl) (by kernel_rfl) (.inr fun _=>trivial) (fun wx=>x_build (vs:=[.agg #[.map (some mg3)],.int .i64 ((n:Int)),.int .i64 ((pz:Int)),.int .i64 ((la:Int)),.string seed,.bool ino,.slice (some ⟨g51,0,none⟩) ((List.replicate n false).length) n,.slice (some ⟨g54,0,none⟩) ((List.replicate n (⟨0,0⟩:Wis)).length) n,.map (some mg48)]) rfl rfl (cells:=#[.map (some mg3),.int .i64 ((n:Int)),.int .i64 ((pz:Int)),.int .i64 ((la:Int)),.string seed,.bool ino,.slice (some ⟨g51,0,none⟩) ((List.replicate n false).length) n,.slice (some ⟨g54,0,none⟩) ((List.replicate n (⟨0,0⟩:Wis)).length) n,.map (some mg48)]) (by kernel_rfl)) ?_
     refine a_one (i:=13) (by kernel_rfl) rfl ?_
     refine s_box H56 (wt0 rfl) rfl rfl rfl rfl ?_
     intro g57 wq58 H59
     refine a_k trivial ?_
     refine a_one (i:=14) (by kernel_rfl) rfl ?_
     refine s_v xa ?_
     refine a_k trivial ?_
     refine a_done (by kernel_rfl) ?_
     refine w_0 ?_
     refine g_mid (g57,(some ⟨g51,0,none⟩),(some ⟨g54,0,none⟩),mg3,mg48) ?_ ?_
     · exact ⟨rfl,trivial⟩
     · exact (H59.tk [0,2,1,4,3,5])
    ·
     refine s_makeW n H50 (wt0 rfl) rfl rfl rfl rfl rfl Tryz.underlying24 inf40 rfl (by omega) ?_
     intro g60 wq61 H62
     refine a_k trivial ?_
     refine a_one (i:=8) (by kernel_rfl) rfl ?_
     refine s_makeB n H62 (wt0 rfl) rfl rfl rfl rfl rfl Tryz.underlying38 inf4 (by omega) ?_
     intro g63 wq64 H65
     refine a_k trivial ?_
     refine a_pure (v:=.agg #[.map (some mg3),.int .i64 ((n:Int)),.int .i64 ((pz:Int)),.int .i64 ((la:Int)),.string seed,.bool ino,.slice (some ⟨g63,0,none⟩) ((List.replicate n false).length) n,.slice (some ⟨g60,0,none⟩) ((List.replicate n (⟨0,0⟩:Wis)).length) n,.map (some mg48)]) 12 rfl (wt0 rfl) rfl rfl rfl (by kernel_rfl) (by kernel_rfl) (by kernel_rfl) (.inr fun _=>trivial) (fun wx=>x_build (vs:=[.agg #[.map (some mg3)],.int .i64 ((n:Int)),.int .i64 ((pz:Int)),.int .i64 ((la:Int)),.string seed,.bool ino,.slice (some ⟨g63,0,none⟩) ((List.replicate n false).length) n,.slice (some ⟨g60,0,none⟩) ((List.replicate n (⟨0,0⟩:Wis)).length) n,.map (some mg48)]) rfl rfl (cells:=#[.map (some mg3),.int .i64 ((n:Int)),.int .i64 ((pz:Int)),.int .i64 ((la:Int)),.string seed,.bool ino,.slice (some ⟨g63,0,none⟩) ((List.replicate n false).length) n,.slice (some ⟨g60,0,none⟩) ((List.replicate n (⟨0,0⟩:Wis)).length) n,.map (some mg48)]) (by kernel_rfl)) ?_
     refine a_one (i:=13) (by kernel_rfl) rfl ?_
     refine s_box H65 (wt0 rfl) rfl rfl rfl rfl ?_
     intro g66 wq67 H68
     refine a_k trivial ?_
     refine a_one (i:=14) (by kernel_rfl) rfl ?_
     refine s_v xa ?_
     refine a_k trivial ?_
     refine a_done (by kernel_rfl) ?_
     refine w_0 ?_
     refine g_mid (g66,(some ⟨g63,0,none⟩),(some ⟨g60,0,none⟩),mg3,mg48) ?_ ?_
     · exact ⟨rfl,trivial⟩
     · exact (H68.tk [0,1,2,4,3,5])
  ·
   refine s_makeB n H2 (wt0 rfl) rfl rfl rfl rfl rfl Tryz.underlying38 inf4 (by omega) ?_
   intro g69 wq70 H71
   refine a_k trivial ?_
   refine a_three (i:=0) (j:=10) (k:=11) (by kernel_rfl) rfl rfl rfl ?_ ?_ ?_
   ·
    refine s_makeMap (α:=Nat) (Value.int .i64) ptV okI H71 (wt0 rfl) rfl rfl rfl ?_
    intro mg72 wq73 H74
    refine a_k trivial ?_
    refine a_pure (v:=.agg #[.map (some mg72)]) 1 rfl (wt0 rfl) rfl rfl rfl (by kernel_rfl) (by kernel_rfl) (by kernel_rfl) (.inr fun _=>trivial) (fun wx=>x_build (vs:=[.map (some mg72)]) rfl rfl (cells:=#[.map (some mg72)]) (by kernel_rfl)) ?_
    refine a_two (i:=10) (j:=11) (by kernel_rfl) rfl rfl ?_ ?_
    ·
     refine s_makeW n H74 (wt0 rfl) rfl rfl rfl rfl rfl Tryz.underlying24 inf40 rfl (by omega) ?_
     intro g75 wq76 H77
     refine a_k trivial ?_
     refine a_one (i:=11) (by kernel_rfl) rfl ?_
     refine s_makeMap (α:=Nat) plK ptV okP H77 (wt0 rfl) rfl rfl rfl ?_
     intro mg78 wq79 H80
     refine a_k trivial ?_
     refine a_pure (v:=.agg #[.map (some mg72),.int .i64 ((n:Int)),.int .i64 ((pz:Int)),.int .i64 ((la:Int)),.string seed,.bool ino,.slice (some ⟨g69,0,none⟩) ((List.replicate n false).length) n,.slice (some ⟨g75,0,none⟩) ((List.replicate n (⟨0,0⟩:Wis)).length) n,.map (some mg78)]) 12 rfl (wt0 rfl) rfl rfl rfl (by kernel_rfl) (by kernel_rfl) (by kernel_rfl) (.inr fun _=>trivial) (fun wx=>x_build (vs:=[.agg #[.map (some mg72)],.int .i64 ((n:Int)),.int .i64 ((pz:Int)),.int .i64 ((la:Int)),.string seed,.bool ino,.slice (some ⟨g69,0,none⟩) ((List.replicate n false).length) n,.slice (some ⟨g75,0,none⟩) ((List.replicate n (⟨0,0⟩:Wis)).length) n,.map (some mg78)]) rfl rfl (cells:=#[.map (some mg72),.int .i64 ((n:Int)),.int .i64 ((pz:Int)),.int .i64 ((la:Int)),.string seed,.bool ino,.slice (some ⟨g69,0,none⟩) ((List.replicate n false).length) n,.slice (some ⟨g75,0,none⟩) ((List.replicate n (⟨0,0⟩:Wis)).length) n,.map (some mg78)]) (by kernel_rfl)) ?_
     refine a_one (i:=13) (by kernel_rfl) rfl ?_
     refine s_box H80 (wt0 rfl) rfl rfl rfl rfl ?_
     intro g81 wq82 H83
     refine a_k trivial ?_
     refine a_one (i:=14) (by kernel_rfl) rfl ?_
     refine s_v xa ?_
     refine a_k trivial ?_
     refine a_done (by kernel_rfl) ?_
     refine w_0 ?_
     refine g_mid (g81,(some ⟨g69,0,none⟩),(some ⟨g75,0,none⟩),mg72,mg78) ?_ ?_
     · exact ⟨rfl,trivial⟩
     · exact (H83.tk [0,4,2,3,1,5])
    ·
     refine s_makeMap (α:=Nat) plK ptV okP H74 (wt0 rfl) rfl rfl rfl ?_
     intro mg84 wq85 H86
     refine a_k trivial ?_
     refine a_one (i:=10) (by kernel_rfl) rfl ?_
     refine s_makeW n H86 (wt0 rfl) rfl rfl rfl rfl rfl Tryz.underlying24 inf40 rfl (by omega) ?_
     intro g87 wq88 H89
     refine a_k trivial ?_
     refine a_pure (v:=.agg #[.map (some mg72),.int .i64 ((n:Int)),.int .i64 ((pz:Int)),.int .i64 ((la:Int)),.string seed,.bool ino,.slice (some ⟨g69,0,none⟩) ((List.replicate n false).length) n,.slice (some ⟨g87,0,none⟩) ((List.replicate n (⟨0,0⟩:Wis)).length) n,.map (some mg84)]) 12 rfl (wt0 rfl) rfl rfl rfl (by kernel_rfl) (by kernel_rfl) (by kernel_rfl) (.inr fun _=>trivial) (fun wx=>x_build (vs:=[.agg #[.map (some mg72)],.int .i64 ((n:Int)),.int .i64 ((pz:Int)),.int .i64 ((la:Int)),.string seed,.bool ino,.slice (some ⟨g69,0,none⟩) ((List.replicate n false).length) n,.slice (some ⟨g87,0,none⟩) ((List.replicate n (⟨0,0⟩:Wis)).length) n,.map (some mg84)]) rfl rfl (cells:=#[.map (some mg72),.int .i64 ((n:Int)),.int .i64 ((pz:Int)),.int .i64 ((la:Int)),.string seed,.bool ino,.slice (some ⟨g69,0,none⟩) ((List.replicate n false).length) n,.slice (some ⟨g87,0,none⟩) ((List.replicate n (⟨0,0⟩:Wis)).length) n,.map (some mg84)]) (by kernel_rfl)) ?_
     refine a_one (i:=13) (by kernel_rfl) rfl ?_
     refine s_box H89 (wt0 rfl) rfl rfl rfl rfl ?_
     intro g90 wq91 H92
     refine a_k trivial ?_
     refine a_one (i:=14) (by kernel_rfl) rfl ?_
     refine s_v xa ?_
     refine a_k trivial ?_
     refine a_done (by kernel_rfl) ?_
     refine w_0 ?_
     refine g_mid (g90,(some ⟨g69,0,none⟩),(some ⟨g87,0,none⟩),mg72,mg84) ?_ ?_
     · exact ⟨rfl,trivial⟩
     · exact (H92.tk [0,4,1,3,2,5])
   ·
    refine s_makeW n H71 (wt0 rfl) rfl rfl rfl rfl rfl Tryz.underlying24 inf40 rfl (by omega) ?_
    intro g93 wq94 H95
    refine a_k trivial ?_
    refine a_two (i:=0) (j:=11) (by kernel_rfl) rfl rfl ?_ ?_
    ·
     refine s_makeMap (α:=Nat) (Value.int .i64) ptV okI H95 (wt0 rfl) rfl rfl rfl ?_
     intro mg96 wq97 H98
     refine a_k trivial ?_
     refine a_pure (v:=.agg #[.map (some mg96)]) 1 rfl (wt0 rfl) rfl rfl rfl (by kernel_rfl) (by kernel_rfl) (by kernel_rfl) (.inr fun _=>trivial) (fun wx=>x_build (vs:=[.map (some mg96)]) rfl rfl (cells:=#[.map (some mg96)]) (by kernel_rfl)) ?_
     refine a_one (i:=11) (by kernel_rfl) rfl ?_
     refine s_makeMap (α:=Nat) plK ptV okP H98 (wt0 rfl) rfl rfl rfl ?_
     intro mg99 wq100 H101
     refine a_k trivial ?_
     refine a_pure (v:=.agg #[.map (some mg96),.int .i64 ((n:Int)),.int .i64 ((pz:Int)),.int .i64 ((la:Int)),.string seed,.bool ino,.slice (some ⟨g69,0,none⟩) ((List.replicate n false).length) n,.slice (some ⟨g93,0,none⟩) ((List.replicate n (⟨0,0⟩:Wis)).length) n,.map (some mg99)]) 12 rfl (wt0 rfl) rfl rfl rfl (by kernel_rfl) (by kernel_rfl) (by kernel_rfl) (.inr fun _=>trivial) (fun wx=>x_build (vs:=[.agg #[.map (some mg96)],.int .i64 ((n:Int)),.int .i64 ((pz:Int)),.int .i64 ((la:Int)),.string seed,.bool ino,.slice (some ⟨g69,0,none⟩) ((List.replicate n false).length) n,.slice (some ⟨g93,0,none⟩) ((List.replicate n (⟨0,0⟩:Wis)).length) n,.map (some mg99)]) rfl rfl (cells:=#[.map (some mg96),.int .i64 ((n:Int)),.int .i64 ((pz:Int)),.int .i64 ((la:Int)),.string seed,.bool ino,.slice (some ⟨g69,0,none⟩) ((List.replicate n false).length) n,.slice (some ⟨g93,0,none⟩) ((List.replicate n (⟨0,0⟩:Wis)).length) n,.map (some mg99)]) (by kernel_rfl)) ?_
     refine a_one (i:=13) (by kernel_rfl) rfl ?_
     refine s_box H101 (wt0 rfl) rfl rfl rfl rfl ?_
     intro g102 wq103 H104
     refine a_k trivial ?_
     refine a_one (i:=14) (by kernel_rfl) rfl ?_
     refine s_v xa ?_
     refine a_k trivial ?_
     refine a_done (by kernel_rfl) ?_
     refine w_0 ?_
     refine g_mid (g102,(some ⟨g69,0,none⟩),(some ⟨g93,0,none⟩),mg96,mg99) ?_ ?_
     · exact ⟨rfl,trivial⟩
     · exact (H104.tk [0,4,3,2,1,5])
    ·
     refine s_makeMap (α:=Nat) plK ptV okP H95 (wt0 rfl) rfl rfl rfl ?_
     intro mg105 wq106 H107
     refine a_k trivial ?_
     refine a_one (i:=0) (by kernel_rfl) rfl ?_
     refine s_makeMap (α:=Nat) (Value.int .i64) ptV okI H107 (wt0 rfl) rfl rfl rfl ?_
     intro mg108 wq109 H110
     refine a_k trivial ?_
     refine a_pure (v:=.agg #[.map (some mg108)]) 1 rfl (wt0 rfl) rfl rfl rfl (by kernel_rfl) (by kernel_rfl) (by kernel_rfl) (.inr fun _=>trivial) (fun wx=>x_build (vs:=[.map (some mg108)]) rfl rfl (cells:=#[.map (some mg108)]) (by kernel_rfl)) ?_
     refine a_pure (v:=.agg #[.map (some mg108),.int .i64 ((n:Int)),.int .i64 ((pz:Int)),.int .i64 ((la:Int)),.string seed,.bool ino,.slice (some ⟨g69,0,none⟩) ((List.replicate n false).length) n,.slice (some ⟨g93,0,none⟩) ((List.replicate n (⟨0,0⟩:Wis)).length) n,.map (some mg105)]) 12 rfl (wt0 rfl) rfl rfl rfl (by kernel_rfl) (by kernel_rfl) (by kernel_rfl) (.inr fun _=>trivial) (fun wx=>x_build (vs:=[.agg #[.map (some mg108)],.int .i64 ((n:Int)),.int .i64 ((pz:Int)),.int .i64 ((la:Int)),.string seed,.bool ino,.slice (some ⟨g69,0,none⟩) ((List.replicate n false).length) n,.slice (some ⟨g93,0,none⟩) ((List.replicate n (⟨0,0⟩:Wis)).length) n,.map (some mg105)]) rfl rfl (cells:=#[.map (some mg108),.int .i64 ((n:Int)),.int .i64 ((pz:Int)),.int .i64 ((la:Int)),.string seed,.bool ino,.slice (some ⟨g69,0,none⟩) ((List.replicate n false).length) n,.slice (some ⟨g93,0,none⟩) ((List.replicate n (⟨0,0⟩:Wis)).length) n,.map (some mg105)]) (by kernel_rfl)) ?_
     refine a_one (i:=13) (by kernel_rfl) rfl ?_
     refine s_box H110 (wt0 rfl) rfl rfl rfl rfl ?_
     intro g111 wq112 H113
     refine a_k trivial ?_
     refine a_one (i:=14) (by kernel_rfl) rfl ?_
     refine s_v xa ?_
     refine a_k trivial ?_
     refine a_done (by kernel_rfl) ?_
     refine w_0 ?_
     refine g_mid (g111,(some ⟨g69,0,none⟩),(some ⟨g93,0,none⟩),mg108,mg105) ?_ ?_
     · exact ⟨rfl,trivial⟩
     · exact (H113.tk [0,4,3,1,2,5])
   ·
    refine s_makeMap (α:=Nat) plK ptV okP H71 (wt0 rfl) rfl rfl rfl ?_
    intro mg114 wq115 H116
    refine a_k trivial ?_
    refine a_two (i:=0) (j:=10) (by kernel_rfl) rfl rfl ?_ ?_
    ·
     refine s_makeMap (α:=Nat) (Value.int .i64) ptV okI H116 (wt0 rfl) rfl rfl rfl ?_
     intro mg117 wq118 H119
     refine a_k trivial ?_
     refine a_pure (v:=.agg #[.map (some mg117)]) 1 rfl (wt0 rfl) rfl rfl rfl (by kernel_rfl) (by kernel_rfl) (by kernel_rfl) (.inr fun _=>trivial) (fun wx=>x_build (vs:=[.map (some mg117)]) rfl rfl (cells:=#[.map (some mg117)]) (by kernel_rfl)) ?_
     refine a_one (i:=10) (by kernel_rfl) rfl ?_
     refine s_makeW n H119 (wt0 rfl) rfl rfl rfl rfl rfl Tryz.underlying24 inf40 rfl (by omega) ?_
     intro g120 wq121 H122
     refine a_k trivial ?_
     refine a_pure (v:=.agg #[.map (some mg117),.int .i64 ((n:Int)),.int .i64 ((pz:Int)),.int .i64 ((la:Int)),.string seed,.bool ino,.slice (some ⟨g69,0,none⟩) ((List.replicate n false).length) n,.slice (some ⟨g120,0,none⟩) ((List.replicate n (⟨0,0⟩:Wis)).length) n,.map (some mg114)]) 12 rfl (wt0 rfl) rfl rfl rfl (by kernel_rfl) (by kernel_rfl) (by kernel_rfl) (.inr fun _=>trivial) (fun wx=>x_build (vs:=[.agg #[.map (some mg117)],.int .i64 ((n:Int)),.int .i64 ((pz:Int)),.int .i64 ((la:Int)),.string seed,.bool ino,.slice (some ⟨g69,0,none⟩) ((List.replicate n false).length) n,.slice (some ⟨g120,0,none⟩) ((List.replicate n (⟨0,0⟩:Wis)).length) n,.map (some mg114)]) rfl rfl (cells:=#[.map (some mg117),.int .i64 ((n:Int)),.int .i64 ((pz:Int)),.int .i64 ((la:Int)),.string seed,.bool ino,.slice (some ⟨g69,0,none⟩) ((List.replicate n false).length) n,.slice (some ⟨g120,0,none⟩) ((List.replicate n (⟨0,0⟩:Wis)).length) n,.map (some mg114)]) (by kernel_rfl)) ?_
     refine a_one (i:=13) (by kernel_rfl) rfl ?_
     refine s_box H122 (wt0 rfl) rfl rfl rfl rfl ?_
     intro g123 wq124 H125
     refine a_k trivial ?_
     refine a_one (i:=14) (by kernel_rfl) rfl ?_
     refine s_v xa ?_
     refine a_k trivial ?_
     refine a_done (by kernel_rfl) ?_
     refine w_0 ?_
     refine g_mid (g123,(some ⟨g69,0,none⟩),(some ⟨g120,0,none⟩),mg117,mg114) ?_ ?_
     · exact ⟨rfl,trivial⟩
     · exact (H125.tk [0,4,1,2,3,5])
    ·
     refine s_makeW n H116 (wt0 rfl) rfl rfl rfl rfl rfl Tryz.underlying24 inf40 rfl (by omega) ?_
     intro g126 wq127 H128
     refine a_k trivial ?_
     refine a_one (i:=0) (by kernel_rfl) rfl ?_
     refine s_makeMap (α:=Nat) (Value.int .i64) ptV okI H128 (wt0 rfl) rfl rfl rfl ?_
     intro mg129 wq130 H131
     refine a_k trivial ?_
     refine a_pure (v:=.agg #[.map (some mg129)]) 1 rfl (wt0 rfl) rfl rfl rfl (by kernel_rfl) (by kernel_rfl) (by kernel_rfl) (.inr fun _=>trivial) (fun wx=>x_build (vs:=[.map (some mg129)]) rfl rfl (cells:=#[.map (some mg129)]) (by kernel_rfl)) ?_
     refine a_pure (v:=.agg #[.map (some mg129),.int .i64 ((n:Int)),.int .i64 ((pz:Int)),.int .i64 ((la:Int)),.string seed,.bool ino,.slice (some ⟨g69,0,none⟩) ((List.replicate n false).length) n,.slice (some ⟨g126,0,none⟩) ((List.replicate n (⟨0,0⟩:Wis)).length) n,.map (some mg114)]) 12 rfl (wt0 rfl) rfl rfl rfl (by kernel_rfl) (by kernel_rfl) (by kernel_rfl) (.inr fun _=>trivial) (fun wx=>x_build (vs:=[.agg #[.map (some mg129)],.int .i64 ((n:Int)),.int .i64 ((pz:Int)),.int .i64 ((la:Int)),.string seed,.bool ino,.slice (some ⟨g69,0,none⟩) ((List.replicate n false).length) n,.slice (some ⟨g126,0,none⟩) ((List.replicate n (⟨0,0⟩:Wis)).length) n,.map (some mg114)]) rfl rfl (cells:=#[.map (some mg129),.int .i64 ((n:Int)),.int .i64 ((pz:Int)),.int .i64 ((la:Int)),.string seed,.bool ino,.slice (some ⟨g69,0,none⟩) ((List.replicate n false).length) n,.slice (some ⟨g126,0,none⟩) ((List.replicate n (⟨0,0⟩:Wis)).length) n,.map (some mg114)]) (by kernel_rfl)) ?_
     refine a_one (i:=13) (by kernel_rfl) rfl ?_
     refine s_box H131 (wt0 rfl) rfl rfl rfl rfl ?_
     intro g132 wq133 H134
     refine a_k trivial ?_
     refine a_one (i:=14) (by kernel_rfl) rfl ?_
     refine s_v xa ?_
     refine a_k trivial ?_
     refine a_done (by kernel_rfl) ?_
     refine w_0 ?_
     refine g_mid (g132,(some ⟨g69,0,none⟩),(some ⟨g126,0,none⟩),mg129,mg114) ?_ ?_
     · exact ⟨rfl,trivial⟩
     · exact (H134.tk [0,4,2,1,3,5])
  ·
   refine s_makeW n H2 (wt0 rfl) rfl rfl rfl rfl rfl Tryz.underlying24 inf40 rfl (by omega) ?_
   intro g135 wq136 H137
   refine a_k trivial ?_
   refine a_three (i:=0) (j:=8) (k:=11) (by kernel_rfl) rfl rfl rfl ?_ ?_ ?_
   ·
    refine s_makeMap (α:=Nat) (Value.int .i64) ptV okI H137 (wt0 rfl) rfl rfl rfl ?_
    intro mg138 wq139 H140
    refine a_k trivial ?_
    refine a_pure (v:=.agg #[.map (some mg138)]) 1 rfl (wt0 rfl) rfl rfl rfl (by kernel_rfl) (by kernel_rfl) (by kernel_rfl) (.inr fun _=>trivial) (fun wx=>x_build (vs:=[.map (some mg138)]) rfl rfl (cells:=#[.map (some mg138)]) (by kernel_rfl)) ?_
    refine a_two (i:=8) (j:=11) (by kernel_rfl) rfl rfl ?_ ?_
    ·
     refine s_makeB n H140 (wt0 rfl) rfl rfl rfl rfl rfl Tryz.underlying38 inf4 (by omega) ?_
     intro g141 wq142 H143
     refine a_k trivial ?_
     refine a_one (i:=11) (by kernel_rfl) rfl ?_
     refine s_makeMap (α:=Nat) plK ptV okP H143 (wt0 rfl) rfl rfl rfl ?_
     intro mg144 wq145 H146
     refine a_k trivial ?_
     refine a_pure (v:=.agg #[.map (some mg138),.int .i64 ((n:Int)),.int .i64 ((pz:Int)),.int .i64 ((la:Int)),.string seed,.bool ino,.slice (some ⟨g141,0,none⟩) ((List.replicate n false).length) n,.slice (some ⟨g135,0,none⟩) ((List.replicate n (⟨0,0⟩:Wis)).length) n,.map (some mg144)]) 12 rfl (wt0 rfl) rfl rfl rfl (by kernel_rfl) (by kernel_rfl) (by kernel_rfl) (.inr fun _=>trivial) (fun wx=>x_build (vs:=[.agg #[.map (some mg138)],.int .i64 ((n:Int)),.int .i64 ((pz:Int)),.int .i64 ((la:Int)),.string seed,.bool ino,.slice (some ⟨g141,0,none⟩) ((List.replicate n false).length) n,.slice (some ⟨g135,0,none⟩) ((List.replicate n (⟨0,0⟩:Wis)).length) n,.map (some mg144)]) rfl rfl (cells:=#[.map (some mg138),.int .i64 ((n:Int)),.int .i64 ((pz:Int)),.int .i64 ((la:Int)),.string seed,.bool ino,.slice (some ⟨g141,0,none⟩) ((List.replicate n false).length) n,.slice (some ⟨g135,0,none⟩) ((List.replicate n (⟨0,0⟩:Wis)).length) n,.map (some mg144)]) (by kernel_rfl)) ?_
     refine a_one (i:=13) (by kernel_rfl) rfl ?_
     refine s_box H146 (wt0 rfl) rfl rfl rfl rfl ?_
     intro g147 wq148 H149
     refine a_k trivial ?_
     refine a_one (i:=14) (by kernel_rfl) rfl ?_
     refine s_v xa ?_
     refine a_k trivial ?_
     refine a_done (by kernel_rfl) ?_
     refine w_0 ?_
     refine g_mid (g147,(some ⟨g141,0,none⟩),(some ⟨g135,0,none⟩),mg138,mg144) ?_ ?_
     · exact ⟨rfl,trivial⟩
     · exact (H149.tk [0,2,4,3,1,5])
    ·
     refine s_makeMap (α:=Nat) plK ptV okP H140 (wt0 rfl) rfl rfl rfl ?_
     intro mg150 wq151 H152
     refine a_k trivial ?_
     refine a_one (i:=8) (by kernel_rfl) rfl ?_
     refine s_makeB n H152 (wt0 rfl) rfl rfl rfl rfl rfl Tryz.underlying38 inf4 (by omega) ?_
     intro g153 wq154 H155
     refine a_k trivial ?_
     refine a_pure (v:=.agg #[.map (some mg138),.int .i64 ((n:Int)),.int .i64 ((pz:Int)),.int .i64 ((la:Int)),.string seed,.bool ino,.slice (some ⟨g153,0,none⟩) ((List.replicate n false).length) n,.slice (some ⟨g135,0,none⟩) ((List.replicate n (⟨0,0⟩:Wis)).length) n,.map (some mg150)]) 12 rfl (wt0 rfl) rfl rfl rfl (by kernel_rfl) (by kernel_rfl) (by kernel_rfl) (.inr fun _=>trivial) (fun wx=>x_build (vs:=[.agg #[.map (some mg138)],.int .i64 ((n:Int)),.int .i64 ((pz:Int)),.int .i64 ((la:Int)),.string seed,.bool ino,.slice (some ⟨g153,0,none⟩) ((List.replicate n false).length) n,.slice (some ⟨g135,0,none⟩) ((List.replicate n (⟨0,0⟩:Wis)).length) n,.map (some mg150)]) rfl rfl (cells:=#[.map (some mg138),.int .i64 ((n:Int)),.int .i64 ((pz:Int)),.int .i64 ((la:Int)),.string seed,.bool ino,.slice (some ⟨g153,0,none⟩) ((List.replicate n false).length) n,.slice (some ⟨g135,0,none⟩) ((List.replicate n (⟨0,0⟩:Wis)).length) n,.map (some mg150)]) (by kernel_rfl)) ?_
     refine a_one (i:=13) (by kernel_rfl) rfl ?_
     refine s_box H155 (wt0 rfl) rfl rfl rfl rfl ?_
     intro g156 wq157 H158
     refine a_k trivial ?_
     refine a_one (i:=14) (by kernel_rfl) rfl ?_
     refine s_v xa ?_
     refine a_k trivial ?_
     refine a_done (by kernel_rfl) ?_
     refine w_0 ?_
     refine g_mid (g156,(some ⟨g153,0,none⟩),(some ⟨g135,0,none⟩),mg138,mg150) ?_ ?_
     · exact ⟨rfl,trivial⟩
     · exact (H158.tk [0,1,4,3,2,5])
   ·
    refine s_makeB n H137 (wt0 rfl) rfl rfl rfl rfl rfl Tryz.underlying38 inf4 (by omega) ?_
    intro g159 wq160 H161
    refine a_k trivial ?_
    refine a_two (i:=0) (j:=11) (by kernel_rfl) rfl rfl ?_ ?_
    ·
     refine s_makeMap (α:=Nat) (Value.int .i64) ptV okI H161 (wt0 rfl) rfl rfl rfl ?_
     intro mg162 wq163 H164
     refine a_k trivial ?_
     refine a_pure (v:=.agg #[.map (some mg162)]) 1 rfl (wt0 rfl) rfl rfl rfl (by kernel_rfl) (by kernel_rfl) (by kernel_rfl) (.inr fun _=>trivial) (fun wx=>x_build (vs:=[.map (some mg162)]) rfl rfl (cells:=#[.map (some mg162)]) (by kernel_rfl)) ?_
     refine a_one (i:=11) (by kernel_rfl) rfl ?_
     refine s_makeMap (α:=Nat) plK ptV okP H164 (wt0 rfl) rfl rfl rfl ?_
     intro mg165 wq166 H167
     refine a_k trivial ?_
     refine a_pure (v:=.agg #[.map (some mg162),.int .i64 ((n:Int)),.int .i64 ((pz:Int)),.int .i64 ((la:Int)),.string seed,.bool ino,.slice (some ⟨g159,0,none⟩) ((List.replicate n false).length) n,.slice (some ⟨g135,0,none⟩) ((List.replicate n (⟨0,0⟩:Wis)).length) n,.map (some mg165)]) 12 rfl (wt0 rfl) rfl rfl rfl (by kernel_rfl) (by kernel_rfl) (by kernel_rfl) (.inr fun _=>trivial) (fun wx=>x_build (vs:=[.agg #[.map (some mg162)],.int .i64 ((n:Int)),.int .i64 ((pz:Int)),.int .i64 ((la:Int)),.string seed,.bool ino,.slice (some ⟨g159,0,none⟩) ((List.replicate n false).length) n,.slice (some ⟨g135,0,none⟩) ((List.replicate n (⟨0,0⟩:Wis)).length) n,.map (some mg165)]) rfl rfl (cells:=#[.map (some mg162),.int .i64 ((n:Int)),.int .i64 ((pz:Int)),.int .i64 ((la:Int)),.string seed,.bool ino,.slice (some ⟨g159,0,none⟩) ((List.replicate n false).length) n,.slice (some ⟨g135,0,none⟩) ((List.replicate n (⟨0,0⟩:Wis)).length) n,.map (some mg165)]) (by kernel_rfl)) ?_
     refine a_one (i:=13) (by kernel_rfl) rfl ?_
     refine s_box H167 (wt0 rfl) rfl rfl rfl rfl ?_
     intro g168 wq169 H170
     refine a_k trivial ?_
     refine a_one (i:=14) (by kernel_rfl) rfl ?_
     refine s_v xa ?_
     refine a_k trivial ?_
     refine a_done (by kernel_rfl) ?_
     refine w_0 ?_
     refine g_mid (g168,(some ⟨g159,0,none⟩),(some ⟨g135,0,none⟩),mg162,mg165) ?_ ?_
     · exact ⟨rfl,trivial⟩
     · exact (H170.tk [0,3,4,2,1,5])
    ·
     refine s_makeMap (α:=Nat) plK ptV okP H161 (wt0 rfl) rfl rfl rfl ?_
     intro mg171 wq172 H173
     refine a_k trivial ?_
     refine a_one (i:=0) (by kernel_rfl) rfl ?_
     refine s_makeMap (α:=Nat) (Value.int .i64) ptV okI H173 (wt0 rfl) rfl rfl rfl ?_
     intro mg174 wq175 H176
     refine a_k trivial ?_
     refine a_pure (v:=.agg #[.map (some mg174)]) 1 rfl (wt0 rfl) rfl rfl rfl (by kernel_rfl) (by kernel_rfl) (by kernel_rfl) (.inr fun _=>trivial) (fun wx=>x_build (vs:=[.map (some mg174)]) rfl rfl (cells:=#[.map (some mg174)]) (by kernel_rfl)) ?_
     refine a_pure (v:=.agg #[.map (some mg174),.int .i64 ((n:Int)),.int .i64 ((pz:Int)),.int .i64 ((la:Int)),.string seed,.bool ino,.slice (some ⟨g159,0,none⟩) ((List.replicate n false).length) n,.slice (some ⟨g135,0,none⟩) ((List.replicate n (⟨0,0⟩:Wis)).length) n,.map (some mg171)]) 12 rfl (wt0 rfl) rfl rfl rfl (by kernel_rfl) (by kernel_rfl) (by kernel_rfl) (.inr fun _=>trivial) (fun wx=>x_build (vs:=[.agg #[.map (some mg174)],.int .i64 ((n:Int)),.int .i64 ((pz:Int)),.int .i64 ((la:Int)),.string seed,.bool ino,.slice (some ⟨g159,0,none⟩) ((List.replicate n false).length) n,.slice (some ⟨g135,0,none⟩) ((List.replicate n (⟨0,0⟩:Wis)).length) n,.map (some mg171)]) rfl rfl (cells:=#[.map (some mg174),.int .i64 ((n:Int)),.int .i64 ((pz:Int)),.int .i64 ((la:Int)),.string seed,.bool ino,.slice (some ⟨g159,0,none⟩) ((List.replicate n false).length) n,.slice (some ⟨g135,0,none⟩) ((List.replicate n (⟨0,0⟩:Wis)).length) n,.map (some mg171)]) (by kernel_rfl)) ?_
     refine a_one (i:=13) (by kernel_rfl) rfl ?_
     refine s_box H176 (wt0 rfl) rfl rfl rfl rfl ?_
     intro g177 wq178 H179
     refine a_k trivial ?_
     refine a_one (i:=14) (by kernel_rfl) rfl ?_
     refine s_v xa ?_
     refine a_k trivial ?_
     refine a_done (by kernel_rfl) ?_
     refine w_0 ?_
     refine g_mid (g177,(some ⟨g159,0,none⟩),(some ⟨g135,0,none⟩),mg174,mg171) ?_ ?_
     · exact ⟨rfl,trivial⟩
     · exact (H179.tk [0,3,4,1,2,5])
   ·
    refine s_makeMap (α:=Nat) plK ptV okP H137 (wt0 rfl) rfl rfl rfl ?_
    intro mg180 wq181 H182
    refine a_k trivial ?_
    refine a_two (i:=0) (j:=8) (by kernel_rfl) rfl rfl ?_ ?_
    ·
     refine s_makeMap (α:=Nat) (Value.int .i64) ptV okI H182 (wt0 rfl) rfl rfl rfl ?_
     intro mg183 wq184 H185
     refine a_k trivial ?_
     refine a_pure (v:=.agg #[.map (some mg183)]) 1 rfl (wt0 rfl) rfl rfl rfl (by kernel_rfl) (by kernel_rfl) (by kernel_rfl) (.inr fun _=>trivial) (fun wx=>x_build (vs:=[.map (some mg183)]) rfl rfl (cells:=#[.map (some mg183)]) (by kernel_rfl)) ?_
     refine a_one (i:=8) (by kernel_rfl) rfl ?_
     refine s_makeB n H185 (wt0 rfl) rfl rfl rfl rfl rfl Tryz.underlying38 inf4 (by omega) ?_
     intro g186 wq187 H188
     refine a_k trivial ?_
     refine a_pure (v:=.agg #[.map (some mg183),.int .i64 ((n:Int)),.int .i64 ((pz:Int)),.int .i64 ((la:Int)),.string seed,.bool ino,.slice (some ⟨g186,0,none⟩) ((List.replicate n false).length) n,.slice (some ⟨g135,0,none⟩) ((List.replicate n (⟨0,0⟩:Wis)).length) n,.map (some mg180)]) 12 rfl (wt0 rfl) rfl rfl rfl (by kernel_rfl) (by kernel_rfl) (by kernel_rfl) (.inr fun _=>trivial) (fun wx=>x_build (vs:=[.agg #[.map (some mg183)],.int .i64 ((n:Int)),.int .i64 ((pz:Int)),.int .i64 ((la:Int)),.string seed,.bool ino,.slice (some ⟨g186,0,none⟩) ((List.replicate n false).length) n,.slice (some ⟨g135,0,none⟩) ((List.replicate n (⟨0,0⟩:Wis)).length) n,.map (some mg180)]) rfl rfl (cells:=#[.map (some mg183),.int .i64 ((n:Int)),.int .i64 ((pz:Int)),.int .i64 ((la:Int)),.string seed,.bool ino,.slice (some ⟨g186,0,none⟩) ((List.replicate n false).length) n,.slice (some ⟨g135,0,none⟩) ((List.replicate n (⟨0,0⟩:Wis)).length) n,.map (some mg180)]) (by kernel_rfl)) ?_
     refine a_one (i:=13) (by kernel_rfl) rfl ?_
     refine s_box H188 (wt0 rfl) rfl rfl rfl rfl ?_
     intro g189 wq190 H191
     refine a_k trivial ?_
     refine a_one (i:=14) (by kernel_rfl) rfl ?_
     refine s_v xa ?_
     refine a_k trivial ?_
     refine a_done (by kernel_rfl) ?_
     refine w_0 ?_
     refine g_mid (g189,(some ⟨g186,0,none⟩),(some ⟨g135,0,none⟩),mg183,mg180) ?_ ?_
     · exact ⟨rfl,trivial⟩
     · exact (H191.tk [0,1,4,2,3,5])
    ·
     refine s_makeB n H182 (wt0 rfl) rfl rfl rfl rfl rfl Tryz.underlying38 inf4 (by omega) ?_
     intro g192 wq193 H194
     refine a_k trivial ?_
     refine a_one (i:=0) (by kernel_rfl) rfl ?_
     refine s_makeMap (α:=Nat) (Value.int .i64) ptV okI H194 (wt0 rfl) rfl rfl rfl ?_
     intro mg195 wq196 H197
     refine a_k trivial ?_
     refine a_pure (v:=.agg #[.map (some mg195)]) 1 rfl (wt0 rfl) rfl rfl rfl (by kernel_rfl) (by kernel_rfl) (by kernel_rfl) (.inr fun _=>trivial) (fun wx=>x_build (vs:=[.map (some mg195)]) rfl rfl (cells:=#[.map (some mg195)]) (by kernel_rfl)) ?_
     refine a_pure (v:=.agg #[.map (some mg195),.int .i64 ((n:Int)),.int .i64 ((pz:Int)),.int .i64 ((la:Int)),.string seed,.bool ino,.slice (some ⟨g192,0,none⟩) ((List.replicate n false).length) n,.slice (some ⟨g135,0,none⟩) ((List.replicate n (⟨0,0⟩:Wis)).length) n,.map (some mg180)]) 12 rfl (wt0 rfl) rfl rfl rfl (by kernel_rfl) (by kernel_rfl) (by kernel_rfl) (.inr fun _=>trivial) (fun wx=>x_build (vs:=[.agg #[.map (some mg195)],.int .i64 ((n:Int)),.int .i64 ((pz:Int)),.int .i64 ((la:Int)),.string seed,.bool ino,.slice (some ⟨g192,0,none⟩) ((List.replicate n false).length) n,.slice (some ⟨g135,0,none⟩) ((List.replicate n (⟨0,0⟩:Wis)).length) n,.map (some mg180)]) rfl rfl (cells:=#[.map (some mg195),.int .i64 ((n:Int)),.int .i64 ((pz:Int)),.int .i64 ((la:Int)),.string seed,.bool ino,.slice (some ⟨g192,0,none⟩) ((List.replicate n false).length) n,.slice (some ⟨g135,0,none⟩) ((List.replicate n (⟨0,0⟩:Wis)).length) n,.map (some mg180)]) (by kernel_rfl)) ?_
     refine a_one (i:=13) (by kernel_rfl) rfl ?_
     refine s_box H197 (wt0 rfl) rfl rfl rfl rfl ?_
     intro g198 wq199 H200
     refine a_k trivial ?_
     refine a_one (i:=14) (by kernel_rfl) rfl ?_
     refine s_v xa ?_
     refine a_k trivial ?_
     refine a_done (by kernel_rfl) ?_
     refine w_0 ?_
     refine g_mid (g198,(some ⟨g192,0,none⟩),(some ⟨g135,0,none⟩),mg195,mg180) ?_ ?_
     · exact ⟨rfl,trivial⟩
     · exact (H200.tk [0,2,4,1,3,5])
  ·
   refine s_makeMap (α:=Nat) plK ptV okP H2 (wt0 rfl) rfl rfl rfl ?_
   intro mg201 wq202 H203
   refine a_k trivial ?_
   refine a_three (i:=0) (j:=8) (k:=10) (by kernel_rfl) rfl rfl rfl ?_ ?_ ?_
   ·
    refine s_makeMap (α:=Nat) (Value.int .i64) ptV okI H203 (wt0 rfl) rfl rfl rfl ?_
    intro mg204 wq205 H206
    refine a_k trivial ?_
    refine a_pure (v:=.agg #[.map (some mg204)]) 1 rfl (wt0 rfl) rfl rfl rfl (by kernel_rfl) (by kernel_rfl) (by kernel_rfl) (.inr fun _=>trivial) (fun wx=>x_build (vs:=[.map (some mg204)]) rfl rfl (cells:=#[.map (some mg204)]) (by kernel_rfl)) ?_
    refine a_two (i:=8) (j:=10) (by kernel_rfl) rfl rfl ?_ ?_
    ·
     refine s_makeB n H206 (wt0 rfl) rfl rfl rfl rfl rfl Tryz.underlying38 inf4 (by omega) ?_
     intro g207 wq208 H209
     refine a_k trivial ?_
     refine a_one (i:=10) (by kernel_rfl) rfl ?_
     refine s_makeW n H209 (wt0 rfl) rfl rfl rfl rfl rfl Tryz.underlying24 inf40 rfl (by omega) ?_
     intro g210 wq211 H212
     refine a_k trivial ?_
     refine a_pure (v:=.agg #[.map (some mg204),.int .i64 ((n:Int)),.int .i64 ((pz:Int)),.int .i64 ((la:Int)),.string seed,.bool ino,.slice (some ⟨g207,0,none⟩) ((List.replicate n false).length) n,.slice (some ⟨g210,0,none⟩) ((List.replicate n (⟨0,0⟩:Wis)).length) n,.map (some mg201)]) 12 rfl (wt0 rfl) rfl rfl rfl (by kernel_rfl) (by kernel_rfl) (by kernel_rfl) (.inr fun _=>trivial) (fun wx=>x_build (vs:=[.agg #[.map (some mg204)],.int .i64 ((n:Int)),.int .i64 ((pz:Int)),.int .i64 ((la:Int)),.string seed,.bool ino,.slice (some ⟨g207,0,none⟩) ((List.replicate n false).length) n,.slice (some ⟨g210,0,none⟩) ((List.replicate n (⟨0,0⟩:Wis)).length) n,.map (some mg201)]) rfl rfl (cells:=#[.map (some mg204),.int .i64 ((n:Int)),.int .i64 ((pz:Int)),.int .i64 ((la:Int)),.string seed,.bool ino,.slice (some ⟨g207,0,none⟩) ((List.replicate n false).length) n,.slice (some ⟨g210,0,none⟩) ((List.replicate n (⟨0,0⟩:Wis)).length) n,.map (some mg201)]) (by kernel_rfl)) ?_
     refine a_one (i:=13) (by kernel_rfl) rfl ?_
     refine s_box H212 (wt0 rfl) rfl rfl rfl rfl ?_
     intro g213 wq214 H215
     refine a_k trivial ?_
     refine a_one (i:=14) (by kernel_rfl) rfl ?_
     refine s_v xa ?_
     refine a_k trivial ?_
     refine a_done (by kernel_rfl) ?_
     refine w_0 ?_
     refine g_mid (g213,(some ⟨g207,0,none⟩),(some ⟨g210,0,none⟩),mg204,mg201) ?_ ?_
     · exact ⟨rfl,trivial⟩
     · exact (H215.tk [0,2,1,3,4,5])
    ·
     refine s_makeW n H206 (wt0 rfl) rfl rfl rfl rfl rfl Tryz.underlying24 inf40 rfl (by omega) ?_
     intro g216 wq217 H218
     refine a_k trivial ?_
     refine a_one (i:=8) (by kernel_rfl) rfl ?_
     refine s_makeB n H218 (wt0 rfl) rfl rfl rfl rfl rfl Tryz.underlying38 inf4 (by omega) ?_
     intro g219 wq220 H221
     refine a_k trivial ?_
     refine a_pure (v:=.agg #[.map (some mg204),.int .i64 ((n:Int)),.int .i64 ((pz:Int)),.int .i64 ((la:Int)),.string seed,.bool ino,.slice (some ⟨g219,0,none⟩) ((List.replicate n false).length) n,.slice (some ⟨g216,0,none⟩) ((List.replicate n (⟨0,0⟩:Wis)).length) n,.map (some mg201)]) 12 rfl (wt0 rfl) rfl rfl rfl (by kernel_rfl) (by kernel_rfl) (by kernel_rfl) (.inr fun _=>trivial) (fun wx=>x_build (vs:=[.agg #[.map (some mg204)],.int .i64 ((n:Int)),.int .i64 ((pz:Int)),.int .i64 ((la:Int)),.string seed,.bool ino,.slice (some ⟨g219,0,none⟩) ((List.replicate n false).length) n,.slice (some ⟨g216,0,none⟩) ((List.replicate n (⟨0,0⟩:Wis)).length) n,.map (some mg201)]) rfl rfl (cells:=#[.map (some mg204),.int .i64 ((n:Int)),.int .i64 ((pz:Int)),.int .i64 ((la:Int)),.string seed,.bool ino,.slice (some ⟨g219,0,none⟩) ((List.replicate n false).length) n,.slice (some ⟨g216,0,none⟩) ((List.replicate n (⟨0,0⟩:Wis)).length) n,.map (some mg201)]) (by kernel_rfl)) ?_
     refine a_one (i:=13) (by kernel_rfl) rfl ?_
     refine s_box H221 (wt0 rfl) rfl rfl rfl rfl ?_
     intro g222 wq223 H224
     refine a_k trivial ?_
     refine a_one (i:=14) (by kernel_rfl) rfl ?_
     refine s_v xa ?_
     refine a_k trivial ?_
     refine a_done (by kernel_rfl) ?_
     refine w_0 ?_
     refine g_mid (g222,(some ⟨g219,0,none⟩),(some ⟨g216,0,none⟩),mg204,mg201) ?_ ?_
     · exact ⟨rfl,trivial⟩
     · exact (H224.tk [0,1,2,3,4,5])
   ·
    refine s_makeB n H203 (wt0 rfl) rfl rfl rfl rfl rfl Tryz.underlying38 inf4 (by omega) ?_
    intro g225 wq226 H227
    refine a_k trivial ?_
    refine a_two (i:=0) (j:=10) (by kernel_rfl) rfl rfl ?_ ?_
    ·
     refine s_makeMap (α:=Nat) (Value.int .i64) ptV okI H227 (wt0 rfl) rfl rfl rfl ?_
     intro mg228 wq229 H230
     refine a_k trivial ?_
     refine a_pure (v:=.agg #[.map (some mg228)]) 1 rfl (wt0 rfl) rfl rfl rfl (by kernel_rfl) (by kernel_rfl) (by kernel_rfl) (.inr fun _=>trivial) (fun wx=>x_build (vs:=[.map (some mg228)]) rfl rfl (cells:=#[.map (some mg228)]) (by kernel_rfl)) ?_
     refine a_one (i:=10) (by kernel_rfl) rfl ?_
     refine s_makeW n H230 (wt0 rfl) rfl rfl rfl rfl rfl Tryz.underlying24 inf40 rfl (by omega) ?_
     intro g231 wq232 H233
     refine a_k trivial ?_
     refine a_pure (v:=.agg #[.map (some mg228),.int .i64 ((n:Int)),.int .i64 ((pz:Int)),.int .i64 ((la:Int)),.string seed,.bool ino,.slice (some ⟨g225,0,none⟩) ((List.replicate n false).length) n,.slice (some ⟨g231,0,none⟩) ((List.replicate n (⟨0,0⟩:Wis)).length) n,.map (some mg201)]) 12 rfl (wt0 rfl) rfl rfl rfl (by kernel_rfl) (by kernel_rfl) (by kernel_rfl) (.inr fun _=>trivial) (fun wx=>x_build (vs:=[.agg #[.map (some mg228)],.int .i64 ((n:Int)),.int .i64 ((pz:Int)),.int .i64 ((la:Int)),.string seed,.bool ino,.slice (some ⟨g225,0,none⟩) ((List.replicate n false).length) n,.slice (some ⟨g231,0,none⟩) ((List.replicate n (⟨0,0⟩:Wis)).length) n,.map (some mg201)]) rfl rfl (cells:=#[.map (some mg228),.int .i64 ((n:Int)),.int .i64 ((pz:Int)),.int .i64 ((la:Int)),.string seed,.bool ino,.slice (some ⟨g225,0,none⟩) ((List.replicate n false).length) n,.slice (some ⟨g231,0,none⟩) ((List.replicate n (⟨0,0⟩:Wis)).length) n,.map (some mg201)]) (by kernel_rfl)) ?_
     refine a_one (i:=13) (by kernel_rfl) rfl ?_
     refine s_box H233 (wt0 rfl) rfl rfl rfl rfl ?_
     intro g234 wq235 H236
     refine a_k trivial ?_
     refine a_one (i:=14) (by kernel_rfl) rfl ?_
     refine s_v xa ?_
     refine a_k trivial ?_
     refine a_done (by kernel_rfl) ?_
     refine w_0 ?_
     refine g_mid (g234,(some ⟨g225,0,none⟩),(some ⟨g231,0,none⟩),mg228,mg201) ?_ ?_
     · exact ⟨rfl,trivial⟩
     · exact (H236.tk [0,3,1,2,4,5])
    ·
     refine s_makeW n H227 (wt0 rfl) rfl rfl rfl rfl rfl Tryz.underlying24 inf40 rfl (by omega) ?_
     intro g237 wq238 H239
     refine a_k trivial ?_
     refine a_one (i:=0) (by kernel_rfl) rfl ?_
     refine s_makeMap (α:=Nat) (Value.int .i64) ptV okI H239 (wt0 rfl) rfl rfl rfl ?_
     intro mg240 wq241 H242
     refine a_k trivial ?_
     refine a_pure (v:=.agg #[.map (some mg240)]) 1 rfl (wt0 rfl) rfl rfl rfl (by kernel_rfl) (by kernel_rfl) (by kernel_rfl) (.inr fun _=>trivial) (fun wx=>x_build (vs:=[.map (some mg240)]) rfl rfl (cells:=#[.map (some mg240)]) (by kernel_rfl)) ?_
     refine a_pure (v:=.agg #[.map (some mg240),.int .i64 ((n:Int)),.int .i64 ((pz:Int)),.int .i64 ((la:Int)),.string seed,.bool ino,.slice (some ⟨g225,0,none⟩) ((List.replicate n false).length) n,.slice (some ⟨g237,0,none⟩) ((List.replicate n (⟨0,0⟩:Wis)).length) n,.map (some mg201)]) 12 rfl (wt0 rfl) rfl rfl rfl (by kernel_rfl) (by kernel_rfl) (by kernel_rfl) (.inr fun _=>trivial) (fun wx=>x_build (vs:=[.agg #[.map (some mg240)],.int .i64 ((n:Int)),.int .i64 ((pz:Int)),.int .i64 ((la:Int)),.string seed,.bool ino,.slice (some ⟨g225,0,none⟩) ((List.replicate n false).length) n,.slice (some ⟨g237,0,none⟩) ((List.replicate n (⟨0,0⟩:Wis)).length) n,.map (some mg201)]) rfl rfl (cells:=#[.map (some mg240),.int .i64 ((n:Int)),.int .i64 ((pz:Int)),.int .i64 ((la:Int)),.string seed,.bool ino,.slice (some ⟨g225,0,none⟩) ((List.replicate n false).length) n,.slice (some ⟨g237,0,none⟩) ((List.replicate n (⟨0,0⟩:Wis)).length) n,.map (some mg201)]) (by kernel_rfl)) ?_
     refine a_one (i:=13) (by kernel_rfl) rfl ?_
     refine s_box H242 (wt0 rfl) rfl rfl rfl rfl ?_
     intro g243 wq244 H245
     refine a_k trivial ?_
     refine a_one (i:=14) (by kernel_rfl) rfl ?_
     refine s_v xa ?_
     refine a_k trivial ?_
     refine a_done (by kernel_rfl) ?_
     refine w_0 ?_
     refine g_mid (g243,(some ⟨g225,0,none⟩),(some ⟨g237,0,none⟩),mg240,mg201) ?_ ?_
     · exact ⟨rfl,trivial⟩
     · exact (H245.tk [0,3,2,1,4,5])
   ·
    refine s_makeW n H203 (wt0 rfl) rfl rfl rfl rfl rfl Tryz.underlying24 inf40 rfl (by omega) ?_
    intro g246 wq247 H248
    refine a_k trivial ?_
    refine a_two (i:=0) (j:=8) (by kernel_rfl) rfl rfl ?_ ?_
    ·
     refine s_makeMap (α:=Nat) (Value.int .i64) ptV okI H248 (wt0 rfl) rfl rfl rfl ?_
     intro mg249 wq250 H251
     refine a_k trivial ?_
     refine a_pure (v:=.agg #[.map (some mg249)]) 1 rfl (wt0 rfl) rfl rfl rfl (by kernel_rfl) (by kernel_rfl) (by kernel_rfl) (.inr fun _=>trivial) (fun wx=>x_build (vs:=[.map (some mg249)]) rfl rfl (cells:=#[.map (some mg249)]) (by kernel_rfl)) ?_
     refine a_one (i:=8) (by kernel_rfl) rfl ?_
     refine s_makeB n H251 (wt0 rfl) rfl rfl rfl rfl rfl Tryz.underlying38 inf4 (by omega) ?_
     intro g252 wq253 H254
     refine a_k trivial ?_
     refine a_pure (v:=.agg #[.map (some mg249),.int .i64 ((n:Int)),.int .i64 ((pz:Int)),.int .i64 ((la:Int)),.string seed,.bool ino,.slice (some ⟨g252,0,none⟩) ((List.replicate n false).length) n,.slice (some ⟨g246,0,none⟩) ((List.replicate n (⟨0,0⟩:Wis)).length) n,.map (some mg201)]) 12 rfl (wt0 rfl) rfl rfl rfl (by kernel_rfl) (by kernel_rfl) (by kernel_rfl) (.inr fun _=>trivial) (fun wx=>x_build (vs:=[.agg #[.map (some mg249)],.int .i64 ((n:Int)),.int .i64 ((pz:Int)),.int .i64 ((la:Int)),.string seed,.bool ino,.slice (some ⟨g252,0,none⟩) ((List.replicate n false).length) n,.slice (some ⟨g246,0,none⟩) ((List.replicate n (⟨0,0⟩:Wis)).length) n,.map (some mg201)]) rfl rfl (cells:=#[.map (some mg249),.int .i64 ((n:Int)),.int .i64 ((pz:Int)),.int .i64 ((la:Int)),.string seed,.bool ino,.slice (some ⟨g252,0,none⟩) ((List.replicate n false).length) n,.slice (some ⟨g246,0,none⟩) ((List.replicate n (⟨0,0⟩:Wis)).length) n,.map (some mg201)]) (by kernel_rfl)) ?_
     refine a_one (i:=13) (by kernel_rfl) rfl ?_
     refine s_box H254 (wt0 rfl) rfl rfl rfl rfl ?_
     intro g255 wq256 H257
     refine a_k trivial ?_
     refine a_one (i:=14) (by kernel_rfl) rfl ?_
     refine s_v xa ?_
     refine a_k trivial ?_
     refine a_done (by kernel_rfl) ?_
     refine w_0 ?_
     refine g_mid (g255,(some ⟨g252,0,none⟩),(some ⟨g246,0,none⟩),mg249,mg201) ?_ ?_
     · exact ⟨rfl,trivial⟩
     · exact (H257.tk [0,1,3,2,4,5])
    ·
     refine s_makeB n H248 (wt0 rfl) rfl rfl rfl rfl rfl Tryz.underlying38 inf4 (by omega) ?_
     intro g258 wq259 H260
     refine a_k trivial ?_
     refine a_one (i:=0) (by kernel_rfl) rfl ?_
     refine s_makeMap (α:=Nat) (Value.int .i64) ptV okI H260 (wt0 rfl) rfl rfl rfl ?_
     intro mg261 wq262 H263
     refine a_k trivial ?_
     refine a_pure (v:=.agg #[.map (some mg261)]) 1 rfl (wt0 rfl) rfl rfl rfl (by kernel_rfl) (by kernel_rfl) (by kernel_rfl) (.inr fun _=>trivial) (fun wx=>x_build (vs:=[.map (some mg261)]) rfl rfl (cells:=#[.map (some mg261)]) (by kernel_rfl)) ?_
     refine a_pure (v:=.agg #[.map (some mg261),.int .i64 ((n:Int)),.int .i64 ((pz:Int)),.int .i64 ((la:Int)),.string seed,.bool ino,.slice (some ⟨g258,0,none⟩) ((List.replicate n false).length) n,.slice (some ⟨g246,0,none⟩) ((List.replicate n (⟨0,0⟩:Wis)).length) n,.map (some mg201)]) 12 rfl (wt0 rfl) rfl rfl rfl (by kernel_rfl) (by kernel_rfl) (by kernel_rfl) (.inr fun _=>trivial) (fun wx=>x_build (vs:=[.agg #[.map (some mg261)],.int .i64 ((n:Int)),.int .i64 ((pz:Int)),.int .i64 ((la:Int)),.string seed,.bool ino,.slice (some ⟨g258,0,none⟩) ((List.replicate n false).length) n,.slice (some ⟨g246,0,none⟩) ((List.replicate n (⟨0,0⟩:Wis)).length) n,.map (some mg201)]) rfl rfl (cells:=#[.map (some mg261),.int .i64 ((n:Int)),.int .i64 ((pz:Int)),.int .i64 ((la:Int)),.string seed,.bool ino,.slice (some ⟨g258,0,none⟩) ((List.replicate n false).length) n,.slice (some ⟨g246,0,none⟩) ((List.replicate n (⟨0,0⟩:Wis)).length) n,.map (some mg201)]) (by kernel_rfl)) ?_
     refine a_one (i:=13) (by kernel_rfl) rfl ?_
     refine s_box H263 (wt0 rfl) rfl rfl rfl rfl ?_
     intro g264 wq265 H266
     refine a_k trivial ?_
     refine a_one (i:=14) (by kernel_rfl) rfl ?_
     refine s_v xa ?_
     refine a_k trivial ?_
     refine a_done (by kernel_rfl) ?_
     refine w_0 ?_
     refine g_mid (g264,(some ⟨g258,0,none⟩),(some ⟨g246,0,none⟩),mg261,mg201) ?_ ?_
     · exact ⟨rfl,trivial⟩
     · exact (H266.tk [0,2,3,1,4,5])
 rintro ⟨g,hp,wp,mg,bg⟩ wq267 H268
 refine g_wk [(12,_)] ?_
 refine g_seq ?_
 refine w_k9 ?_
 refine g_loop (ι:=Nat × List Wis) (fun (ii,wl)=>[(12,.pointer (some ⟨g,0,none⟩)),(65,.int .i64 (((List.replicate n (⟨0,0⟩:Wis)).length:Int))),(66,.int .i64 ((ii:Int)))]) (fun (ii,wl) wx=>(ii≤n)∧(wl=List.replicate ii (⟨4,0⟩:Wis)++List.replicate (n - ii) (⟨0,0⟩:Wis))∧(wl.length=n)∧S wx [Ob g (.cells #[.map (some mg),.int .i64 ((n:Int)),.int .i64 ((pz:Int)),.int .i64 ((la:Int)),.string seed,.bool ino,.slice hp ((List.replicate n false).length) n,.slice wp wl.length n,.map (some bg)] 85 (0,0)),Rw 4 1 hp ((List.replicate n false).length) n (fl boolL (List.replicate n false)),Rw 40 2 wp wl.length n (fl wisL wl),Mp (Value.int .i64) ptV okI mg (fun _=>none),Mp plK ptV okP bg (fun _=>none),Old w no]) (fun (ii,wl)=>n - ii) (0,(List.replicate n (⟨0,0⟩:Wis))) ⟨rfl,rfl,rfl,trivial⟩ ⟨Nat.zero_le _,rfl,List.length_replicate,(H268.tk [0,1,2,3,4,5])⟩ ?_
 rintro ⟨ii,wl⟩ wq269 ⟨hii,hwl,hww,H270⟩
 refine g_wk [(12,_),(65,_),(66,_)] ?_
 refine w_s ?_
 refine w_k2 ?_
 refine g_seq ?_
 by_cases hb271:((ii:Int):Int)<((List.replicate n (⟨0,0⟩:Wis)).length:Int)
 ·
  refine g_ct hb271 ?_
  refine w_k14 ?_
  refine w_v (x_i ii (H270.rr 2)) ?_
  refine w_v (v:=.pointer ((wp).map fun q=>q.add (ii * 2+0))) (ex_cast (x_fieldAddrG (m:=ii * 2) ((H270.rr 2).some (by omega)) rfl rfl fo40_0) rfl) ?_
  obtain ⟨x272,hx272⟩:=(H270.rr 2).exL wisE ii
  refine l_of (s_fldL (i:=0) (j:=ii) wisE ({ x272 with lv:=4 }:Wis) H270 2 (wt0 rfl) rfl rfl rfl rfl rfl hx272 rfl (by decide) sz3 rfl rfl ?_)
  intro wq273 H274
  refine w_k4 ?_
  refine w_i ii ?_
  refine w_k2 ?_
  refine g_rd (i:=(ii,wl)) ((ii+1),(wl.set ii ({ x272 with lv:=4 }:Wis))) ⟨by omega,(by rw [rep_at _ _ _ _ (hwl ▸ hx272:(List.replicate ii (⟨4,0⟩:Wis)++List.replicate (n - ii) (⟨0,0⟩:Wis))[ii]?=some x272),hwl]; exact rep_set _ _ _ _ (by omega)),(by rw [List.length_set]; exact hww),(by rw [List.length_set]; exact H274.tk [0,1,2,3,4,5])⟩
 ·
  refine g_cf hb271 ?_
  refine w_k11 ?_
  refine fin_r [.tmp 10,.tmp 11] [.pointer (some ⟨g,0,none⟩),.int .i64 0] ?_
  obtain rfl:wl=List.replicate n ⟨4,0⟩:=by rw [hwl,show ii=n from by omega,Nat.sub_self]; exact List.append_nil _
  have hQ:=S.lstNil (S.lstNil (H270.tk [0,1,2,3,4,5]) BkI) MtI
  refine ⟨⟨g,hp,n,wp,n,mg,[],bg,[]⟩,newXOK ..,rfl,?_⟩
  exact S.big (L:=[_,_,_,_,_,_,_]) (hQ.tk [2,3,4,5,0,6,1,7])
end Go.Proofs.YthmmfhdpkddniaaGreatDoor
