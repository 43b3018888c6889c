import Derived.Test.YthmmfhdpkddniaaGreatDoorFm
import Derived.Test.YthmmfhdpkddniaaGreatDoorYb
import Derived.Test.YthmmfhdpkddniaaGreatDoorMj
import Derived.Test.YthmmfhdpkddniaaGreatDoorOp
import Derived.Deep.Slices
set_option maxRecDepth 20000
set_option maxHeartbeats 4000000
set_option linter.unusedSimpArgs false
set_option linter.unusedVariables false
namespace Go.Proofs.YthmmfhdpkddniaaGreatDoor
open Go.RowKit
theorem cl12:callable Tryz.prog 12=true:=by kernel_rfl
theorem cl13:callable Tryz.prog 13=true:=by kernel_rfl
theorem cl19:callable Tryz.prog 19=true:=by kernel_rfl
theorem cl34:callable Tryz.prog 34=true:=by kernel_rfl
theorem cl35:callable Tryz.prog 35=true:=by kernel_rfl
structure De where
 kd:Int
 pe:Int
 pi:Int
 n:Int
 wh:Int
 fl:ByteArray
 is:Bool
 kp:Bool
 wi:Wis
 bl:Cho
def deL (d:De):List Value:=[.int .i64 d.kd,.int .i64 d.pe,.int .i64 d.pi,.int .i64 d.n,.int .i64 d.wh,.string d.fl,.bool d.is,.bool d.kp,.int .i64 d.wi.lv,.int .i64 d.wi.du,.int .i64 d.bl.pc,.int .i64 d.bl.bg,.int .i64 d.bl.ln]
def PK.dblk (A:PK) (d:De):Cho:=if d.wh<0∨(mine A.asked d.pe).length=0 then d.bl else (mine A.asked d.pe).getD (d.wh.toNat % (mine A.asked d.pe).length) ⟨0,0,0⟩
def PK.deed (A:PK) (d:De):PK:=
 if d.kd=0 then A.joinA d.pe else if d.kd=1 then A.leaveA d.pe else if d.kd=2 then A.hasFA d.pe d.fl else if d.kd=3 then A.setA d.pe d.pi true
 else if d.kd=4 then A.setA d.pe d.pi false else if d.kd=5 then A.chokeA d.pe d.is d.kp else if d.kd=6 then A.allowA d.pe d.pi else if d.kd=7 then A.suggA d.pe d.pi
 else if d.kd=8 then A.snubA d.pe d.is else if d.kd=9 then A.wishA d.pi d.wi else if d.kd=10 then A.nextA d.pe d.n else if d.kd=11 then A.hereA d.pe (A.dblk d)
 else if d.kd=12 then A.rejA d.pe (A.dblk d) else if d.kd=13 then A.doneA d.pi d.is else A.setHA d.pi d.is
def lightP (n pz:Int) (sd:ByteArray):Prop:=(sd.size:Int)≤300∧(n≤24∨4096<n)∧(pz≤128∨1024<pz)
instance (n pz:Int) (sd:ByteArray):Decidable (lightP n pz sd):=inferInstanceAs (Decidable (_∧_∧_))
section
variable {A:PK} {j:Nat} (h:PKI j A)
include h
theorem len9_mine (k:Int):(mine A.asked k).length≤400 * j+400:=by
 have h1:=mine_len A.asked k
 have h2:=h.al
 omega
theorem len9_choke (k:Int) (a b:Bool):(A.chokeL k a b).length≤400 * j+400:=by
 unfold PK.chokeL
 split
 · exact Nat.le_trans (List.length_filter_le _ _) (len9_mine h k)
 · exact Nat.zero_le _
theorem len9_look (k m:Int):(A.lookV k m).length≤400 * j+400:=by
 have:=lookV_len h k m
 omega
theorem len9_here (k:Int) (c:Cho):(A.hereL k c).length≤400 * j+400:=by
 unfold PK.hereL
 split
 · rw [List.length_map]
   refine Nat.le_trans (List.length_filter_le _ _) ?_
   have h1:=ofL_len A.asked c
   have h2:=h.al
   omega
 · exact Nat.zero_le _
end
theorem light_s (n pz la:Int) (sd:ByteArray) (ino:Bool)  (w:World):Calls Tryz.prog 8 #[.agg #[.int .i64 n,.int .i64 pz,.int .i64 la,.string sd,.bool ino]] w fun e w'=>e=.returned (.bool (decide (lightP n pz sd)))∧S w' [Old w no]:=by
 have H0:=S.old w
 refine enter 27 Tryz.func8 rfl rfl rfl ?_
 refine g_wk [(0,_)] ?_
 refine w_s ?_
 refine l_of (s_box H0 (wt0 rfl) rfl rfl rfl rfl ?_)
 intro g1 wq2 H3
 refine w_k5 ?_
 refine w_v (x_lens rfl rfl Tryz.underlying9) ?_
 refine w_k2 ?_
 by_cases hb4:((sd.size:Int):Int)≤300
 ·
  refine w_g (decide_eq_true hb4) (xf 0) ?_
  refine w_g (decide_eq_true hb4) (xl H3 0) ?_
  refine w_g (decide_eq_true hb4) (x_bin rfl rfl rfl b_leq) ?_
  refine w_g (decide_eq_true hb4) xm ?_
  by_cases hb5:(n:Int)≤24
  ·
   iterate 3 refine w_n (decide_eq_true hb5) ?_
   refine w_g (decide_eq_true hb4) (x_pick_t rfl rfl (decide_eq_true hb5) rfl) ?_
   refine w_v (x_pick_t rfl rfl (decide_eq_true hb4) rfl) ?_
   refine w_m ?_
   refine w_g rfl (xf 1) ?_
   refine w_g rfl (xl H3 0) ?_
   refine w_g rfl (x_bin rfl rfl rfl b_leq) ?_
   refine w_g rfl xm ?_
   by_cases hb6:(pz:Int)≤128
   ·
    iterate 3 refine w_n (decide_eq_true hb6) ?_
    refine w_g rfl (x_pick_t rfl rfl (decide_eq_true hb6) rfl) ?_
    refine w_v (x_pick_t rfl rfl rfl rfl) ?_
    refine w_k2 ?_
    refine g_wk [(2,_)] ?_
    refine g_ret ?_
    refine fin_r [.tmp 2] [.bool true] ?_
    have hE:decide (lightP n pz sd)=true:=decide_eq_true (p:=(lightP n pz sd)) (by unfold lightP; omega)
    rw [hE]
    exact ⟨rfl,H3.mask [false,true]⟩
   ·
    refine w_g (decide_eq_false hb6) (xf 1) ?_
    refine w_g (decide_eq_false hb6) (xl H3 0) ?_
    refine w_g (decide_eq_false hb6) (x_bin rfl rfl rfl b_gtr) ?_
    refine w_g rfl (x_pick_f rfl rfl (decide_eq_false hb6) rfl) ?_
    refine w_v (x_pick_t rfl rfl rfl rfl) ?_
    refine w_k2 ?_
    refine g_wk [(2,_)] ?_
    refine g_ret ?_
    refine fin_r [.tmp 2] [.bool (decide ((1024:Int)<pz))] ?_
    have hE:decide (lightP n pz sd)=(decide ((1024:Int)<pz)):=decide_eq_decide.2 (by unfold lightP; omega)
    rw [hE]
    exact ⟨rfl,H3.mask [false,true]⟩
  ·
   refine w_g (decide_eq_false hb5) (xf 0) ?_
   refine w_g (decide_eq_false hb5) (xl H3 0) ?_
   refine w_g (decide_eq_false hb5) (x_bin rfl rfl rfl b_gtr) ?_
   refine w_g (decide_eq_true hb4) (x_pick_f rfl rfl (decide_eq_false hb5) rfl) ?_
   refine w_v (x_pick_t rfl rfl (decide_eq_true hb4) rfl) ?_
   refine w_m ?_
   by_cases hb7:(4096:Int)<n
   ·
    refine w_g (decide_eq_true hb7) (xf 1) ?_
    refine w_g (decide_eq_true hb7) (xl H3 0) ?_
    refine w_g (decide_eq_true hb7) (x_bin rfl rfl rfl b_leq) ?_
    refine w_g (decide_eq_true hb7) xm ?_
    by_cases hb8:(pz:Int)≤128
    ·
     iterate 3 refine w_n (decide_eq_true hb8) ?_
     refine w_g (decide_eq_true hb7) (x_pick_t rfl rfl (decide_eq_true hb8) rfl) ?_
     refine w_v (x_pick_t rfl rfl (decide_eq_true hb7) rfl) ?_
     refine w_k2 ?_
     refine g_wk [(2,_)] ?_
     refine g_ret ?_
     refine fin_r [.tmp 2] [.bool true] ?_
     have hE:decide (lightP n pz sd)=true:=decide_eq_true (p:=(lightP n pz sd)) (by unfold lightP; omega)
     rw [hE]
     exact ⟨rfl,H3.mask [false,true]⟩
    ·
     refine w_g (decide_eq_false hb8) (xf 1) ?_
     refine w_g (decide_eq_false hb8) (xl H3 0) ?_
     refine w_g (decide_eq_false hb8) (x_bin rfl rfl rfl b_gtr) ?_
     refine w_g (decide_eq_true hb7) (x_pick_f rfl rfl (decide_eq_false hb8) rfl) ?_
     refine w_v (x_pick_t rfl rfl (decide_eq_true hb7) rfl) ?_
     refine w_k2 ?_
     refine g_wk [(2,_)] ?_
     refine g_ret ?_
     refine fin_r [.tmp 2] [.bool (decide ((1024:Int)<pz))] ?_
     have hE:decide (lightP n pz sd)=(decide ((1024:Int)<pz)):=decide_eq_decide.2 (by unfold lightP; omega)
     rw [hE]
     exact ⟨rfl,H3.mask [false,true]⟩
   ·
    iterate 4 refine w_n (decide_eq_false hb7) ?_
    refine l_of (s_not (wn2 rfl rfl rfl rfl) rfl rfl ?_)
    refine l_of (s_not (wn2 rfl rfl rfl rfl) rfl rfl ?_)
    refine l_of (s_not (wn2 rfl rfl rfl rfl) rfl rfl ?_)
    refine w_n (decide_eq_false hb7) ?_
    refine w_v (x_pick_f rfl rfl (decide_eq_false hb7) rfl) ?_
    refine w_k2 ?_
    refine g_wk [(2,_)] ?_
    refine g_ret ?_
    refine fin_r [.tmp 2] [.bool false] ?_
    have hE:decide (lightP n pz sd)=false:=decide_eq_false (p:=(lightP n pz sd)) (by unfold lightP; omega)
    rw [hE]
    exact ⟨rfl,H3.mask [false,true]⟩
 ·
  iterate 4 refine w_n (decide_eq_false hb4) ?_
  refine l_of (s_not (wn2 rfl rfl rfl rfl) rfl rfl ?_)
  refine l_of (s_not (wn2 rfl rfl rfl rfl) rfl rfl ?_)
  refine l_of (s_not (wn2 rfl rfl rfl rfl) rfl rfl ?_)
  refine w_n (decide_eq_false hb4) ?_
  refine w_v (x_pick_f rfl rfl (decide_eq_false hb4) rfl) ?_
  refine w_m ?_
  iterate 4 refine w_n rfl ?_
  refine l_of (s_not (wn2 rfl rfl rfl rfl) rfl rfl ?_)
  refine l_of (s_not (wn2 rfl rfl rfl rfl) rfl rfl ?_)
  refine l_of (s_not (wn2 rfl rfl rfl rfl) rfl rfl ?_)
  refine w_n rfl ?_
  refine w_v (x_pick_f rfl rfl rfl rfl) ?_
  refine w_k2 ?_
  refine g_wk [(2,_)] ?_
  refine g_ret ?_
  refine fin_r [.tmp 2] [.bool false] ?_
  have hE:decide (lightP n pz sd)=false:=decide_eq_false (p:=(lightP n pz sd)) (by unfold lightP; omega)
  rw [hE]
  exact ⟨rfl,H3.mask [false,true]⟩
theorem begin_e (n pz la:Int) (sd:ByteArray) (ino:Bool) (hb:(100<(sd.size:Int)∨n<1∨4096<n∨pz<16∨1024<pz∨¬ pz % 16=0∨la<1∨pz<la)) (hne:newE n pz la sd ≠ 0)  (w:World):Calls Tryz.prog 10 #[.agg #[.int .i64 n,.int .i64 pz,.int .i64 la,.string sd,.bool ino]] w fun e w'=>e=.returned (.tuple #[.pointer none,.pointer none,.bool true])∧S w' [Old w no]:=by
 have H0:=S.old w
 refine enter 49 Tryz.func10 rfl rfl rfl ?_
 refine g_wk [(0,_)] ?_
 refine w_s ?_
 refine l_of (s_box H0 (wt0 rfl) rfl rfl rfl rfl ?_)
 intro g1 wq2 H3
 refine w_k15 ?_
 refine l_of (s_call0 H3 (wt0 rfl) (x_call' rfl rfl cl34) (newX_e n pz la sd ino hb _) rfl rfl ?_)
 intro wq4 H5
 refine w_k6 ?_
 refine g_wk [(1,_),(5,_),(6,_)] ?_
 refine w_s ?_
 refine w_k10 ?_
 refine l_of (s_call0 H5 (wt0 rfl) (x_call' rfl rfl cl35) (newR_e n pz la sd ino hb _) rfl rfl ?_)
 intro wq6 H7
 refine w_k6 ?_
 refine g_wk [(5,_),(6,_),(7,_),(8,_)] ?_
 refine w_s ?_
 refine w_k6 ?_
 refine w_g (decide_eq_true rfl) xm ?_
 refine w_g (v:=.bool true) (decide_eq_true rfl) (x_bin rfl rfl rfl (b_eqN (r:=true) Tryz.underlying26 rfl)) ?_
 refine w_g (decide_eq_true rfl) xm ?_
 refine w_g (decide_eq_true rfl) (x_bin rfl rfl rfl b_neq) ?_
 refine w_g (v:=.bool ((true) == (!decide (((newE n pz la sd):Int)=0)))) (decide_eq_true rfl) (x_bin rfl rfl rfl (b_eqN Tryz.underlying4 rfl)) ?_
 refine w_v (x_pick_t rfl rfl (decide_eq_true rfl) rfl) ?_
 refine w_k4 ?_
 refine g_wk [(2,_),(3,_),(4,_)] ?_
 refine g_ret ?_
 refine fin_r [.tmp 2,.tmp 3,.tmp 4] [.pointer none,.pointer none,.bool ((true) == (!decide (((newE n pz la sd):Int)=0)))] ?_
 exact ⟨by simp [tupled,hne],H7.mask [false,true]⟩
theorem begin_o (n pz la:Nat) (sd:ByteArray) (ino:Bool) (h:((1≤n∧n≤24∧16≤pz∧pz≤128∧1≤la∧la≤pz∧sd.size≤100)∧(pz:Int) % 16=0))  (w:World):Calls Tryz.prog 10 #[.agg #[.int .i64 ((n:Int)),.int .i64 ((pz:Int)),.int .i64 ((la:Int)),.string sd,.bool ino]] w fun e w'=>∃ (X:XP) (Z:ZP),XOK X (newPK n pz la sd ino)∧ZOK Z (newPK n pz la sd ino)∧e=.returned (.tuple #[.pointer (some ⟨X.g,0,none⟩),.pointer (some ⟨Z.g,0,none⟩),.bool true])∧S w' [(XI X (newPK n pz la sd ino)),(ZI Z (newPK n pz la sd ino)),Old w no]:=by
 have H0:=S.old w
 refine enter 49 Tryz.func10 rfl rfl rfl ?_
 refine g_wk [(0,_)] ?_
 refine w_s ?_
 refine l_of (s_box H0 (wt0 rfl) rfl rfl rfl rfl ?_)
 intro g1 wq2 H3
 refine w_k15 ?_
 refine l_of (s_cl (newX_o n pz la sd ino h _) ?_)
 rintro _ wq4 ⟨X,hX,rfl,H5⟩
 replace H5:S _ [_,_,_]:=H3.ab (new:=[_]) H5 rfl
 refine b_ret rfl rfl ?_
 refine w_k6 ?_
 refine g_wk [(1,_),(5,_),(6,_)] ?_
 refine w_s ?_
 refine w_k10 ?_
 refine l_of (s_cl (newR_o n pz la sd ino h _) ?_)
 rintro _ wq6 ⟨Z,hZ,rfl,H7⟩
 replace H7:S _ [_,_,_,_]:=H5.ab (new:=[_]) H7 rfl
 refine b_ret rfl rfl ?_
 refine w_k6 ?_
 refine g_wk [(5,_),(6,_),(7,_),(8,_)] ?_
 refine w_s ?_
 refine w_k6 ?_
 refine w_g (decide_eq_true rfl) xm ?_
 refine w_g (v:=.bool false) (decide_eq_true rfl) (x_bin rfl rfl rfl (b_eqN (r:=false) Tryz.underlying26 rfl)) ?_
 refine w_g (decide_eq_true rfl) xm ?_
 refine w_g (decide_eq_true rfl) (x_bin rfl rfl rfl b_neq) ?_
 refine w_g (v:=.bool ((false) == (!decide ((0:Int)=0)))) (decide_eq_true rfl) (x_bin rfl rfl rfl (b_eqN Tryz.underlying4 rfl)) ?_
 refine w_v (x_pick_t rfl rfl (decide_eq_true rfl) rfl) ?_
 refine w_k4 ?_
 refine g_wk [(2,_),(3,_),(4,_)] ?_
 refine g_ret ?_
 refine fin_r [.tmp 2,.tmp 3,.tmp 4] [.pointer (some ⟨X.g,0,none⟩),.pointer (some ⟨Z.g,0,none⟩),.bool ((false) == (!decide ((0:Int)=0)))] ?_
 exact ⟨X,Z,hX,hZ,by simp [tupled],H7.tk [1,0,3]⟩
theorem begin_s (n pz la:Int) (sd:ByteArray) (ino:Bool) (hl:(lightP n pz sd)) (w:World):Calls Tryz.prog 10 #[.agg #[.int .i64 n,.int .i64 pz,.int .i64 la,.string sd,.bool ino]] w fun e w'=>(newE n pz la sd ≠ 0∧e=.returned (.tuple #[.pointer none,.pointer none,.bool true])∧S w' [Old w no])∨(∃ (X:XP) (Z:ZP),newE n pz la sd=0∧OX X.g X (newPK n.toNat pz.toNat la.toNat sd ino) 0∧OZ Z.g Z (newPK n.toNat pz.toNat la.toNat sd ino) 0∧e=.returned (.tuple #[.pointer (some ⟨X.g,0,none⟩),.pointer (some ⟨Z.g,0,none⟩),.bool true])∧S w' [(XI X (newPK n.toNat pz.toNat la.toNat sd ino)),(ZI Z (newPK n.toNat pz.toNat la.toNat sd ino)),Old w no]):=by
 by_cases hne:newE n pz la sd=0
 · have h1:=newE_0 hne (show lightS n pz from ⟨hl.2.1,hl.2.2⟩)
   have h2:pz % 16=0:=Classical.byContradiction fun h=>by
     unfold newE at hne
     split at hne
     · cases hne
     · rw [if_pos (by omega)] at hne; cases hne
   have h3:=begin_o n.toNat pz.toNat la.toNat sd ino ⟨⟨by omega,by omega,by omega,by omega,by omega,by omega,by omega⟩,by omega⟩ w
   rw [show ((n.toNat:Nat):Int)=n from by omega,show ((pz.toNat:Nat):Int)=pz from by omega,show ((la.toNat:Nat):Int)=la from by omega] at h3
   refine h3.mono ?_
   rintro e w' ⟨X,Z,hX,hZ,rfl,hS⟩
   have hI:PKI 0 (newPK n.toNat pz.toNat la.toNat sd ino):=PKI.new ⟨by omega,by omega,by omega,by omega,by omega,by omega,by omega⟩
   exact .inr ⟨X,Z,hne,⟨rfl,hX,hI⟩,⟨rfl,hZ,hI⟩,rfl,hS⟩
 · refine (begin_e n pz la sd ino ?_ hne w).mono ?_
   · refine Classical.byContradiction fun h=>hne ?_
     unfold newE
     rw [if_neg (by omega),if_neg (by omega)]
   · rintro e w' ⟨rfl,hS⟩
     exact .inl ⟨hne,rfl,hS⟩
end Go.Proofs.YthmmfhdpkddniaaGreatDoor
/- What the arguments of the laws hold. -/
namespace Go.Proofs.YthmmfhdpkddniaaGreatDoor
open Go.ChangeShapes Go.WideShapes Go.ChangeAt Go.RowKit Go.Joins Go.Deep
structure SuT where
 n:Int
 pz:Int
 la:Int
 sd:ByteArray
 ino:Bool
def desV (l:List De):List Value:=l.flatMap deL
def wssV (l:List Wis):List Value:=l.flatMap wisL
section
variable {H:Type} {enc:TypeId × Value→H} {w:World} {base:Nat} {spare:Nat→Bool} {held:Bool}
theorem flat_get {α:Type} {f:α→List Value} {size:Nat}:∀ {l:List α} {j:Nat} {u:Value},(∀ a∈l,(f a).length=size)→(l.flatMap f)[j]?=some u→∃ i k a,i<l.length∧l[i]?=some a∧j=i * size+k∧k<size∧(f a)[k]?=some u
 | [],j,u,_,h=>by simp at h
 | a :: l,j,u,hs,h=>by
   have ha:=hs a (List.mem_cons_self ..)
   rw [List.flatMap_cons,List.getElem?_append] at h
   split at h
   · rename_i hj
     exact ⟨0,j,a,by simp,rfl,by omega,by omega,h⟩
   · rename_i hj
     obtain ⟨i,k,b,h1,h2,h3,h4,h5⟩:=flat_get (fun b hb=>hs b (List.mem_cons_of_mem _ hb)) h
     refine ⟨i+1,k,b,by simp; omega,by simpa using h2,?_,h4,h5⟩
     rw [Nat.add_mul]; omega
theorem cellw_3 {fuel:Nat} {cs:List Value} {x:DataW H × List MemPlace} (h:DataW.trod enc Tryz.prog w base spare held fuel 3 cs=some x) (hl:cs.length=1):∃ (x0:Int),cs=[.int .i64 x0]∧okI x0:=by
 obtain ⟨a,e,_,hw⟩:=DataW.trod_int Tryz.underlying3 h
 exact ⟨a,e,wf_okI hw⟩
theorem cellw_9 {fuel:Nat} {cs:List Value} {x:DataW H × List MemPlace} (h:DataW.trod enc Tryz.prog w base spare held fuel 9 cs=some x) (hl:cs.length=1):∃ (x0:ByteArray),cs=[.string x0]∧True:=by
 obtain ⟨a,e,_⟩:=DataW.trod_string Tryz.underlying9 h
 exact ⟨a,e,trivial⟩
theorem cellw_4 {fuel:Nat} {cs:List Value} {x:DataW H × List MemPlace} (h:DataW.trod enc Tryz.prog w base spare held fuel 4 cs=some x) (hl:cs.length=1):∃ (x0:Bool),cs=[.bool x0]∧True:=by
 obtain ⟨a,e,_⟩:=DataW.trod_bool Tryz.underlying4 h
 exact ⟨a,e,trivial⟩
set_option maxRecDepth 100000 in
theorem cellw_40 {fuel:Nat} {cs:List Value} {x:DataW H × List MemPlace} (h:DataW.trod enc Tryz.prog w base spare held fuel 40 cs=some x) (hl:cs.length=2):∃ (x0:Int) (x1:Int),cs=[.int .i64 x0,.int .i64 x1]∧okI x0∧okI x1:=by
 obtain ⟨xs,k,_,hx,_,hlen,hg⟩:=DataW.trod_struct Tryz.underlying40 h
 match cs,hl with
 | [v0,v1],_ =>
   match xs,hlen with
   | [y0,y1],_ =>
     have hc0:Tryz.prog.cellsOf 3=1:=by kernel_rfl
     have g0:DataW.trod enc Tryz.prog w base spare held k 3 [v0]=some y0:=by simpa [hc0] using hg 0 _ rfl
     obtain ⟨a0,e0,w0⟩:=cellw_3 g0 rfl
     have hc1:Tryz.prog.cellsOf 3=1:=by kernel_rfl
     have g1:DataW.trod enc Tryz.prog w base spare held k 3 [v1]=some y1:=by simpa [hc1] using hg 1 _ rfl
     obtain ⟨a1,e1,w1⟩:=cellw_3 g1 rfl
     simp only [List.cons.injEq,and_true] at e0 e1
     subst e0
     subst e1
     exact ⟨a0,a1,rfl,w0,w1⟩
set_option maxRecDepth 100000 in
theorem open_wishes {v:Value} {d:DataW H} {ps:List MemPlace} {b0:Nat} (hv:Value.okWide Tryz.prog w .any b0 24 v) (h:DataW.Trod enc Tryz.prog w base spare held 24 v d ps) :
   ∃ (p:Option Addr) (c:Nat) (l:List (Go.Proofs.YthmmfhdpkddniaaGreatDoor.Wis)),v=.slice p l.length c∧l.length≤9223372036854775807∧Reads w p l.length c 2 (wssV l)∧∀ x∈l,okI x.lv:=by
 obtain ⟨fuel,hf⟩:=h
 obtain ⟨p,n,c,rfl⟩:∃ p n c,v=.slice p n c:=okWide_slice Tryz.underlying24 hv
 have hC:Tryz.prog.cellsOf 40=2:=by kernel_rfl
 rcases open_slice Tryz.underlying24 hf with ⟨h1,_⟩ | ⟨a,len,cap,m,k,D,Pl,h1,_,hl,hm,hmm,_,hx⟩
 · simp only [Value.cells,List.cons.injEq,Value.slice.injEq,and_true] at h1
   obtain ⟨rfl,rfl,rfl⟩:=h1
   exact ⟨none,0,[],rfl,Nat.zero_le _,⟨rfl,Nat.le_refl _,fun h=>absurd h (Nat.lt_irrefl _)⟩,fun x hx=>by cases hx⟩
 · simp only [Value.cells,List.cons.injEq,Value.slice.injEq,and_true] at h1
   obtain ⟨rfl,rfl,rfl⟩:=h1
   have hlm:n≤m:=by rw [hmm]; split <;> omega
   rw [hC] at hx
   have:Inhabited (Go.Proofs.YthmmfhdpkddniaaGreatDoor.Wis):=⟨(⟨0,0⟩:Go.Proofs.YthmmfhdpkddniaaGreatDoor.Wis)⟩
   obtain ⟨f,hf⟩:=choose_lt (α:=Go.Proofs.YthmmfhdpkddniaaGreatDoor.Wis) (n:=n) (p:=fun i x=>(∀ (j:Nat) (u:Value),(wisL x)[j]?=some u→w.cell? (a.add (i * 2+j))=some u)∧okI x.lv) (fun i hi=>by
     obtain ⟨cs',q1,q2⟩:=hx i (by omega)
     obtain ⟨_,hlen,hcell⟩:=World.cells?_some q1
     obtain ⟨x0,x1,ee,w0,w1⟩:=cellw_40 q2 hlen
     subst ee
     refine ⟨⟨x0,x1⟩,fun j u hu=>?_,w0⟩
     have hj:j<2:=(List.getElem?_eq_some_iff.1 hu).1
     have:=hcell j hj
     rw [addr_add] at this
     rw [this]; exact hu)
   have hlen:((List.range n).map f).length=n:=by simp
   refine ⟨some a,c,(List.range n).map f,by rw [hlen],by rw [hlen]; unfold maxLen at hm; omega,?_,fun x hx=>?_⟩
   · rw [hlen]
     refine ⟨?_,hl,fun hn=>⟨a,rfl,fun j u hu=>?_⟩⟩
     · unfold wssV; rw [flat_length (size:=2) (fun _ _=>rfl),hlen]
     · obtain ⟨i,k,x,h1,h2,rfl,h4,h5⟩:=flat_get (size:=2) (fun _ _=>rfl) hu
       rw [hlen] at h1
       rw [List.getElem?_map,List.getElem?_range h1] at h2
       simp only [Option.map_some,Option.some.injEq] at h2
       rw [← h2] at h5
       exact (hf i h1).1 k u h5
   · obtain ⟨i,hi,rfl⟩:=List.mem_map.1 hx
     exact (hf i (List.mem_range.1 hi)).2
set_option maxRecDepth 100000 in
theorem cellw_23 {fuel:Nat} {cs:List Value} {x:DataW H × List MemPlace} (h:DataW.trod enc Tryz.prog w base spare held fuel 23 cs=some x) (hl:cs.length=5):∃ (x0:Int) (x1:Int) (x2:Int) (x3:ByteArray) (x4:Bool),cs=[.int .i64 x0,.int .i64 x1,.int .i64 x2,.string x3,.bool x4]∧okI x0∧okI x1∧okI x2∧True∧True:=by
 obtain ⟨xs,k,_,hx,_,hlen,hg⟩:=DataW.trod_struct Tryz.underlying23 h
 match cs,hl with
 | [v0,v1,v2,v3,v4],_ =>
   match xs,hlen with
   | [y0,y1,y2,y3,y4],_ =>
     have hc0:Tryz.prog.cellsOf 3=1:=by kernel_rfl
     have g0:DataW.trod enc Tryz.prog w base spare held k 3 [v0]=some y0:=by simpa [hc0] using hg 0 _ rfl
     obtain ⟨a0,e0,w0⟩:=cellw_3 g0 rfl
     have hc1:Tryz.prog.cellsOf 3=1:=by kernel_rfl
     have g1:DataW.trod enc Tryz.prog w base spare held k 3 [v1]=some y1:=by simpa [hc1] using hg 1 _ rfl
     obtain ⟨a1,e1,w1⟩:=cellw_3 g1 rfl
     have hc2:Tryz.prog.cellsOf 3=1:=by kernel_rfl
     have g2:DataW.trod enc Tryz.prog w base spare held k 3 [v2]=some y2:=by simpa [hc2] using hg 2 _ rfl
     obtain ⟨a2,e2,w2⟩:=cellw_3 g2 rfl
     have hc3:Tryz.prog.cellsOf 9=1:=by kernel_rfl
     have g3:DataW.trod enc Tryz.prog w base spare held k 9 [v3]=some y3:=by simpa [hc3] using hg 3 _ rfl
     obtain ⟨a3,e3,w3⟩:=cellw_9 g3 rfl
     have hc4:Tryz.prog.cellsOf 4=1:=by kernel_rfl
     have g4:DataW.trod enc Tryz.prog w base spare held k 4 [v4]=some y4:=by simpa [hc4] using hg 4 _ rfl
     obtain ⟨a4,e4,w4⟩:=cellw_4 g4 rfl
     simp only [List.cons.injEq,and_true] at e0 e1 e2 e3 e4
     subst e0
     subst e1
     subst e2
     subst e3
     subst e4
     exact ⟨a0,a1,a2,a3,a4,rfl,w0,w1,w2,w3,w4⟩
set_option maxRecDepth 100000 in
theorem open_setup {v:Value} {d:DataW H} {ps:List MemPlace} {b0:Nat} (hv:Value.okWide Tryz.prog w .any b0 23 v) (h:DataW.Trod enc Tryz.prog w base spare held 23 v d ps):∃ x:Go.Proofs.YthmmfhdpkddniaaGreatDoor.SuT,v=.agg #[.int .i64 x.n,.int .i64 x.pz,.int .i64 x.la,.string x.sd,.bool x.ino]∧okI x.n:=by
 obtain ⟨cs,rfl,hsz⟩:=okWide_struct Tryz.underlying23 hv
 obtain ⟨l⟩:=cs
 obtain ⟨fuel,hf⟩:=h
 have hC:Tryz.prog.cellsOf 23=5:=by kernel_rfl
 rw [hC] at hsz
 obtain ⟨x0,x1,x2,x3,x4,e,w0,w1,w2,w3,w4⟩:=cellw_23 (cs:=l) hf hsz
 subst e
 exact ⟨⟨x0,x1,x2,x3,x4⟩,rfl,w0⟩
end
end Go.Proofs.YthmmfhdpkddniaaGreatDoor
