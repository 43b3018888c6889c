import Derived.Test.YthmmfhdpkddniaaGreatDoorFm
import Derived.Test.YthmmfhdpkddniaaGreatDoorOp
import Derived.Test.YthmmfhdpkddniaaGreatDoorBo
set_option maxRecDepth 20000
set_option maxHeartbeats 4000000
set_option linter.unusedSimpArgs false
set_option linter.unusedVariables false
namespace Go.Proofs.YthmmfhdpkddniaaGreatDoor
open Go.RowKit
theorem cl153:callable Tryz.prog 153=true:=by kernel_rfl
theorem cl39:callable Tryz.prog 39=true:=by kernel_rfl
theorem fo44_1:foO Tryz.prog 44 1=some 1:=by kernel_rfl
theorem fo82_0:foO Tryz.prog 82 0=some 0:=by kernel_rfl
theorem fo85_0:foO Tryz.prog 85 0=some 0:=by kernel_rfl
theorem fo85_1:foO Tryz.prog 85 1=some 1:=by kernel_rfl
theorem sz100:szO Tryz.prog 100=some 2:=by kernel_rfl
theorem ze100:zeO Tryz.prog 100=some (.agg #[.int .i64 0,.int .i64 0]):=by kernel_rfl
theorem ze79:zeO Tryz.prog 79=some (.pointer none):=by kernel_rfl
def optP (o:Option Nat):Value:=(o.map ptV).getD (.pointer none)
theorem optP_s {o:Option Nat} {b:Nat} (h:o=some b):optP o=.pointer (some ⟨b,0,none⟩):=by rw [h]; rfl
theorem b_nePO {P:Program} {t:TypeId} {xo yo:Operand} {w:World} {te:TypeId} {o:Option Nat} (hu:P.underlying t=some (.pointer te)):Bin P .neq t xo yo (optP o) (.pointer none) w (.bool o.isSome):=by
 cases o with
 | none=>exact b_neN (r:=true) hu rfl
 | some b=>exact b_neN (r:=false) hu rfl
theorem b_eqPO {P:Program} {t:TypeId} {xo yo:Operand} {w:World} {te:TypeId} {o:Option Nat} (hu:P.underlying t=some (.pointer te)):Bin P .eql t xo yo (optP o) (.pointer none) w (.bool (!o.isSome)):=by
 cases o with
 | none=>exact b_eqN (r:=true) hu rfl
 | some b=>exact b_eqN (r:=false) hu rfl
theorem mtM_ex {ms:List Mt} {k:Int} (h:(mtM ms k).isSome=true):∃ (i:Nat) (m:Mt),ms[i]?=some m∧m.k=k∧mtM ms k=some m.b∧kfd Mt.k ms k=some m:=by
 cases hq:mtM ms k with
 | none=>rw [hq] at h; cases h
 | some b =>
   obtain ⟨i,m,h1,h2,rfl,h4⟩:=mtM_some hq
   exact ⟨i,m,h1,h2,rfl,h4⟩
theorem bkM_ex {bs:List Bk} {p:Int × Int} (h:(bkM bs p).isSome=true):∃ (i:Nat) (r:Bk),bs[i]?=some r∧r.pl=p∧bkM bs p=some r.b∧kfd Bk.pl bs p=some r:=by
 cases hq:bkM bs p with
 | none=>rw [hq] at h; cases h
 | some b =>
   obtain ⟨i,m,h1,h2,rfl,h4⟩:=bkM_some hq
   exact ⟨i,m,h1,h2,rfl,h4⟩
theorem XOK.mtN {X:XP} {A:PK} (h:XOK X A) {k:Int}:(mtM X.ms k).isSome=(fndP A.peers k).isSome:=by
 rw [← h.fnd]; unfold mtM
 cases kfd Mt.k X.ms k <;> rfl
theorem XOK.nd {X:XP} {A:PK} {j:Nat} (h:XOK X A) (hI:PKI j A):(X.ms.map Mt.k).Nodup:=by rw [h.ks]; exact hI.nd
theorem peE_ok {A:PK} {k:Int} (h1:1≤k∧k≤1000) (h2:(fndP A.peers k).isSome=true):A.peE k=0:=by
 unfold PK.peE
 rw [if_neg (by omega),h2]; rfl
theorem peE_no {A:PK} {k:Int} (h1:1≤k∧k≤1000) (h2:(fndP A.peers k).isSome=false):A.peE k=8:=by
 unfold PK.peE
 rw [if_neg (by omega),h2]; rfl
theorem need_t (b:Bool) (n:Int) (hb:b=true)  (w:World):Calls Tryz.prog 39 #[.bool b,.int .i64 n] w fun e w'=>e=.returned (.tuple #[])∧S w' [Old w no]:=by
 have H0:=S.old w
 refine enter 8 Tryz.func39 rfl rfl rfl ?_
 refine g_wk [(0,_),(1,_)] ?_
 refine w_s ?_
 refine w_m ?_
 refine w_v (x_not (b:=b) rfl rfl) ?_
 refine w_e ?_
 refine g_cond_f rfl (by rw [hb]; rfl) ?_
 refine w_0 ?_
 refine fin_end [] [] rfl trivial ?_
 exact ⟨rfl,H0.mask [true]⟩
theorem need_f (b:Bool) (n:Int) (hb:b=false)  (w:World):Calls Tryz.prog 39 #[.bool b,.int .i64 n] w fun e w'=>e=.panicked [{ v:=.iface 134 (.int .i64 n),recovered:=false }]∧S w' [Old w no]:=by
 have H0:=S.old w
 refine enter 8 Tryz.func39 rfl rfl rfl ?_
 refine g_wk [(0,_),(1,_)] ?_
 refine w_s ?_
 refine w_m ?_
 refine w_v (x_not (b:=b) rfl rfl) ?_
 refine w_e ?_
 refine g_cond_t rfl (by rw [hb]; rfl) ?_
 refine w_k2 ?_
 refine w_v (v:=.iface 134 (.int .i64 n)) (x_makeInterface rfl rfl Tryz.underlying134 rfl) ?_
 refine l_of (s_panic (wt0 rfl) (xp_panic rfl rfl) ?_)
 refine fin_panic ?_
 exact ⟨rfl,H0.mask [true]⟩
theorem caughtx_p (ge:Nat) (y e0:Int) (older:List PanicEntry) (w:World) (he:w.heap[ge]?=some (.cells #[.int .i64 e0] 30 (0,0))) :
  CallsD Tryz.prog 38 #[.pointer (some ⟨ge,0,none⟩)] (.panicking ({ v:=.iface 134 (.int .i64 y),recovered:=false } :: older)) w
   (fun e u' w'=>(e=.returned (.tuple #[])∧S w' [Ob ge (.cells #[.int .i64 y] 30 (0,0)),Old w (fun i=>i∈[ge])])∧u'=.panicking ({ v:=.iface 134 (.int .i64 y),recovered:=true } :: older)):=by
 have H0:=S.beginL [(ge,.cells #[.int .i64 e0] 30 (0,0))] (by intro p hp; rw [List.mem_singleton] at hp; subst hp; exact he) (by simp) (fun i=>i∈[ge]) (fun i=>Iff.rfl)
 refine callsD_rec 19 Tryz.func38 rfl rfl rfl rfl rfl rfl rfl rfl rfl ?_
 refine g_wk [(0,_),(2,_),(5,_)] ?_
 refine w_s ?_
 refine w_m ?_
 refine w_b (v:=.bool true) (hb:=(b_neqHeld ifc20)) ?_
 refine w_e ?_
 refine g_cond_t rfl rfl ?_
 refine w_k2 ?_
 refine w_v (v:=.tuple #[.int .i64 y,.bool true]) (x_assertOk rfl rfl Tryz.underlying134 rfl) ?_
 refine w_k9 ?_
 refine w_v (x_not (b:=true) rfl rfl) ?_
 refine w_e ?_
 refine g_cond_f rfl rfl ?_
 refine w_k2 ?_
 refine g_wk [(0,_),(3,_)] ?_
 refine g_region ?_
 refine w_r3 ?_
 refine l_of (w_st #[.int .i64 y] H0 0 ?_)
 intro wq1 H2
 refine w_0 ?_
 refine fin_end [] [] rfl trivial ?_
 exact ⟨⟨rfl,H2.mask [true,true]⟩,rfl⟩
theorem caughtx_n (ge:Nat) (w:World):CallsD Tryz.prog 38 #[.pointer (some ⟨ge,0,none⟩)] .returning w (fun e u' w'=>(e=.returned (.tuple #[])∧S w' [Old w no])∧u'=.returning):=by
 have H0:=S.old w
 refine callsD_rec 19 Tryz.func38 rfl rfl rfl rfl rfl rfl rfl rfl rfl ?_
 refine g_wk [(0,_),(2,_),(5,_)] ?_
 refine w_s ?_
 refine w_m ?_
 refine w_b (v:=.bool false) (hb:=(b_neqNil ifc20)) ?_
 refine w_e ?_
 refine g_cond_f rfl rfl ?_
 refine w_0 ?_
 refine fin_end [] [] rfl trivial ?_
 exact ⟨⟨rfl,H0.mask [true]⟩,rfl⟩
theorem at_x (c:Cho)  (w:World):Calls Tryz.prog 47 #[.agg #[.int .i64 (c.pc),.int .i64 (c.bg),.int .i64 (c.ln)]] w fun e w'=>e=.returned (.agg #[.int .i64 c.pc,.int .i64 c.bg])∧S w' [Old w no]:=by
 have H0:=S.old w
 refine enter 8 Tryz.func47 rfl rfl rfl ?_
 refine g_wk [(0,_)] ?_
 refine w_s ?_
 refine l_of (s_box H0 (wt0 rfl) rfl rfl rfl rfl ?_)
 intro g1 wq2 H3
 refine l_of (s_alloc H3 (wt0 rfl) rfl rfl rfl ze100 ?_)
 intro g4 wq5 H6
 refine w_k6 ?_
 refine w_v (v:=.agg #[.int .i64 (c.pc),.int .i64 (c.bg)]) (x_build (vs:=[.int .i64 (c.pc),.int .i64 (c.bg)]) rfl rfl (cells:=#[.int .i64 (c.pc),.int .i64 (c.bg)]) (by kernel_rfl)) ?_
 refine l_of (w_st #[.int .i64 (c.pc),.int .i64 (c.bg)] H6 0 ?_)
 intro wq7 H8
 refine w_k2 ?_
 refine fin_ret [.cell 2 100] [.agg #[.int .i64 (c.pc),.int .i64 (c.bg)]] rfl ⟨⟨_,rfl,run_loadA (H8.ob (k:=0) rfl) Tryz.underlying100 rfl sz100 rfl rfl⟩,trivial⟩ ?_
 exact ⟨rfl,H8.mask [false,false,true]⟩
theorem index_t (X:XP) (A:PK) (j:Nat) (hX:XOK X A) (hI:PKI j A) (i:Int) (hi:0≤i∧i<(A.n:Int))  (w:World) (HS:S w [(XI X A)]):Calls Tryz.prog 45 #[.pointer (some ⟨X.g,0,none⟩),.int .i64 i] w fun e w'=>e=.returned (.tuple #[])∧S w' ([(XI X A)]++[Old w (fps [(XI X A)])]):=by
 have H0:=HS.beginI
 have hn24:=hI.n24
 have hn1:=hI.n1
 have hpz1:=hI.pz1
 have hpz2:=hI.pz2
 have hla1:=hI.la1
 have hla2:=hI.la2
 have hadl:=hI.hadl
 have hwl:=hI.wishl
 replace H0:S _ [_,_,_,_,_,_,_,_]:=S.unbig (L:=[_,_,_,_,_,_,_]) H0
 refine enter 18 Tryz.func45 rfl rfl rfl ?_
 refine g_wk [(0,_),(1,_)] ?_
 refine w_s ?_
 refine w_m ?_
 refine w_b (v:=.bool true) (hb:=(b_neN (r:=false) Tryz.underlying26 rfl)) ?_
 refine l_of (s_call0 H0 (wt0 rfl) (x_call' rfl rfl cl39) (need_t true 1 rfl _) rfl rfl ?_)
 intro wq1 H2
 refine w_k5 ?_
 refine l_of (s_val (v:=.int .i64 i) (wt1 rfl rfl rfl rfl (decide_eq_true (by omega))) rfl rfl (x_move rfl rfl) ?_)
 refine l_of (s_val (v:=.pointer (some ⟨X.g,0,none⟩)) (wt1 rfl rfl rfl rfl (decide_eq_true (by omega))) rfl rfl (x_move rfl rfl) ?_)
 refine l_of (s_val (v:=.pointer (some ⟨X.g,0,none⟩)) (wt1 rfl rfl rfl rfl (decide_eq_true (by omega))) rfl rfl (x_nilCheck rfl rfl) ?_)
 refine l_of (s_val (v:=.pointer (some ⟨X.g,1,none⟩)) (wt1 rfl rfl rfl rfl (decide_eq_true (by omega))) rfl rfl (x_fieldAddr rfl rfl fo85_1 rfl) ?_)
 refine l_of (s_val (v:=.int .i64 ((A.n:Int))) (wt1 rfl rfl rfl rfl (decide_eq_true (by omega))) rfl rfl (x_load1 H2 0 rfl rfl Tryz.underlying3 rfl rfl rfl) ?_)
 refine l_of (s_val (v:=.bool (decide ((i:Int)<(A.n:Int)))) (wt1 rfl rfl rfl rfl (decide_eq_true (by omega))) rfl rfl (x_bin rfl rfl rfl b_lss) ?_)
 refine w_v (x_pick_t rfl rfl (decide_eq_true (by omega)) rfl) ?_
 refine l_of (s_call0 H2 (wt0 rfl) (x_call' rfl rfl cl39) (need_t (decide ((i:Int)<(A.n:Int))) 7 (decide_eq_true (by omega)) _) rfl rfl ?_)
 intro wq3 H4
 refine w_0 ?_
 refine fin_end [] [] rfl trivial ?_
 exact ⟨rfl,((S.big (L:=[_,_,_,_,_,_,_]) (H4.tk [0,1,2,3,4,5,6,7])).tk [0,1])⟩
theorem index_f (X:XP) (A:PK) (j:Nat) (hX:XOK X A) (hI:PKI j A) (i:Int) (hi:¬ (0≤i∧i<(A.n:Int)))  (w:World) (HS:S w [(XI X A)]):Calls Tryz.prog 45 #[.pointer (some ⟨X.g,0,none⟩),.int .i64 i] w fun e w'=>e=.panicked [{ v:=.iface 134 (.int .i64 7),recovered:=false }]∧S w' ([(XI X A)]++[Old w (fps [(XI X A)])]):=by
 have H0:=HS.beginI
 have hn24:=hI.n24
 have hn1:=hI.n1
 have hpz1:=hI.pz1
 have hpz2:=hI.pz2
 have hla1:=hI.la1
 have hla2:=hI.la2
 have hadl:=hI.hadl
 have hwl:=hI.wishl
 replace H0:S _ [_,_,_,_,_,_,_,_]:=S.unbig (L:=[_,_,_,_,_,_,_]) H0
 refine enter 18 Tryz.func45 rfl rfl rfl ?_
 refine g_wk [(0,_),(1,_)] ?_
 refine w_s ?_
 refine w_m ?_
 refine w_b (v:=.bool true) (hb:=(b_neN (r:=false) Tryz.underlying26 rfl)) ?_
 refine l_of (s_call0 H0 (wt0 rfl) (x_call' rfl rfl cl39) (need_t true 1 rfl _) rfl rfl ?_)
 intro wq1 H2
 refine w_k5 ?_
 by_cases hb3:(0:Int)≤i
 ·
  iterate 2 refine w_g (decide_eq_true hb3) xm ?_
  refine w_g (decide_eq_true hb3) xn ?_
  refine w_g (decide_eq_true hb3) (xf 1) ?_
  refine w_g (decide_eq_true hb3) (xl H2 0) ?_
  refine w_g (decide_eq_true hb3) (x_bin rfl rfl rfl b_lss) ?_
  refine w_v (x_pick_t rfl rfl (decide_eq_true hb3) rfl) ?_
  refine l_of (s_cl (need_f (decide ((i:Int)<(A.n:Int))) 7 (decide_eq_false (by omega)) _) ?_)
  rintro _ wq4 ⟨rfl,H5⟩
  replace H5:=H2.ab0 H5
  refine b_panic ?_
  refine fin_panic ?_
  exact ⟨rfl,((S.big (L:=[_,_,_,_,_,_,_]) (H5.tk [0,1,2,3,4,5,6,7])).tk [0,1])⟩
 ·
  iterate 6 refine w_n (decide_eq_false hb3) ?_
  refine w_v (x_pick_f rfl rfl (decide_eq_false hb3) rfl) ?_
  refine l_of (s_cl (need_f false 7 rfl _) ?_)
  rintro _ wq6 ⟨rfl,H7⟩
  replace H7:=H2.ab0 H7
  refine b_panic ?_
  refine fin_panic ?_
  exact ⟨rfl,((S.big (L:=[_,_,_,_,_,_,_]) (H7.tk [0,1,2,3,4,5,6,7])).tk [0,1])⟩
theorem peer_t (X:XP) (A:PK) (j:Nat) (hX:XOK X A) (hI:PKI j A) (k:Int) (hk:A.peE k=0)  (w:World) (HS:S w [(XI X A)]):Calls Tryz.prog 42 #[.pointer (some ⟨X.g,0,none⟩),.int .i64 k] w fun e w'=>∃ (i:Nat) (m:Mt),X.ms[i]?=some m∧m.k=k∧e=.returned (.pointer (some ⟨m.b,0,none⟩))∧S w' ([(XI X A)]++[Old w (fps [(XI X A)])]):=by
 have H0:=HS.beginI
 have hn24:=hI.n24
 have hn1:=hI.n1
 have hpz1:=hI.pz1
 have hpz2:=hI.pz2
 have hla1:=hI.la1
 have hla2:=hI.la2
 have hadl:=hI.hadl
 have hwl:=hI.wishl
 replace H0:S _ [_,_,_,_,_,_,_,_]:=S.unbig (L:=[_,_,_,_,_,_,_]) H0
 obtain ⟨hk1,hk2,i9,p9,hp9,hpk9,hf9⟩:=peE_0 hk
 have hs9:(mtM X.ms k).isSome=true:=by rw [hX.mtN,hf9]; rfl
 refine enter 27 Tryz.func42 rfl rfl rfl ?_
 refine g_wk [(0,_),(1,_)] ?_
 refine w_s ?_
 refine w_k4 ?_
 refine w_b (v:=.bool true) (hb:=(b_neN (r:=false) Tryz.underlying26 rfl)) ?_
 refine l_of (s_call0 H0 (wt0 rfl) (x_call' rfl rfl cl39) (need_t true 1 rfl _) rfl rfl ?_)
 intro wq1 H2
 refine w_k5 ?_
 refine l_of (s_val (v:=.int .i64 k) (wt1 rfl rfl rfl rfl (decide_eq_true (by omega))) rfl rfl (x_move rfl rfl) ?_)
 refine l_of (s_val (v:=.bool (decide ((k:Int)≤1000))) (wt1 rfl rfl rfl rfl (decide_eq_true (by omega))) rfl rfl (x_bin rfl rfl rfl b_leq) ?_)
 refine w_v (x_pick_t rfl rfl (decide_eq_true (by omega)) rfl) ?_
 refine l_of (s_call0 H2 (wt0 rfl) (x_call' rfl rfl cl39) (need_t (decide ((k:Int)≤1000)) 7 (decide_eq_true (by omega)) _) rfl rfl ?_)
 intro wq3 H4
 refine w_k8 ?_
 refine w_v (v:=(optP ((mtM X.ms) k))) (ex_cast (x_lookup1 (x:=k) (intTy Tryz.underlying80 Tryz.underlying3) H4 3 rfl rfl rfl rfl (⟨by omega,by omega⟩) ze79) (rfl)) ?_
 refine w_k2 ?_
 refine g_wk [(5,_)] ?_
 refine w_s ?_
 refine w_m ?_
 refine w_b (v:=.bool (((mtM X.ms) k).isSome)) (hb:=(b_nePO Tryz.underlying79)) ?_
 refine l_of (s_call0 H4 (wt0 rfl) (x_call' rfl rfl cl39) (need_t (((mtM X.ms) k).isSome) 8 hs9 _) rfl rfl ?_)
 intro wq5 H6
 obtain ⟨im,m,hm,hmk,hmb,hmf⟩:=mtM_ex hs9
 rw [optP_s hmb]
 refine w_k6 ?_
 refine fin_r [.tmp 4] [.pointer (some ⟨m.b,0,none⟩)] ?_
 exact ⟨im,m,hm,hmk,rfl,((S.big (L:=[_,_,_,_,_,_,_]) (H6.tk [0,1,2,3,4,5,6,7])).tk [0,1])⟩
theorem peer_f (X:XP) (A:PK) (j:Nat) (hX:XOK X A) (hI:PKI j A) (k:Int) (hk:¬ A.peE k=0)  (w:World) (HS:S w [(XI X A)]):Calls Tryz.prog 42 #[.pointer (some ⟨X.g,0,none⟩),.int .i64 k] w fun e w'=>e=.panicked [{ v:=.iface 134 (.int .i64 (A.peE k)),recovered:=false }]∧S w' ([(XI X A)]++[Old w (fps [(XI X A)])]):=by
 have H0:=HS.beginI
 have hn24:=hI.n24
 have hn1:=hI.n1
 have hpz1:=hI.pz1
 have hpz2:=hI.pz2
 have hla1:=hI.la1
 have hla2:=hI.la2
 have hadl:=hI.hadl
 have hwl:=hI.wishl
 replace H0:S _ [_,_,_,_,_,_,_,_]:=S.unbig (L:=[_,_,_,_,_,_,_]) H0
 refine enter 27 Tryz.func42 rfl rfl rfl ?_
 refine g_wk [(0,_),(1,_)] ?_
 refine w_s ?_
 refine w_k4 ?_
 refine w_b (v:=.bool true) (hb:=(b_neN (r:=false) Tryz.underlying26 rfl)) ?_
 refine l_of (s_call0 H0 (wt0 rfl) (x_call' rfl rfl cl39) (need_t true 1 rfl _) rfl rfl ?_)
 intro wq1 H2
 refine w_k5 ?_
 by_cases hb3:(1:Int)≤k
 ·
  refine w_g (decide_eq_true hb3) xm ?_
  refine w_g (decide_eq_true hb3) (x_bin rfl rfl rfl b_leq) ?_
  refine w_v (x_pick_t rfl rfl (decide_eq_true hb3) rfl) ?_
  by_cases hb4:(k:Int)≤1000
  ·
   refine l_of (s_call0 H2 (wt0 rfl) (x_call' rfl rfl cl39) (need_t (decide ((k:Int)≤1000)) 7 (decide_eq_true hb4) _) rfl rfl ?_)
   intro wq5 H6
   refine w_k8 ?_
   refine w_v (v:=(optP ((mtM X.ms) k))) (ex_cast (x_lookup1 (x:=k) (intTy Tryz.underlying80 Tryz.underlying3) H6 3 rfl rfl rfl rfl (⟨by omega,by omega⟩) ze79) (rfl)) ?_
   refine w_k2 ?_
   refine g_wk [(5,_)] ?_
   refine w_s ?_
   refine w_m ?_
   refine w_b (v:=.bool (((mtM X.ms) k).isSome)) (hb:=(b_nePO Tryz.underlying79)) ?_
   rcases Bool.eq_false_or_eq_true (((mtM X.ms) k).isSome) with hb7 | hb7
   ·
    refine l_of (s_call0 H6 (wt0 rfl) (x_call' rfl rfl cl39) (need_t (((mtM X.ms) k).isSome) 8 hb7 _) rfl rfl ?_)
    intro wq8 H9
    obtain ⟨im,m,hm,hmk,hmb,hmf⟩:=mtM_ex hb7
    rw [optP_s hmb]
    refine w_k6 ?_
    refine fin_r [.tmp 4] [.pointer (some ⟨m.b,0,none⟩)] ?_
    exact absurd (peE_ok (by omega) (by rw [← hX.mtN]; exact hb7)) hk
   ·
    refine l_of (s_cl (need_f (((mtM X.ms) k).isSome) 8 hb7 _) ?_)
    rintro _ wq10 ⟨rfl,H11⟩
    replace H11:=H6.ab0 H11
    refine b_panic ?_
    refine g_then_panic ?_
    refine fin_panic ?_
    have hE:A.peE k=8:=peE_no (by omega) (by rw [← hX.mtN]; exact hb7)
    rw [hE]
    exact ⟨rfl,((S.big (L:=[_,_,_,_,_,_,_]) (H11.tk [0,1,2,3,4,5,6,7])).tk [0,1])⟩
  ·
   refine l_of (s_cl (need_f (decide ((k:Int)≤1000)) 7 (decide_eq_false hb4) _) ?_)
   rintro _ wq12 ⟨rfl,H13⟩
   replace H13:=H2.ab0 H13
   refine b_panic ?_
   refine g_then_panic ?_
   refine fin_panic ?_
   have hE:A.peE k=7:=if_pos (by omega)
   rw [hE]
   exact ⟨rfl,((S.big (L:=[_,_,_,_,_,_,_]) (H13.tk [0,1,2,3,4,5,6,7])).tk [0,1])⟩
 ·
  iterate 2 refine w_n (decide_eq_false hb3) ?_
  refine w_v (x_pick_f rfl rfl (decide_eq_false hb3) rfl) ?_
  refine l_of (s_cl (need_f false 7 rfl _) ?_)
  rintro _ wq14 ⟨rfl,H15⟩
  replace H15:=H2.ab0 H15
  refine b_panic ?_
  refine g_then_panic ?_
  refine fin_panic ?_
  have hE:A.peE k=7:=if_pos (by omega)
  rw [hE]
  exact ⟨rfl,((S.big (L:=[_,_,_,_,_,_,_]) (H15.tk [0,1,2,3,4,5,6,7])).tk [0,1])⟩
theorem boE_ok {A:PK} {k i:Int} (hi:0≤i∧i<(A.n:Int)) (h:A.peE k=0):A.boE k i=0:=by
 unfold PK.peE at h
 unfold PK.boE
 split at h
 · cases h
 · rw [if_neg (by omega)]; exact h
theorem boE_pe {A:PK} {k i:Int} (h1:1≤k∧k≤1000) (hi:0≤i∧i<(A.n:Int)):A.boE k i=A.peE k:=by
 unfold PK.peE PK.boE
 rw [if_neg (show ¬ ((k<1∨1000<k)∨(i<0∨(A.n:Int)≤i)) by omega),if_neg (show ¬ (k<1∨1000<k) by omega)]
theorem both_t (X:XP) (A:PK) (j:Nat) (hX:XOK X A) (hI:PKI j A) (k i:Int) (hk:A.boE k i=0)  (w:World) (HS:S w [(XI X A)]):Calls Tryz.prog 49 #[.pointer (some ⟨X.g,0,none⟩),.int .i64 k,.int .i64 i] w fun e w'=>∃ (i:Nat) (m:Mt),X.ms[i]?=some m∧m.k=k∧e=.returned (.pointer (some ⟨m.b,0,none⟩))∧S w' ([(XI X A)]++[Old w (fps [(XI X A)])]):=by
 have H0:=HS.beginI
 have hn24:=hI.n24
 have hn1:=hI.n1
 have hpz1:=hI.pz1
 have hpz2:=hI.pz2
 have hla1:=hI.la1
 have hla2:=hI.la2
 have hadl:=hI.hadl
 have hwl:=hI.wishl
 replace H0:S _ [_,_,_,_,_,_,_,_]:=S.unbig (L:=[_,_,_,_,_,_,_]) H0
 obtain ⟨hbp,hbi⟩:=boE_0 hk
 obtain ⟨hk1,hk2,_⟩:=peE_0 hbp
 refine enter 23 Tryz.func49 rfl rfl rfl ?_
 refine g_wk [(0,_),(1,_),(2,_)] ?_
 refine w_s ?_
 refine w_k4 ?_
 refine w_b (v:=.bool true) (hb:=(b_neN (r:=false) Tryz.underlying26 rfl)) ?_
 refine l_of (s_call0 H0 (wt0 rfl) (x_call' rfl rfl cl39) (need_t true 1 rfl _) rfl rfl ?_)
 intro wq1 H2
 refine w_k5 ?_
 refine l_of (s_val (v:=.int .i64 k) (wt1 rfl rfl rfl rfl (decide_eq_true (by omega))) rfl rfl (x_move rfl rfl) ?_)
 refine l_of (s_val (v:=.bool (decide ((k:Int)≤1000))) (wt1 rfl rfl rfl rfl (decide_eq_true (by omega))) rfl rfl (x_bin rfl rfl rfl b_leq) ?_)
 refine w_v (x_pick_t rfl rfl (decide_eq_true (by omega)) rfl) ?_
 refine l_of (s_call0 H2 (wt0 rfl) (x_call' rfl rfl cl39) (need_t (decide ((k:Int)≤1000)) 7 (decide_eq_true (by omega)) _) rfl rfl ?_)
 intro wq3 H4
 refine w_k4 ?_
 have H5:S _ [_,_]:=S.big (L:=[_,_,_,_,_,_,_]) (H4.tk [0,1,2,3,4,5,6,7])
 refine l_of (s_cl (index_t X A j hX hI i (by omega) _ (H5.tk [0])) ?_)
 rintro _ wq6 ⟨rfl,H7⟩
 replace H7:S _ [_,_]:=H5.abI (new:=[_]) [0] H7 rfl
 have H8:S _ [_,_,_,_,_,_,_,_]:=S.unbig (L:=[_,_,_,_,_,_,_]) (H7.tk [0,1])
 refine b_ret rfl rfl ?_
 refine w_e ?_
 refine g_wk [(0,_),(1,_)] ?_
 refine w_s ?_
 refine w_r2 ?_
 have H13:S _ [_,_]:=S.big (L:=[_,_,_,_,_,_,_]) (H8.tk [0,1,2,3,4,5,6,7])
 refine l_of (s_cl (peer_t X A j hX hI k hbp _ (H13.tk [0])) ?_)
 rintro _ wq14 ⟨im9,m10,hm11,hk12,rfl,H15⟩
 replace H15:S _ [_,_]:=H13.abI (new:=[_]) [0] H15 rfl
 have H16:S _ [_,_,_,_,_,_,_,_]:=S.unbig (L:=[_,_,_,_,_,_,_]) (H15.tk [0,1])
 refine b_ret rfl rfl ?_
 refine w_k3 ?_
 refine fin_r [.tmp 6] [.pointer (some ⟨m10.b,0,none⟩)] ?_
 exact ⟨im9,m10,hm11,hk12,rfl,((S.big (L:=[_,_,_,_,_,_,_]) (H16.tk [0,1,2,3,4,5,6,7])).tk [0,1])⟩
theorem both_f (X:XP) (A:PK) (j:Nat) (hX:XOK X A) (hI:PKI j A) (k i:Int) (hk:¬ A.boE k i=0)  (w:World) (HS:S w [(XI X A)]):Calls Tryz.prog 49 #[.pointer (some ⟨X.g,0,none⟩),.int .i64 k,.int .i64 i] w fun e w'=>e=.panicked [{ v:=.iface 134 (.int .i64 (A.boE k i)),recovered:=false }]∧S w' ([(XI X A)]++[Old w (fps [(XI X A)])]):=by
 have H0:=HS.beginI
 have hn24:=hI.n24
 have hn1:=hI.n1
 have hpz1:=hI.pz1
 have hpz2:=hI.pz2
 have hla1:=hI.la1
 have hla2:=hI.la2
 have hadl:=hI.hadl
 have hwl:=hI.wishl
 replace H0:S _ [_,_,_,_,_,_,_,_]:=S.unbig (L:=[_,_,_,_,_,_,_]) H0
 refine enter 23 Tryz.func49 rfl rfl rfl ?_
 refine g_wk [(0,_),(1,_),(2,_)] ?_
 refine w_s ?_
 refine w_k4 ?_
 refine w_b (v:=.bool true) (hb:=(b_neN (r:=false) Tryz.underlying26 rfl)) ?_
 refine l_of (s_call0 H0 (wt0 rfl) (x_call' rfl rfl cl39) (need_t true 1 rfl _) rfl rfl ?_)
 intro wq1 H2
 refine w_k5 ?_
 by_cases hb3:(1:Int)≤k
 ·
  refine w_g (decide_eq_true hb3) xm ?_
  refine w_g (decide_eq_true hb3) (x_bin rfl rfl rfl b_leq) ?_
  refine w_v (x_pick_t rfl rfl (decide_eq_true hb3) rfl) ?_
  by_cases hb4:(k:Int)≤1000
  ·
   refine l_of (s_call0 H2 (wt0 rfl) (x_call' rfl rfl cl39) (need_t (decide ((k:Int)≤1000)) 7 (decide_eq_true hb4) _) rfl rfl ?_)
   intro wq5 H6
   refine w_k4 ?_
   by_cases hb7:0≤i∧i<(A.n:Int)
   ·
    have H8:S _ [_,_]:=S.big (L:=[_,_,_,_,_,_,_]) (H6.tk [0,1,2,3,4,5,6,7])
    refine l_of (s_cl (index_t X A j hX hI i hb7 _ (H8.tk [0])) ?_)
    rintro _ wq9 ⟨rfl,H10⟩
    replace H10:S _ [_,_]:=H8.abI (new:=[_]) [0] H10 rfl
    have H11:S _ [_,_,_,_,_,_,_,_]:=S.unbig (L:=[_,_,_,_,_,_,_]) (H10.tk [0,1])
    refine b_ret rfl rfl ?_
    refine w_e ?_
    refine g_wk [(0,_),(1,_)] ?_
    refine w_s ?_
    refine w_r2 ?_
    by_cases hb12:(A.peE k)=0
    ·
     have H17:S _ [_,_]:=S.big (L:=[_,_,_,_,_,_,_]) (H11.tk [0,1,2,3,4,5,6,7])
     refine l_of (s_cl (peer_t X A j hX hI k hb12 _ (H17.tk [0])) ?_)
     rintro _ wq18 ⟨im13,m14,hm15,hk16,rfl,H19⟩
     replace H19:S _ [_,_]:=H17.abI (new:=[_]) [0] H19 rfl
     have H20:S _ [_,_,_,_,_,_,_,_]:=S.unbig (L:=[_,_,_,_,_,_,_]) (H19.tk [0,1])
     refine b_ret rfl rfl ?_
     refine w_k3 ?_
     refine fin_r [.tmp 6] [.pointer (some ⟨m14.b,0,none⟩)] ?_
     exact absurd (boE_ok (by omega) hb12) hk
    ·
     have H21:S _ [_,_]:=S.big (L:=[_,_,_,_,_,_,_]) (H11.tk [0,1,2,3,4,5,6,7])
     refine l_of (s_cl (peer_f X A j hX hI k hb12 _ (H21.tk [0])) ?_)
     rintro _ wq22 ⟨rfl,H23⟩
     replace H23:S _ [_,_]:=H21.abI (new:=[_]) [0] H23 rfl
     have H24:S _ [_,_,_,_,_,_,_,_]:=S.unbig (L:=[_,_,_,_,_,_,_]) (H23.tk [0,1])
     refine b_panic ?_
     refine g_then_panic ?_
     refine fin_panic ?_
     have hE:A.boE k i=A.peE k:=boE_pe (by omega) (by omega)
     rw [hE]
     exact ⟨rfl,((S.big (L:=[_,_,_,_,_,_,_]) (H24.tk [0,1,2,3,4,5,6,7])).tk [0,1])⟩
   ·
    have H25:S _ [_,_]:=S.big (L:=[_,_,_,_,_,_,_]) (H6.tk [0,1,2,3,4,5,6,7])
    refine l_of (s_cl (index_f X A j hX hI i hb7 _ (H25.tk [0])) ?_)
    rintro _ wq26 ⟨rfl,H27⟩
    replace H27:S _ [_,_]:=H25.abI (new:=[_]) [0] H27 rfl
    have H28:S _ [_,_,_,_,_,_,_,_]:=S.unbig (L:=[_,_,_,_,_,_,_]) (H27.tk [0,1])
    refine b_panic ?_
    refine g_then_panic ?_
    refine fin_panic ?_
    have hE:A.boE k i=7:=if_pos (by omega)
    rw [hE]
    exact ⟨rfl,((S.big (L:=[_,_,_,_,_,_,_]) (H28.tk [0,1,2,3,4,5,6,7])).tk [0,1])⟩
  ·
   refine l_of (s_cl (need_f (decide ((k:Int)≤1000)) 7 (decide_eq_false hb4) _) ?_)
   rintro _ wq29 ⟨rfl,H30⟩
   replace H30:=H2.ab0 H30
   refine b_panic ?_
   refine g_then_panic ?_
   refine fin_panic ?_
   have hE:A.boE k i=7:=if_pos (by omega)
   rw [hE]
   exact ⟨rfl,((S.big (L:=[_,_,_,_,_,_,_]) (H30.tk [0,1,2,3,4,5,6,7])).tk [0,1])⟩
 ·
  iterate 2 refine w_n (decide_eq_false hb3) ?_
  refine w_v (x_pick_f rfl rfl (decide_eq_false hb3) rfl) ?_
  refine l_of (s_cl (need_f false 7 rfl _) ?_)
  rintro _ wq31 ⟨rfl,H32⟩
  replace H32:=H2.ab0 H32
  refine b_panic ?_
  refine g_then_panic ?_
  refine fin_panic ?_
  have hE:A.boE k i=7:=if_pos (by omega)
  rw [hE]
  exact ⟨rfl,((S.big (L:=[_,_,_,_,_,_,_]) (H32.tk [0,1,2,3,4,5,6,7])).tk [0,1])⟩
abbrev DXa0 (X:XP) (A:PK):=Ob X.g (.cells #[.map (some X.mg),.int .i64 ((A.n:Int)),.int .i64 ((A.pz:Int)),.int .i64 ((A.la:Int)),.string (A.seed),.bool A.ino,.slice X.hp A.had.length X.hc,.slice X.wp A.wish.length X.wc,.map (some X.bg)] 85 (0,0))
theorem hasM_x (X:XP) (A:PK) (j:Nat) (hX:XOK X A) (hI:PKI j A) (q:Nat) (m:Mt) (hm:X.ms[q]?=some m) (i:Int) (hi:0≤i∧i<(A.n:Int))  (w:World) (HS:S w [DXa0 X A,(Lst MtI X.ms)]):Calls Tryz.prog 132 #[.pointer (some ⟨X.g,0,none⟩),.pointer (some ⟨m.b,0,none⟩),.int .i64 i] w fun e w'=>e=.returned (.bool (bitAt m.fld i))∧S w' ([DXa0 X A,(Lst MtI X.ms)]++[Old w (fps [DXa0 X A,(Lst MtI X.ms)])]):=by
 have H0:=HS.beginI
 have hn24:=hI.n24
 refine enter 23 Tryz.func132 rfl rfl rfl ?_
 refine g_wk [(0,_),(1,_),(2,_)] ?_
 refine w_s ?_
 refine w_k2 ?_
 refine g_seq ?_
 refine g_anyY [] (fun wx=>S wx [DXa0 X A,(Lst MtI X.ms),Old w (fps [DXa0 X A,(Lst MtI X.ms)])]) (fun wx=>S wx [DXa0 X A,(Lst MtI X.ms),Old w (fps [DXa0 X A,(Lst MtI X.ms)])]) [] (by kernel_rfl) H0 (fun wq1 H2=>?_)
 refine y_p 0 rfl (fun _=>xm) ?_
 refine y_p 1 rfl (fun _=>xn) ?_
 refine y_p 2 rfl (fun _=>xf 1) ?_
 refine y_t 3 rfl H2 (fun _ H=>xl H 0) ?_
 refine y_p 4 rfl (fun _=>xm) ?_
 refine y_p 5 rfl (fun _=>xn) ?_
 refine y_p 6 rfl (fun _=>xf 0) ?_
 refine y_t (v:=.string ((fieldS m.fld))) 7 rfl H2 (fun _ H=>x_loadC rfl rfl Tryz.underlying9 rfl (H.mtCell (k:=1) rfl hm (c:=0) rfl)) ?_
 refine y_p 8 rfl (fun _=>xm) ?_
 refine y_one (i:=9) (by kernel_rfl) rfl ?_
 refine s_call0 H2 (wt0 rfl) (x_call' rfl rfl cl153) (hasX A.n m.fld i (by omega) (hI.fl m.pe (List.mem_of_getElem? (hX.at hm))).1 hi _) rfl rfl ?_
 intro wq3 H4
 refine y_k H4 H4 ?_
 refine y_p 10 rfl (fun _=>xm) ?_
 refine y_p 11 rfl (fun _=>xe) ?_
 refine y_p 12 rfl (fun _=>xe) ?_
 refine y_one (i:=13) (by kernel_rfl) rfl ?_
 refine s_v xa ?_
 refine y_k H4 H4 ?_
 refine y_one (i:=14) (by kernel_rfl) rfl ?_
 refine s_v xa ?_
 refine y_k H4 H4 ?_
 refine y_done (by kernel_rfl) ?_
 refine w_0 ?_
 refine g_wk [(7,_)] ?_
 refine w_s ?_
 refine w_k4 ?_
 refine fin_r [.tmp 6] [.bool ((bitAt m.fld i))] ?_
 exact ⟨rfl,H4.tk [0,1,2]⟩
end Go.Proofs.YthmmfhdpkddniaaGreatDoor
