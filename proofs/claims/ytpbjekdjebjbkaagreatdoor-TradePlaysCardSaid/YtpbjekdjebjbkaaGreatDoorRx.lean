import Derived.Test.YtpbjekdjebjbkaaGreatDoorFm
import Derived.Test.YtpbjekdjebjbkaaGreatDoorRw
set_option linter.unusedSimpArgs false
set_option linter.unusedVariables false
namespace Go.Proofs.YtpbjekdjebjbkaaGreatDoor
open Go.RowKit
theorem cl12:callable Tryz.prog 12=true:=by kernel_rfl
theorem cl5:callable Tryz.prog 5=true:=by kernel_rfl
theorem cl6:callable Tryz.prog 6=true:=by kernel_rfl
theorem sz37:szO Tryz.prog 37=some 4:=by kernel_rfl
theorem ze37:zeO Tryz.prog 37=some (.agg #[.int .i64 0,.int .i64 0,.int .i64 0,.int .i64 0]):=by kernel_rfl
structure Chg where
 rd:Int
 n:Int
 st:Int
 rt:Int
def chgL (c:Chg):List Value:=[.int .i64 c.rd,.int .i64 c.n,.int .i64 c.st,.int .i64 c.rt]
theorem chgE:Enc 4 chgL:=⟨by decide,fun _=>rfl,fun _=>rfl⟩
theorem ch_ps {A:GA} {n:Nat} {p:Pl} {c:Prop} [Decidable c]:(if c then chA A n p else A).ps.length=A.ps.length:=by
 split
 · exact List.length_set ..
 · rfl
theorem zz_eq {zz:List (Ro Int)} {rd:Rd} {A:GA} {i:Nat} {x y:Ro Int} (h1:zz.map Ro.l=roundR A) (h2:rd.v=roundR A) (hx:zz[i]?=some x) (hy:rd.l[i]?=some y):y.l=x.l:=by
 have e1:(zz.map Ro.l)[i]?=some x.l:=by rw [List.getElem?_map,hx]; rfl
 have e2:rd.v[i]?=some y.l:=by unfold Rd.v; rw [List.getElem?_map,hy]; rfl
 rw [h1,← h2,e2] at e1
 exact Option.some.inj e1
theorem alike_q {pl:List Rd} {X:GM} {Y:GR} {g0 g1:Nat} {w:World} (hX:MOK pl X) (hY:ROK pl X.A Y) (hgl:X.gs.length≤100) (h1:X.g=g0) (h2:Y.g=g1) (n:Int) (hn:n=(X.A.ps.length:Int)) (HS:S w [X.I,Y.I,Pool pl]):Calls Tryz.prog 16 #[.pointer (some ⟨g0,0,none⟩),.pointer (some ⟨g1,0,none⟩),.int .i64 n] w fun e w'=>e=.returned (.bool true)∧S w' ([X.I,Y.I,Pool pl]++[Old w (fps [X.I,Y.I,Pool pl])]):=by
 subst h1
 subst h2
 exact alike_s pl X Y hX hY hgl n hn w HS
set_option maxRecDepth 20000 in
set_option maxHeartbeats 4000000 in
theorem plays_law (sd:ByteArray) (l:List Pl) (p:Option Addr) (n c:Nat) (hn2:n≤9223372036854775807) (rn:Int) (cl:List Chg) (q:Option Addr) (m d:Nat) (hm2:m≤9223372036854775807)  (w:World) (hr:Reads w p n c 2 (fl plL l)) (hq:Reads w q m d 4 (fl chgL cl)):Calls Tryz.prog 3 #[.string sd,.slice p n c,.int .i64 rn,.slice q m d] w fun e w'=>e=.returned (.bool true)∧S w' [Old w no]:=by
 have H0:=S.old w
 have hnl:=hr.lenL plE
 have hml:=hq.lenL chgE
 refine enter 154 Tryz.func3 rfl rfl rfl ?_
 refine g_wk [(0,_),(1,_),(2,_),(3,_)] ?_
 refine w_s ?_
 refine w_k7 ?_
 refine l_of (s_call0 H0 (wt0 rfl) (x_call' rfl rfl cl5) (light_s sd l p n c rn _) rfl rfl ?_)
 intro wq1 H2
 refine w_v (x_not (b:=decide (n≤9∧sd.size≤120∧rn≤30)) rfl rfl) ?_
 refine w_m ?_
 by_cases hb3:(n≤9∧sd.size≤120∧rn≤30)
 ·
  refine w_g (nf hb3) xm ?_
  refine w_g (nf hb3) x_q ?_
  refine w_g (nf hb3) (x_bin rfl rfl rfl b_gtr) ?_
  refine w_v (x_pick_f rfl rfl (nf hb3) rfl) ?_
  refine w_e ?_
  by_cases hb4:(10:Int)<(m:Int)
  ·
   refine g_ct hb4 ?_
   refine w_s ?_
   refine l_of (s_call0 H2 (wt0 rfl) (x_call' rfl rfl cl6) (awake_s _) rfl rfl ?_)
   intro wq5 H6
   refine w_k4 ?_
   refine fin_r [.tmp 8] [.bool true] ?_
   exact ⟨rfl,H6.mask [true]⟩
  ·
   refine g_cf hb4 ?_
   refine w_k9 ?_
   refine g_loop (ι:=Nat) (fun v=>[(0,.string sd),(1,.slice p n c),(2,.int .i64 rn),(3,.slice q m d),(34,.slice p n c),(35,.int .i64 ((n:Int))),(36,.int .i64 ((v:Int)))]) (fun v wx=>(v≤n)∧S wx [Old w no]) (fun v=>n - v) (0) ⟨rfl,rfl,rfl,rfl,rfl,rfl,rfl,trivial⟩ ⟨Nat.zero_le _,(H2.tk [0])⟩ ?_
   rintro v wq7 ⟨hv,H8⟩
   refine g_wk [(0,_),(1,_),(2,_),(3,_),(34,_),(35,_),(36,_)] ?_
   refine w_s ?_
   refine w_k2 ?_
   refine g_seq ?_
   by_cases hb9:((v:Int):Int)<(n:Int)
   ·
    refine g_ct hb9 ?_
    refine w_k5 ?_
    refine w_v (x_i v (H8.exReads (k:=0) rfl hr (fun _ _ _ h=>h))) ?_
    obtain ⟨x10,hx10⟩:=(H8.exReads (k:=0) rfl hr (fun _ _ _ h=>h)).exL plE v
    refine w_v (x_loadRA (vs:=plL x10) v (H8.exReads (k:=0) rfl hr (fun _ _ _ h=>h)) (by omega) rfl rfl Tryz.underlying27 rfl sz27 (by rfl) (plE.flAt hx10)) ?_
    refine l_of (s_alloc H8 (wt0 rfl) rfl rfl rfl ze27 ?_)
    intro g11 wq12 H13
    refine l_of (w_st #[.int .i64 (x10.st),.int .i64 (x10.rt)] H13 0 ?_)
    intro wq14 H15
    refine w_e ?_
    refine g_seq ?_
    refine g_any [] (fun wx=>S wx [Ob g11 (.cells #[.int .i64 (x10.st),.int .i64 (x10.rt)] 27 (0,0))]) [] (by kernel_rfl) H15 (fun wq16 H17=>?_)
    refine w_t (v:=.agg #[.int .i64 (x10.st),.int .i64 (x10.rt)]) 0 rfl (H17.mask [true,false]) (fun _ H=>x_loadA H 0 rfl rfl Tryz.underlying27 rfl sz27 rfl rfl rfl) ?_
    refine w_t (v:=.agg #[.int .i64 (x10.st),.int .i64 (x10.rt)]) 2 rfl (H17.mask [true,false]) (fun _ H=>x_loadA H 0 rfl rfl Tryz.underlying27 rfl sz27 rfl rfl rfl) ?_
    refine a_one (i:=1) (by kernel_rfl) rfl ?_
    refine s_call0 H17 (wt0 rfl) (x_call' rfl rfl cl7) (valid_p x10 _) rfl rfl ?_
    intro wq18 H19
    refine a_k (H19.mask [true,false]) ?_
    refine a_one (i:=3) (by kernel_rfl) rfl ?_
    refine s_call0 H19 (wt0 rfl) (x_call' rfl rfl cl8) (validp_r x10 _) rfl rfl ?_
    intro wq20 H21
    refine a_k (H21.mask [true,false]) ?_
    refine w_t (v:=.bool (!(((valP x10)) == ((valP x10))))) 4 rfl (H21.mask [true,false]) (fun _ _=>x_bin rfl rfl rfl (b_neN Tryz.underlying4 rfl)) ?_
    refine a_done (by kernel_rfl) ?_
    refine w_0 ?_
    refine g_cond_f rfl (by simp) ?_
    refine w_k4 ?_
    refine w_i v ?_
    refine w_k2 ?_
    refine g_rd (i:=(v)) ((v+1)) ⟨by omega,(H21.tk [1])⟩
   ·
    refine g_cf hb9 ?_
    refine w_k8 ?_
    refine l_of (s_cl (new_any sd l p n c (by omega) _ (H8.exReads (k:=0) rfl hr (fun _ _ _ h=>h))) ?_)
    rintro ee24 wq22 hor25
    rcases hor25 with ⟨rfl,hEX,H23⟩ | ⟨X,rfl,hEX,hAX,hMX,hlX,H23⟩
    ·
     replace H23:=H8.ab0 H23
     refine b_ret rfl rfl ?_
     refine w_k9 ?_
     refine l_of (s_cl (newr_q sd l p n c (by omega) _ (H23.exReads (k:=0) rfl hr (fun _ _ _ h=>h))) ?_)
     rintro ee28 wq26 hor29
     rcases hor29 with ⟨rfl,hEK,H27⟩ | ⟨K,rfl,hEK,hRK,hlK,H27⟩
     ·
      replace H27:=H23.ab0 H27
      refine b_ret rfl rfl ?_
      refine w_k10 ?_
      refine w_b (v:=.bool (!decide (((newE sd l):Int)=(newE sd l)))) (hb:=b_neq) ?_
      refine w_m ?_
      refine w_g (nf rfl) xm ?_
      refine w_g (nf rfl) (x_bin rfl rfl rfl b_neq) ?_
      refine w_v (x_pick_f rfl rfl (nf rfl) rfl) ?_
      refine w_e ?_
      refine g_nt hEX ?_
      refine w_k5 ?_
      refine w_g (decide_eq_true rfl) xm ?_
      refine w_g (v:=.bool true) (decide_eq_true rfl) (x_bin rfl rfl rfl (b_eqN (r:=true) Tryz.underlying29 rfl)) ?_
      refine w_v (x_pick_t rfl rfl (decide_eq_true rfl) rfl) ?_
      refine w_m ?_
      refine l_of (s_call0 H27 (wt1 rfl rfl rfl rfl rfl) (x_call' rfl rfl cl6) (awake_s _) rfl rfl ?_)
      intro wq30 H31
      refine w_v (x_pick_t rfl rfl rfl rfl) ?_
      refine w_k2 ?_
      refine g_wk [(8,_)] ?_
      refine g_ret ?_
      refine w_0 ?_
      refine fin_r [.tmp 8] [.bool true] ?_
      exact ⟨rfl,H31.mask [true]⟩
     ·
      exact absurd hEK hEX
    ·
     replace H23:S _ [_,_]:=H8.ab (new:=[_]) H23 rfl
     have H32:S _ [_,_,_]:=S.lstNil H23 RdI
     refine b_ret rfl rfl ?_
     refine w_k9 ?_
     refine l_of (s_cl (newr_q sd l p n c (by omega) _ (H32.exReads (k:=2) rfl hr (fun _ _ _ h=>h))) ?_)
     rintro ee35 wq33 hor36
     rcases hor36 with ⟨rfl,hEK,H34⟩ | ⟨K,rfl,hEK,hRK,hlK,H34⟩
     ·
      exact absurd hEX hEK
     ·
      replace H34:S _ [_,_,_,_]:=H32.ab (new:=[_]) H34 rfl
      refine b_ret rfl rfl ?_
      refine w_k10 ?_
      refine w_b (v:=.bool (!decide ((0:Int)=0))) (hb:=b_neq) ?_
      refine w_m ?_
      refine w_g (nf rfl) xm ?_
      refine w_g (nf rfl) (x_bin rfl rfl rfl b_neq) ?_
      refine w_v (x_pick_f rfl rfl (nf rfl) rfl) ?_
      refine w_e ?_
      refine g_nf rfl ?_
      refine w_k5 ?_
      obtain ⟨mx,hmx⟩:∃ mx:Int,mx=max rn 0:=⟨_,rfl⟩
      have hmb:0≤mx∧mx≤30:=by omega
      refine w_v (v:=.int .i64 mx) (ex_cast (x_max rfl rfl rfl) (by rw [hmx])) ?_
      clear hmx
      refine w_k3 ?_
      refine g_loop (ι:=Nat × GM × GR × List Rd) (fun (k,G,K1,pl2)=>[(1,.slice p n c),(3,.slice q m d),(11,.pointer (some ⟨X.g,0,none⟩)),(13,.pointer (some ⟨K.g,0,none⟩)),(76,.int .i64 mx),(77,.int .i64 ((k:Int)))]) (fun (k,G,K1,pl2) wx=>((k:Int)≤mx)∧(G.A.ps.length=l.length)∧(G.g=X.g)∧(K1.g=K.g)∧(G.gs.length=k)∧(MOK pl2 G)∧(ROK pl2 G.A K1)∧S wx [(GM.I G),(GR.I K1),(Pool pl2),Old w no]) (fun (k,G,K1,pl2)=>mx.toNat - k) (0,X,K,[]) ⟨rfl,rfl,rfl,rfl,rfl,rfl,trivial⟩ ⟨(by omega),(by rw [hAX]; rfl),rfl,rfl,hlX,hMX,(by rw [hAX]; exact hRK),(H34.tk [2,0,1,3])⟩ ?_
      rintro ⟨k,G,K1,pl2⟩ wq37 ⟨hk,hGn,hGg,hKg,hGl,hGM,hKR,H38⟩
      refine g_wk [(1,_),(3,_),(11,_),(13,_),(76,_),(77,_)] ?_
      refine w_s ?_
      refine w_k2 ?_
      refine g_seq ?_
      by_cases hb39:((k:Int):Int)<mx
      ·
       refine g_ct hb39 ?_
       refine w_k15 ?_
       refine g_loop (ι:=Nat × GM × GR) (fun (cj,Gc,Kc)=>[(1,.slice p n c),(3,.slice q m d),(11,.pointer (some ⟨X.g,0,none⟩)),(13,.pointer (some ⟨K.g,0,none⟩)),(15,.int .i64 ((k:Int))),(76,.int .i64 mx),(77,.int .i64 ((k:Int))),(80,.slice q m d),(81,.int .i64 ((m:Int))),(82,.int .i64 ((cj:Int)))]) (fun (cj,Gc,Kc) wx=>(cj≤m)∧(Gc.A.ps.length=l.length)∧(Gc.g=X.g)∧(Kc.g=K.g)∧(Gc.gs.length=k)∧(MOK pl2 Gc)∧(ROK pl2 Gc.A Kc)∧S wx [(GM.I Gc),(GR.I Kc),(Pool pl2),Old w no]) (fun (cj,Gc,Kc)=>m - cj) (0,G,K1) ⟨rfl,rfl,rfl,rfl,rfl,rfl,rfl,rfl,rfl,rfl,trivial⟩ ⟨Nat.zero_le _,hGn,hGg,hKg,hGl,hGM,hKR,(H38.tk [0,1,2,3])⟩ ?_
       rintro ⟨cj,Gc,Kc⟩ wq40 ⟨hcj,hHn,hHg,hLg,hHl,hHM,hLR,H41⟩
       refine g_wk [(1,_),(3,_),(11,_),(13,_),(15,_),(76,_),(77,_),(80,_),(81,_),(82,_)] ?_
       refine w_s ?_
       refine w_k2 ?_
       refine g_seq ?_
       by_cases hb42:((cj:Int):Int)<(m:Int)
       ·
        refine g_ct hb42 ?_
        refine w_k5 ?_
        try clear hlX
        try clear hlK
        try clear hn2
        try clear hGl
        try clear hGn
        try clear hk
        try clear hmb
        refine w_v (x_i cj (H41.exReads (k:=3) rfl hq (fun _ _ _ h=>h))) ?_
        obtain ⟨x43,hx43⟩:=(H41.exReads (k:=3) rfl hq (fun _ _ _ h=>h)).exL chgE cj
        refine w_v (x_loadRA (vs:=chgL x43) cj (H41.exReads (k:=3) rfl hq (fun _ _ _ h=>h)) (by omega) rfl rfl Tryz.underlying37 rfl sz37 (by rfl) (chgE.flAt hx43)) ?_
        refine l_of (s_alloc H41 (wt0 rfl) rfl rfl rfl ze37 ?_)
        intro g44 wq45 H46
        refine l_of (w_st #[.int .i64 (x43.rd),.int .i64 (x43.n),.int .i64 (x43.st),.int .i64 (x43.rt)] H46 0 ?_)
        intro wq47 H48
        refine w_e ?_
        refine g_seq ?_
        refine g_any [] (fun wx=>S wx [Ob g44 (.cells #[.int .i64 (x43.rd),.int .i64 (x43.n),.int .i64 (x43.st),.int .i64 (x43.rt)] 37 (0,0))]) [] (by kernel_rfl) H48 (fun wq49 H50=>?_)
        have cm1:=H50.mask [true,false,false,false,false]
        refine w_t 0 rfl cm1 (fun _ _=>xf 0) ?_
        refine w_t 1 rfl cm1 (fun _ H=>xl H 0) ?_
        refine w_t 2 rfl cm1 (fun _ _=>xm) ?_
        refine w_t 3 rfl cm1 (fun _ _=>x_bin rfl rfl rfl b_eql) ?_
        refine w_t 4 rfl cm1 (fun _ _=>xm) ?_
        by_cases hb51:(x43.rd:Int)=(k:Int)
        ·
         have cm2:=H50.mask [true,false,false,false,false]
         refine w_tg 5 rfl (decide_eq_true hb51) cm2 (fun _ _=>xm) ?_
         refine w_tg 6 rfl (decide_eq_true hb51) cm2 (fun _ _=>xf 1) ?_
         refine w_tg 7 rfl (decide_eq_true hb51) cm2 (fun _ H=>xl H 0) ?_
         refine w_tg 8 rfl (decide_eq_true hb51) cm2 (fun _ _=>xf 2) ?_
         refine w_tg (v:=.agg #[.int .i64 (x43.st),.int .i64 (x43.rt)]) 9 rfl (decide_eq_true hb51) cm2 (fun _ H=>x_loadA H 0 rfl rfl Tryz.underlying27 rfl sz27 rfl rfl rfl) ?_
         refine w_tg 11 rfl (decide_eq_true hb51) cm2 (fun _ _=>xm) ?_
         refine w_tg 12 rfl (decide_eq_true hb51) cm2 (fun _ _=>xf 1) ?_
         refine w_tg 13 rfl (decide_eq_true hb51) cm2 (fun _ H=>xl H 0) ?_
         refine w_tg 14 rfl (decide_eq_true hb51) cm2 (fun _ _=>xf 2) ?_
         refine w_tg (v:=.agg #[.int .i64 (x43.st),.int .i64 (x43.rt)]) 15 rfl (decide_eq_true hb51) cm2 (fun _ H=>x_loadA H 0 rfl rfl Tryz.underlying27 rfl sz27 rfl rfl rfl) ?_
         refine a_one (i:=10) (by kernel_rfl) rfl ?_
         refine s_call (wt1 rfl rfl rfl rfl (decide_eq_true hb51)) (x_call' rfl rfl cl11) (change_q hHM hHg x43.n x43.st x43.rt (H50.tk [1])) ?_
         rintro _ wq52 ⟨G4,rfl,hA4,hM4,hg4,hl4,H53⟩
         replace H53:S _ [_,_,_,_,_]:=H50.abI (new:=[_]) [1] H53 rfl
         refine b_ret rfl rfl ?_
         refine a_k (H53.mask [false,true,false,false,false]) ?_
         refine a_one (i:=16) (by kernel_rfl) rfl ?_
         refine s_call (wt1 rfl rfl rfl rfl (decide_eq_true hb51)) (x_call' rfl rfl cl12) (changer_q hHM.ok hLR hLg x43.n x43.st x43.rt (H53.tk [2])) ?_
         rintro _ wq54 ⟨K4,rfl,hR4,hKg4,hKs4,H55⟩
         replace H55:S _ [_,_,_,_,_]:=H53.abI (new:=[_]) [2] H55 rfl
         refine b_ret rfl rfl ?_
         have cm3:=H55.mask [false,false,true,false,false]
         refine a_k cm3 ?_
         refine w_tg (v:=.bool (!decide (((chE Gc.A.ps.length x43.n ⟨x43.st,x43.rt⟩):Int)=(chE Gc.A.ps.length x43.n ⟨x43.st,x43.rt⟩)))) 17 rfl (decide_eq_true hb51) cm3 (fun _ _=>x_bin rfl rfl rfl b_neq) ?_
         refine w_t (v:=.bool (!decide (((chE Gc.A.ps.length x43.n ⟨x43.st,x43.rt⟩):Int)=(chE Gc.A.ps.length x43.n ⟨x43.st,x43.rt⟩)))) 18 rfl cm3 (fun _ _=>x_pick_t rfl rfl (decide_eq_true hb51) rfl) ?_
         refine a_done (by kernel_rfl) ?_
         refine w_0 ?_
         refine g_nf rfl ?_
         refine w_k4 ?_
         refine w_i cj ?_
         refine w_k2 ?_
         refine g_rd (i:=(cj,Gc,Kc)) ((cj+1),G4,K4) ⟨by omega,(by rw [hA4,ch_ps]; exact hHn),hg4,hKg4,(by omega),hM4,(by rw [hA4]; exact hR4),(H55.tk [1,0,3,4])⟩
        ·
         have cm4:=H50.mask [true,false,false,false,false]
         refine w_tn 5 rfl (decide_eq_false hb51) cm4 ?_
         refine w_tn 6 rfl (decide_eq_false hb51) cm4 ?_
         refine w_tn 7 rfl (decide_eq_false hb51) cm4 ?_
         refine w_tn 8 rfl (decide_eq_false hb51) cm4 ?_
         refine w_tn 9 rfl (decide_eq_false hb51) cm4 ?_
         refine w_tn 11 rfl (decide_eq_false hb51) cm4 ?_
         refine w_tn 12 rfl (decide_eq_false hb51) cm4 ?_
         refine w_tn 13 rfl (decide_eq_false hb51) cm4 ?_
         refine w_tn 14 rfl (decide_eq_false hb51) cm4 ?_
         refine w_tn 15 rfl (decide_eq_false hb51) cm4 ?_
         refine a_one (i:=10) (by kernel_rfl) rfl ?_
         refine s_not (wn1 rfl rfl rfl rfl (decide_eq_false hb51)) rfl rfl ?_
         refine a_k cm4 ?_
         refine a_one (i:=16) (by kernel_rfl) rfl ?_
         refine s_not (wn1 rfl rfl rfl rfl (decide_eq_false hb51)) rfl rfl ?_
         refine a_k cm4 ?_
         refine w_tn 17 rfl (decide_eq_false hb51) cm4 ?_
         refine w_t (v:=.bool false) 18 rfl cm4 (fun _ _=>x_pick_f rfl rfl (decide_eq_false hb51) rfl) ?_
         refine a_done (by kernel_rfl) ?_
         refine w_0 ?_
         refine g_cond_f rfl rfl ?_
         refine w_k4 ?_
         refine w_i cj ?_
         refine w_k2 ?_
         refine g_rd (i:=(cj,Gc,Kc)) ((cj+1),Gc,Kc) ⟨by omega,hHn,hHg,hLg,hHl,hHM,hLR,(H50.tk [1,2,3,4])⟩
       ·
        refine g_cf hb42 ?_
        refine w_k7 ?_
        refine l_of (s_cl (round_g hHM (by omega) hHg (H41.tk [0,2])) ?_)
        rintro _ wq56 ⟨pz2,cz2,zz2,X2,rd2,rfl,hzz2,hA2,hg2,hl2,hM2,H57⟩
        replace H57:S _ [_,_,_,_,_,_]:=H41.abI (new:=[_,_,_,_]) [0,2] H57 rfl
        refine b_ret rfl rfl ?_
        have hzl2:zz2.length=l.length:=by rw [zz_len hzz2,hHn]
        have hKR9:=hLR.more (pl':=pl2++[rd2]) fun r hr=>List.mem_append_left _ hr
        have hKl9:(Kc.gs.length:Int)=Gc.gs.length:=by rw [← hLR.gvl,hHM.gvl]
        refine w_k8 ?_
        refine l_of (s_cl (roundr_q hHM.ok hKR9 (by omega) hLg (H57.tk [4,3])) ?_)
        rintro _ wq58 ⟨rd3,K3,rfl,hrv3,hR3,hKg3,hKl3,H59⟩
        replace H59:S _ [_,_,_,_,_,_]:=H57.abI (new:=[_,_]) [4,3] H59 rfl
        have hmr3:rd3∈(pl2++[rd2])++[rd3]:=List.mem_append_right _ List.mem_cons_self
        refine b_ret rfl rfl ?_
        have hrl3:rd3.l.length=l.length:=by have h9:=congrArg List.length hrv3; rw [roundR_len,hHn] at h9; unfold Rd.v at h9; rwa [List.length_map] at h9
        refine w_k9 ?_
        refine w_b (v:=.bool (!decide ((0:Int)=0))) (hb:=b_neq) ?_
        refine w_m ?_
        refine w_g (nf rfl) xm ?_
        refine w_g (nf rfl) (x_bin rfl rfl rfl b_neq) ?_
        refine w_v (x_pick_f rfl rfl (nf rfl) rfl) ?_
        refine w_m ?_
        refine w_g (nf rfl) xm ?_
        refine w_g (nf rfl) x_q ?_
        refine w_g (nf rfl) xm ?_
        refine w_g (nf rfl) x_q ?_
        refine w_g (nf rfl) (x_bin rfl rfl rfl b_neq) ?_
        refine w_v (x_pick_f rfl rfl (nf rfl) rfl) ?_
        refine w_e ?_
        refine g_cond_f rfl (nf (by omega)) ?_
        refine w_k8 ?_
        refine g_loop (ι:=Nat) (fun i=>[(1,.slice p n c),(3,.slice q m d),(11,.pointer (some ⟨X.g,0,none⟩)),(13,.pointer (some ⟨K.g,0,none⟩)),(18,.slice pz2 zz2.length cz2),(20,.slice rd3.p rd3.l.length rd3.c),(76,.int .i64 mx),(77,.int .i64 ((k:Int))),(130,.int .i64 ((zz2.length:Int))),(131,.int .i64 ((i:Int)))]) (fun i wx=>(i≤zz2.length)∧S wx [Rw 43 1 pz2 zz2.length cz2 (fl rowL zz2),(Lst BwI zz2),(GM.I X2),(GR.I K3),(Pool ((pl2++[rd2])++[rd3])),Old w no]) (fun i=>zz2.length - i) (0) ⟨rfl,rfl,rfl,rfl,rfl,rfl,rfl,rfl,rfl,rfl,trivial⟩ ⟨Nat.zero_le _,(H59.tk [2,3,4,0,1,5])⟩ ?_
        rintro i wq60 ⟨hi,H61⟩
        refine g_wk [(1,_),(3,_),(11,_),(13,_),(18,_),(20,_),(76,_),(77,_),(130,_),(131,_)] ?_
        refine w_s ?_
        refine w_k2 ?_
        refine g_seq ?_
        by_cases hb62:((i:Int):Int)<(zz2.length:Int)
        ·
         refine g_ct hb62 ?_
         refine w_k5 ?_
         try clear hlX
         try clear hlK
         try clear hn2
         try clear hm2
         try clear hGl
         try clear hGn
         try clear hk
         try clear hmb
         try clear hHl
         try clear hml
         try clear hcj
         try clear hl2
         try clear hKl3
         try clear hKl9
         try clear hl3
         refine w_k3 ?_
         refine g_seq ?_
         refine g_any [] (fun wx=>S wx [Rw 43 1 pz2 zz2.length cz2 (fl rowL zz2),(Lst BwI zz2),(GM.I X2),(GR.I K3),(Pool ((pl2++[rd2])++[rd3])),Old w no]) [] (by kernel_rfl) H61 (fun wq63 H64=>?_)
         refine w_t 0 rfl H64 (fun _ _=>xm) ?_
         refine w_t 1 rfl H64 (fun _ _=>xm) ?_
         refine w_t (v:=.pointer ((pz2).map fun q=>q.add (i * 1))) 2 rfl H64 (fun _ _=>x_ip i ((H64.rr 0).some (by omega))) ?_
         obtain ⟨x65,hx65⟩:=(H64.rr 0).exL rowE i
         have hrow9:x65.l.length=l.length:=by rw [zrow hzz2 hx65 (by rw [hHn]; omega),rowR_len hHM.ok (by rw [hHn]; omega),hHn]
         refine w_t (v:=.slice x65.p x65.l.length x65.c) 3 rfl H64 (fun _ H=>x_r i (H.rr 0) (rowE.flAt1 hx65 rfl)) ?_
         refine w_t 4 rfl H64 (fun _ _=>xm) ?_
         refine w_t 5 rfl H64 (fun _ _=>xm) ?_
         refine w_t (v:=.pointer ((rd3.p).map fun q=>q.add (i * 1))) 6 rfl H64 (fun _ _=>x_ip i ((H64.poolRd (k:=4) rfl hmr3).some (by omega))) ?_
         obtain ⟨x66,hx66⟩:=(H64.poolRd (k:=4) rfl hmr3).exL rowE i
         have hsame9:x66.l=x65.l:=zz_eq hzz2 hrv3 hx65 hx66
         refine w_t (v:=.slice x66.p x66.l.length x66.c) 7 rfl H64 (fun _ H=>x_r i (H.poolRd (k:=4) rfl hmr3) (rowE.flAt1 hx66 rfl)) ?_
         refine a_one (i:=8) (by kernel_rfl) rfl ?_
         have hq9:=(H64.poolRow (k:=4) rfl hmr3 hx66)
         rw [show fl intL x66.l=fl intL x65.l from congrArg _ hsame9] at hq9
         refine s_call0 H64 (wt0 rfl) (x_call' rfl rfl cl15) (same_i x65.l (by rw [hrow9]; omega) x65.p x65.l.length x65.c x66.p x66.l.length x66.c _ (H64.bwRd (k:=1) rfl hx65) hq9) rfl rfl ?_
         intro wq67 H68
         refine a_k H68 ?_
         refine w_t (v:=.bool false) 9 rfl H68 (fun _ _=>x_not (b:=true) rfl rfl) ?_
         refine a_done (by kernel_rfl) ?_
         refine w_0 ?_
         refine g_cond_f rfl rfl ?_
         refine w_k4 ?_
         refine w_i i ?_
         refine w_k2 ?_
         refine g_rd (i:=(i)) ((i+1)) ⟨by omega,(H68.tk [0,1,2,3,4,5])⟩
        ·
         refine g_cf hb62 ?_
         refine w_k7 ?_
         refine w_i k ?_
         refine w_k2 ?_
         refine g_rd (i:=(k,G,K1,pl2)) ((k+1),X2,K3,((pl2++[rd2])++[rd3])) ⟨(by omega),(by rw [hA2]; exact hHn),hg2,hKg3,(by omega),(hM2.more fun r hr=>List.mem_append_left _ hr),(by rw [hA2]; exact hR3),(H61.tk [2,3,4,5])⟩
      ·
       refine g_cf hb39 ?_
       refine w_k10 ?_
       refine l_of (s_cl (alike_q hGM hKR (by omega) hGg hKg (n:Int) (by omega) (H38.tk [0,1,2])) ?_)
       rintro _ wq69 ⟨rfl,H70⟩
       replace H70:S _ [_,_,_,_]:=H38.abI (new:=[_,_,_]) [0,1,2] H70 rfl
       refine b_ret rfl rfl ?_
       refine w_m ?_
       refine l_of (s_call0 H70 (wt1 rfl rfl rfl rfl rfl) (x_call' rfl rfl cl6) (awake_s _) rfl rfl ?_)
       intro wq71 H72
       refine w_v (x_pick_t rfl rfl rfl rfl) ?_
       refine w_k3 ?_
       refine fin_r [.tmp 8] [.bool true] ?_
       exact ⟨rfl,H72.mask [false,false,false,true]⟩
 ·
  iterate 3 refine w_n (nt hb3) ?_
  refine w_v (x_pick_t rfl rfl (nt hb3) rfl) ?_
  refine w_e ?_
  refine g_cond_t rfl rfl ?_
  refine w_s ?_
  refine l_of (s_call0 H2 (wt0 rfl) (x_call' rfl rfl cl6) (awake_s _) rfl rfl ?_)
  intro wq73 H74
  refine w_k4 ?_
  refine fin_r [.tmp 8] [.bool true] ?_
  exact ⟨rfl,H74.mask [true]⟩
end Go.Proofs.YtpbjekdjebjbkaaGreatDoor
