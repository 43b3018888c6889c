import Derived.Test.YtpbjekdjebjbkaaGreatDoorFm
import Derived.Test.YtpbjekdjebjbkaaGreatDoorLj
import Derived.Test.YtpbjekdjebjbkaaGreatDoorLk
set_option maxRecDepth 20000
set_option maxHeartbeats 4000000
set_option linter.unusedSimpArgs false
set_option linter.unusedVariables false
namespace Go.Proofs.YtpbjekdjebjbkaaGreatDoor
open Go.RowKit
noncomputable def ratedL (round slots:Int) (seed:ByteArray) (c:Rv→Rv→Int) (l:List Rv):List Rv:=
 if round % 3 ≠ 2∨((srt Rv.zero c (l.filter qW)).length:Int)≤slots then (srt Rv.zero c (l.filter qW)).take (min (srt Rv.zero c (l.filter qW)).length slots.toNat)
 else fillL slots ((srt Rv.zero c (l.filter qW)).take (min (srt Rv.zero c (l.filter qW)).length (slots - 1).toNat)) (optL round seed l)
def hfN (x:Rv):Int:=max (2 * (x.frm % 1001) - 1000) (-(2 * (x.frm % 1001) - 1000))
def c2 (x y:Rv):Int:=if y.to - x.to ≠ 0 then y.to - x.to else if x.since - y.since ≠ 0 then x.since - y.since else x.id - y.id
def c4 (x y:Rv):Int:=if hfN y - hfN x ≠ 0 then hfN y - hfN x else x.id - y.id
abbrev DLp0 (round slots:Int) (seed:ByteArray) (p:Option Addr) (n c:Nat):Array Value:=#[.int .i64 round,.int .i64 slots,.string seed,.slice p n c]
def kpB (x:Rv):Bool:=x.now && decide (x.to<16384)
def DV3 (x:Rv):Prop:=DV x∧x.intr=true
theorem cO_wk (round:Int) (seed:ByteArray):Wk (cO round seed):=⟨fun x y=>cmpSt_wk.anti _ _,fun x y z=>cmpSt_wk.trans _ _ _⟩
abbrev DLq0 (x:Rv):Array Value:=#[.agg #[.int .i64 (x.id),.bool x.intr,.bool x.chk,.int .i64 (x.frm),.int .i64 (x.to),.int .i64 (x.lt),.int .i64 (x.since),.bool x.snb,.bool x.now,.bool x.seed]]
theorem cl72:callable Tryz.prog 72=true:=by kernel_rfl
theorem lucky_r (round:Int) (seed:ByteArray) (hsd:seed.size≤200) (hrd:0≤round∧round≤200) (l:List Rv) (p:Option Addr) (n c9:Nat) (hn2:n≤1000) (hne:0<n) (hDl:∀ x∈l,DV x)  (w:World) (hr:Reads w p n c9 10 (fl rvL l)) (ht:PowTab w):Calls Tryz.prog 65 #[.int .i64 round,.string seed,.slice p n c9] w fun e w'=>∃ (j:Nat) (x:Rv),e=.returned (.int .i64 (j:Int))∧IsBest (cO round seed) l l.length j x∧S w' [Old w no]:=by
 have H0:=S.old w
 have hnl:=hr.lenL rvE
 refine enter 36 Tryz.func65 rfl rfl rfl ?_
 refine g_wk [(0,_),(1,_),(2,_)] ?_
 refine w_s ?_
 refine w_k12 ?_
 refine g_loop (ι:=Nat × Int) (fun (i,at9)=>[(0,.int .i64 round),(1,.string seed),(2,.slice p n c9),(7,.int .i64 at9),(10,.slice p n c9),(11,.int .i64 ((n:Int))),(12,.int .i64 ((i:Int)))]) (fun (i,at9) wx=>(i≤n)∧(BestTo (cO round seed) l i at9)∧S wx [Old w no]) (fun (i,at9)=>n - i) (0,(-1)) ⟨rfl,rfl,rfl,rfl,rfl,rfl,rfl,trivial⟩ ⟨Nat.zero_le _,.inl ⟨rfl,rfl⟩,H0⟩ ?_
 rintro ⟨i,at9⟩ wq1 ⟨hi,hat,H2⟩
 refine g_wk [(0,_),(1,_),(2,_),(7,_),(10,_),(11,_),(12,_)] ?_
 refine w_s ?_
 refine w_k2 ?_
 refine g_seq ?_
 by_cases hb3:((i:Int):Int)<(n:Int)
 ·
  refine g_ct hb3 ?_
  refine w_k6 ?_
  refine w_v (x_i i (H2.exReads (k:=0) rfl hr (fun _ _ _ h=>h))) ?_
  obtain ⟨x4,hx4⟩:=(H2.exReads (k:=0) rfl hr (fun _ _ _ h=>h)).exL rvE i
  refine w_v (x_loadRA (vs:=rvL x4) i (H2.exReads (k:=0) rfl hr (fun _ _ _ h=>h)) (by omega) rfl rfl Tryz.underlying111 rfl sz111 (by rfl) (rvE.flAt hx4)) ?_
  refine l_of (s_alloc H2 (wt0 rfl) rfl rfl rfl ze111 ?_)
  intro g5 wq6 H7
  refine w_a ?_
  refine l_of (w_st #[.int .i64 (x4.id),.bool x4.intr,.bool x4.chk,.int .i64 (x4.frm),.int .i64 (x4.to),.int .i64 (x4.lt),.int .i64 (x4.since),.bool x4.snb,.bool x4.now,.bool x4.seed] H7 0 ?_)
  intro wq8 H9
  refine w_e ?_
  refine g_seq ?_
  refine g_any [] (fun wx=>S wx [Ob g5 (.cells #[.int .i64 (x4.id),.bool x4.intr,.bool x4.chk,.int .i64 (x4.frm),.int .i64 (x4.to),.int .i64 (x4.lt),.int .i64 (x4.since),.bool x4.snb,.bool x4.now,.bool x4.seed] 111 (0,0)),Old w no]) [] (by kernel_rfl) H9 (fun wq10 H11=>?_)
  refine w_t 0 rfl H11 (fun _ _=>xm) ?_
  refine w_t 1 rfl H11 (fun _ _=>x_bin rfl rfl rfl b_lss) ?_
  refine w_t 2 rfl H11 (fun _ _=>xm) ?_
  by_cases hb12:(at9:Int)<0
  ·
   refine w_tn 3 rfl (decide_eq_true hb12) H11 ?_
   refine w_tn 4 rfl (decide_eq_true hb12) H11 ?_
   refine w_tn 5 rfl (decide_eq_true hb12) H11 ?_
   refine w_tn 7 rfl (decide_eq_true hb12) H11 ?_
   refine w_tn 8 rfl (decide_eq_true hb12) H11 ?_
   refine w_tn 9 rfl (decide_eq_true hb12) H11 ?_
   refine w_tn 10 rfl (decide_eq_true hb12) H11 ?_
   refine w_tn 11 rfl (decide_eq_true hb12) H11 ?_
   refine w_tn 12 rfl (decide_eq_true hb12) H11 ?_
   refine a_one (i:=6) (by kernel_rfl) rfl ?_
   refine s_not (wn1 rfl rfl rfl rfl (decide_eq_true hb12)) rfl rfl ?_
   refine a_k H11 ?_
   refine a_one (i:=13) (by kernel_rfl) rfl ?_
   refine s_not (wn1 rfl rfl rfl rfl (decide_eq_true hb12)) rfl rfl ?_
   refine a_k H11 ?_
   refine w_tn 14 rfl (decide_eq_true hb12) H11 ?_
   refine w_t (v:=.bool true) 15 rfl H11 (fun _ _=>x_pick_t rfl rfl (decide_eq_true hb12) rfl) ?_
   refine a_done (by kernel_rfl) ?_
   refine w_0 ?_
   refine g_cond_t rfl rfl ?_
   refine w_k7 ?_
   refine w_i i ?_
   refine w_k2 ?_
   refine g_rd (i:=(i,at9)) ((i+1),(i:Int)) ⟨by omega,(BestTo.of (hat.first (cO_wk round seed) hb12 hx4)),(H11.mask [false,true])⟩
  ·
   obtain ⟨j1,z1,rfl,hB1⟩:=hat.at hb12
   have hjl1:=(List.getElem?_eq_some_iff.1 hB1.2.1).1
   have hji1:=hB1.1
   refine w_tg 3 rfl (decide_eq_false hb12) H11 (fun _ _=>xm) ?_
   refine w_tg 4 rfl (decide_eq_false hb12) H11 (fun _ _=>xm) ?_
   refine w_tg (v:=.agg #[.int .i64 (x4.id),.bool x4.intr,.bool x4.chk,.int .i64 (x4.frm),.int .i64 (x4.to),.int .i64 (x4.lt),.int .i64 (x4.since),.bool x4.snb,.bool x4.now,.bool x4.seed]) 5 rfl (decide_eq_false hb12) H11 (fun _ H=>x_loadA H 0 rfl rfl Tryz.underlying111 rfl sz111 rfl rfl rfl) ?_
   refine w_tg 7 rfl (decide_eq_false hb12) H11 (fun _ _=>xm) ?_
   refine w_tg 8 rfl (decide_eq_false hb12) H11 (fun _ _=>xm) ?_
   refine w_tg 9 rfl (decide_eq_false hb12) H11 (fun _ _=>xm) ?_
   refine w_tg 10 rfl (decide_eq_false hb12) H11 (fun _ _=>xm) ?_
   refine w_tg (v:=.pointer ((p).map fun q=>q.add (j1 * 10))) 11 rfl (decide_eq_false hb12) H11 (fun _ _=>x_ip j1 ((H11.exReads (k:=1) rfl hr (fun _ _ _ h=>h)).some (by omega))) ?_
   refine w_tg (v:=.agg #[.int .i64 (z1.id),.bool z1.intr,.bool z1.chk,.int .i64 (z1.frm),.int .i64 (z1.to),.int .i64 (z1.lt),.int .i64 (z1.since),.bool z1.snb,.bool z1.now,.bool z1.seed]) 12 rfl (decide_eq_false hb12) H11 (fun _ H=>x_loadRA (vs:=rvL z1) j1 (H.exReads (k:=1) rfl hr (fun _ _ _ h=>h)) (by omega) rfl rfl Tryz.underlying111 rfl sz111 (by rfl) (rvE.flAt hB1.2.1)) ?_
   refine a_one (i:=6) (by kernel_rfl) rfl ?_
   refine s_call0 H11 (wt1 rfl rfl rfl rfl (decide_eq_false hb12)) (x_call' rfl rfl cl72) (luck_r seed round hsd hrd x4 (hDl _ (List.mem_of_getElem? hx4)) _ (H11.tab (k:=1) rfl ht)) rfl rfl ?_
   intro wq13 H14
   refine a_k H14 ?_
   refine a_one (i:=13) (by kernel_rfl) rfl ?_
   refine s_call0 H14 (wt1 rfl rfl rfl rfl (decide_eq_false hb12)) (x_call' rfl rfl cl72) (luck_r seed round hsd hrd z1 (hDl _ (List.mem_of_getElem? hB1.2.1)) _ (H14.tab (k:=1) rfl ht)) rfl rfl ?_
   intro wq15 H16
   refine a_k H16 ?_
   refine w_tg (v:=.bool (decide (cO round seed x4 z1<0))) 14 rfl (decide_eq_false hb12) H16 (fun _ _=>x_bin rfl rfl rfl b_lsS) ?_
   refine w_t (v:=.bool (decide (cO round seed x4 z1<0))) 15 rfl H16 (fun _ _=>x_pick_f rfl rfl (decide_eq_false hb12) rfl) ?_
   refine a_done (by kernel_rfl) ?_
   refine w_0 ?_
   by_cases hb17:cO round seed x4 z1<0
   ·
    refine g_ct hb17 ?_
    refine w_k7 ?_
    refine w_i i ?_
    refine w_k2 ?_
    refine g_rd (i:=(i,(j1:Int))) ((i+1),(i:Int)) ⟨by omega,(BestTo.of (hB1.take (cO_wk round seed) hx4 hb17)),(H16.mask [false,true])⟩
   ·
    refine g_cf hb17 ?_
    refine w_k4 ?_
    refine w_i i ?_
    refine w_k2 ?_
    refine g_rd (i:=(i,(j1:Int))) ((i+1),(j1:Int)) ⟨by omega,(BestTo.of (hB1.keep hx4 hb17)),(H16.mask [false,true])⟩
 ·
  refine g_cf hb3 ?_
  refine w_k10 ?_
  refine fin_r [.tmp 6] [.int .i64 at9] ?_
  obtain ⟨j9,z9,hj9,hB9⟩:=hat.fin (by omega)
  have hin:i=l.length:=by omega
  rw [hin] at hB9
  subst hj9
  exact ⟨j9,z9,rfl,hB9,H2.mask [true]⟩
end Go.Proofs.YtpbjekdjebjbkaaGreatDoor
