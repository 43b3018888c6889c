import Derived.Test.YthmmfhdpkddniaaGreatDoorFm
import Derived.Test.YthmmfhdpkddniaaGreatDoorHb
import Derived.Test.YthmmfhdpkddniaaGreatDoorGl
set_option maxRecDepth 20000
set_option maxHeartbeats 4000000
set_option linter.unusedSimpArgs false
set_option linter.unusedVariables false
namespace Go.Proofs.YthmmfhdpkddniaaGreatDoor
open Go.RowKit
theorem cl209:callable Tryz.prog 209=true:=by kernel_rfl
theorem ze5:zeO Tryz.prog 5=some (.int .u8 0):=by kernel_rfl
theorem bytes_row {b:List Nat} (h:∀ x∈b,x<256) {w:World} {p:Option Addr} {n c:Nat} (hr:Reads w p n c 1 (nbL b)):Reads w p n c 1 (bytesV (b.map UInt8.ofNat)):=by rw [← nbL_bytes h]; exact hr
theorem eight_h (h:Nat) (hh:h<18446744073709551616) (w:World):Calls Tryz.prog 212 #[.int .u64 ((h:Int))] w fun e w'=>∃ p c,e=.returned (.slice p 8 c)∧S w' ([Rw 5 1 p 8 c (nbL (eightT h))]++[Old w no]):=by
 have H0:=S.old w
 refine enter 17 Tryz.func212 rfl rfl rfl ?_
 refine g_wk [(0,_)] ?_
 refine w_s ?_
 refine w_k3 ?_
 have H1:S _ [_,_]:=H0.nilRw 5 1
 refine w_k7 ?_
 refine g_loop (ι:=Nat × Int × Option Addr × Nat) (fun (i,x,q,d)=>[(0,.int .u64 ((h:Int))),(3,.slice q i d),(4,.int .i64 x)]) (fun (i,x,q,d) wx=>(i≤8)∧(x=56 - 8 * (i:Int))∧S wx [Rw 5 1 q i d (nbL (eightTo h i)),Old w no]) (fun (i,x,q,d)=>8 - i) (0,56,none,0) ⟨rfl,rfl,rfl,trivial⟩ ⟨Nat.zero_le _,rfl,(H1.tk [0,1])⟩ ?_
 rintro ⟨i,x,q,d⟩ wq2 ⟨hi,hx,H3⟩
 refine g_wk [(0,_),(3,_),(4,_)] ?_
 refine g_seq ?_
 refine w_k4 ?_
 by_cases hb4:(0:Int)≤x
 ·
  refine g_ct hb4 ?_
  refine w_k8 ?_
  refine w_b (v:=.int .u64 (((h / 2 ^ (56 - 8 * i):Nat):Int))) (hb:=(b_shrI (a:=h) (n:=56 - 8 * i) (by omega) (by show 56 - 8 * i≤64; omega))) ?_
  refine w_v (v:=.int .u8 (((h / 2 ^ (56 - 8 * i) % 256:Nat):Int))) (x_conv rfl rfl Tryz.underlying174 Tryz.underlying5 (wrapB _)) ?_
  refine l_of (s_b1 ze5 #[.int .u8 (((h / 2 ^ (56 - 8 * i) % 256:Nat):Int))] H3 ?_)
  intro g5 wq6 H7
  refine l_of (s_appendR (n:=i) (m:=1) (sc:=d) (xs:=(nbL (eightTo h i))) (news:=[.int .u8 (((h / 2 ^ (56 - 8 * i) % 256:Nat):Int))]) (p:=q) (ad:=⟨g5,0,none⟩) H7 1 (wt0 rfl) rfl rfl rfl rfl rfl rfl Tryz.underlying113 inf5 rfl (by decide) (by decide) rfl (by decide) (news_ob H7 (j0:=0) rfl) rfl (by omega) ?_)
  intro p8 c9 wq10 (H11:S wq10 [Ob g5 (.cells #[.int .u8 (((h / 2 ^ (56 - 8 * i) % 256:Nat):Int))] 5 (0,0)),Rw 5 1 p8 (i+1) c9 ((nbL (eightTo h i))++[.int .u8 (((h / 2 ^ (56 - 8 * i) % 256:Nat):Int))]),Old w no])
  refine w_k6 ?_
  refine w_b (v:=.int .i64 (x - 8)) (hb:=(b_sub (w64 (by omega)))) ?_
  refine w_k2 ?_
  refine g_rd (i:=(i,x,q,d)) (i+1,x - 8,p8,c9) ⟨by omega,by omega,(by rw [eightTo_next,nbL_app]; exact (H11.tk [1,2]))⟩
 ·
  refine g_cf hb4 ?_
  refine w_k10 ?_
  refine fin_r [.tmp 2] [.slice q i d] ?_
  have hi8:i=8:=by omega
  subst hi8
  exact ⟨_,_,rfl,H3⟩
theorem ended_h (n:Nat) (l:List Nat) (hl:l.length=4) (hlt:∀ x∈l,x<18446744073709551616) (hn:n≤1099511627776) (w:World):Calls Tryz.prog 209 #[.agg (lanV l),.int .i64 ((n:Int))] w fun e w'=>e=.returned (.string (nbS (sumTo l n 4)))∧S w' [Old w no]:=by
 have H0:=S.old w
 refine enter 30 Tryz.func209 rfl rfl rfl ?_
 refine g_wk [(0,_),(1,_)] ?_
 refine w_s ?_
 refine l_of (s_box H0 (wt0 rfl) rfl rfl rfl rfl ?_)
 intro g1 wq2 H3
 refine w_a ?_
 refine w_es ?_
 have H4:S wq2 [Rw 5 1 none 0 0 [],Ob g1 (.cells (lanV l) 223 (0,0)),Old w no]:=H3.nilRw 5 1
 refine w_a ?_
 refine w_e ?_
 refine g_seq ?_
 refine w_s ?_
 refine w_f 0 ?_
 refine w_v (v:=.agg (lanV l)) (x_loadA H4 1 rfl rfl Tryz.underlying221 rfl sz221 rfl (Nat.ble_eq_true_of_le (by rw [lanV_size]; omega)) (lanV_ext hl)) ?_
 refine w_m ?_
 refine w_e ?_
 refine g_block ?_
 refine g_loop (ι:=Nat × Option Addr × Nat) (fun (k,q,d)=>[(1,.int .i64 ((n:Int))),(5,.slice q ((8 * k):Nat) d),(9,.agg (lanV l)),(10,.int .i64 ((k:Int)))]) (fun (k,q,d) wx=>(k≤4)∧S wx [Rw 5 1 q (8 * k) d (nbL (sumTo l n k)),Old w no]) (fun (k,q,d)=>4 - k) (0,none,0) ⟨rfl,rfl,rfl,rfl,trivial⟩ ⟨Nat.zero_le _,(H4.tk [0,2])⟩ ?_
 rintro ⟨k,q,d⟩ wq5 ⟨hk,H6⟩
 refine g_wk [(1,_),(5,_),(9,_),(10,_)] ?_
 have hgl:(l.getD k 0)<18446744073709551616:=getD_u hlt k
 have hx:=u64_xor hgl (show n<18446744073709551616 by omega)
 have hX:(((l.getD k 0) ^^^ n) * 1099511628211 % 18446744073709551616)<18446744073709551616:=Nat.mod_lt _ (by omega)
 have hX2:(((l.getD k 0) ^^^ n) * 1099511628211 % 18446744073709551616) / 4294967296≤(((l.getD k 0) ^^^ n) * 1099511628211 % 18446744073709551616):=Nat.div_le_self _ _
 refine w_s ?_
 refine w_b ?_
 refine w_e ?_
 refine g_seq ?_
 by_cases hb7:((k:Int):Int)<4
 ·
  refine g_ct hb7 ?_
  refine w_ht ?_
  refine g_seq ?_
  refine w_bs ?_
  refine w_v (v:=.int .u64 ((((l.getD k 0):Nat):Int))) (x_indexW k rfl rfl rfl Tryz.underlying221 sz174 Tryz.underlying174 rfl (by omega) (lanV_at (by omega))) ?_
  refine w_a ?_
  refine w_es ?_
  refine w_r2 ?_
  refine w_v (v:=.int .u64 ((n:Int))) (x_conv rfl rfl Tryz.underlying3 Tryz.underlying174 (wrapU (by omega))) ?_
  refine w_b (v:=.int .u64 ((((l.getD k 0) ^^^ n:Nat):Int))) (hb:=(b_xorU (a:=(l.getD k 0)) (b:=n) (by omega))) ?_
  refine w_b (v:=.int .u64 ((((((l.getD k 0) ^^^ n) * 1099511628211 % 18446744073709551616):Nat):Int))) (hb:=(b_mulU ((l.getD k 0) ^^^ n) 1099511628211)) ?_
  refine w_a ?_
  refine w_es ?_
  refine w_r2 ?_
  refine w_b (v:=.int .u64 ((((((l.getD k 0) ^^^ n) * 1099511628211 % 18446744073709551616) / 4294967296:Nat):Int))) (hb:=(b_shrN (a:=(((l.getD k 0) ^^^ n) * 1099511628211 % 18446744073709551616)) (n:=32) (by decide))) ?_
  refine w_b (v:=.int .u64 ((((((l.getD k 0) ^^^ n) * 1099511628211 % 18446744073709551616) ^^^ (((l.getD k 0) ^^^ n) * 1099511628211 % 18446744073709551616) / 4294967296:Nat):Int))) (hb:=(b_xorU (a:=(((l.getD k 0) ^^^ n) * 1099511628211 % 18446744073709551616)) (b:=(((l.getD k 0) ^^^ n) * 1099511628211 % 18446744073709551616) / 4294967296) (by omega))) ?_
  refine w_a ?_
  refine w_er ?_
  refine w_r2 ?_
  refine w_b (v:=.int .u64 (((endT (l.getD k 0) n:Nat):Int))) (hb:=(b_mulU ((((l.getD k 0) ^^^ n) * 1099511628211 % 18446744073709551616) ^^^ (((l.getD k 0) ^^^ n) * 1099511628211 % 18446744073709551616) / 4294967296) 1099511628211)) ?_
  refine l_of (s_cl (eight_h _ (endT_lt _ _) _) ?_)
  rintro _ wq10 ⟨p8,c9,rfl,H11⟩
  replace H11:S _ [_,_,_]:=H6.ab (new:=[_]) H11 rfl
  refine b_ret rfl rfl ?_
  refine l_of (s_appendW (n:=8 * k) (m:=8) (sc:=d) (xs:=nbL (sumTo l n k)) (news:=nbL (eightT (endT (l.getD k 0) n))) (p:=q) (q:=p8) H11 1 (wt0 rfl) rfl rfl rfl rfl rfl rfl Tryz.underlying113 inf5 rfl (by decide) (by decide) (H11.rr 0) (nbL_one _) (by omega) ?_)
  intro p12 c13 wq14 H15
  refine w_a ?_
  refine g_nil ?_
  refine g_in ?_
  refine g_then ?_
  refine g_wk [(1,_),(5,_),(9,_),(10,_)] ?_
  refine g_region ?_
  refine w_b (v:=.int .i64 ((k:Int)+1)) (hb:=(b_add (w64 (by omega)))) ?_
  refine w_m ?_
  refine w_e ?_
  refine g_rd (i:=(k,q,d)) (k+1,p12,c13) ⟨by omega,(by rw [show 8 * (k+1)=8 * k+8 from by omega,sumTo_next (by omega),nbL_app]; exact (H15.tk [1,2]))⟩
 ·
  refine g_cf hb7 ?_
  refine g_exit ?_
  iterate 2 refine g_then_exit ?_
  refine g_in_hit ?_
  refine g_then ?_
  refine w_s ?_
  refine w_m ?_
  refine w_v (v:=.string ((nbS (sumTo l n k)))) (x_bytesR (l:=(sumTo l n k).map UInt8.ofNat) rfl rfl Tryz.underlying113 Tryz.underlying9 Tryz.underlying5 (bytes_row (sumTo_lt l n k) (H6.rr 0)) (by rw [List.length_map,sumTo_len l n k (by omega)])) ?_
  refine w_a ?_
  refine w_e ?_
  refine g_ret ?_
  refine fin_r [.tmp 4] [.string ((nbS (sumTo l n k)))] ?_
  have hk4:k=4:=by omega
  subst hk4
  exact ⟨rfl,H6.mask [false,true]⟩
theorem sumh_h (gh n:Nat) (l:List Nat) (hl:l.length=4) (hlt:∀ x∈l,x<18446744073709551616) (hn:n≤1099511627776) (w:World) (HB:S w [Ob gh (.cells (hashV l n) 226 (0,0))]):Calls Tryz.prog 196 #[.pointer (some ⟨gh,0,none⟩)] w fun e w'=>e=.returned (.string (nbS (sumTo l n 4)))∧S w' ([Ob gh (.cells (hashV l n) 226 (0,0))]++[Old w (fps [Ob gh (.cells (hashV l n) 226 (0,0))])]):=by
 have H0:S _ [_,_]:=HB.beginI
 refine enter 14 Tryz.func196 rfl rfl rfl ?_
 refine g_wk [(0,_)] ?_
 refine w_s ?_
 refine w_k5 ?_
 refine w_b (v:=.bool false) (hb:=(b_eqN (r:=false) Tryz.underlying213 rfl)) ?_
 refine w_e ?_
 refine g_cond_f rfl rfl ?_
 refine w_k2 ?_
 refine g_seq ?_
 refine g_anyY [] (fun wx=>S wx [Ob gh (.cells (hashV l n) 226 (0,0))]) (fun wx=>S wx [Ob gh (.cells (hashV l n) 226 (0,0))]) [] (by kernel_rfl) H0 (fun wq1 H2=>?_)
 refine y_p 0 rfl (fun _=>xm) ?_
 refine y_p 1 rfl (fun _=>xn) ?_
 refine y_p 2 rfl (fun _=>xf 0) ?_
 refine y_t (v:=.agg (lanV l)) 3 rfl (H2.mask [true,false]) (fun _ H=>x_loadA H 0 rfl rfl Tryz.underlying223 rfl sz223 rfl (Nat.ble_eq_true_of_le (by rw [hashV_size]; omega)) (hashV_ext hl)) ?_
 refine y_p 4 rfl (fun _=>xm) ?_
 refine y_p 5 rfl (fun _=>xn) ?_
 refine y_p 6 rfl (fun _=>xf 4) ?_
 refine y_t (v:=.int .i64 ((n:Int))) 7 rfl (H2.mask [true,false]) (fun _ H=>x_load1 H 0 rfl rfl Tryz.underlying3 rfl rfl (hashV_at (by first | omega | (simp only [List.length_map,takeTo_len]; omega)))) ?_
 refine y_one (i:=8) (by kernel_rfl) rfl ?_
 refine s_call0 H2 (wt0 rfl) (x_call' rfl rfl cl209) (ended_h n l hl hlt hn _) rfl rfl ?_
 intro wq3 H4
 refine y_k (H4.mask [true,false]) (H4.mask [true,false]) ?_
 refine y_one (i:=9) (by kernel_rfl) rfl ?_
 refine s_v xa ?_
 refine y_k (H4.mask [true,false]) (H4.mask [true,false]) ?_
 refine y_done (by kernel_rfl) ?_
 refine w_0 ?_
 refine g_wk [(2,_)] ?_
 refine g_ret ?_
 refine fin_r [.tmp 2] [.string ((nbS (sumTo l n 4)))] ?_
 exact ⟨rfl,H4.mask [true,true]⟩
theorem sum_h (s:ByteArray) (hs:s.size≤1099511627776) (w:World):Calls Tryz.prog 179 #[.string s] w fun e w'=>e=.returned (.string (sumS s))∧S w' [Old w no]:=by
 have H0:=S.old w
 refine enter 10 Tryz.func179 rfl rfl rfl ?_
 refine g_wk [(0,_)] ?_
 refine w_s ?_
 refine w_k3 ?_
 refine l_of (s_cl (newh_h _) ?_)
 rintro _ wq1 ⟨gh,rfl,H2⟩
 replace H2:S _ [_,_]:=H0.ab (new:=[_]) H2 rfl
 refine b_ret rfl rfl ?_
 refine w_k5 ?_
 refine l_of (s_cl (addh_h gh 0 begL begL_len begL_lt s hs (by omega) _ (H2.tk [0])) ?_)
 rintro _ wq3 ⟨rfl,H4⟩
 replace H4:S _ [_,_]:=H2.abI (new:=[_]) [0] H4 rfl
 refine b_ret rfl rfl ?_
 refine w_k3 ?_
 refine l_of (s_cl (sumh_h gh (0+s.size) (begL.map (laneP s · s.size)) (by rw [List.length_map,begL_len]) (lanes_lt begL_lt s.size) (by omega) _ (H4.tk [0])) ?_)
 rintro _ wq5 ⟨rfl,H6⟩
 replace H6:S _ [_,_]:=H4.abI (new:=[_]) [0] H6 rfl
 refine b_ret rfl rfl ?_
 refine w_k3 ?_
 refine fin_r [.tmp 2] [.string ((nbS (sumTo (begL.map (laneP s · s.size)) (0+s.size) 4)))] ?_
 exact ⟨by rw [Nat.zero_add]; rfl,H6.mask [false,true]⟩
theorem cl197:callable Tryz.prog 197=true:=by kernel_rfl
theorem cl210:callable Tryz.prog 210=true:=by kernel_rfl
theorem cl213:callable Tryz.prog 213=true:=by kernel_rfl
def digS:ByteArray:=⟨#[48,49,50,51,52,53,54,55,56,57,97,98,99,100,101,102,103,104,105,106,107,108,109,110,111,112,113,114,115,116,117,118,119,120,121,122]⟩
def smlS:ByteArray:=⟨#[48,48,48,49,48,50,48,51,48,52,48,53,48,54,48,55,48,56,48,57,49,48,49,49,49,50,49,51,49,52,49,53,49,54,49,55,49,56,49,57,50,48,50,49,50,50,50,51,50,52,50,53,50,54,50,55,50,56,50,57,51,48,51,49,51,50,51,51,51,52,51,53,51,54,51,55,51,56,51,57,52,48,52,49,52,50,52,51,52,52,52,53,52,54,52,55,52,56,52,57,53,48,53,49,53,50,53,51,53,52,53,53,53,54,53,55,53,56,53,57,54,48,54,49,54,50,54,51,54,52,54,53,54,54,54,55,54,56,54,57,55,48,55,49,55,50,55,51,55,52,55,53,55,54,55,55,55,56,55,57,56,48,56,49,56,50,56,51,56,52,56,53,56,54,56,55,56,56,56,57,57,48,57,49,57,50,57,51,57,52,57,53,57,54,57,55,57,56,57,57]⟩
theorem digS_size:digS.size=36:=rfl
theorem smlS_size:smlS.size=200:=by kernel_rfl
def itS (n:Int):ByteArray:=if n<10 then digS.extract n.toNat (n+1).toNat else smlS.extract (n * 2).toNat (n * 2+2).toNat
theorem itS_size {n:Int} (h0:0≤n) (h1:n≤99):(itS n).size≤21:=by
 have e1:=digS_size
 have e2:=smlS_size
 unfold itS
 split
 · rw [ByteArray.size_extract]; omega
 · rw [ByteArray.size_extract]; omega
def PowTab (w:World):Prop:=True
theorem small_s (n:Int) (h0:0≤n) (h1:n≤99)  (w:World):Calls Tryz.prog 213 #[.int .i64 n] w fun e w'=>e=.returned (.string (itS n))∧S w' [Old w no]:=by
 have H0:=S.old w
 refine enter 15 Tryz.func213 rfl rfl rfl ?_
 refine g_wk [(0,_)] ?_
 refine w_s ?_
 refine w_k7 ?_
 by_cases hb1:(n:Int)<10
 ·
  refine g_ct hb1 ?_
  refine w_k3 ?_
  refine w_b (v:=.int .i64 (n+1)) (hb:=(b_add (w64 (by omega)))) ?_
  refine w_v (v:=.string ((digS.extract n.toNat (n+1).toNat))) (x_slices (s:=digS) n.toNat (n+1).toNat rfl rfl Tryz.underlying9 (.inr ⟨_,_,_,rfl,rfl,by omega⟩) (.inr ⟨_,_,_,rfl,rfl,by omega⟩) (by rw [digS_size]; omega)) ?_
  refine w_k4 ?_
  refine fin_r [.tmp 2] [.string ((digS.extract n.toNat (n+1).toNat))] ?_
  exact ⟨by unfold itS; first | (rw [if_pos (by omega)]; rfl) | (rw [if_neg (by omega)]; rfl),H0.mask [true]⟩
 ·
  refine g_cf hb1 ?_
  refine w_k4 ?_
  refine w_b (v:=.int .i64 (n * 2)) (hb:=(b_mul (w64 (by omega)))) ?_
  refine w_m ?_
  refine w_b (v:=.int .i64 (n * 2)) (hb:=(b_mul (w64 (by omega)))) ?_
  refine w_b (v:=.int .i64 ((n * 2)+2)) (hb:=(b_add (w64 (by omega)))) ?_
  refine w_v (v:=.string ((smlS.extract (n * 2).toNat (n * 2+2).toNat))) (x_slices (s:=smlS) (n * 2).toNat (n * 2+2).toNat rfl rfl Tryz.underlying9 (.inr ⟨_,_,_,rfl,rfl,by omega⟩) (.inr ⟨_,_,_,rfl,rfl,by omega⟩) (by rw [smlS_size]; omega)) ?_
  refine w_k3 ?_
  refine fin_r [.tmp 2] [.string ((smlS.extract (n * 2).toNat (n * 2+2).toNat))] ?_
  exact ⟨by unfold itS; first | (rw [if_pos (by omega)]; rfl) | (rw [if_neg (by omega)]; rfl),H0.mask [true]⟩
theorem fmt_s (n:Int) (h0:0≤n) (h1:n≤99)  (w:World):Calls Tryz.prog 210 #[.int .i64 n,.int .i64 10] w fun e w'=>e=.returned (.string (itS n))∧S w' [Old w no]:=by
 have H0:=S.old w
 refine enter 54 Tryz.func210 rfl rfl rfl ?_
 refine g_wk [(0,_),(1,_)] ?_
 refine w_s ?_
 refine w_k7 ?_
 refine g_ct rfl ?_
 refine w_k5 ?_
 refine w_g (decide_eq_true h0) xm ?_
 refine w_g (decide_eq_true h0) (x_bin rfl rfl rfl b_lss) ?_
 refine w_v (x_pick_t rfl rfl (decide_eq_true h0) rfl) ?_
 refine w_e ?_
 refine g_cond_t rfl (decide_eq_true (by omega)) ?_
 refine w_k2 ?_
 refine l_of (s_call0 H0 (wt0 rfl) (x_call' rfl rfl cl213) (small_s n h0 h1 _) rfl rfl ?_)
 intro wq1 H2
 refine w_k2 ?_
 refine g_wk [(4,_)] ?_
 refine g_ret ?_
 refine w_k2 ?_
 refine fin_r [.tmp 4] [.string ((itS n))] ?_
 exact ⟨rfl,H2.mask [true]⟩
theorem itoa0_s (n:Int) (h0:0≤n) (h1:n≤99)  (w:World):Calls Tryz.prog 197 #[.int .i64 n] w fun e w'=>e=.returned (.string (itS n))∧S w' [Old w no]:=by
 have H0:=S.old w
 refine enter 5 Tryz.func197 rfl rfl rfl ?_
 refine g_wk [(0,_)] ?_
 refine w_s ?_
 refine w_k4 ?_
 refine l_of (s_call0 H0 (wt0 rfl) (x_call' rfl rfl cl210) (fmt_s n h0 h1 _) rfl rfl ?_)
 intro wq1 H2
 refine w_k3 ?_
 refine fin_r [.tmp 2] [.string ((itS n))] ?_
 exact ⟨rfl,H2.mask [true]⟩
theorem itoa1_s (n:Int) (h0:0≤n) (h1:n≤99)  (w:World):Calls Tryz.prog 180 #[.int .i64 n] w fun e w'=>e=.returned (.string (itS n))∧S w' [Old w no]:=by
 have H0:=S.old w
 refine enter 5 Tryz.func180 rfl rfl rfl ?_
 refine g_wk [(0,_)] ?_
 refine w_s ?_
 refine w_k4 ?_
 refine l_of (s_call0 H0 (wt0 rfl) (x_call' rfl rfl cl197) (itoa0_s n h0 h1 _) rfl rfl ?_)
 intro wq1 H2
 refine w_k3 ?_
 refine fin_r [.tmp 2] [.string ((itS n))] ?_
 exact ⟨rfl,H2.mask [true]⟩
end Go.Proofs.YthmmfhdpkddniaaGreatDoor
