import Derived.Test.YthmmfhdpkddniaaGreatDoorFm
import Derived.Test.YthmmfhdpkddniaaGreatDoorXe
set_option maxRecDepth 20000
set_option maxHeartbeats 4000000
set_option linter.unusedSimpArgs false
set_option linter.unusedVariables false
namespace Go.Proofs.YthmmfhdpkddniaaGreatDoor
open Go.RowKit
theorem fo103_1:foO Tryz.prog 103 1=some 1:=by kernel_rfl
theorem fo88_5:foO Tryz.prog 88 5=some 5:=by kernel_rfl
theorem keepS_ne (k:Int) (l:List Int):keepS (fun x=>decide (x=k)) l=l.filter fun x=>decide (x ≠ k):=by
 unfold keepS
 refine List.filter_congr fun x _=>?_
 by_cases h:x=k <;> simp [h]
theorem back1_s (b5:Nat) (k x:Int)  (w:World) (HS:S w [Ob b5 (.cells #[.int .i64 k] 3 (0,0))]):Calls Tryz.prog 106 #[.int .i64 x,.pointer (some ⟨b5,0,none⟩)] w fun e w'=>e=.returned (.bool (decide (x=k)))∧S w' ([Ob b5 (.cells #[.int .i64 k] 3 (0,0))]++[Old w (fps [Ob b5 (.cells #[.int .i64 k] 3 (0,0))])]):=by
 have H0:=HS.beginI
 refine enter 7 Tryz.func106 rfl rfl rfl ?_
 refine g_wk [(0,_),(1,_)] ?_
 refine w_s ?_
 refine w_k9 ?_
 refine fin_r [.tmp 3] [.bool (decide ((x:Int)=k))] ?_
 exact ⟨rfl,H0.tk [0,1]⟩
theorem back1_f (b5:Nat) (k:Int):FunC Tryz.prog 106 #[] #[.pointer (some ⟨b5,0,none⟩)] (Big [Ob b5 (.cells #[.int .i64 k] 3 (0,0))]) (fun x:Int=>[.int .i64 x]) (fun x=>.bool ((fun x=>decide (x=k)) x)) (fun _=>True):=
 FunC.ofBig (by kernel_rfl) fun x _ w HS=>back1_s b5 k x w HS
theorem okP_is {j:Nat} {A:PK} (hI:PKI j A) {c:Cho} (hc:A.isB c):okP c.at:=okP_blk hI ⟨hc.1,hc.2.1⟩ hc.2.2
theorem notin_take {α:Type} {l:List α} (hn:l.Nodup) {i:Nat} {x:α} (hx:l[i]?=some x):x ∉ l.take i:=fun h=>by
 obtain ⟨q,hq⟩:=List.getElem?_of_mem h
 have hl:=(List.getElem?_eq_some_iff.1 hq).1
 rw [List.length_take] at hl
 rw [List.getElem?_take_of_lt (by omega)] at hq
 have:=(List.getElem?_inj (by omega) hn).1 (hq.trans hx.symm)
 omega
theorem back_x (X:XP) (A:PK) (j:Nat) (H:List Cho) (hX:XOK X ({ A with here:=H }:PK)) (hI:PKI j A) (hj:j≤100000) (k:Int) (q:Nat) (m:Mt) (hm:X.ms[q]?=some m) (hk:m.k=k) (f:Cho→Bool) (gc:Nat) (fi ca:Array Value) (C:Item) (D:Cho→Prop) (hq:FunC Tryz.prog gc fi ca (Big [C,Ob m.b (.cells #[.string ((fieldS m.fld)),.map (some m.am),.map (some m.sm),.bool m.ch,.bool m.sn,.slice m.ap m.asked.length m.ac] 88 (0,0)),Mp (Value.int .i64) Value.bool okI m.am (bMap m.alw),Mp (Value.int .i64) Value.bool okI m.sm (bMap m.sug),Rw 44 3 m.ap m.asked.length m.ac (fl choL m.asked)]) (fun x:Cho=>[.agg #[.int .i64 x.pc,.int .i64 x.bg,.int .i64 x.ln]]) (fun x=>.bool (f x)) D) (hD:∀ c∈m.asked,D c)  (w:World) (HS:S w [C,Ob X.g (.cells #[.map (some X.mg),.int .i64 ((A.n:Int)),.int .i64 ((A.pz:Int)),.int .i64 ((A.la:Int)),.string (A.seed),.bool A.ino,.slice X.hp A.had.length X.hc,.slice X.wp A.wish.length X.wc,.map (some X.bg)] 85 (0,0)),Mp plK ptV okP X.bg (bkM X.bs),(Lst MtI X.ms),(Lst BkI X.bs)]):Calls Tryz.prog 43 #[.pointer (some ⟨X.g,0,none⟩),.int .i64 k,.pointer (some ⟨m.b,0,none⟩),.func (.func gc) fi ca] w fun e w'=>∃ ap' ac' bs',XOK ({ X with ms:=(X.ms.set q { m with ap:=ap',ac:=ac',asked:=m.asked.filter fun c=>!f c }),bs:=bs' }:XP) ({ A with asked:=delQ A.asked k f,here:=H }:PK)∧∃ p' c',e=.returned (.slice p' (m.asked.filter f).length c')∧S w' ([Rw 44 3 p' (m.asked.filter f).length c' (fl choL (m.asked.filter f)),C,Ob X.g (.cells #[.map (some X.mg),.int .i64 ((A.n:Int)),.int .i64 ((A.pz:Int)),.int .i64 ((A.la:Int)),.string (A.seed),.bool A.ino,.slice X.hp A.had.length X.hc,.slice X.wp A.wish.length X.wc,.map (some X.bg)] 85 (0,0)),Mp plK ptV okP X.bg (bkM bs'),(Lst MtI (X.ms.set q { m with ap:=ap',ac:=ac',asked:=m.asked.filter fun c=>!f c })),(Lst BkI bs')]++[Old w (fps [C,Ob X.g (.cells #[.map (some X.mg),.int .i64 ((A.n:Int)),.int .i64 ((A.pz:Int)),.int .i64 ((A.la:Int)),.string (A.seed),.bool A.ino,.slice X.hp A.had.length X.hc,.slice X.wp A.wish.length X.wc,.map (some X.bg)] 85 (0,0)),Mp plK ptV okP X.bg (bkM X.bs),(Lst MtI X.ms),(Lst BkI X.bs)])]):=by
 have H0:=HS.beginI
 have hn24:=hI.n24
 have hal9:=hI.al
 have hmn:m.asked.Nodup:=by rw [hX.ask m (List.mem_of_getElem? hm)]; exact mine_nodup hI.an _
 have hml9:m.asked.length≤A.asked.length:=by rw [hX.ask m (List.mem_of_getElem? hm)]; exact mine_len _ _
 replace H0:S w [Ob m.b (.cells #[.string ((fieldS m.fld)),.map (some m.am),.map (some m.sm),.bool m.ch,.bool m.sn,.slice m.ap m.asked.length m.ac] 88 (0,0)),Mp (Value.int .i64) Value.bool okI m.am (bMap m.alw),Mp (Value.int .i64) Value.bool okI m.sm (bMap m.sug),Rw 44 3 m.ap m.asked.length m.ac (fl choL m.asked),(Lst MtI (X.ms.eraseIdx q)),C,Ob X.g (.cells #[.map (some X.mg),.int .i64 ((A.n:Int)),.int .i64 ((A.pz:Int)),.int .i64 ((A.la:Int)),.string (A.seed),.bool A.ino,.slice X.hp A.had.length X.hc,.slice X.wp A.wish.length X.wc,.map (some X.bg)] 85 (0,0)),Mp plK ptV okP X.bg (bkM X.bs),(Lst BkI X.bs),Old w (fps [C,Ob X.g (.cells #[.map (some X.mg),.int .i64 ((A.n:Int)),.int .i64 ((A.pz:Int)),.int .i64 ((A.la:Int)),.string (A.seed),.bool A.ino,.slice X.hp A.had.length X.hc,.slice X.wp A.wish.length X.wc,.map (some X.bg)] 85 (0,0)),Mp plK ptV okP X.bg (bkM X.bs),(Lst MtI X.ms),(Lst BkI X.bs)])]:=S.unbig (L:=[_,_,_,_]) (S.lstOut (F:=MtI) (H0.tk [3,0,1,2,4,5]) hm)
 refine enter 76 Tryz.func43 rfl rfl rfl ?_
 refine g_wk [(0,_),(1,_),(2,_),(3,_)] ?_
 refine w_s ?_
 refine l_of (s_box H0 (wt0 rfl) rfl rfl rfl rfl ?_)
 intro g1 wq2 H3
 refine w_a ?_
 refine w_es ?_
 refine w_r2 ?_
 refine w_e ?_
 refine g_seq ?_
 refine w_s ?_
 refine w_r3 ?_
 refine w_1 H3 1 ?_
 refine w_v (v:=.int .i64 ((m.asked.length:Int))) x_q ?_
 refine w_m ?_
 refine w_e ?_
 refine g_block ?_
 refine g_loop (ι:=Nat × Option Addr × Nat × List Cho × Option Addr × Nat × List Cho × List Bk) (fun (i,po,co,ol,pr,cr,rl,bs)=>[(0,.pointer (some ⟨X.g,0,none⟩)),(2,.pointer (some ⟨m.b,0,none⟩)),(3,.func (.func gc) fi ca),(5,.pointer (some ⟨g1,0,none⟩)),(9,.slice po ol.length co),(10,.slice pr rl.length cr),(17,.slice m.ap m.asked.length m.ac),(18,.int .i64 ((m.asked.length:Int))),(19,.int .i64 ((i:Int)))]) (fun (i,po,co,ol,pr,cr,rl,bs) wx=>(i≤m.asked.length)∧(ol=(m.asked.take i).filter f)∧(rl=(m.asked.take i).filter fun c=>!f c)∧(BOK (askB ({ A with here:=H }:PK) k f (m.asked.take i)) bs)∧S wx [Rw 44 3 po ol.length co (fl choL ol),Rw 44 3 pr rl.length cr (fl choL rl),C,Ob X.g (.cells #[.map (some X.mg),.int .i64 ((A.n:Int)),.int .i64 ((A.pz:Int)),.int .i64 ((A.la:Int)),.string (A.seed),.bool A.ino,.slice X.hp A.had.length X.hc,.slice X.wp A.wish.length X.wc,.map (some X.bg)] 85 (0,0)),Ob m.b (.cells #[.string ((fieldS m.fld)),.map (some m.am),.map (some m.sm),.bool m.ch,.bool m.sn,.slice m.ap m.asked.length m.ac] 88 (0,0)),Mp (Value.int .i64) Value.bool okI m.am (bMap m.alw),Mp (Value.int .i64) Value.bool okI m.sm (bMap m.sug),Rw 44 3 m.ap m.asked.length m.ac (fl choL m.asked),(Lst MtI (X.ms.eraseIdx q)),Mp plK ptV okP X.bg (bkM bs),(Lst BkI bs),Ob g1 (.cells #[.int .i64 k] 3 (0,0)),Old w (fps [C,Ob X.g (.cells #[.map (some X.mg),.int .i64 ((A.n:Int)),.int .i64 ((A.pz:Int)),.int .i64 ((A.la:Int)),.string (A.seed),.bool A.ino,.slice X.hp A.had.length X.hc,.slice X.wp A.wish.length X.wc,.map (some X.bg)] 85 (0,0)),Mp plK ptV okP X.bg (bkM X.bs),(Lst MtI X.ms),(Lst BkI X.bs)])]) (fun (i,po,co,ol,pr,cr,rl,bs)=>m.asked.length - i) (0,none,0,[],none,0,[],X.bs) ⟨rfl,rfl,rfl,rfl,rfl,rfl,rfl,rfl,rfl,trivial⟩ ⟨Nat.zero_le _,rfl,rfl,(by rw [List.take_zero,askB_nil]; exact hX.bok),((S.nilFl (S.nilFl H3 44 3 choL) 44 3 choL).tk [0,1,8,9,3,4,5,6,7,10,11,2,12])⟩ ?_
 rintro ⟨i,po,co,ol,pr,cr,rl,bs⟩ wq4 ⟨hi,hol,hrl,hb,H5⟩
 refine g_wk [(0,_),(2,_),(3,_),(5,_),(9,_),(10,_),(17,_),(18,_),(19,_)] ?_
 have hoz9:ol.length≤m.asked.length:=by rw [hol]; exact Nat.le_trans (List.length_filter_le _ _) (by rw [List.length_take]; exact Nat.min_le_right _ _)
 have hrz9:rl.length≤m.asked.length:=by rw [hrl]; exact Nat.le_trans (List.length_filter_le _ _) (by rw [List.length_take]; exact Nat.min_le_right _ _)
 refine w_s ?_
 refine w_b ?_
 refine w_e ?_
 refine g_seq ?_
 by_cases hb6:((i:Int):Int)<(m.asked.length:Int)
 ·
  refine g_ct hb6 ?_
  refine w_ht ?_
  refine g_seq ?_
  refine w_bs ?_
  refine w_v (v:=.pointer ((m.ap).map fun q=>q.add (i * 3))) (x_i i (H5.rr 7)) ?_
  obtain ⟨x7,hx7⟩:=(H5.rr 7).exL choE i
  refine w_v (v:=.agg #[.int .i64 (x7.pc),.int .i64 (x7.bg),.int .i64 (x7.ln)]) (x_loadRA (vs:=choL x7) i (H5.rr 7) (by omega) rfl rfl Tryz.underlying44 rfl sz44 (by rfl) (choE.flAt hx7)) ?_
  refine l_of (s_alloc H5 (wt0 rfl) rfl rfl rfl ze44 ?_)
  intro g8 wq9 H10
  refine l_of (w_st #[.int .i64 (x7.pc),.int .i64 (x7.bg),.int .i64 (x7.ln)] H10 0 ?_)
  intro wq11 H12
  refine w_e ?_
  refine g_seq ?_
  refine w_s ?_
  refine w_m ?_
  refine w_v (v:=.agg #[.int .i64 (x7.pc),.int .i64 (x7.bg),.int .i64 (x7.ln)]) (x_loadA H12 0 rfl rfl Tryz.underlying44 rfl sz44 rfl rfl rfl) ?_
  have H13:S wq11 [(Big [C,Ob m.b (.cells #[.string ((fieldS m.fld)),.map (some m.am),.map (some m.sm),.bool m.ch,.bool m.sn,.slice m.ap m.asked.length m.ac] 88 (0,0)),Mp (Value.int .i64) Value.bool okI m.am (bMap m.alw),Mp (Value.int .i64) Value.bool okI m.sm (bMap m.sug),Rw 44 3 m.ap m.asked.length m.ac (fl choL m.asked)]),Ob g8 (.cells #[.int .i64 (x7.pc),.int .i64 (x7.bg),.int .i64 (x7.ln)] 44 (0,0)),Rw 44 3 po ol.length co (fl choL ol),Rw 44 3 pr rl.length cr (fl choL rl),Ob X.g (.cells #[.map (some X.mg),.int .i64 ((A.n:Int)),.int .i64 ((A.pz:Int)),.int .i64 ((A.la:Int)),.string (A.seed),.bool A.ino,.slice X.hp A.had.length X.hc,.slice X.wp A.wish.length X.wc,.map (some X.bg)] 85 (0,0)),(Lst MtI (X.ms.eraseIdx q)),Mp plK ptV okP X.bg (bkM bs),(Lst BkI bs),Ob g1 (.cells #[.int .i64 k] 3 (0,0)),Old w (fps [C,Ob X.g (.cells #[.map (some X.mg),.int .i64 ((A.n:Int)),.int .i64 ((A.pz:Int)),.int .i64 ((A.la:Int)),.string (A.seed),.bool A.ino,.slice X.hp A.had.length X.hc,.slice X.wp A.wish.length X.wc,.map (some X.bg)] 85 (0,0)),Mp plK ptV okP X.bg (bkM X.bs),(Lst MtI X.ms),(Lst BkI X.bs)])]:=S.big (L:=[C,Ob m.b (.cells #[.string ((fieldS m.fld)),.map (some m.am),.map (some m.sm),.bool m.ch,.bool m.sn,.slice m.ap m.asked.length m.ac] 88 (0,0)),Mp (Value.int .i64) Value.bool okI m.am (bMap m.alw),Mp (Value.int .i64) Value.bool okI m.sm (bMap m.sug),Rw 44 3 m.ap m.asked.length m.ac (fl choL m.asked)]) (H12.tk [3,5,6,7,8,0,1,2,4,9,10,11,12,13])
  refine l_of (s_call (wt0 rfl) (x_call rfl rfl rfl hq.ok) (hq.does x7 (hD x7 (List.mem_of_getElem? hx7)) _ (H13.tk [0])) ?_)
  rintro _ wq14 ⟨rfl,H15⟩
  replace H15:S _ [_,_,_,_,_,_,_,_,_,_]:=H13.abI (new:=[_]) [0] H15 rfl
  have H16:S wq14 [C,Ob m.b (.cells #[.string ((fieldS m.fld)),.map (some m.am),.map (some m.sm),.bool m.ch,.bool m.sn,.slice m.ap m.asked.length m.ac] 88 (0,0)),Mp (Value.int .i64) Value.bool okI m.am (bMap m.alw),Mp (Value.int .i64) Value.bool okI m.sm (bMap m.sug),Rw 44 3 m.ap m.asked.length m.ac (fl choL m.asked),Ob g8 (.cells #[.int .i64 (x7.pc),.int .i64 (x7.bg),.int .i64 (x7.ln)] 44 (0,0)),Rw 44 3 po ol.length co (fl choL ol),Rw 44 3 pr rl.length cr (fl choL rl),Ob X.g (.cells #[.map (some X.mg),.int .i64 ((A.n:Int)),.int .i64 ((A.pz:Int)),.int .i64 ((A.la:Int)),.string (A.seed),.bool A.ino,.slice X.hp A.had.length X.hc,.slice X.wp A.wish.length X.wc,.map (some X.bg)] 85 (0,0)),(Lst MtI (X.ms.eraseIdx q)),Mp plK ptV okP X.bg (bkM bs),(Lst BkI bs),Ob g1 (.cells #[.int .i64 k] 3 (0,0)),Old w (fps [C,Ob X.g (.cells #[.map (some X.mg),.int .i64 ((A.n:Int)),.int .i64 ((A.pz:Int)),.int .i64 ((A.la:Int)),.string (A.seed),.bool A.ino,.slice X.hp A.had.length X.hc,.slice X.wp A.wish.length X.wc,.map (some X.bg)] 85 (0,0)),Mp plK ptV okP X.bg (bkM X.bs),(Lst MtI X.ms),(Lst BkI X.bs)])]:=S.unbig (H15.tk [0,1,2,3,4,5,6,7,8,9])
  refine b_ret rfl rfl ?_
  refine w_v (v:=.bool (!((f x7)))) (x_not (b:=(f x7)) rfl rfl) ?_
  refine w_e ?_
  rcases Bool.eq_false_or_eq_true ((f x7)) with hb17 | hb17
  ·
   refine g_cond_f rfl (neg_of hb17) ?_
   refine w_hs ?_
   refine w_m ?_
   refine w_v (v:=.agg #[.int .i64 (x7.pc),.int .i64 (x7.bg),.int .i64 (x7.ln)]) (x_loadA H16 5 rfl rfl Tryz.underlying44 rfl sz44 rfl rfl rfl) ?_
   refine l_of (s_buildSlice H16 (wt0 rfl) rfl rfl rfl (vs:=[.agg #[.int .i64 (x7.pc),.int .i64 (x7.bg),.int .i64 (x7.ln)]]) rfl Tryz.underlying35 sz44 ze44 rfl rfl (cells:=#[.int .i64 (x7.pc),.int .i64 (x7.bg),.int .i64 (x7.ln)]) (by kernel_rfl) ?_)
   intro g18 wq19 H20
   have hln25a:=(H20.rr 7).lenL choE
   have hln25:(ol++[x7]).length=ol.length+1:=by simp only [List.length_append,List.length_cons,List.length_nil] <;> omega
   refine l_of (s_appBn (m:=1) (l:=ol) (l2:=[x7]) choE H20 7 (j0:=0) rfl rfl ⟨rfl,Nat.le_refl _⟩ (wt0 rfl) rfl rfl rfl rfl rfl rfl Tryz.underlying35 inf44 rfl (by decide) (by omega) ?_)
   intro p21 c22 wq23 H24
   refine w_a ?_
   refine w_e ?_
   refine g_seq ?_
   refine g_any [] (fun wx=>S wx [Ob g18 (.cells #[.int .i64 (x7.pc),.int .i64 (x7.bg),.int .i64 (x7.ln)] 44 (0,0)),C,Ob m.b (.cells #[.string ((fieldS m.fld)),.map (some m.am),.map (some m.sm),.bool m.ch,.bool m.sn,.slice m.ap m.asked.length m.ac] 88 (0,0)),Mp (Value.int .i64) Value.bool okI m.am (bMap m.alw),Mp (Value.int .i64) Value.bool okI m.sm (bMap m.sug),Rw 44 3 m.ap m.asked.length m.ac (fl choL m.asked),Ob g8 (.cells #[.int .i64 (x7.pc),.int .i64 (x7.bg),.int .i64 (x7.ln)] 44 (0,0)),Rw 44 3 p21 ((ol++[x7]).length) c22 (fl choL (ol++[x7])),Rw 44 3 pr rl.length cr (fl choL rl),Ob X.g (.cells #[.map (some X.mg),.int .i64 ((A.n:Int)),.int .i64 ((A.pz:Int)),.int .i64 ((A.la:Int)),.string (A.seed),.bool A.ino,.slice X.hp A.had.length X.hc,.slice X.wp A.wish.length X.wc,.map (some X.bg)] 85 (0,0)),(Lst MtI (X.ms.eraseIdx q)),Mp plK ptV okP X.bg (bkM bs),(Lst BkI bs),Ob g1 (.cells #[.int .i64 k] 3 (0,0)),Old w (fps [C,Ob X.g (.cells #[.map (some X.mg),.int .i64 ((A.n:Int)),.int .i64 ((A.pz:Int)),.int .i64 ((A.la:Int)),.string (A.seed),.bool A.ino,.slice X.hp A.had.length X.hc,.slice X.wp A.wish.length X.wc,.map (some X.bg)] 85 (0,0)),Mp plK ptV okP X.bg (bkM X.bs),(Lst MtI X.ms),(Lst BkI X.bs)])]) [] (by kernel_rfl) H24 (fun wq26 H27=>?_)
   refine w_t 0 rfl H27 (fun _ _=>xm) ?_
   refine w_t 1 rfl H27 (fun _ _=>xn) ?_
   refine w_t 2 rfl H27 (fun _ _=>xf 8) ?_
   refine w_t 3 rfl H27 (fun _ H=>xl H 9) ?_
   refine w_t (v:=.agg #[.int .i64 (x7.pc),.int .i64 (x7.bg),.int .i64 (x7.ln)]) 4 rfl H27 (fun _ H=>x_loadA H 6 rfl rfl Tryz.underlying44 rfl sz44 rfl rfl rfl) ?_
   refine a_one (i:=5) (by kernel_rfl) rfl ?_
   refine s_call0 H27 (wt0 rfl) (x_call' rfl rfl cl47) (at_x x7 _) rfl rfl ?_
   intro wq28 H29
   refine a_k H29 ?_
   refine w_t (v:=(optP ((bkM bs) x7.at))) 6 rfl H29 (fun _ H=>ex_cast (x_lookup1 (x:=x7.at) placeT H 11 rfl rfl rfl rfl ((okP_is hI (hI.ak _ (show (k,x7)∈A.asked by rw [← hk]; exact mem_mine.1 (by rw [← hX.ask m (List.mem_of_getElem? hm)]; exact List.mem_of_getElem? hx7))).2.1)) ze98) (rfl)) ?_
   refine a_one (i:=7) (by kernel_rfl) rfl ?_
   refine s_val (v:=(optP ((bkM bs) x7.at))) (wt0 rfl) rfl rfl (x_assign rfl rfl) ?_
   refine a_k H29 ?_
   refine a_done (by kernel_rfl) ?_
   refine g_then ?_
   refine g_wk [(0,_),(2,_),(3,_),(5,_),(9,_),(10,_),(12,_),(13,_),(17,_),(18,_),(19,_)] ?_
   refine w_s ?_
   have hxm9:x7∈m.asked:=List.mem_of_getElem? hx7
   have hka9:(k,x7)∈A.asked:=by rw [← hk]; exact mem_mine.1 (by rw [← hX.ask m (List.mem_of_getElem? hm)]; exact hxm9)
   have hcB:A.isB x7:=(hI.ak _ hka9).2.1
   have hIb:PKI j (askB A k f (m.asked.take i)):=askB_pki hI
   have hnl9:x7 ∉ m.asked.take i:=notin_take hmn hx7
   obtain ⟨ir,r,hrx,hrp,hrb,hrf⟩:=hb.get (c:=x7) hcB (freeC_asked (askB_has (A:=({ A with here:=H }:PK)) hka9 hnl9))
   have hran:=(hb.ent hcB hrx hrp).2
   rw [optP_s hrb]
   have H30:S wq28 [Ob r.b (.cells #[.bool r.here,.slice r.ap r.asked.length r.ac] 103 (0,0)),Rw 3 1 r.ap r.asked.length r.ac (fl intL r.asked),(Lst BkI (bs.eraseIdx ir)),Ob g18 (.cells #[.int .i64 (x7.pc),.int .i64 (x7.bg),.int .i64 (x7.ln)] 44 (0,0)),C,Ob m.b (.cells #[.string ((fieldS m.fld)),.map (some m.am),.map (some m.sm),.bool m.ch,.bool m.sn,.slice m.ap m.asked.length m.ac] 88 (0,0)),Mp (Value.int .i64) Value.bool okI m.am (bMap m.alw),Mp (Value.int .i64) Value.bool okI m.sm (bMap m.sug),Rw 44 3 m.ap m.asked.length m.ac (fl choL m.asked),Ob g8 (.cells #[.int .i64 (x7.pc),.int .i64 (x7.bg),.int .i64 (x7.ln)] 44 (0,0)),Rw 44 3 p21 ((ol++[x7]).length) c22 (fl choL (ol++[x7])),Rw 44 3 pr rl.length cr (fl choL rl),Ob X.g (.cells #[.map (some X.mg),.int .i64 ((A.n:Int)),.int .i64 ((A.pz:Int)),.int .i64 ((A.la:Int)),.string (A.seed),.bool A.ino,.slice X.hp A.had.length X.hc,.slice X.wp A.wish.length X.wc,.map (some X.bg)] 85 (0,0)),(Lst MtI (X.ms.eraseIdx q)),Mp plK ptV okP X.bg (bkM bs),Ob g1 (.cells #[.int .i64 k] 3 (0,0)),Old w (fps [C,Ob X.g (.cells #[.map (some X.mg),.int .i64 ((A.n:Int)),.int .i64 ((A.pz:Int)),.int .i64 ((A.la:Int)),.string (A.seed),.bool A.ino,.slice X.hp A.had.length X.hc,.slice X.wp A.wish.length X.wc,.map (some X.bg)] 85 (0,0)),Mp plK ptV okP X.bg (bkM X.bs),(Lst MtI X.ms),(Lst BkI X.bs)])]:=S.unbig (L:=[_,_]) (S.lstOut (F:=BkI) (H29.tk [12,0,1,2,3,4,5,6,7,8,9,10,11,13,14]) hrx)
   have hral9:r.asked.length≤1099511627776:=by have h9:=ofL_len (askB ({ A with here:=H }:PK) k f (m.asked.take i)).asked x7; have h8:(askB ({ A with here:=H }:PK) k f (m.asked.take i)).asked.length≤400 * j:=(askB_pki (k:=k) (f:=f) (l:=m.asked.take i) hI).al; rw [hran]; omega
   refine w_r4 ?_
   refine w_1 H30 0 ?_
   refine w_v (v:=.func (.func 106) #[] #[.pointer (some ⟨g1,0,none⟩)]) (x_makeFunc rfl rfl rfl) ?_
   have H31:S wq28 [(Big [Ob g1 (.cells #[.int .i64 k] 3 (0,0))]),Ob r.b (.cells #[.bool r.here,.slice r.ap r.asked.length r.ac] 103 (0,0)),Rw 3 1 r.ap r.asked.length r.ac (fl intL r.asked),(Lst BkI (bs.eraseIdx ir)),Ob g18 (.cells #[.int .i64 (x7.pc),.int .i64 (x7.bg),.int .i64 (x7.ln)] 44 (0,0)),C,Ob m.b (.cells #[.string ((fieldS m.fld)),.map (some m.am),.map (some m.sm),.bool m.ch,.bool m.sn,.slice m.ap m.asked.length m.ac] 88 (0,0)),Mp (Value.int .i64) Value.bool okI m.am (bMap m.alw),Mp (Value.int .i64) Value.bool okI m.sm (bMap m.sug),Rw 44 3 m.ap m.asked.length m.ac (fl choL m.asked),Ob g8 (.cells #[.int .i64 (x7.pc),.int .i64 (x7.bg),.int .i64 (x7.ln)] 44 (0,0)),Rw 44 3 p21 ((ol++[x7]).length) c22 (fl choL (ol++[x7])),Rw 44 3 pr rl.length cr (fl choL rl),Ob X.g (.cells #[.map (some X.mg),.int .i64 ((A.n:Int)),.int .i64 ((A.pz:Int)),.int .i64 ((A.la:Int)),.string (A.seed),.bool A.ino,.slice X.hp A.had.length X.hc,.slice X.wp A.wish.length X.wc,.map (some X.bg)] 85 (0,0)),(Lst MtI (X.ms.eraseIdx q)),Mp plK ptV okP X.bg (bkM bs),Old w (fps [C,Ob X.g (.cells #[.map (some X.mg),.int .i64 ((A.n:Int)),.int .i64 ((A.pz:Int)),.int .i64 ((A.la:Int)),.string (A.seed),.bool A.ino,.slice X.hp A.had.length X.hc,.slice X.wp A.wish.length X.wc,.map (some X.bg)] 85 (0,0)),Mp plK ptV okP X.bg (bkM X.bs),(Lst MtI X.ms),(Lst BkI X.bs)])]:=S.big (L:=[Ob g1 (.cells #[.int .i64 k] 3 (0,0))]) (H30.tk [15,0,1,2,3,4,5,6,7,8,9,10,11,12,13,14,16])
   have hdl34:=delF_i r.asked r.ap r.ac (by omega) (fun x=>decide (x=k)) 106 #[] #[.pointer (some ⟨g1,0,none⟩)] (Big [Ob g1 (.cells #[.int .i64 k] 3 (0,0))]) (fun _=>True) (back1_f g1 k) (fun _ _=>trivial) _ (H31.tk [0,2])
   rw [keepS_ne] at hdl34
   refine l_of (s_cl hdl34 ?_)
   rintro _ wq32 ⟨rfl,H33⟩
   replace H33:S _ [_,_,_,_,_,_,_,_,_,_,_,_,_,_,_,_,_]:=H31.abI (new:=[_,_]) [0,2] H33 rfl
   have H35:S wq32 [Ob g1 (.cells #[.int .i64 k] 3 (0,0)),Rw 3 1 r.ap ((r.asked.filter fun x=>decide (x ≠ k)).length) r.ac (fl intL (r.asked.filter fun x=>decide (x ≠ k))),Ob r.b (.cells #[.bool r.here,.slice r.ap r.asked.length r.ac] 103 (0,0)),(Lst BkI (bs.eraseIdx ir)),Ob g18 (.cells #[.int .i64 (x7.pc),.int .i64 (x7.bg),.int .i64 (x7.ln)] 44 (0,0)),C,Ob m.b (.cells #[.string ((fieldS m.fld)),.map (some m.am),.map (some m.sm),.bool m.ch,.bool m.sn,.slice m.ap m.asked.length m.ac] 88 (0,0)),Mp (Value.int .i64) Value.bool okI m.am (bMap m.alw),Mp (Value.int .i64) Value.bool okI m.sm (bMap m.sug),Rw 44 3 m.ap m.asked.length m.ac (fl choL m.asked),Ob g8 (.cells #[.int .i64 (x7.pc),.int .i64 (x7.bg),.int .i64 (x7.ln)] 44 (0,0)),Rw 44 3 p21 ((ol++[x7]).length) c22 (fl choL (ol++[x7])),Rw 44 3 pr rl.length cr (fl choL rl),Ob X.g (.cells #[.map (some X.mg),.int .i64 ((A.n:Int)),.int .i64 ((A.pz:Int)),.int .i64 ((A.la:Int)),.string (A.seed),.bool A.ino,.slice X.hp A.had.length X.hc,.slice X.wp A.wish.length X.wc,.map (some X.bg)] 85 (0,0)),(Lst MtI (X.ms.eraseIdx q)),Mp plK ptV okP X.bg (bkM bs),Old w (fps [C,Ob X.g (.cells #[.map (some X.mg),.int .i64 ((A.n:Int)),.int .i64 ((A.pz:Int)),.int .i64 ((A.la:Int)),.string (A.seed),.bool A.ino,.slice X.hp A.had.length X.hc,.slice X.wp A.wish.length X.wc,.map (some X.bg)] 85 (0,0)),Mp plK ptV okP X.bg (bkM X.bs),(Lst MtI X.ms),(Lst BkI X.bs)])]:=S.unbig (H33.tk [0,1,2,3,4,5,6,7,8,9,10,11,12,13,14,15,16])
   have hrl8:=List.length_filter_le (fun x=>decide (x ≠ k)) r.asked
   refine b_ret rfl rfl ?_
   refine w_r2 ?_
   refine l_of (w_st #[.bool r.here,.slice r.ap ((r.asked.filter fun x=>decide (x ≠ k)).length) r.ac] H35 2 ?_)
   intro wq36 H37
   refine w_es ?_
   refine w_r3 ?_
   refine w_1 H37 2 ?_
   refine w_v (v:=.int .i64 (((r.asked.filter fun x=>decide (x ≠ k)).length:Int))) x_q ?_
   refine w_b ?_
   refine w_m ?_
   by_cases hb38:(((r.asked.filter fun x=>decide (x ≠ k)).length:Int):Int)=0
   ·
    refine w_g (decide_eq_true hb38) xm ?_
    refine w_g (decide_eq_true hb38) xn ?_
    refine w_g (decide_eq_true hb38) (xf 0) ?_
    refine w_g (decide_eq_true hb38) (xl H37 2) ?_
    refine w_g (v:=.bool (!(r.here))) (decide_eq_true hb38) (x_not (b:=r.here) rfl rfl) ?_
    refine w_v (v:=.bool (!(r.here))) (x_pick_t rfl rfl (decide_eq_true hb38) rfl) ?_
    refine w_e ?_
    refine g_wk [(0,_),(2,_),(3,_),(5,_),(9,_),(10,_),(12,_),(17,_),(18,_),(19,_),(63,_)] ?_
    rcases Bool.eq_false_or_eq_true (r.here) with hb39 | hb39
    ·
     refine g_cond_f rfl (neg_of hb39) ?_
     refine g_skip ?_
     refine g_in ?_
     refine g_then ?_
     refine g_region ?_
     refine w_b (v:=.int .i64 (((i+1:Nat):Int))) (hb:=(b_add (by rw [w64 (by omega)]; omega))) ?_
     refine w_m ?_
     refine w_e ?_
     refine g_rd (i:=(i,po,co,ol,pr,cr,rl,bs)) ((i+1),p21,c22,(ol++[x7]),pr,cr,rl,(bs.set ir ({ r with ap:=r.ap,ac:=r.ac,asked:=r.asked.filter fun x=>decide (x ≠ k) }:Bk))) ⟨by omega,(by rw [take_snocL hx7,filt_t (by rw [hb17]),← hol]),(by rw [take_snocL hx7,filt_f (by rw [hb17]; decide),← hrl]),(by rw [take_snocL hx7,askB_yes hb17]; exact one_set (A:=askB ({ A with here:=H }:PK) k f (m.asked.take i)) hIb.an hcB hb hrx hrp r.ap r.ac (fun h9=>by rw [h9.2] at hb39; cases hb39)),(by rw [bkM_set (r':=({ r with ap:=r.ap,ac:=r.ac,asked:=r.asked.filter fun x=>decide (x ≠ k) }:Bk)) hb.bn hrx rfl rfl]; exact (S.lstIn (F:=BkI) (x:=({ r with ap:=r.ap,ac:=r.ac,asked:=r.asked.filter fun x=>decide (x ≠ k) }:Bk)) (S.big (L:=[_,_]) (H37.tk [2,1,3,11,12,5,13,6,7,8,9,14,15,0,16])) (List.getElem?_eq_some_iff.1 hrx).1).tk [1,2,3,4,5,6,7,8,9,10,0,11,12])⟩
    ·
     refine g_cond_t rfl (neg_of hb39) ?_
     refine g_anyY [] (fun wx=>S wx [Ob g8 (.cells #[.int .i64 (x7.pc),.int .i64 (x7.bg),.int .i64 (x7.ln)] 44 (0,0)),Ob X.g (.cells #[.map (some X.mg),.int .i64 ((A.n:Int)),.int .i64 ((A.pz:Int)),.int .i64 ((A.la:Int)),.string (A.seed),.bool A.ino,.slice X.hp A.had.length X.hc,.slice X.wp A.wish.length X.wc,.map (some X.bg)] 85 (0,0))]) (fun wx=>S wx []) [6] (by kernel_rfl) H37 (fun wq40 H41=>?_)
     refine w_y 0 rfl (wt0 rfl) rfl rfl rfl (by kernel_rfl) (fun _=>x_move rfl rfl) ?_
     refine w_y 1 rfl (wt0 rfl) rfl rfl rfl (by kernel_rfl) (fun _=>x_nilCheck rfl rfl) ?_
     refine w_y 2 rfl (wt0 rfl) rfl rfl rfl (by kernel_rfl) (fun _=>x_fieldAddr (off':=8) rfl rfl fo85_8 rfl) ?_
     have cm1:=H41.mask [false,false,false,false,false,false,false,false,false,false,true,false,false,true,false,false,false]
     refine y_take (v:=.map (some X.bg)) 3 rfl (wt0 rfl) rfl rfl rfl (by kernel_rfl) (by kernel_rfl) (by kernel_rfl) (by kernel_rfl) (by kernel_rfl) cm1 (fun wx H=>x_load1 H 1 rfl rfl Tryz.underlying83 rfl rfl rfl) ?_
     refine y_take (v:=.agg #[.int .i64 (x7.pc),.int .i64 (x7.bg),.int .i64 (x7.ln)]) 4 rfl (wt0 rfl) rfl rfl rfl (by kernel_rfl) (by kernel_rfl) (by kernel_rfl) (by kernel_rfl) (by kernel_rfl) cm1 (fun wx H=>x_loadA H 0 rfl rfl Tryz.underlying44 rfl sz44 rfl rfl rfl) ?_
     refine y_one (i:=5) (by kernel_rfl) rfl ?_
     refine s_call0 H41 (wt0 rfl) (x_call' rfl rfl cl47) (at_x x7 _) rfl rfl ?_
     intro wq42 H43
     refine y_k (H43.mask [false,false,false,false,false,false,false,false,false,false,true,false,false,true,false,false,false]) (H43.mask [false,false,false,false,false,false,false,false,false,false,false,false,false,false,false,false,false]) ?_
     refine y_one (i:=6) (by kernel_rfl) rfl ?_
     refine s_delete (x:=x7.at) placeT H43 15 (wt0 rfl) rfl rfl rfl rfl rfl ((okP_is hI (hI.ak _ (show (k,x7)∈A.asked by rw [← hk]; exact mem_mine.1 (by rw [← hX.ask m (List.mem_of_getElem? hm)]; exact List.mem_of_getElem? hx7))).2.1)) ?_
     intro wq44 H45
     refine y_kt rfl (H45.mask [false,false,false,false,false,false,false,false,false,false,false,false,false,false,false,false,false]) ?_
     refine y_done (by kernel_rfl) ?_
     refine g_in ?_
     refine g_then ?_
     refine g_region ?_
     refine w_b (v:=.int .i64 (((i+1:Nat):Int))) (hb:=(b_add (by rw [w64 (by omega)]; omega))) ?_
     refine w_m ?_
     refine w_e ?_
     refine g_rd (i:=(i,po,co,ol,pr,cr,rl,bs)) ((i+1),p21,c22,(ol++[x7]),pr,cr,rl,(bs.eraseIdx ir)) ⟨by omega,(by rw [take_snocL hx7,filt_t (by rw [hb17]),← hol]),(by rw [take_snocL hx7,filt_f (by rw [hb17]; decide),← hrl]),(by rw [take_snocL hx7,askB_yes hb17]; exact one_erase (A:=askB ({ A with here:=H }:PK) k f (m.asked.take i)) hIb.an hcB hb hrx hrp (List.eq_nil_of_length_eq_zero (by omega)) hb39),(by rw [bkM_erase hb.bn hrx,hrp]; exact H45.tk [11,12,5,13,6,7,8,9,14,15,3,0,16])⟩
   ·
    iterate 5 refine w_n (decide_eq_false hb38) ?_
    refine w_v (v:=.bool false) (x_pick_f rfl rfl (decide_eq_false hb38) rfl) ?_
    refine w_e ?_
    refine g_wk [(0,_),(2,_),(3,_),(5,_),(9,_),(10,_),(12,_),(17,_),(18,_),(19,_),(63,_)] ?_
    refine g_cond_f rfl rfl ?_
    refine g_skip ?_
    refine g_in ?_
    refine g_then ?_
    refine g_region ?_
    refine w_b (v:=.int .i64 (((i+1:Nat):Int))) (hb:=(b_add (by rw [w64 (by omega)]; omega))) ?_
    refine w_m ?_
    refine w_e ?_
    refine g_rd (i:=(i,po,co,ol,pr,cr,rl,bs)) ((i+1),p21,c22,(ol++[x7]),pr,cr,rl,(bs.set ir ({ r with ap:=r.ap,ac:=r.ac,asked:=r.asked.filter fun x=>decide (x ≠ k) }:Bk))) ⟨by omega,(by rw [take_snocL hx7,filt_t (by rw [hb17]),← hol]),(by rw [take_snocL hx7,filt_f (by rw [hb17]; decide),← hrl]),(by rw [take_snocL hx7,askB_yes hb17]; exact one_set (A:=askB ({ A with here:=H }:PK) k f (m.asked.take i)) hIb.an hcB hb hrx hrp r.ap r.ac (fun h9=>hb38 (by rw [h9.1]; rfl))),(by rw [bkM_set (r':=({ r with ap:=r.ap,ac:=r.ac,asked:=r.asked.filter fun x=>decide (x ≠ k) }:Bk)) hb.bn hrx rfl rfl]; exact (S.lstIn (F:=BkI) (x:=({ r with ap:=r.ap,ac:=r.ac,asked:=r.asked.filter fun x=>decide (x ≠ k) }:Bk)) (S.big (L:=[_,_]) (H37.tk [2,1,3,11,12,5,13,6,7,8,9,14,15,0,16])) (List.getElem?_eq_some_iff.1 hrx).1).tk [1,2,3,4,5,6,7,8,9,10,0,11,12])⟩
  ·
   refine g_cond_t rfl (neg_of hb17) ?_
   refine w_s ?_
   refine w_m ?_
   refine w_v (v:=.agg #[.int .i64 (x7.pc),.int .i64 (x7.bg),.int .i64 (x7.ln)]) (x_loadA H16 5 rfl rfl Tryz.underlying44 rfl sz44 rfl rfl rfl) ?_
   refine l_of (s_buildSlice H16 (wt0 rfl) rfl rfl rfl (vs:=[.agg #[.int .i64 (x7.pc),.int .i64 (x7.bg),.int .i64 (x7.ln)]]) rfl Tryz.underlying35 sz44 ze44 rfl rfl (cells:=#[.int .i64 (x7.pc),.int .i64 (x7.bg),.int .i64 (x7.ln)]) (by kernel_rfl) ?_)
   intro g46 wq47 H48
   have hln53a:=(H48.rr 8).lenL choE
   have hln53:(rl++[x7]).length=rl.length+1:=by simp only [List.length_append,List.length_cons,List.length_nil] <;> omega
   refine l_of (s_appBn (m:=1) (l:=rl) (l2:=[x7]) choE H48 8 (j0:=0) rfl rfl ⟨rfl,Nat.le_refl _⟩ (wt0 rfl) rfl rfl rfl rfl rfl rfl Tryz.underlying35 inf44 rfl (by decide) (by omega) ?_)
   intro p49 c50 wq51 H52
   refine w_a ?_
   refine w_e ?_
   refine g_wk [(0,_),(2,_),(3,_),(5,_),(9,_),(10,_),(17,_),(18,_),(19,_)] ?_
   refine g_exit ?_
   refine g_then_exit ?_
   refine g_in_hit ?_
   refine g_then ?_
   refine g_region ?_
   refine w_b (v:=.int .i64 (((i+1:Nat):Int))) (hb:=(b_add (by rw [w64 (by omega)]; omega))) ?_
   refine w_m ?_
   refine w_e ?_
   refine g_rd (i:=(i,po,co,ol,pr,cr,rl,bs)) ((i+1),po,co,ol,p49,c50,(rl++[x7]),bs) ⟨by omega,(by rw [take_snocL hx7,filt_f (by rw [hb17]; decide),← hol]),(by rw [take_snocL hx7,filt_t (by rw [hb17]; decide),← hrl]),(by rw [take_snocL hx7,askB_no hb17]; exact hb),(H52.tk [7,8,1,9,2,3,4,5,10,11,12,13,14])⟩
 ·
  refine g_cf hb6 ?_
  refine g_exit ?_
  iterate 2 refine g_then_exit ?_
  refine g_in_hit ?_
  refine g_then ?_
  refine w_s ?_
  refine w_r4 ?_
  refine l_of (w_st #[.string ((fieldS m.fld)),.map (some m.am),.map (some m.sm),.bool m.ch,.bool m.sn,.slice pr rl.length cr] H5 4 ?_)
  intro wq54 H55
  refine w_e ?_
  refine g_wk [(9,_)] ?_
  refine w_s ?_
  refine w_r2 ?_
  refine w_e ?_
  refine g_ret ?_
  refine fin_r [.tmp 8] [.slice po ol.length co] ?_
  rw [List.take_of_length_le (by omega)] at hol hrl hb
  subst hol
  subst hrl
  have hmq:m.asked=mine A.asked k:=by rw [hX.ask m (List.mem_of_getElem? hm),hk]
  have hb2:BOK ({ A with asked:=delQ A.asked k f,here:=H }:PK) bs:=by have h9:BOK (askB ({ A with here:=H }:PK) k f (mine A.asked k)) bs:=by { rw [← hmq]; exact hb }; have e9:askB ({ A with here:=H }:PK) k f (mine A.asked k)={ A with asked:=delQ A.asked k f,here:=H }:=askB_all ({ A with here:=H }:PK) k f; rw [e9] at h9; exact h9
  have hnd9:(X.ms.map Mt.k).Nodup:=by rw [hX.ks]; exact hI.nd
  have hL9:=S.lstIn (F:=MtI) (x:=({ m with ap:=pr,ac:=cr,asked:=m.asked.filter fun c=>!f c }:Mt)) (S.big (L:=[_,_,_,_]) (H55.tk [4,5,6,1,8,0,2,3,9,10,12])) (List.getElem?_eq_some_iff.1 hm).1
  exact ⟨pr,cr,bs,XOK.backed (A:=({ A with here:=H }:PK)) hX hnd9 hm hk hb2 pr cr,po,co,rfl,hL9.tk [1,2,3,4,0,5,6]⟩
end Go.Proofs.YthmmfhdpkddniaaGreatDoor
