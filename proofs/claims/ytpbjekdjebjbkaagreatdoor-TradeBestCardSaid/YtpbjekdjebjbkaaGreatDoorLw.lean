import Derived.Test.YtpbjekdjebjbkaaGreatDoorFm
import Derived.Test.YtpbjekdjebjbkaaGreatDoorLr
import Derived.Test.YtpbjekdjebjbkaaGreatDoorLj
import Derived.Test.YtpbjekdjebjbkaaGreatDoorLl
set_option maxRecDepth 20000
set_option maxHeartbeats 4000000
set_option linter.unusedSimpArgs false
set_option linter.unusedVariables false
namespace Go.Proofs.YtpbjekdjebjbkaaGreatDoor
open Go.RowKit
noncomputable def optE (round:Int) (seed:ByteArray) (l:List Rv):Int:=if ¬ askE seed l=0 then askE seed l else if round<0 then 7 else 0
noncomputable def optV (round:Int) (seed:ByteArray) (l:List Rv):List Int:=if optE round seed l=0 then (optL round seed l).map Rv.id else []
theorem cl64:callable Tryz.prog 64=true:=by kernel_rfl
theorem take_is {c:Rv→Rv→Int} {L o t:List Rv} {k:Nat} (hs:srt Rv.zero c L=o++t) (ho:o.length≤k) (he:o.length=k∨t=[]):(srt Rv.zero c L).take k=o:=by
 rw [hs]
 rcases he with he | he
 · rw [← he]; exact List.take_left
 · subst he; rw [List.append_nil]; exact List.take_of_length_le ho
theorem end_nil {c:Rv→Rv→Int} {k m:Nat} {B:List Rv} (h:k=m∨B.length=0):k=m∨srt Rv.zero c B=[]:=h.imp_right fun h=>List.eq_nil_of_length_eq_zero (by rw [srt_len,h])
noncomputable def rest1 (l:List Rv) (slots:Int):List Rv:=(l.filter qW).filter (fun x:Rv=>!decide (x.id∈(reg1 l slots).map Rv.id))
noncomputable def let1 (round slots:Int) (seed:ByteArray) (l:List Rv):List Rv:=reg1 l slots++(srt Rv.zero (cO round seed) (rest1 l slots)).take (slots.toNat - (reg1 l slots).length)
theorem let1_r (round slots:Int) (seed:ByteArray) (hsd2:seed.size≤200) (hrd2:0≤round∧round≤200) (hsl:0≤slots∧slots≤100) (l:List Rv) (p:Option Addr) (n c:Nat) (hn2:n≤19) (hval:∀ x∈l,validR x=true)  (w:World) (hr:Reads w p n c 10 (fl rvL l)) (ht:PowTab w):Calls Tryz.prog 58 #[.int .i64 1,.int .i64 round,.int .i64 slots,.string seed,.slice p n c] w fun e w'=>∃ p' c',e=.returned (.slice p' (sortI ((let1 round slots seed l).map Rv.id)).length c')∧S w' ([Rw 3 1 p' (sortI ((let1 round slots seed l).map Rv.id)).length c' (fl intL (sortI ((let1 round slots seed l).map Rv.id)))]++[Old w no]):=by
 have H0:=S.old w
 have hnl:=hr.lenL rvE
 have hfw:(l.filter qW).length≤19:=by have:=List.length_filter_le qW l; omega
 have hrl:(rest1 l slots).length≤19:=by unfold rest1; have:=List.length_filter_le (fun x:Rv=>!decide (x.id∈(reg1 l slots).map Rv.id)) (l.filter qW); omega
 have hrg:(reg1 l slots).length≤(slots - 1).toNat:=by unfold reg1; rw [List.length_take]; omega
 have hrm:((reg1 l slots).map Rv.id).length=(reg1 l slots).length:=List.length_map _
 refine enter 111 Tryz.func58 rfl rfl rfl ?_
 refine g_wk [(0,_),(1,_),(2,_),(3,_),(4,_)] ?_
 refine w_s ?_
 refine w_a ?_
 refine w_es ?_
 refine w_r2 ?_
 refine l_of (s_cl (inter_r l p n c (by omega) _ (H0.exReads (k:=0) rfl hr (fun _ _ _ h=>h))) ?_)
 rintro _ wq1 ⟨pi,ci,rfl,H2⟩
 replace H2:S _ [_,_]:=H0.ab (new:=[_]) H2 rfl
 refine b_ret rfl rfl ?_
 refine w_a ?_
 refine w_es ?_
 refine w_a ?_
 refine w_e ?_
 refine g_seq ?_
 refine w_s ?_
 refine w_m ?_
 refine w_b ?_
 refine w_e ?_
 refine g_ct rfl ?_
 refine w_s ?_
 refine w_r2 ?_
 refine l_of (s_cl (regular_r slots hsl l p n c hn2 hval _ (H2.exReads (k:=1) rfl hr (fun _ _ _ h=>h))) ?_)
 rintro _ wq3 ⟨pr,cr,rfl,H4⟩
 replace H4:S _ [_,_,_]:=H2.ab (new:=[_]) H4 rfl
 refine b_ret rfl rfl ?_
 refine w_a ?_
 refine w_es ?_
 refine w_a ?_
 refine w_e ?_
 refine g_seq ?_
 refine w_s ?_
 refine w_m ?_
 refine w_v (v:=.int .i64 (((l.filter qW).length:Int))) x_q ?_
 refine w_m ?_
 refine w_e ?_
 refine g_block ?_
 refine g_loop (ι:=Nat × Option Addr × Nat × List Rv) (fun (i,pa,ca,A)=>[(1,.int .i64 round),(2,.int .i64 slots),(3,.string seed),(12,.slice pr (((reg1 l slots).map Rv.id).length) cr),(13,.slice pa A.length ca),(26,.slice pi ((l.filter qW).length) ci),(27,.int .i64 (((l.filter qW).length:Int))),(28,.int .i64 ((i:Int)))]) (fun (i,pa,ca,A) wx=>(i≤(l.filter qW).length)∧(A=((l.filter qW).take i).filter (fun x:Rv=>!decide (x.id∈(reg1 l slots).map Rv.id)))∧(A.length≤i)∧S wx [Rw 111 10 pa A.length ca (fl rvL A),Rw 111 10 pi ((l.filter qW).length) ci (fl rvL (l.filter qW)),Rw 3 1 pr (((reg1 l slots).map Rv.id).length) cr (fl intL ((reg1 l slots).map Rv.id)),Old w no]) (fun (i,pa,ca,A)=>((l.filter qW).length) - i) (0,none,0,[]) ⟨rfl,rfl,rfl,rfl,rfl,rfl,rfl,rfl,trivial⟩ ⟨Nat.zero_le _,(by rw [List.take_zero]; rfl),(Nat.le_refl 0),((H4.tk [1,0,2]).nilFl 111 10 rvL)⟩ ?_
 rintro ⟨i,pa,ca,A⟩ wq5 ⟨hi,hA,hAl,H6⟩
 refine g_wk [(1,_),(2,_),(3,_),(12,_),(13,_),(26,_),(27,_),(28,_)] ?_
 refine w_s ?_
 refine w_b ?_
 refine w_e ?_
 refine g_seq ?_
 by_cases hb7:((i:Int):Int)<((l.filter qW).length:Int)
 ·
  refine g_ct hb7 ?_
  refine w_ht ?_
  refine g_seq ?_
  refine w_bs ?_
  refine w_v (v:=.pointer ((pi).map fun q=>q.add (i * 10))) (x_i i (H6.rr 1)) ?_
  obtain ⟨x8,hx8⟩:=(H6.rr 1).exL rvE i
  refine w_v (v:=.agg #[.int .i64 (x8.id),.bool x8.intr,.bool x8.chk,.int .i64 (x8.frm),.int .i64 (x8.to),.int .i64 (x8.lt),.int .i64 (x8.since),.bool x8.snb,.bool x8.now,.bool x8.seed]) (x_loadRA (vs:=rvL x8) i (H6.rr 1) (by omega) rfl rfl Tryz.underlying111 rfl sz111 (by rfl) (rvE.flAt hx8)) ?_
  refine l_of (s_alloc H6 (wt0 rfl) rfl rfl rfl ze111 ?_)
  intro g9 wq10 H11
  refine l_of (w_st #[.int .i64 (x8.id),.bool x8.intr,.bool x8.chk,.int .i64 (x8.frm),.int .i64 (x8.to),.int .i64 (x8.lt),.int .i64 (x8.since),.bool x8.snb,.bool x8.now,.bool x8.seed] H11 0 ?_)
  intro wq12 H13
  refine w_es ?_
  refine w_r2 ?_
  refine w_1 H13 0 ?_
  refine l_of (s_call0 H13 (wt0 rfl) (x_call' rfl rfl cl64) (in_r ((reg1 l slots).map Rv.id) pr (((reg1 l slots).map Rv.id).length) cr x8.id (by omega) _ (H13.rr 3)) rfl rfl ?_)
  intro wq14 H15
  refine w_v (v:=.bool (!((decide (x8.id∈((reg1 l slots).map Rv.id)))))) (x_not (b:=(decide (x8.id∈((reg1 l slots).map Rv.id)))) rfl rfl) ?_
  refine w_e ?_
  rcases Bool.eq_false_or_eq_true ((decide (x8.id∈((reg1 l slots).map Rv.id)))) with hb16 | hb16
  ·
   refine g_cond_f rfl (neg_of hb16) ?_
   refine g_skip ?_
   refine g_in ?_
   refine g_then ?_
   refine g_region ?_
   refine w_b (v:=.int .i64 (((i+1:Nat):Int))) (hb:=(b_add (by rw [w64 (by omega)]; omega))) ?_
   refine w_m ?_
   refine w_e ?_
   refine g_rd (i:=(i,pa,ca,A)) ((i+1),pa,ca,A) ⟨by omega,(by rw [take_snocL hx8,List.filter_append,← hA,List.filter_cons,hb16]; simp),(by first | omega | (simp only [List.length_append,List.length_cons,List.length_nil]; omega)),(H15.tk [1,2,3,4])⟩
  ·
   refine g_cond_t rfl (neg_of hb16) ?_
   refine g_region ?_
   refine w_m ?_
   refine w_v (v:=.agg #[.int .i64 (x8.id),.bool x8.intr,.bool x8.chk,.int .i64 (x8.frm),.int .i64 (x8.to),.int .i64 (x8.lt),.int .i64 (x8.since),.bool x8.snb,.bool x8.now,.bool x8.seed]) (x_loadA H15 0 rfl rfl Tryz.underlying111 rfl sz111 rfl rfl rfl) ?_
   refine l_of (s_buildSlice H15 (wt0 rfl) rfl rfl rfl (vs:=[.agg #[.int .i64 (x8.id),.bool x8.intr,.bool x8.chk,.int .i64 (x8.frm),.int .i64 (x8.to),.int .i64 (x8.lt),.int .i64 (x8.since),.bool x8.snb,.bool x8.now,.bool x8.seed]]) rfl Tryz.underlying109 sz111 ze111 rfl rfl (cells:=#[.int .i64 (x8.id),.bool x8.intr,.bool x8.chk,.int .i64 (x8.frm),.int .i64 (x8.to),.int .i64 (x8.lt),.int .i64 (x8.since),.bool x8.snb,.bool x8.now,.bool x8.seed]) (by kernel_rfl) ?_)
   intro g17 wq18 H19
   have hln24a:=(H19.rr 2).lenL rvE
   have hln24:(A++[x8]).length=A.length+1:=by simp only [List.length_append,List.length_cons,List.length_nil] <;> omega
   refine l_of (s_appBn (m:=1) (l:=A) (l2:=[x8]) rvE H19 2 (j0:=0) rfl rfl ⟨rfl,Nat.le_refl _⟩ (wt0 rfl) rfl rfl rfl rfl rfl rfl Tryz.underlying109 inf111 rfl (by decide) (by omega) ?_)
   intro p20 c21 wq22 H23
   refine w_a ?_
   refine g_nil ?_
   refine g_in ?_
   refine g_then ?_
   refine g_region ?_
   refine w_b (v:=.int .i64 (((i+1:Nat):Int))) (hb:=(b_add (by rw [w64 (by omega)]; omega))) ?_
   refine w_m ?_
   refine w_e ?_
   refine g_rd (i:=(i,pa,ca,A)) ((i+1),p20,c21,(A++[x8])) ⟨by omega,(by rw [take_snocL hx8,List.filter_append,← hA,List.filter_cons,hb16]; simp),(by first | omega | (simp only [List.length_append,List.length_cons,List.length_nil]; omega)),(H23.tk [2,3,4,5])⟩
 ·
  refine g_cf hb7 ?_
  refine g_exit ?_
  iterate 2 refine g_then_exit ?_
  refine g_in_hit ?_
  refine g_then ?_
  refine g_seq ?_
  refine g_block ?_
  refine g_loop (ι:=Option Addr × Nat × List Rv × Option Addr × Nat × List Int × List Rv) (fun (pb,cb,B9,po,co,O,o9)=>[(1,.int .i64 round),(2,.int .i64 slots),(3,.string seed),(12,.slice po O.length co),(13,.slice pb B9.length cb)]) (fun (pb,cb,B9,po,co,O,o9) wx=>(Picks (cO round seed) (rest1 l slots) o9 B9)∧(O=(reg1 l slots++o9).map Rv.id)∧(o9.length≤slots.toNat - (reg1 l slots).length)∧S wx [Rw 111 10 pb B9.length cb (fl rvL B9),Rw 3 1 po O.length co (fl intL O),Old w no]) (fun (pb,cb,B9,po,co,O,o9)=>B9.length) (pa,ca,A,pr,cr,((reg1 l slots).map Rv.id),[]) ⟨rfl,rfl,rfl,rfl,rfl,trivial⟩ ⟨(by rw [hA,List.take_of_length_le (by omega)]; exact Picks.nil),(by rw [List.append_nil]),(Nat.zero_le _),(H6.tk [0,2,3])⟩ ?_
  rintro ⟨pb,cb,B9,po,co,O,o9⟩ wq25 ⟨hP,hO,hOs,H26⟩
  refine g_wk [(1,_),(2,_),(3,_),(12,_),(13,_)] ?_
  refine g_seq ?_
  refine w_s ?_
  refine w_m ?_
  refine w_v (v:=.int .i64 ((O.length:Int))) x_q ?_
  refine w_m ?_
  refine w_b ?_
  refine w_m ?_
  by_cases hb27:((O.length:Int):Int)<slots
  ·
   refine w_g (decide_eq_true hb27) xm ?_
   refine w_g (v:=.int .i64 ((B9.length:Int))) (decide_eq_true hb27) x_q ?_
   refine w_g (decide_eq_true hb27) (x_bin rfl rfl rfl b_gtr) ?_
   refine w_v (v:=.bool (decide ((0:Int)<(B9.length:Int)))) (x_pick_t rfl rfl (decide_eq_true hb27) rfl) ?_
   refine w_e ?_
   by_cases hb28:(0:Int)<(B9.length:Int)
   ·
    refine g_ct hb28 ?_
    refine w_ht ?_
    refine w_bs ?_
    refine w_r3 ?_
    have hBl:B9.length≤19:=Nat.le_trans hP.sub.length_le hrl
    have hop:=hP.len
    have hOl:O.length=(reg1 l slots).length+o9.length:=by rw [hO,List.length_map,List.length_append]
    have hDB:∀ x∈B9,DV x:=fun x hx=>validR_D (hval x (List.mem_filter.1 (List.mem_filter.1 (hP.sub.subset hx)).1).1)
    refine l_of (s_cl (lucky_r round seed hsd2 hrd2 B9 pb B9.length cb (by omega) (by omega) hDB _ (H26.rr 0) (H26.tab (k:=2) rfl ht)) ?_)
    rintro _ wq29 ⟨j9,x9,rfl,hB9,H30⟩
    replace H30:=H26.ab0 H30
    have hjl9:=hB9.1
    refine b_ret rfl rfl ?_
    refine w_a ?_
    refine w_es ?_
    refine w_r3 ?_
    refine w_v (v:=.pointer ((pb).map fun q=>q.add (j9 * 10))) (x_i j9 (H30.rr 0)) ?_
    refine w_v (v:=.pointer ((pb).map fun q=>q.add (j9 * 10+0))) (ex_cast (x_fieldAddrG (m:=j9 * 10) ((H30.rr 0).some (by omega)) rfl rfl fo111_0) rfl) ?_
    refine w_v (v:=.int .i64 (x9.id)) (x_loadF1 (i:=0) (j:=j9) rvE (H30.rr 0) hB9.2.1 rfl rfl Tryz.underlying3 rfl rfl) ?_
    refine l_of (s_buildSlice H30 (wt0 rfl) rfl rfl rfl (vs:=[.int .i64 (x9.id)]) rfl Tryz.underlying43 sz3 ze3 rfl rfl (cells:=#[.int .i64 (x9.id)]) (by kernel_rfl) ?_)
    intro g31 wq32 H33
    have hln38a:=(H33.rr 2).lenL intE
    have hln38:(O++[x9.id]).length=O.length+1:=by simp only [List.length_append,List.length_cons,List.length_nil] <;> omega
    refine l_of (s_appBn (m:=1) (l:=O) (l2:=[x9.id]) intE H33 2 (j0:=0) rfl rfl ⟨rfl,Nat.le_refl _⟩ (wt0 rfl) rfl rfl rfl rfl rfl rfl Tryz.underlying43 inf3 rfl (by decide) (by omega) ?_)
    intro p34 c35 wq36 H37
    refine w_a ?_
    refine w_er ?_
    refine w_r2 ?_
    refine l_of (s_cl (without_r B9 pb B9.length cb (by omega) j9 (by omega) _ (H37.rr 1)) ?_)
    rintro _ wq41 ⟨pw39,cw40,rfl,H42⟩
    replace H42:S _ [_,_,_,_,_]:=H37.ab (new:=[_]) H42 rfl
    refine b_ret rfl rfl ?_
    refine w_a ?_
    refine g_nil ?_
    refine g_in ?_
    refine g_then ?_
    refine g_round (i:=(pb,cb,B9,po,co,O,o9)) (pw39,cw40,(B9.eraseIdx j9),p34,c35,(O++[x9.id]),(o9++[x9])) ?_ ?_ ?_
    · exact ⟨rfl,rfl,rfl,rfl,rfl,trivial⟩
    · exact ⟨(Picks.step hP hB9),(by rw [hO,← List.append_assoc,List.map_append (l₂:=[x9])]; rfl),(by rw [List.length_append,List.length_singleton]; omega),(H42.tk [0,3,4])⟩
    · (try dsimp only); rw [List.length_eraseIdx_of_lt hB9.1]; have:=hB9.1; omega
   ·
    refine g_cf hb28 ?_
    refine g_exit ?_
    iterate 2 refine g_then_exit ?_
    refine g_in_hit ?_
    refine g_then ?_
    refine w_s ?_
    refine w_m ?_
    have hop:=hP.len
    have hOl:O.length=(reg1 l slots).length+o9.length:=by rw [hO,List.length_map,List.length_append]
    refine l_of (s_cl (asc_r O po O.length co (by omega) _ (H26.tk [1])) ?_)
    rintro _ wq43 ⟨rfl,H44⟩
    replace H44:S _ [_,_,_]:=H26.abI (new:=[_]) [1] H44 rfl
    refine b_ret rfl rfl ?_
    refine w_a ?_
    refine w_e ?_
    refine g_ret ?_
    refine g_then_ret ?_
    refine fin_r [.tmp 10] [.slice po O.length co] ?_
    have hsr:=(hP.srt (d:=Rv.zero) (cO_wk round seed) (by omega)).2
    have hlt:let1 round slots seed l=reg1 l slots++o9:=by unfold let1; rw [take_is hsr hOs (end_nil (by omega))]
    have he:sortI O=(sortI ((let1 round slots seed l).map Rv.id)):=by rw [hlt,hO]
    have hel:(sortI ((let1 round slots seed l).map Rv.id)).length=O.length:=by rw [← he,sortI_len]
    rw [hel,← he]
    exact ⟨_,_,rfl,H44.tk [0,2]⟩
  ·
   iterate 3 refine w_n (decide_eq_false hb27) ?_
   refine w_v (v:=.bool false) (x_pick_f rfl rfl (decide_eq_false hb27) rfl) ?_
   refine w_e ?_
   refine g_cond_f rfl rfl ?_
   refine g_exit ?_
   iterate 2 refine g_then_exit ?_
   refine g_in_hit ?_
   refine g_then ?_
   refine w_s ?_
   refine w_m ?_
   have hop:=hP.len
   have hOl:O.length=(reg1 l slots).length+o9.length:=by rw [hO,List.length_map,List.length_append]
   refine l_of (s_cl (asc_r O po O.length co (by omega) _ (H26.tk [1])) ?_)
   rintro _ wq45 ⟨rfl,H46⟩
   replace H46:S _ [_,_,_]:=H26.abI (new:=[_]) [1] H46 rfl
   refine b_ret rfl rfl ?_
   refine w_a ?_
   refine w_e ?_
   refine g_ret ?_
   refine g_then_ret ?_
   refine fin_r [.tmp 10] [.slice po O.length co] ?_
   have hsr:=(hP.srt (d:=Rv.zero) (cO_wk round seed) (by omega)).2
   have hlt:let1 round slots seed l=reg1 l slots++o9:=by unfold let1; rw [take_is hsr hOs (end_nil (by omega))]
   have he:sortI O=(sortI ((let1 round slots seed l).map Rv.id)):=by rw [hlt,hO]
   have hel:(sortI ((let1 round slots seed l).map Rv.id)).length=O.length:=by rw [← he,sortI_len]
   rw [hel,← he]
   exact ⟨_,_,rfl,H46.tk [0,2]⟩
theorem fill_eq {slots:Int}:∀ {opt lt:List Rv},(opt.map Rv.id).Nodup→fillL slots lt opt=lt++(opt.filter fun x=>!decide (x.id∈lt.map Rv.id)).take (slots.toNat - lt.length)
 | [],lt,_=>by simp [fillL]
 | x :: opt,lt,hn=>by
   rw [List.map_cons,List.nodup_cons] at hn
   have e:fillL slots lt (x :: opt)=fillL slots (fillT slots lt x) opt:=rfl
   rw [e,fill_eq hn.2]
   unfold fillT
   by_cases h1:(lt.length:Int)<slots
   · by_cases h2:x.id∈lt.map Rv.id
     · rw [if_neg (fun h=>h.2 h2),List.filter_cons,if_neg (by rw [decide_eq_true h2]; decide)]
     · rw [if_pos ⟨h1,h2⟩,List.filter_cons,if_pos (by rw [decide_eq_false h2]; rfl)]
       have hf:(opt.filter fun y=>!decide (y.id∈(lt++[x]).map Rv.id))=opt.filter fun y=>!decide (y.id∈lt.map Rv.id):=by
         refine List.filter_congr fun y hy=>?_
         have hne:y.id ≠ x.id:=fun he=>hn.1 (by rw [← he]; exact List.mem_map.2 ⟨y,hy,rfl⟩)
         congr 1
         rw [decide_eq_decide,List.map_append,List.mem_append]
         simp [hne]
       rw [hf]
       have hk:slots.toNat - lt.length=(slots.toNat - (lt++[x]).length)+1:=by rw [List.length_append,List.length_singleton]; omega
       rw [hk,List.take_succ_cons,List.append_assoc]; rfl
   · rw [if_neg (fun h=>h1 h.1)]
     have hk:slots.toNat - lt.length=0:=by omega
     rw [hk,List.take_zero,List.take_zero]
theorem optL_nodup {l:List Rv} (hn:(l.map Rv.id).Nodup) (round:Int) (seed:ByteArray):((optL round seed l).map Rv.id).Nodup:=by
 unfold optL
 refine ((srt_perm Rv.zero (cO round seed) _).map Rv.id).nodup_iff.2 ?_
 exact hn.sublist (List.filter_sublist.map Rv.id)
theorem way1_eq {l:List Rv} (hl:l.length≤19) (hn:(l.map Rv.id).Nodup) (round slots:Int) (seed:ByteArray):way1 round slots seed l=let1 round slots seed l:=by
 unfold way1 let1 rest1
 rw [fill_eq (optL_nodup hn round seed)]
 unfold optL
 rw [srt_filter (d:=Rv.zero) (l:=l.filter qW) (cO_wk round seed) (by have:=List.length_filter_le qW l; omega)]
end Go.Proofs.YtpbjekdjebjbkaaGreatDoor
