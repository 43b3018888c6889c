import Derived.Test.YthmmfhdpkddniaaGreatDoorFm
import Derived.Test.YthmmfhdpkddniaaGreatDoorXy
import Derived.Test.YthmmfhdpkddniaaGreatDoorXl
set_option linter.unusedSimpArgs false
set_option linter.unusedVariables false
namespace Go.Proofs.YthmmfhdpkddniaaGreatDoor
open Go.RowKit
theorem insK_perm (k:Int) (l:List Int):(insK k l).Perm (l++[k]):=by
 unfold insK
 refine List.perm_middle.trans (List.Perm.trans (List.Perm.cons _ ?_) (List.perm_append_comm (l₁:=[k]) (l₂:=l)))
 have e:(l.filter fun x=>decide (k≤x))=l.filter fun x=>!decide (x<k):=List.filter_congr fun x _=>by
   by_cases h:x<k
   · rw [decide_eq_true h,decide_eq_false (by omega)]; rfl
   · rw [decide_eq_false h,decide_eq_true (by omega)]; rfl
 rw [e]
 exact List.filter_append_perm _ _
theorem sortI_ins {l:List Int} {k:Int} (hs:l.Pairwise (·<·)) (hk:k ∉ l):sortI (l++[k])=insK k l:=by
 have h1:(sortI (l++[k])).Pairwise fun x y=>x≤y:=by
   have h9:=List.pairwise_mergeSort (le:=fun x y:Int=>decide (x≤y)) (fun a b c h1 h2=>decide_eq_true (Int.le_trans (of_decide_eq_true h1) (of_decide_eq_true h2))) (fun a b=>by
     rcases Int.le_total a b with h | h
     · rw [decide_eq_true h]; rfl
     · rw [decide_eq_true h,Bool.or_true]) (l++[k])
   exact h9.imp fun h=>of_decide_eq_true h
 have h2:(insK k l).Pairwise fun x y=>x≤y:=(insK_sorted hs hk).imp fun h=>Int.le_of_lt h
 exact List.Perm.eq_of_pairwise (fun a b _ _ h1 h2=>Int.le_antisymm h1 h2) h1 h2 ((sortI_perm _).trans (insK_perm k l).symm)
theorem sortK (l:List Int) (k:Int) (hs:l.Pairwise (·<·)) (hk:k ∉ l) (hl:l.length≤1000) (p:Option Addr) (c:Nat) (w:World) (HS:S w [Rw 3 1 p (l++[k]).length c (fl intL (l++[k]))]) :
   Calls Tryz.prog 48 #[.slice p (l++[k]).length c] w fun e w'=>e=.returned (.tuple #[])∧S w' ([Rw 3 1 p (l++[k]).length c (fl intL (insK k l))]++[Old w (fps [Rw 3 1 p (l++[k]).length c (fl intL (l++[k]))])]):=by
 have h:=sortInts_s (l++[k]) p (l++[k]).length c rfl (by rw [List.length_append]; simp only [List.length_cons,List.length_nil]; omega) w (by rw [zV_fl]; exact HS)
 rw [zV_fl,zV_fl,sortI_ins hs hk] at h
 exact h
section
variable {A:PK} {bs:List Bk} {i:Nat} {r:Bk} {c:Cho} {k:Int}
theorem ask1_oth {p:Int × Int} (hp:p ≠ c.at):({ A with asked:=A.asked++[(k,c)] }:PK).ent p=A.ent p:=
 ent_oth (A:=A) (A':={ A with asked:=A.asked++[(k,c)] }) rfl rfl rfl (fun d hd=>⟨Iff.rfl,by
   show ofL (A.asked++[(k,c)]) d=_
   rw [ofL_snoc,if_neg (Ne.symm hd)]⟩) hp
theorem ask1_ent (hc:A.isB c):({ A with asked:=A.asked++[(k,c)] }:PK).ent c.at=some (decide (c∈A.here),insK k (ofL A.asked c)):=by
 have e:ofL (A.asked++[(k,c)]) c=insK k (ofL A.asked c):=by rw [ofL_snoc,if_pos rfl]
 rw [ent_blk (A:={ A with asked:=A.asked++[(k,c)] }) hc,if_neg]
 · show some (decide (c∈A.here),ofL (A.asked++[(k,c)]) c)=_
   rw [e]
 · intro hf
   have h2:ofL (A.asked++[(k,c)]) c=[]:=(freeC_iff.1 hf).2
   rw [e] at h2
   have:=congrArg List.length h2
   rw [insK_len] at this
   cases this
theorem next_there (h:BOK A bs) (hc:A.isB c) (hx:bs[i]?=some r) (hp:r.pl=c.at) (ap:Option Addr) (ac:Nat):BOK { A with asked:=A.asked++[(k,c)] } (bs.set i { r with ap:=ap,ac:=ac,asked:=insK k r.asked }):=by
 obtain ⟨e1,e2⟩:=h.ent hc hx hp
 refine h.set1 hx hp rfl (fun p hp=>ask1_oth hp) ?_
 rw [ask1_ent hc]
 show some (decide (c∈A.here),insK k (ofL A.asked c))=some (r.here,insK k r.asked)
 rw [e1,e2]
theorem next_fresh (h:BOK A bs) (hc:A.isB c) (hf:A.freeC c=true) (b:Nat) (ap:Option Addr) (ac:Nat):BOK { A with asked:=A.asked++[(k,c)] } (bs++[⟨c.at,b,false,ap,ac,insK k []⟩]):=by
 obtain ⟨h1,h2⟩:=freeC_iff.1 hf
 refine h.snoc1 (c:=c) ?_ rfl (fun p hp=>ask1_oth hp) ?_
 · have h3:=h.bf c.at
   rw [ent_blk hc,if_pos hf] at h3
   cases hq:kfd Bk.pl bs c.at with
   | none=>rfl
   | some r=>rw [hq] at h3; cases h3
 · rw [ask1_ent hc,h2,decide_eq_false h1]
   rfl
end
theorem XOK.nextM {X:XP} {A:PK} {j q:Nat} {m:Mt} {k:Int} {c:Cho} {bs:List Bk} (hX:XOK X A) (hI:PKI j A) (hm:X.ms[q]?=some m) (hk:m.k=k) (hb:BOK { A with asked:=A.asked++[(k,c)] } bs) (ap:Option Addr) (ac:Nat) :
   XOK { X with ms:=X.ms.set q { m with ap:=ap,ac:=ac,asked:=m.asked++[c] },bs:=bs } { A with asked:=A.asked++[(k,c)] }:=by
 refine ⟨?_,fun x hx=>?_,hb.bn,hb.bf⟩
 · show (X.ms.set q _).map Mt.pe=A.peers
   exact (map_setK (key:=Mt.pe) hm (show Mt.pe { m with ap:=ap,ac:=ac,asked:=m.asked++[c] }=Mt.pe m from rfl)).trans hX.ms
 · show x.asked=mine (A.asked++[(k,c)]) x.k
   obtain ⟨i,hi⟩:=List.getElem?_of_mem hx
   have hi:(X.ms.set q { m with ap:=ap,ac:=ac,asked:=m.asked++[c] })[i]?=some x:=hi
   rw [mine_snoc]
   by_cases e:i=q
   · subst e
     rw [List.getElem?_set_self (List.getElem?_eq_some_iff.1 hm).1] at hi
     cases hi
     show m.asked++[c]=if m.k=k then _ else _
     rw [if_pos hk,hX.ask m (List.mem_of_getElem? hm)]
   · rw [List.getElem?_set_ne (Ne.symm e)] at hi
     have hne:x.k ≠ k:=fun h=>e (key_at (hX.nd hI) hi hm (h.trans hk.symm))
     rw [if_neg hne,hX.ask x (List.mem_of_getElem? hi)]
theorem mt_some {X:XP} {A:PK} {k:Int} (hX:XOK X A) (h:∃ p∈A.peers,p.k=k):(mtM X.ms k).isSome=true:=by
 obtain ⟨p,hp,hk⟩:=h
 rw [hX.mtN]
 cases hf:fndP A.peers k with
 | none=>exact absurd hk (fndP_none hf p hp)
 | some q=>rfl
theorem next_pki {A:PK} {j:Nat} (hI:PKI j A) (k most:Int) (i:Nat):PKI (j+1) { A with asked:=A.asked++((A.lookV k most).take i).map fun c=>(k,c) }:=
 hI.nextL k ((lookV_nodup A k most).sublist (List.take_sublist ..)) (by have h:=lookV_len hI k most; rw [List.length_take]; omega) fun c hc=>by
   obtain ⟨h1,h2,h3,h4,h5,_,_⟩:=lookV_mem (List.mem_of_mem_take hc)
   exact ⟨h1,h2,h3,h4,h5⟩
theorem take_ofL {A:PK} {j:Nat} (hI:PKI j A) {k most:Int} {i:Nat} {x:Cho} (hx:(A.lookV k most)[i]?=some x) {al:AL} (hal:al=A.asked++((A.lookV k most).take i).map fun c=>(k,c)):k ∉ ofL al x∧(ofL al x).length≤2∧(ofL al x).Pairwise (·<·):=by
 obtain ⟨_,_,_,_,h5,h6,_⟩:=lookV_mem (List.mem_of_getElem? hx)
 have e:ofL al x=ofL A.asked x:=by rw [hal,ofL_asks ((lookV_nodup A k most).sublist (List.take_sublist ..)),if_neg (notin_take (lookV_nodup A k most) hx)]
 rw [e]
 exact ⟨h5,h6,ofL_sorted hI.an x⟩
set_option maxRecDepth 20000 in
set_option maxHeartbeats 4000000 in
theorem next_x (X:XP) (A:PK) (j:Nat) (hX:XOK X A) (hI:PKI j A) (k most:Int) (hmo:okI most) (hj:j≤100000)  (w:World) (HS:S w [(XI X A)]):Calls Tryz.prog 17 #[.pointer (some ⟨X.g,0,none⟩),.int .i64 k,.int .i64 most] w fun e w'=>∃ (Y:XP),Y.g=X.g∧XOK Y (A.nextA k most)∧∃ p' c',e=.returned (.tuple #[.slice p' (A.lookV k most).length c',.int .i64 (A.lookE k most)])∧S w' ([Rw 44 3 p' (A.lookV k most).length c' (fl choL (A.lookV k most)),(XI Y (A.nextA k most))]++[Old w (fps [(XI X A)])]):=by
 have H0:=HS.beginI
 have hn24:=hI.n24
 have hn1:=hI.n1
 have hpz1:=hI.pz1
 have hpz2:=hI.pz2
 have hla1:=hI.la1
 have hla2:=hI.la2
 have hadl:=hI.hadl
 have hwl:=hI.wishl
 replace H0:S w [Ob X.g (.cells #[.map (some X.mg),.int .i64 ((A.n:Int)),.int .i64 ((A.pz:Int)),.int .i64 ((A.la:Int)),.string (A.seed),.bool A.ino,.slice X.hp A.had.length X.hc,.slice X.wp A.wish.length X.wc,.map (some X.bg)] 85 (0,0)),Rw 4 1 X.hp A.had.length X.hc (fl boolL A.had),Rw 40 2 X.wp A.wish.length X.wc (fl wisL A.wish),Mp (Value.int .i64) ptV okI X.mg (mtM X.ms),(Lst MtI X.ms),Mp plK ptV okP X.bg (bkM X.bs),(Lst BkI X.bs),Old w (fps [(XI X A)])]:=S.unbig (L:=[_,_,_,_,_,_,_]) H0
 refine enter 84 Tryz.func17 rfl rfl rfl ?_
 refine g_wk [(0,_),(1,_),(2,_)] ?_
 refine w_s ?_
 refine w_r2 ?_
 refine w_es ?_
 refine w_r3 ?_
 have H3:S w [(XI X A),Old w (fps [(XI X A)])]:=S.big (L:=[_,_,_,_,_,_,_]) (H0.tk [0,1,2,3,4,5,6,7])
 refine l_of (s_cl (look_x X A j hX hI k most hmo hj _ (H3.tk [0])) ?_)
 rintro _ wq4 ⟨pn1,cn2,rfl,H5⟩
 replace H5:S _ [_,_,_]:=H3.abI (new:=[_,_]) [0] H5 rfl
 have hll9:=lookV_len hI k most
 have H6:S wq4 [Ob X.g (.cells #[.map (some X.mg),.int .i64 ((A.n:Int)),.int .i64 ((A.pz:Int)),.int .i64 ((A.la:Int)),.string (A.seed),.bool A.ino,.slice X.hp A.had.length X.hc,.slice X.wp A.wish.length X.wc,.map (some X.bg)] 85 (0,0)),Rw 4 1 X.hp A.had.length X.hc (fl boolL A.had),Rw 40 2 X.wp A.wish.length X.wc (fl wisL A.wish),Mp (Value.int .i64) ptV okI X.mg (mtM X.ms),(Lst MtI X.ms),Mp plK ptV okP X.bg (bkM X.bs),(Lst BkI X.bs),Rw 44 3 pn1 ((A.lookV k most).length) cn2 (fl choL (A.lookV k most)),Old w (fps [(XI X A)])]:=S.unbig (L:=[_,_,_,_,_,_,_]) (H5.tk [1,0,2])
 refine b_ret rfl rfl ?_
 refine w_r5 ?_
 refine w_e ?_
 refine g_seq ?_
 refine w_s ?_
 refine w_m ?_
 refine w_v (v:=.int .i64 (((A.lookV k most).length:Int))) x_q ?_
 refine w_m ?_
 refine w_e ?_
 refine g_block ?_
 refine g_loop (ι:=Nat × List Mt × List Bk × AL) (fun (ii,ms,bs,al)=>[(0,.pointer (some ⟨X.g,0,none⟩)),(1,.int .i64 k),(8,.slice pn1 ((A.lookV k most).length) cn2),(9,.int .i64 ((A.lookE k most))),(20,.slice pn1 ((A.lookV k most).length) cn2),(21,.int .i64 (((A.lookV k most).length:Int))),(22,.int .i64 ((ii:Int)))]) (fun (ii,ms,bs,al) wx=>(ii≤(A.lookV k most).length)∧(XOK ({ X with ms:=ms,bs:=bs }:XP) ({ A with asked:=al }:PK))∧(al=A.asked++((A.lookV k most).take ii).map fun c=>(k,c))∧S wx [Rw 44 3 pn1 ((A.lookV k most).length) cn2 (fl choL (A.lookV k most)),Ob X.g (.cells #[.map (some X.mg),.int .i64 ((A.n:Int)),.int .i64 ((A.pz:Int)),.int .i64 ((A.la:Int)),.string (A.seed),.bool A.ino,.slice X.hp A.had.length X.hc,.slice X.wp A.wish.length X.wc,.map (some X.bg)] 85 (0,0)),Rw 4 1 X.hp A.had.length X.hc (fl boolL A.had),Rw 40 2 X.wp A.wish.length X.wc (fl wisL A.wish),Mp (Value.int .i64) ptV okI X.mg (mtM ms),(Lst MtI ms),Mp plK ptV okP X.bg (bkM bs),(Lst BkI bs),Old w (fps [(XI X A)])]) (fun (ii,ms,bs,al)=>((A.lookV k most).length) - ii) (0,X.ms,X.bs,A.asked) ⟨rfl,rfl,rfl,rfl,rfl,rfl,rfl,trivial⟩ ⟨Nat.zero_le _,hX,(by rw [List.take_zero,List.map_nil,List.append_nil]),(H6.tk [7,0,1,2,3,4,5,6,8])⟩ ?_
 rintro ⟨ii,ms,bs,al⟩ wq7 ⟨hii,hXi,hal,H8⟩
 refine g_wk [(0,_),(1,_),(8,_),(9,_),(20,_),(21,_),(22,_)] ?_
 have hIi:PKI (j+1) ({ A with asked:=al }:PK):=by rw [hal]; exact next_pki hI k most ii
 refine w_s ?_
 refine w_b ?_
 refine w_e ?_
 refine g_seq ?_
 by_cases hb9:((ii:Int):Int)<((A.lookV k most).length:Int)
 ·
  refine g_ct hb9 ?_
  refine w_ht ?_
  refine g_seq ?_
  refine w_bs ?_
  refine w_v (v:=.pointer ((pn1).map fun q=>q.add (ii * 3))) (x_i ii (H8.rr 0)) ?_
  obtain ⟨x10,hx10⟩:=(H8.rr 0).exL choE ii
  obtain ⟨hxp,hxB,hxH,hxD,hxk,hxl,hxv⟩:=lookV_mem (List.mem_of_getElem? hx10)
  obtain ⟨hka9,hol9,hos9⟩:=take_ofL hI hx10 hal
  refine w_v (v:=.agg #[.int .i64 (x10.pc),.int .i64 (x10.bg),.int .i64 (x10.ln)]) (x_loadRA (vs:=choL x10) ii (H8.rr 0) (by omega) rfl rfl Tryz.underlying44 rfl sz44 (by rfl) (choE.flAt hx10)) ?_
  refine l_of (s_alloc H8 (wt0 rfl) rfl rfl rfl ze44 ?_)
  intro g11 wq12 H13
  refine l_of (w_st #[.int .i64 (x10.pc),.int .i64 (x10.bg),.int .i64 (x10.ln)] H13 0 ?_)
  intro wq14 H15
  refine w_e ?_
  refine g_seq ?_
  refine g_any [] (fun wx=>S wx [Ob g11 (.cells #[.int .i64 (x10.pc),.int .i64 (x10.bg),.int .i64 (x10.ln)] 44 (0,0)),Rw 44 3 pn1 ((A.lookV k most).length) cn2 (fl choL (A.lookV k most)),Ob X.g (.cells #[.map (some X.mg),.int .i64 ((A.n:Int)),.int .i64 ((A.pz:Int)),.int .i64 ((A.la:Int)),.string (A.seed),.bool A.ino,.slice X.hp A.had.length X.hc,.slice X.wp A.wish.length X.wc,.map (some X.bg)] 85 (0,0)),Rw 4 1 X.hp A.had.length X.hc (fl boolL A.had),Rw 40 2 X.wp A.wish.length X.wc (fl wisL A.wish),Mp (Value.int .i64) ptV okI X.mg (mtM ms),(Lst MtI ms),Mp plK ptV okP X.bg (bkM bs),(Lst BkI bs),Old w (fps [(XI X A)])]) [] (by kernel_rfl) H15 (fun wq16 H17=>?_)
  refine w_t 0 rfl H17 (fun _ _=>xm) ?_
  refine w_t 1 rfl H17 (fun _ _=>xn) ?_
  refine w_t 2 rfl H17 (fun _ _=>xf 8) ?_
  refine w_t 3 rfl H17 (fun _ H=>xl H 2) ?_
  refine w_t (v:=.agg #[.int .i64 (x10.pc),.int .i64 (x10.bg),.int .i64 (x10.ln)]) 4 rfl H17 (fun _ H=>x_loadA H 0 rfl rfl Tryz.underlying44 rfl sz44 rfl rfl rfl) ?_
  refine a_one (i:=5) (by kernel_rfl) rfl ?_
  refine s_call0 H17 (wt0 rfl) (x_call' rfl rfl cl47) (at_x x10 _) rfl rfl ?_
  intro wq18 H19
  refine a_k H19 ?_
  refine w_t (v:=(optP ((bkM bs) x10.at))) 6 rfl H19 (fun _ H=>ex_cast (x_lookup1 (x:=x10.at) placeT H 7 rfl rfl rfl rfl ((okP_is hI hxB)) ze98) (rfl)) ?_
  refine a_one (i:=7) (by kernel_rfl) rfl ?_
  refine s_val (v:=(optP ((bkM bs) x10.at))) (wt0 rfl) rfl rfl (x_assign rfl rfl) ?_
  refine a_k H19 ?_
  refine a_done (by kernel_rfl) ?_
  refine g_then ?_
  refine g_seq ?_
  refine w_s ?_
  refine w_m ?_
  refine w_b (v:=.bool (!(((bkM bs) x10.at).isSome))) (hb:=(b_eqPO Tryz.underlying98)) ?_
  refine w_e ?_
  rcases Bool.eq_false_or_eq_true (((bkM bs) x10.at).isSome) with hb20 | hb20
  ·
   obtain ⟨ir,r,hrq,hrk,hrb,hrf⟩:=bkM_ex hb20
   rw [optP_s hrb]
   refine g_cond_f rfl (neg_of hb20) ?_
   refine w_ht ?_
   refine g_wk [(0,_),(1,_),(8,_),(9,_),(11,_),(12,_),(20,_),(21,_),(22,_)] ?_
   refine w_s ?_
   have H21:S wq18 [Ob r.b (.cells #[.bool r.here,.slice r.ap r.asked.length r.ac] 103 (0,0)),Rw 3 1 r.ap r.asked.length r.ac (fl intL r.asked),(Lst BkI (bs.eraseIdx ir)),Ob g11 (.cells #[.int .i64 (x10.pc),.int .i64 (x10.bg),.int .i64 (x10.ln)] 44 (0,0)),Rw 44 3 pn1 ((A.lookV k most).length) cn2 (fl choL (A.lookV k most)),Ob X.g (.cells #[.map (some X.mg),.int .i64 ((A.n:Int)),.int .i64 ((A.pz:Int)),.int .i64 ((A.la:Int)),.string (A.seed),.bool A.ino,.slice X.hp A.had.length X.hc,.slice X.wp A.wish.length X.wc,.map (some X.bg)] 85 (0,0)),Rw 4 1 X.hp A.had.length X.hc (fl boolL A.had),Rw 40 2 X.wp A.wish.length X.wc (fl wisL A.wish),Mp (Value.int .i64) ptV okI X.mg (mtM ms),(Lst MtI ms),Mp plK ptV okP X.bg (bkM bs),Old w (fps [(XI X A)])]:=S.unbig (L:=[_,_]) (S.lstOut (F:=BkI) (H19.tk [8,0,1,2,3,4,5,6,7,9]) hrq)
   have hro9:r.asked=ofL al x10:=(hXi.bok.ent (A:=({ A with asked:=al }:PK)) (c:=x10) hxB hrq hrk).2
   have hrl9:r.asked.length≤2:=by rw [hro9]; exact hol9
   have hrs9:r.asked.Pairwise (·<·):=by rw [hro9]; exact hos9
   have hrn9:k ∉ r.asked:=by rw [hro9]; exact hka9
   refine w_r4 ?_
   refine w_1 H21 0 ?_
   refine w_m ?_
   refine l_of (s_buildSlice H21 (wt0 rfl) rfl rfl rfl (vs:=[.int .i64 k]) rfl Tryz.underlying59 sz3 ze3 rfl rfl (cells:=#[.int .i64 k]) (by kernel_rfl) ?_)
   intro g22 wq23 H24
   have hln29a:=(H24.rr 2).lenL intE
   have hln29:(r.asked++[k]).length=r.asked.length+1:=by simp only [List.length_append,List.length_cons,List.length_nil] <;> omega
   refine l_of (s_appBn (m:=1) (l:=r.asked) (l2:=[k]) intE H24 2 (j0:=0) rfl rfl ⟨rfl,Nat.le_refl _⟩ (wt0 rfl) rfl rfl rfl rfl rfl rfl Tryz.underlying59 inf3 rfl (by decide) (by omega) ?_)
   intro p25 c26 wq27 H28
   refine w_r2 ?_
   refine l_of (w_st #[.bool r.here,.slice p25 ((r.asked++[k]).length) c26] H28 1 ?_)
   intro wq30 H31
   refine w_es ?_
   refine w_r3 ?_
   refine w_1 H31 1 ?_
   refine l_of (s_cl (sortK r.asked k hrs9 hrn9 (by omega) p25 c26 _ (H31.tk [2])) ?_)
   rintro _ wq32 ⟨rfl,H33⟩
   replace H33:S _ [_,_,_,_,_,_,_,_,_,_,_,_,_]:=H31.abI (new:=[_]) [2] H33 rfl
   have hnl9:(r.asked++[k]).length=(insK k r.asked).length:=by rw [insK_len,List.length_append]; rfl
   have H34:S wq32 [Ob r.b (.cells #[.bool r.here,.slice p25 ((insK k r.asked).length) c26] 103 (0,0)),Rw 3 1 p25 ((insK k r.asked).length) c26 (fl intL (insK k r.asked)),Ob g22 (.cells #[.int .i64 k] 3 (0,0)),(Lst BkI (bs.eraseIdx ir)),Ob g11 (.cells #[.int .i64 (x10.pc),.int .i64 (x10.bg),.int .i64 (x10.ln)] 44 (0,0)),Rw 44 3 pn1 ((A.lookV k most).length) cn2 (fl choL (A.lookV k most)),Ob X.g (.cells #[.map (some X.mg),.int .i64 ((A.n:Int)),.int .i64 ((A.pz:Int)),.int .i64 ((A.la:Int)),.string (A.seed),.bool A.ino,.slice X.hp A.had.length X.hc,.slice X.wp A.wish.length X.wc,.map (some X.bg)] 85 (0,0)),Rw 4 1 X.hp A.had.length X.hc (fl boolL A.had),Rw 40 2 X.wp A.wish.length X.wc (fl wisL A.wish),Mp (Value.int .i64) ptV okI X.mg (mtM ms),(Lst MtI ms),Mp plK ptV okP X.bg (bkM bs),Old w (fps [(XI X A)])]:=by rw [← hnl9]; exact H33.tk [2,0,1,3,4,5,6,7,8,9,10,11,12]
   have H35:=S.lstIn (F:=BkI) (x:=({ r with ap:=p25,ac:=c26,asked:=(insK k r.asked) }:Bk)) (S.big (L:=[_,_]) (H34.tk [0,1,3,2,4,5,6,7,8,9,10,11,12])) (List.getElem?_eq_some_iff.1 hrq).1
   have H36:S wq32 [(Lst BkI (bs.set ir ({ r with ap:=p25,ac:=c26,asked:=(insK k r.asked) }:Bk))),Ob g22 (.cells #[.int .i64 k] 3 (0,0)),Ob g11 (.cells #[.int .i64 (x10.pc),.int .i64 (x10.bg),.int .i64 (x10.ln)] 44 (0,0)),Rw 44 3 pn1 ((A.lookV k most).length) cn2 (fl choL (A.lookV k most)),Ob X.g (.cells #[.map (some X.mg),.int .i64 ((A.n:Int)),.int .i64 ((A.pz:Int)),.int .i64 ((A.la:Int)),.string (A.seed),.bool A.ino,.slice X.hp A.had.length X.hc,.slice X.wp A.wish.length X.wc,.map (some X.bg)] 85 (0,0)),Rw 4 1 X.hp A.had.length X.hc (fl boolL A.had),Rw 40 2 X.wp A.wish.length X.wc (fl wisL A.wish),Mp (Value.int .i64) ptV okI X.mg (mtM ms),(Lst MtI ms),Mp plK ptV okP X.bg (bkM (bs.set ir ({ r with ap:=p25,ac:=c26,asked:=(insK k r.asked) }:Bk))),Old w (fps [(XI X A)])]:=by rw [bkM_set (r':=({ r with ap:=p25,ac:=c26,asked:=(insK k r.asked) }:Bk)) hXi.bn hrq rfl rfl]; exact H35
   have hb9:BOK ({ A with asked:=al++[(k,x10)] }:PK) (bs.set ir ({ r with ap:=p25,ac:=c26,asked:=(insK k r.asked) }:Bk)):=next_there (A:=({ A with asked:=al }:PK)) hXi.bok hxB hrq hrk p25 c26
   refine b_ret rfl rfl ?_
   refine w_e ?_
   refine g_wk [(0,_),(1,_),(8,_),(9,_),(11,_),(20,_),(21,_),(22,_)] ?_
   obtain ⟨q,m,hmq,hmk,hmb,hmf⟩:=mtM_ex (mt_some (X:=({ X with ms:=ms,bs:=bs }:XP)) (A:=({ A with asked:=al }:PK)) hXi hxp)
   have H37:S wq32 [Ob m.b (.cells #[.string ((fieldS m.fld)),.map (some m.am),.map (some m.sm),.bool m.ch,.bool m.sn,.slice m.ap m.asked.length m.ac] 88 (0,0)),Mp (Value.int .i64) Value.bool okI m.am (bMap m.alw),Mp (Value.int .i64) Value.bool okI m.sm (bMap m.sug),Rw 44 3 m.ap m.asked.length m.ac (fl choL m.asked),(Lst MtI (ms.eraseIdx q)),(Lst BkI (bs.set ir ({ r with ap:=p25,ac:=c26,asked:=(insK k r.asked) }:Bk))),Ob g22 (.cells #[.int .i64 k] 3 (0,0)),Ob g11 (.cells #[.int .i64 (x10.pc),.int .i64 (x10.bg),.int .i64 (x10.ln)] 44 (0,0)),Rw 44 3 pn1 ((A.lookV k most).length) cn2 (fl choL (A.lookV k most)),Ob X.g (.cells #[.map (some X.mg),.int .i64 ((A.n:Int)),.int .i64 ((A.pz:Int)),.int .i64 ((A.la:Int)),.string (A.seed),.bool A.ino,.slice X.hp A.had.length X.hc,.slice X.wp A.wish.length X.wc,.map (some X.bg)] 85 (0,0)),Rw 4 1 X.hp A.had.length X.hc (fl boolL A.had),Rw 40 2 X.wp A.wish.length X.wc (fl wisL A.wish),Mp (Value.int .i64) ptV okI X.mg (mtM ms),Mp plK ptV okP X.bg (bkM (bs.set ir ({ r with ap:=p25,ac:=c26,asked:=(insK k r.asked) }:Bk))),Old w (fps [(XI X A)])]:=S.unbig (L:=[_,_,_,_]) (S.lstOut (F:=MtI) (H36.tk [8,0,1,2,3,4,5,6,7,9,10]) hmq)
   have hml9:m.asked.length≤al.length:=by have h9:=hXi.ask m (List.mem_of_getElem? hmq); rw [h9]; exact mine_len _ _
   have hall9:al.length≤400 * (j+1):=hIi.al
   refine g_anyY [] (fun wx=>S wx [Ob m.b (.cells #[.string ((fieldS m.fld)),.map (some m.am),.map (some m.sm),.bool m.ch,.bool m.sn,.slice m.ap m.asked.length m.ac] 88 (0,0)),Mp (Value.int .i64) Value.bool okI m.am (bMap m.alw),Mp (Value.int .i64) Value.bool okI m.sm (bMap m.sug),Rw 44 3 m.ap m.asked.length m.ac (fl choL m.asked),(Lst MtI (ms.eraseIdx q)),(Lst BkI (bs.set ir ({ r with ap:=p25,ac:=c26,asked:=(insK k r.asked) }:Bk))),Ob g22 (.cells #[.int .i64 k] 3 (0,0)),Ob g11 (.cells #[.int .i64 (x10.pc),.int .i64 (x10.bg),.int .i64 (x10.ln)] 44 (0,0)),Rw 44 3 pn1 ((A.lookV k most).length) cn2 (fl choL (A.lookV k most)),Ob X.g (.cells #[.map (some X.mg),.int .i64 ((A.n:Int)),.int .i64 ((A.pz:Int)),.int .i64 ((A.la:Int)),.string (A.seed),.bool A.ino,.slice X.hp A.had.length X.hc,.slice X.wp A.wish.length X.wc,.map (some X.bg)] 85 (0,0)),Rw 4 1 X.hp A.had.length X.hc (fl boolL A.had),Rw 40 2 X.wp A.wish.length X.wc (fl wisL A.wish),Mp (Value.int .i64) ptV okI X.mg (mtM ms),Mp plK ptV okP X.bg (bkM (bs.set ir ({ r with ap:=p25,ac:=c26,asked:=(insK k r.asked) }:Bk))),Old w (fps [(XI X A)])]) (fun wx=>S wx [Mp (Value.int .i64) Value.bool okI m.am (bMap m.alw),Mp (Value.int .i64) Value.bool okI m.sm (bMap m.sug),(Lst MtI (ms.eraseIdx q)),(Lst BkI (bs.set ir ({ r with ap:=p25,ac:=c26,asked:=(insK k r.asked) }:Bk))),Ob g22 (.cells #[.int .i64 k] 3 (0,0)),Ob g11 (.cells #[.int .i64 (x10.pc),.int .i64 (x10.bg),.int .i64 (x10.ln)] 44 (0,0)),Rw 44 3 pn1 ((A.lookV k most).length) cn2 (fl choL (A.lookV k most)),Ob X.g (.cells #[.map (some X.mg),.int .i64 ((A.n:Int)),.int .i64 ((A.pz:Int)),.int .i64 ((A.la:Int)),.string (A.seed),.bool A.ino,.slice X.hp A.had.length X.hc,.slice X.wp A.wish.length X.wc,.map (some X.bg)] 85 (0,0)),Rw 4 1 X.hp A.had.length X.hc (fl boolL A.had),Rw 40 2 X.wp A.wish.length X.wc (fl wisL A.wish),Mp (Value.int .i64) ptV okI X.mg (mtM ms),Mp plK ptV okP X.bg (bkM (bs.set ir ({ r with ap:=p25,ac:=c26,asked:=(insK k r.asked) }:Bk))),Old w (fps [(XI X A)])]) [19,22] (by kernel_rfl) H37 (fun wq38 H39=>?_)
   refine w_y 0 rfl (wt0 rfl) rfl rfl rfl (by kernel_rfl) (fun _=>x_move rfl rfl) ?_
   refine w_y 1 rfl (wt0 rfl) rfl rfl rfl (by kernel_rfl) (fun _=>x_nilCheck rfl rfl) ?_
   refine w_y 2 rfl (wt0 rfl) rfl rfl rfl (by kernel_rfl) (fun _=>x_fieldAddr (off':=0) rfl rfl fo85_0 rfl) ?_
   refine w_y 3 rfl (wt0 rfl) rfl rfl rfl (by kernel_rfl) (fun _=>x_fieldAddr (off':=0) rfl rfl fo82_0 rfl) ?_
   have cm1:=H39.mask [false,true,true,false,true,true,true,true,true,true,true,true,true,true,true]
   refine y_take0 (v:=.map (some X.mg)) 4 rfl (wt0 rfl) rfl rfl rfl (by kernel_rfl) (by kernel_rfl) (by kernel_rfl) (by kernel_rfl) cm1 (fun wx H=>x_load1 H 7 rfl rfl Tryz.underlying80 rfl rfl rfl) ?_
   refine w_y 5 rfl (wt0 rfl) rfl rfl rfl (by kernel_rfl) (fun _=>x_move rfl rfl) ?_
   refine y_take0 (v:=.pointer (some ⟨m.b,0,none⟩)) 6 rfl (wt0 rfl) rfl rfl rfl (by kernel_rfl) (by kernel_rfl) (by kernel_rfl) (by kernel_rfl) cm1 (fun wx H=>ex_cast (x_lookup1 (x:=k) (intTy Tryz.underlying80 Tryz.underlying3) H 10 rfl rfl rfl rfl ((by obtain ⟨p9,hp9,hk9⟩:=hxp; have h9:=hI.kr p9 hp9; exact ⟨by omega,by omega⟩)) ze79) (optP_s hmb)) ?_
   refine w_y 7 rfl (wt0 rfl) rfl rfl rfl (by kernel_rfl) (fun _=>x_move rfl rfl) ?_
   refine w_y 8 rfl (wt0 rfl) rfl rfl rfl (by kernel_rfl) (fun _=>x_nilCheck rfl rfl) ?_
   refine w_y 9 rfl (wt0 rfl) rfl rfl rfl (by kernel_rfl) (fun _=>x_fieldAddr (off':=0) rfl rfl fo85_0 rfl) ?_
   refine w_y 10 rfl (wt0 rfl) rfl rfl rfl (by kernel_rfl) (fun _=>x_fieldAddr (off':=0) rfl rfl fo82_0 rfl) ?_
   refine y_take (v:=.map (some X.mg)) 11 rfl (wt0 rfl) rfl rfl rfl (by kernel_rfl) (by kernel_rfl) (by kernel_rfl) (by kernel_rfl) (by kernel_rfl) H39 (fun wx H=>x_load1 H 9 rfl rfl Tryz.underlying80 rfl rfl rfl) ?_
   refine w_y 12 rfl (wt0 rfl) rfl rfl rfl (by kernel_rfl) (fun _=>x_move rfl rfl) ?_
   refine y_take (v:=.pointer (some ⟨m.b,0,none⟩)) 13 rfl (wt0 rfl) rfl rfl rfl (by kernel_rfl) (by kernel_rfl) (by kernel_rfl) (by kernel_rfl) (by kernel_rfl) H39 (fun wx H=>ex_cast (x_lookup1 (x:=k) (intTy Tryz.underlying80 Tryz.underlying3) H 12 rfl rfl rfl rfl ((by obtain ⟨p9,hp9,hk9⟩:=hxp; have h9:=hI.kr p9 hp9; exact ⟨by omega,by omega⟩)) ze79) (optP_s hmb)) ?_
   refine w_y 14 rfl (wt0 rfl) rfl rfl rfl (by kernel_rfl) (fun _=>x_nilCheck rfl rfl) ?_
   refine w_y 15 rfl (wt0 rfl) rfl rfl rfl (by kernel_rfl) (fun _=>x_fieldAddr (off':=5) rfl rfl fo88_5 rfl) ?_
   refine y_take (v:=.slice m.ap m.asked.length m.ac) 16 rfl (wt0 rfl) rfl rfl rfl (by kernel_rfl) (by kernel_rfl) (by kernel_rfl) (by kernel_rfl) (by kernel_rfl) H39 (fun wx H=>x_load1 H 0 rfl rfl Tryz.underlying35 rfl rfl rfl) ?_
   refine y_take (v:=.agg #[.int .i64 (x10.pc),.int .i64 (x10.bg),.int .i64 (x10.ln)]) 17 rfl (wt0 rfl) rfl rfl rfl (by kernel_rfl) (by kernel_rfl) (by kernel_rfl) (by kernel_rfl) (by kernel_rfl) H39 (fun wx H=>x_loadA H 7 rfl rfl Tryz.underlying44 rfl sz44 rfl rfl rfl) ?_
   refine y_one (i:=18) (by kernel_rfl) rfl ?_
   refine s_buildSlice H39 (wt0 rfl) rfl rfl rfl (vs:=[.agg #[.int .i64 (x10.pc),.int .i64 (x10.bg),.int .i64 (x10.ln)]]) rfl Tryz.underlying35 sz44 ze44 rfl rfl (cells:=#[.int .i64 (x10.pc),.int .i64 (x10.bg),.int .i64 (x10.ln)]) (by kernel_rfl) ?_
   intro g40 wq41 H42
   refine y_k (H42.mask [false,true,true,true,true,true,true,true,true,true,true,true,true,true,true,true]) (H42.mask [false,false,true,true,false,true,true,true,true,true,true,true,true,true,true,true]) ?_
   refine y_one (i:=19) (by kernel_rfl) rfl ?_
   have hln47a:=(H42.rr 4).lenL choE
   have hln47:(m.asked++[x10]).length=m.asked.length+1:=by simp only [List.length_append,List.length_cons,List.length_nil] <;> omega
   refine s_appBn (m:=1) (l:=m.asked) (l2:=[x10]) choE H42 4 (j0:=0) rfl rfl ⟨rfl,Nat.le_refl _⟩ (wt0 rfl) rfl rfl rfl rfl rfl rfl Tryz.underlying35 inf44 rfl (by decide) (by omega) ?_
   intro p43 c44 wq45 H46
   refine y_kt rfl (H46.mask [false,false,true,true,false,true,true,true,true,true,true,true,true,true,true,true]) ?_
   refine w_y 20 rfl (wt0 rfl) rfl rfl rfl (by kernel_rfl) (fun _=>x_nilCheck rfl rfl) ?_
   refine w_y 21 rfl (wt0 rfl) rfl rfl rfl (by kernel_rfl) (fun _=>x_fieldAddr (off':=5) rfl rfl fo88_5 rfl) ?_
   refine y_one (i:=22) (by kernel_rfl) rfl ?_
   refine w_st #[.string ((fieldS m.fld)),.map (some m.am),.map (some m.sm),.bool m.ch,.bool m.sn,.slice p43 ((m.asked++[x10]).length) c44] H46 1 ?_
   intro wq48 H49
   refine y_kt rfl (H49.mask [false,false,true,true,false,true,true,true,true,true,true,true,true,true,true,true]) ?_
   refine y_done (by kernel_rfl) ?_
   refine g_in ?_
   refine g_then ?_
   refine g_wk [(0,_),(1,_),(8,_),(9,_),(20,_),(21,_),(22,_)] ?_
   refine g_region ?_
   have H50:=S.lstIn (F:=MtI) (x:=({ m with ap:=p43,ac:=c44,asked:=m.asked++[x10] }:Mt)) (S.big (L:=[_,_,_,_]) (H49.tk [1,2,3,4,5,0,6,7,8,9,10,11,12,13,14,15])) (List.getElem?_eq_some_iff.1 hmq).1
   have H51:S wq48 [(Lst MtI (ms.set q ({ m with ap:=p43,ac:=c44,asked:=m.asked++[x10] }:Mt))),Ob g40 (.cells #[.int .i64 (x10.pc),.int .i64 (x10.bg),.int .i64 (x10.ln)] 44 (0,0)),(Lst BkI (bs.set ir ({ r with ap:=p25,ac:=c26,asked:=(insK k r.asked) }:Bk))),Ob g22 (.cells #[.int .i64 k] 3 (0,0)),Ob g11 (.cells #[.int .i64 (x10.pc),.int .i64 (x10.bg),.int .i64 (x10.ln)] 44 (0,0)),Rw 44 3 pn1 ((A.lookV k most).length) cn2 (fl choL (A.lookV k most)),Ob X.g (.cells #[.map (some X.mg),.int .i64 ((A.n:Int)),.int .i64 ((A.pz:Int)),.int .i64 ((A.la:Int)),.string (A.seed),.bool A.ino,.slice X.hp A.had.length X.hc,.slice X.wp A.wish.length X.wc,.map (some X.bg)] 85 (0,0)),Rw 4 1 X.hp A.had.length X.hc (fl boolL A.had),Rw 40 2 X.wp A.wish.length X.wc (fl wisL A.wish),Mp (Value.int .i64) ptV okI X.mg (mtM (ms.set q ({ m with ap:=p43,ac:=c44,asked:=m.asked++[x10] }:Mt))),Mp plK ptV okP X.bg (bkM (bs.set ir ({ r with ap:=p25,ac:=c26,asked:=(insK k r.asked) }:Bk))),Old w (fps [(XI X A)])]:=by rw [mtM_set (m':=({ m with ap:=p43,ac:=c44,asked:=m.asked++[x10] }:Mt)) (XOK.nd (X:=({ X with ms:=ms,bs:=bs }:XP)) (A:=({ A with asked:=al }:PK)) hXi hIi) hmq rfl rfl]; exact H50
   refine w_b (v:=.int .i64 ((ii:Int)+1)) (hb:=(b_add (w64 (by omega)))) ?_
   refine w_m ?_
   refine w_e ?_
   refine g_rd (i:=(ii,ms,bs,al)) ((ii+1),(ms.set q ({ m with ap:=p43,ac:=c44,asked:=m.asked++[x10] }:Mt)),(bs.set ir ({ r with ap:=p25,ac:=c26,asked:=(insK k r.asked) }:Bk)),(al++[(k,x10)])) ⟨by omega,(XOK.nextM (X:=({ X with ms:=ms,bs:=bs }:XP)) (A:=({ A with asked:=al }:PK)) hXi hIi hmq hmk hb9 p43 c44),(by rw [take_snocL hx10,List.map_append,← List.append_assoc,← hal]; rfl),(H51.tk [5,6,7,8,9,0,10,2,11])⟩
  ·
   refine g_cond_t rfl (neg_of hb20) ?_
   refine w_s ?_
   refine w_v (v:=.agg #[.bool false,.slice none 0 0]) (x_build (vs:=[]) rfl rfl (cells:=#[.bool false,.slice none 0 0]) (by kernel_rfl)) ?_
   refine l_of (s_box H19 (wt0 rfl) rfl rfl rfl rfl ?_)
   intro g52 wq53 H54
   refine w_a ?_
   refine w_e ?_
   refine g_wk [(0,_),(1,_),(8,_),(9,_),(11,_),(12,_),(20,_),(21,_),(22,_)] ?_
   refine g_any [] (fun wx=>S wx [Ob g11 (.cells #[.int .i64 (x10.pc),.int .i64 (x10.bg),.int .i64 (x10.ln)] 44 (0,0)),Ob X.g (.cells #[.map (some X.mg),.int .i64 ((A.n:Int)),.int .i64 ((A.pz:Int)),.int .i64 ((A.la:Int)),.string (A.seed),.bool A.ino,.slice X.hp A.had.length X.hc,.slice X.wp A.wish.length X.wc,.map (some X.bg)] 85 (0,0))]) [7] (by kernel_rfl) H54 (fun wq55 H56=>?_)
   have cm2:=H56.mask [false,true,false,true,false,false,false,false,false,false,false]
   refine w_t 0 rfl cm2 (fun _ _=>xm) ?_
   refine w_t 1 rfl cm2 (fun _ _=>xn) ?_
   refine w_t 2 rfl cm2 (fun _ _=>xf 8) ?_
   refine w_t 3 rfl cm2 (fun _ H=>xl H 1) ?_
   refine w_t (v:=.agg #[.int .i64 (x10.pc),.int .i64 (x10.bg),.int .i64 (x10.ln)]) 4 rfl cm2 (fun _ H=>x_loadA H 0 rfl rfl Tryz.underlying44 rfl sz44 rfl rfl rfl) ?_
   refine w_t 6 rfl cm2 (fun _ _=>xm) ?_
   refine a_one (i:=5) (by kernel_rfl) rfl ?_
   refine s_call0 H56 (wt0 rfl) (x_call' rfl rfl cl47) (at_x x10 _) rfl rfl ?_
   intro wq57 H58
   refine a_k (H58.mask [false,true,false,true,false,false,false,false,false,false,false]) ?_
   refine a_one (i:=7) (by kernel_rfl) rfl ?_
   refine s_mapUpdate (x:=x10.at) (a:=g52) placeT H58 8 (wt0 rfl) rfl rfl rfl rfl rfl rfl ((okP_is hI hxB)) ?_
   intro wq59 H60
   refine a_kt rfl ?_
   refine a_done (by kernel_rfl) ?_
   refine g_then ?_
   refine w_s ?_
   have H61:S wq59 [Rw 3 1 none 0 0 (fl intL ([]:List Int)),Ob g52 (.cells #[.bool false,.slice none 0 0] 103 (0,0)),Ob g11 (.cells #[.int .i64 (x10.pc),.int .i64 (x10.bg),.int .i64 (x10.ln)] 44 (0,0)),Rw 44 3 pn1 ((A.lookV k most).length) cn2 (fl choL (A.lookV k most)),Ob X.g (.cells #[.map (some X.mg),.int .i64 ((A.n:Int)),.int .i64 ((A.pz:Int)),.int .i64 ((A.la:Int)),.string (A.seed),.bool A.ino,.slice X.hp A.had.length X.hc,.slice X.wp A.wish.length X.wc,.map (some X.bg)] 85 (0,0)),Rw 4 1 X.hp A.had.length X.hc (fl boolL A.had),Rw 40 2 X.wp A.wish.length X.wc (fl wisL A.wish),Mp (Value.int .i64) ptV okI X.mg (mtM ms),(Lst MtI ms),Mp plK ptV okP X.bg (upM (bkM bs) x10.at g52),(Lst BkI bs),Old w (fps [(XI X A)])]:=H60.nilFl 3 1 intL
   refine w_r4 ?_
   refine w_1 H61 1 ?_
   refine w_m ?_
   refine l_of (s_buildSlice H61 (wt0 rfl) rfl rfl rfl (vs:=[.int .i64 k]) rfl Tryz.underlying59 sz3 ze3 rfl rfl (cells:=#[.int .i64 k]) (by kernel_rfl) ?_)
   intro g62 wq63 H64
   have hln69a:=(H64.rr 1).lenL intE
   have hln69:([k]).length=0+1:=by simp only [List.length_append,List.length_cons,List.length_nil] <;> omega
   refine l_of (s_appBn (m:=1) (l:=[]) (l2:=[k]) intE H64 1 (j0:=0) rfl rfl ⟨rfl,Nat.le_refl _⟩ (wt0 rfl) rfl rfl rfl rfl rfl rfl Tryz.underlying59 inf3 rfl (by decide) (by omega) ?_)
   intro p65 c66 wq67 H68
   rw [List.nil_append] at H68 ⊢
   replace H68:S wq67 [Ob g62 (.cells #[.int .i64 k] 3 (0,0)),Rw 3 1 p65 (([k]).length) c66 (fl intL ([k])),Ob g52 (.cells #[.bool false,.slice none 0 0] 103 (0,0)),Ob g11 (.cells #[.int .i64 (x10.pc),.int .i64 (x10.bg),.int .i64 (x10.ln)] 44 (0,0)),Rw 44 3 pn1 ((A.lookV k most).length) cn2 (fl choL (A.lookV k most)),Ob X.g (.cells #[.map (some X.mg),.int .i64 ((A.n:Int)),.int .i64 ((A.pz:Int)),.int .i64 ((A.la:Int)),.string (A.seed),.bool A.ino,.slice X.hp A.had.length X.hc,.slice X.wp A.wish.length X.wc,.map (some X.bg)] 85 (0,0)),Rw 4 1 X.hp A.had.length X.hc (fl boolL A.had),Rw 40 2 X.wp A.wish.length X.wc (fl wisL A.wish),Mp (Value.int .i64) ptV okI X.mg (mtM ms),(Lst MtI ms),Mp plK ptV okP X.bg (upM (bkM bs) x10.at g52),(Lst BkI bs),Old w (fps [(XI X A)])]:=H68
   refine w_r2 ?_
   refine l_of (w_st #[.bool false,.slice p65 (([k]).length) c66] H68 2 ?_)
   intro wq70 H71
   refine w_e ?_
   refine g_wk [(0,_),(1,_),(8,_),(9,_),(11,_),(12,_),(20,_),(21,_),(22,_)] ?_
   refine w_s ?_
   refine w_r3 ?_
   refine w_1 H71 2 ?_
   refine l_of (s_cl (sortK ([]:List Int) k List.Pairwise.nil List.not_mem_nil (by decide) p65 c66 _ (H71.tk [1])) ?_)
   rintro _ wq72 ⟨rfl,H73⟩
   replace H73:S _ [_,_,_,_,_,_,_,_,_,_,_,_,_]:=H71.abI (new:=[_]) [1] H73 rfl
   have hnl9:(([]:List Int)++[k]).length=(insK k ([]:List Int)).length:=by rw [insK_len,List.length_append]; rfl
   have H74:S wq72 [Ob g52 (.cells #[.bool false,.slice p65 ((insK k ([]:List Int)).length) c66] 103 (0,0)),Rw 3 1 p65 ((insK k ([]:List Int)).length) c66 (fl intL (insK k ([]:List Int))),Ob g62 (.cells #[.int .i64 k] 3 (0,0)),Ob g11 (.cells #[.int .i64 (x10.pc),.int .i64 (x10.bg),.int .i64 (x10.ln)] 44 (0,0)),Rw 44 3 pn1 ((A.lookV k most).length) cn2 (fl choL (A.lookV k most)),Ob X.g (.cells #[.map (some X.mg),.int .i64 ((A.n:Int)),.int .i64 ((A.pz:Int)),.int .i64 ((A.la:Int)),.string (A.seed),.bool A.ino,.slice X.hp A.had.length X.hc,.slice X.wp A.wish.length X.wc,.map (some X.bg)] 85 (0,0)),Rw 4 1 X.hp A.had.length X.hc (fl boolL A.had),Rw 40 2 X.wp A.wish.length X.wc (fl wisL A.wish),Mp (Value.int .i64) ptV okI X.mg (mtM ms),(Lst MtI ms),Mp plK ptV okP X.bg (upM (bkM bs) x10.at g52),(Lst BkI bs),Old w (fps [(XI X A)])]:=by rw [← hnl9]; exact H73.tk [2,0,1,3,4,5,6,7,8,9,10,11,12]
   have hb9:BOK ({ A with asked:=al++[(k,x10)] }:PK) (bs++[(⟨x10.at,g52,false,p65,c66,(insK k ([]:List Int))⟩:Bk)]):=next_fresh (A:=({ A with asked:=al }:PK)) hXi.bok hxB (hXi.no (A:=({ A with asked:=al }:PK)) hxB.2.2 hb20) g52 p65 c66
   have H75:=S.lstSnoc (F:=BkI) (x:=(⟨x10.at,g52,false,p65,c66,(insK k ([]:List Int))⟩:Bk)) (S.big (L:=[_,_]) (H74.tk [0,1,11,2,3,4,5,6,7,8,9,10,12]))
   have H76:S wq72 [(Lst BkI (bs++[(⟨x10.at,g52,false,p65,c66,(insK k ([]:List Int))⟩:Bk)])),Ob g62 (.cells #[.int .i64 k] 3 (0,0)),Ob g11 (.cells #[.int .i64 (x10.pc),.int .i64 (x10.bg),.int .i64 (x10.ln)] 44 (0,0)),Rw 44 3 pn1 ((A.lookV k most).length) cn2 (fl choL (A.lookV k most)),Ob X.g (.cells #[.map (some X.mg),.int .i64 ((A.n:Int)),.int .i64 ((A.pz:Int)),.int .i64 ((A.la:Int)),.string (A.seed),.bool A.ino,.slice X.hp A.had.length X.hc,.slice X.wp A.wish.length X.wc,.map (some X.bg)] 85 (0,0)),Rw 4 1 X.hp A.had.length X.hc (fl boolL A.had),Rw 40 2 X.wp A.wish.length X.wc (fl wisL A.wish),Mp (Value.int .i64) ptV okI X.mg (mtM ms),(Lst MtI ms),Mp plK ptV okP X.bg (bkM (bs++[(⟨x10.at,g52,false,p65,c66,(insK k ([]:List Int))⟩:Bk)])),Old w (fps [(XI X A)])]:=by rw [bkM_snoc hb9.bn]; exact H75
   refine b_ret rfl rfl ?_
   refine w_e ?_
   obtain ⟨q,m,hmq,hmk,hmb,hmf⟩:=mtM_ex (mt_some (X:=({ X with ms:=ms,bs:=bs }:XP)) (A:=({ A with asked:=al }:PK)) hXi hxp)
   have H77:S wq72 [Ob m.b (.cells #[.string ((fieldS m.fld)),.map (some m.am),.map (some m.sm),.bool m.ch,.bool m.sn,.slice m.ap m.asked.length m.ac] 88 (0,0)),Mp (Value.int .i64) Value.bool okI m.am (bMap m.alw),Mp (Value.int .i64) Value.bool okI m.sm (bMap m.sug),Rw 44 3 m.ap m.asked.length m.ac (fl choL m.asked),(Lst MtI (ms.eraseIdx q)),(Lst BkI (bs++[(⟨x10.at,g52,false,p65,c66,(insK k ([]:List Int))⟩:Bk)])),Ob g62 (.cells #[.int .i64 k] 3 (0,0)),Ob g11 (.cells #[.int .i64 (x10.pc),.int .i64 (x10.bg),.int .i64 (x10.ln)] 44 (0,0)),Rw 44 3 pn1 ((A.lookV k most).length) cn2 (fl choL (A.lookV k most)),Ob X.g (.cells #[.map (some X.mg),.int .i64 ((A.n:Int)),.int .i64 ((A.pz:Int)),.int .i64 ((A.la:Int)),.string (A.seed),.bool A.ino,.slice X.hp A.had.length X.hc,.slice X.wp A.wish.length X.wc,.map (some X.bg)] 85 (0,0)),Rw 4 1 X.hp A.had.length X.hc (fl boolL A.had),Rw 40 2 X.wp A.wish.length X.wc (fl wisL A.wish),Mp (Value.int .i64) ptV okI X.mg (mtM ms),Mp plK ptV okP X.bg (bkM (bs++[(⟨x10.at,g52,false,p65,c66,(insK k ([]:List Int))⟩:Bk)])),Old w (fps [(XI X A)])]:=S.unbig (L:=[_,_,_,_]) (S.lstOut (F:=MtI) (H76.tk [8,0,1,2,3,4,5,6,7,9,10]) hmq)
   have hml9:m.asked.length≤al.length:=by have h9:=hXi.ask m (List.mem_of_getElem? hmq); rw [h9]; exact mine_len _ _
   have hall9:al.length≤400 * (j+1):=hIi.al
   refine g_anyY [] (fun wx=>S wx [Ob m.b (.cells #[.string ((fieldS m.fld)),.map (some m.am),.map (some m.sm),.bool m.ch,.bool m.sn,.slice m.ap m.asked.length m.ac] 88 (0,0)),Mp (Value.int .i64) Value.bool okI m.am (bMap m.alw),Mp (Value.int .i64) Value.bool okI m.sm (bMap m.sug),Rw 44 3 m.ap m.asked.length m.ac (fl choL m.asked),(Lst MtI (ms.eraseIdx q)),(Lst BkI (bs++[(⟨x10.at,g52,false,p65,c66,(insK k ([]:List Int))⟩:Bk)])),Ob g62 (.cells #[.int .i64 k] 3 (0,0)),Ob g11 (.cells #[.int .i64 (x10.pc),.int .i64 (x10.bg),.int .i64 (x10.ln)] 44 (0,0)),Rw 44 3 pn1 ((A.lookV k most).length) cn2 (fl choL (A.lookV k most)),Ob X.g (.cells #[.map (some X.mg),.int .i64 ((A.n:Int)),.int .i64 ((A.pz:Int)),.int .i64 ((A.la:Int)),.string (A.seed),.bool A.ino,.slice X.hp A.had.length X.hc,.slice X.wp A.wish.length X.wc,.map (some X.bg)] 85 (0,0)),Rw 4 1 X.hp A.had.length X.hc (fl boolL A.had),Rw 40 2 X.wp A.wish.length X.wc (fl wisL A.wish),Mp (Value.int .i64) ptV okI X.mg (mtM ms),Mp plK ptV okP X.bg (bkM (bs++[(⟨x10.at,g52,false,p65,c66,(insK k ([]:List Int))⟩:Bk)])),Old w (fps [(XI X A)])]) (fun wx=>S wx [Mp (Value.int .i64) Value.bool okI m.am (bMap m.alw),Mp (Value.int .i64) Value.bool okI m.sm (bMap m.sug),(Lst MtI (ms.eraseIdx q)),(Lst BkI (bs++[(⟨x10.at,g52,false,p65,c66,(insK k ([]:List Int))⟩:Bk)])),Ob g62 (.cells #[.int .i64 k] 3 (0,0)),Ob g11 (.cells #[.int .i64 (x10.pc),.int .i64 (x10.bg),.int .i64 (x10.ln)] 44 (0,0)),Rw 44 3 pn1 ((A.lookV k most).length) cn2 (fl choL (A.lookV k most)),Ob X.g (.cells #[.map (some X.mg),.int .i64 ((A.n:Int)),.int .i64 ((A.pz:Int)),.int .i64 ((A.la:Int)),.string (A.seed),.bool A.ino,.slice X.hp A.had.length X.hc,.slice X.wp A.wish.length X.wc,.map (some X.bg)] 85 (0,0)),Rw 4 1 X.hp A.had.length X.hc (fl boolL A.had),Rw 40 2 X.wp A.wish.length X.wc (fl wisL A.wish),Mp (Value.int .i64) ptV okI X.mg (mtM ms),Mp plK ptV okP X.bg (bkM (bs++[(⟨x10.at,g52,false,p65,c66,(insK k ([]:List Int))⟩:Bk)])),Old w (fps [(XI X A)])]) [19,22] (by kernel_rfl) H77 (fun wq78 H79=>?_)
   refine w_y 0 rfl (wt0 rfl) rfl rfl rfl (by kernel_rfl) (fun _=>x_move rfl rfl) ?_
   refine w_y 1 rfl (wt0 rfl) rfl rfl rfl (by kernel_rfl) (fun _=>x_nilCheck rfl rfl) ?_
   refine w_y 2 rfl (wt0 rfl) rfl rfl rfl (by kernel_rfl) (fun _=>x_fieldAddr (off':=0) rfl rfl fo85_0 rfl) ?_
   refine w_y 3 rfl (wt0 rfl) rfl rfl rfl (by kernel_rfl) (fun _=>x_fieldAddr (off':=0) rfl rfl fo82_0 rfl) ?_
   have cm3:=H79.mask [false,true,true,false,true,true,true,true,true,true,true,true,true,true,true]
   refine y_take0 (v:=.map (some X.mg)) 4 rfl (wt0 rfl) rfl rfl rfl (by kernel_rfl) (by kernel_rfl) (by kernel_rfl) (by kernel_rfl) cm3 (fun wx H=>x_load1 H 7 rfl rfl Tryz.underlying80 rfl rfl rfl) ?_
   refine w_y 5 rfl (wt0 rfl) rfl rfl rfl (by kernel_rfl) (fun _=>x_move rfl rfl) ?_
   refine y_take0 (v:=.pointer (some ⟨m.b,0,none⟩)) 6 rfl (wt0 rfl) rfl rfl rfl (by kernel_rfl) (by kernel_rfl) (by kernel_rfl) (by kernel_rfl) cm3 (fun wx H=>ex_cast (x_lookup1 (x:=k) (intTy Tryz.underlying80 Tryz.underlying3) H 10 rfl rfl rfl rfl ((by obtain ⟨p9,hp9,hk9⟩:=hxp; have h9:=hI.kr p9 hp9; exact ⟨by omega,by omega⟩)) ze79) (optP_s hmb)) ?_
   refine w_y 7 rfl (wt0 rfl) rfl rfl rfl (by kernel_rfl) (fun _=>x_move rfl rfl) ?_
   refine w_y 8 rfl (wt0 rfl) rfl rfl rfl (by kernel_rfl) (fun _=>x_nilCheck rfl rfl) ?_
   refine w_y 9 rfl (wt0 rfl) rfl rfl rfl (by kernel_rfl) (fun _=>x_fieldAddr (off':=0) rfl rfl fo85_0 rfl) ?_
   refine w_y 10 rfl (wt0 rfl) rfl rfl rfl (by kernel_rfl) (fun _=>x_fieldAddr (off':=0) rfl rfl fo82_0 rfl) ?_
   refine y_take (v:=.map (some X.mg)) 11 rfl (wt0 rfl) rfl rfl rfl (by kernel_rfl) (by kernel_rfl) (by kernel_rfl) (by kernel_rfl) (by kernel_rfl) H79 (fun wx H=>x_load1 H 9 rfl rfl Tryz.underlying80 rfl rfl rfl) ?_
   refine w_y 12 rfl (wt0 rfl) rfl rfl rfl (by kernel_rfl) (fun _=>x_move rfl rfl) ?_
   refine y_take (v:=.pointer (some ⟨m.b,0,none⟩)) 13 rfl (wt0 rfl) rfl rfl rfl (by kernel_rfl) (by kernel_rfl) (by kernel_rfl) (by kernel_rfl) (by kernel_rfl) H79 (fun wx H=>ex_cast (x_lookup1 (x:=k) (intTy Tryz.underlying80 Tryz.underlying3) H 12 rfl rfl rfl rfl ((by obtain ⟨p9,hp9,hk9⟩:=hxp; have h9:=hI.kr p9 hp9; exact ⟨by omega,by omega⟩)) ze79) (optP_s hmb)) ?_
   refine w_y 14 rfl (wt0 rfl) rfl rfl rfl (by kernel_rfl) (fun _=>x_nilCheck rfl rfl) ?_
   refine w_y 15 rfl (wt0 rfl) rfl rfl rfl (by kernel_rfl) (fun _=>x_fieldAddr (off':=5) rfl rfl fo88_5 rfl) ?_
   refine y_take (v:=.slice m.ap m.asked.length m.ac) 16 rfl (wt0 rfl) rfl rfl rfl (by kernel_rfl) (by kernel_rfl) (by kernel_rfl) (by kernel_rfl) (by kernel_rfl) H79 (fun wx H=>x_load1 H 0 rfl rfl Tryz.underlying35 rfl rfl rfl) ?_
   refine y_take (v:=.agg #[.int .i64 (x10.pc),.int .i64 (x10.bg),.int .i64 (x10.ln)]) 17 rfl (wt0 rfl) rfl rfl rfl (by kernel_rfl) (by kernel_rfl) (by kernel_rfl) (by kernel_rfl) (by kernel_rfl) H79 (fun wx H=>x_loadA H 7 rfl rfl Tryz.underlying44 rfl sz44 rfl rfl rfl) ?_
   refine y_one (i:=18) (by kernel_rfl) rfl ?_
   refine s_buildSlice H79 (wt0 rfl) rfl rfl rfl (vs:=[.agg #[.int .i64 (x10.pc),.int .i64 (x10.bg),.int .i64 (x10.ln)]]) rfl Tryz.underlying35 sz44 ze44 rfl rfl (cells:=#[.int .i64 (x10.pc),.int .i64 (x10.bg),.int .i64 (x10.ln)]) (by kernel_rfl) ?_
   intro g80 wq81 H82
   refine y_k (H82.mask [false,true,true,true,true,true,true,true,true,true,true,true,true,true,true,true]) (H82.mask [false,false,true,true,false,true,true,true,true,true,true,true,true,true,true,true]) ?_
   refine y_one (i:=19) (by kernel_rfl) rfl ?_
   have hln87a:=(H82.rr 4).lenL choE
   have hln87:(m.asked++[x10]).length=m.asked.length+1:=by simp only [List.length_append,List.length_cons,List.length_nil] <;> omega
   refine s_appBn (m:=1) (l:=m.asked) (l2:=[x10]) choE H82 4 (j0:=0) rfl rfl ⟨rfl,Nat.le_refl _⟩ (wt0 rfl) rfl rfl rfl rfl rfl rfl Tryz.underlying35 inf44 rfl (by decide) (by omega) ?_
   intro p83 c84 wq85 H86
   refine y_kt rfl (H86.mask [false,false,true,true,false,true,true,true,true,true,true,true,true,true,true,true]) ?_
   refine w_y 20 rfl (wt0 rfl) rfl rfl rfl (by kernel_rfl) (fun _=>x_nilCheck rfl rfl) ?_
   refine w_y 21 rfl (wt0 rfl) rfl rfl rfl (by kernel_rfl) (fun _=>x_fieldAddr (off':=5) rfl rfl fo88_5 rfl) ?_
   refine y_one (i:=22) (by kernel_rfl) rfl ?_
   refine w_st #[.string ((fieldS m.fld)),.map (some m.am),.map (some m.sm),.bool m.ch,.bool m.sn,.slice p83 ((m.asked++[x10]).length) c84] H86 1 ?_
   intro wq88 H89
   refine y_kt rfl (H89.mask [false,false,true,true,false,true,true,true,true,true,true,true,true,true,true,true]) ?_
   refine y_done (by kernel_rfl) ?_
   refine g_in ?_
   refine g_then ?_
   refine g_wk [(0,_),(1,_),(8,_),(9,_),(20,_),(21,_),(22,_)] ?_
   refine g_region ?_
   have H90:=S.lstIn (F:=MtI) (x:=({ m with ap:=p83,ac:=c84,asked:=m.asked++[x10] }:Mt)) (S.big (L:=[_,_,_,_]) (H89.tk [1,2,3,4,5,0,6,7,8,9,10,11,12,13,14,15])) (List.getElem?_eq_some_iff.1 hmq).1
   have H91:S wq88 [(Lst MtI (ms.set q ({ m with ap:=p83,ac:=c84,asked:=m.asked++[x10] }:Mt))),Ob g80 (.cells #[.int .i64 (x10.pc),.int .i64 (x10.bg),.int .i64 (x10.ln)] 44 (0,0)),(Lst BkI (bs++[(⟨x10.at,g52,false,p65,c66,(insK k ([]:List Int))⟩:Bk)])),Ob g62 (.cells #[.int .i64 k] 3 (0,0)),Ob g11 (.cells #[.int .i64 (x10.pc),.int .i64 (x10.bg),.int .i64 (x10.ln)] 44 (0,0)),Rw 44 3 pn1 ((A.lookV k most).length) cn2 (fl choL (A.lookV k most)),Ob X.g (.cells #[.map (some X.mg),.int .i64 ((A.n:Int)),.int .i64 ((A.pz:Int)),.int .i64 ((A.la:Int)),.string (A.seed),.bool A.ino,.slice X.hp A.had.length X.hc,.slice X.wp A.wish.length X.wc,.map (some X.bg)] 85 (0,0)),Rw 4 1 X.hp A.had.length X.hc (fl boolL A.had),Rw 40 2 X.wp A.wish.length X.wc (fl wisL A.wish),Mp (Value.int .i64) ptV okI X.mg (mtM (ms.set q ({ m with ap:=p83,ac:=c84,asked:=m.asked++[x10] }:Mt))),Mp plK ptV okP X.bg (bkM (bs++[(⟨x10.at,g52,false,p65,c66,(insK k ([]:List Int))⟩:Bk)])),Old w (fps [(XI X A)])]:=by rw [mtM_set (m':=({ m with ap:=p83,ac:=c84,asked:=m.asked++[x10] }:Mt)) (XOK.nd (X:=({ X with ms:=ms,bs:=bs }:XP)) (A:=({ A with asked:=al }:PK)) hXi hIi) hmq rfl rfl]; exact H90
   refine w_b (v:=.int .i64 ((ii:Int)+1)) (hb:=(b_add (w64 (by omega)))) ?_
   refine w_m ?_
   refine w_e ?_
   refine g_rd (i:=(ii,ms,bs,al)) ((ii+1),(ms.set q ({ m with ap:=p83,ac:=c84,asked:=m.asked++[x10] }:Mt)),(bs++[(⟨x10.at,g52,false,p65,c66,(insK k ([]:List Int))⟩:Bk)]),(al++[(k,x10)])) ⟨by omega,(XOK.nextM (X:=({ X with ms:=ms,bs:=bs }:XP)) (A:=({ A with asked:=al }:PK)) hXi hIi hmq hmk hb9 p83 c84),(by rw [take_snocL hx10,List.map_append,← List.append_assoc,← hal]; rfl),(H91.tk [5,6,7,8,9,0,10,2,11])⟩
 ·
  refine g_cf hb9 ?_
  refine g_exit ?_
  rw [List.take_of_length_le (by omega)] at hal
  iterate 2 refine g_then_exit ?_
  refine g_in_hit ?_
  refine g_then ?_
  refine w_s ?_
  refine w_r4 ?_
  refine w_e ?_
  refine g_ret ?_
  refine fin_r [.tmp 6,.tmp 7] [.slice pn1 ((A.lookV k most).length) cn2,.int .i64 ((A.lookE k most))] ?_
  have hA9:A.nextA k most=({ A with asked:=al }:PK):=by rw [hal]; rfl
  rw [hA9]
  exact ⟨({ X with ms:=ms,bs:=bs }:XP),rfl,hXi,_,_,rfl,(S.big (L:=[_,_,_,_,_,_,_]) (H8.tk [1,2,3,4,5,6,7,0,8])).tk [1,0,2]⟩
end Go.Proofs.YthmmfhdpkddniaaGreatDoor
