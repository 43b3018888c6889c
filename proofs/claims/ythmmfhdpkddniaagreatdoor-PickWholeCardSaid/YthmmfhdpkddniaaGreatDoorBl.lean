import Derived.Test.YthmmfhdpkddniaaGreatDoorFm
import Derived.Test.YthmmfhdpkddniaaGreatDoorBi
import Derived.Test.YthmmfhdpkddniaaGreatDoorH0
import Derived.Laws.BitsAllLaws
import Derived.Test.YthmmfhdpkddniaaGreatDoorRc
set_option maxRecDepth 20000
set_option maxHeartbeats 4000000
set_option linter.unusedSimpArgs false
set_option linter.unusedVariables false
namespace Go.Proofs.YthmmfhdpkddniaaGreatDoor
open Go.RowKit
theorem cl114:callable Tryz.prog 114=true:=by kernel_rfl
theorem inf137:infO Tryz.prog 137=some (some (.agg #[.int .i64 0,.slice none 0 0]),2,32):=by kernel_rfl
theorem sz9:szO Tryz.prog 9=some 1:=by kernel_rfl
theorem ze9:zeO Tryz.prog 9=some (.string (⟨#[]⟩)):=by kernel_rfl
def hasB (m:Nat) (s:ByteArray) (i:Int):Bool:=decide (0≤i∧i<(m:Int)) && bitA s i.toNat
def hasE (m:Nat) (i:Int):Int:=if 0≤i∧i<(m:Int) then 0 else 7
theorem has_in {m:Nat} {s:ByteArray} {i:Int} (h:0≤i∧i<(m:Int)):hasB m s i=bitA s i.toNat∧hasE m i=0:=⟨by unfold hasB; rw [decide_eq_true h]; rfl,if_pos h⟩
theorem has_out {m:Nat} {s:ByteArray} {i:Int} (h:¬ (0≤i∧i<(m:Int))):hasB m s i=false∧hasE m i=7:=⟨by unfold hasB; rw [decide_eq_false h]; rfl,if_neg h⟩
def Vf (m:Nat) (s:ByteArray):Prop:=s.size=longN m∧∀ j,m≤j→j<8 * longN m→bitA s j=false
theorem Vf.wrong {m:Nat} {s:ByteArray} (h:Vf m s) (hm:m≤4096):(wrongS (m:Int) s).2=0:=by
 unfold wrongS; rw [if_pos (rightB_nat hm),Int.toNat_natCast,wrongN_ok h.1 h.2]
theorem Vf.check {m:Nat} {s:ByteArray} (h:Vf m s) (hm:m≤4096):checkS (m:Int) s=0:=by
 unfold checkS; rw [if_pos (rightB_nat hm),if_pos]
 unfold validF; rw [h.wrong hm]; rfl
def pby (x i:Nat) (b:Bool):Nat:=if b=true then x ||| 128 / 2 ^ (i % 8) else x &&& (255 - 128 / 2 ^ (i % 8))
def setB (s:ByteArray) (i:Nat) (b:Bool):ByteArray:=⟨s.data.setIfInBounds (i / 8) (UInt8.ofNat (pby (bt' s (i / 8)) i b))⟩
def setC (cs:Array Value) (s:ByteArray) (i:Nat) (b:Bool):Array Value:=cs.setIfInBounds (i / 8) (.int .u8 ((pby (bt' s (i / 8)) i b:Nat):Int))
theorem open_b (g m:Nat) (s:ByteArray) (hm:m≤4096) (hv:(wrongS (m:Int) s).2=0)  (w:World) (HS:S w [Ob g (.cells #[.string s] 9 (0,0))]):Calls Tryz.prog 165 #[.int .i64 ((m:Int)),.slice (some ⟨g,0,none⟩) (1) (1)] w fun e w'=>∃ q d gb c fr cs,e=.returned (.slice q 1 d)∧(∀ j,j<s.size→cs[j]?=some (.int .u8 ((s.data.toList.getD j 0).toNat:Nat)))∧s.size≤c∧(s.size≤cs.size∧cs.size≤fr.1)∧S w' ([Rw 137 2 q 1 d [.int .i64 (m:Int),.slice (some ⟨gb,0,none⟩) s.size c],Ob gb (.cells cs 5 fr),Ob g (.cells #[.string s] 9 (0,0))]++[Old w (fps [Ob g (.cells #[.string s] 9 (0,0))])]):=by
 have H0:=HS.beginI
 refine enter 41 Tryz.func165 rfl rfl rfl ?_
 refine g_wk [(0,_),(1,_)] ?_
 refine w_s ?_
 refine w_k6 ?_
 refine l_of (s_val (v:=.int .i64 ((m:Int))) (wt1 rfl rfl rfl rfl (decide_eq_false (by omega))) rfl rfl (x_move rfl rfl) ?_)
 refine l_of (s_val (v:=.bool (decide ((4096:Int)<(m:Int)))) (wt1 rfl rfl rfl rfl (decide_eq_false (by omega))) rfl rfl (x_bin rfl rfl rfl b_gtr) ?_)
 refine w_v (x_pick_f rfl rfl (decide_eq_false (by omega)) rfl) ?_
 refine l_of (s_call0 H0 (wt0 rfl) (x_call' rfl rfl cl112) (fail_r _ _ (decide_eq_false (by omega)) _) rfl rfl ?_)
 intro wq1 H2
 refine w_k2 ?_
 have H3:S _ [_,_,_]:=H2.nilRw 137 2
 refine w_k9 ?_
 refine g_rounds 2 ?_
 refine g_roundU ?_
 refine w_k3 ?_
 refine g_seq ?_
 refine g_cond_t rfl (by decide) ?_
 refine w_k5 ?_
 refine w_v (v:=.pointer (some ⟨g,0,none⟩)) (x_indexAddr 0 rfl rfl rfl Tryz.underlying203 sz9 (by omega) (off':=0) rfl) ?_
 refine w_k3 ?_
 refine g_wk [(0,_),(5,_),(7,_),(17,_),(18,_),(19,_)] ?_
 refine w_s ?_
 refine w_r2 ?_
 have hwr4:=wrong_b (m:Int) s wq1
 rw [hv] at hwr4
 refine l_of (s_call0 H3 (wt0 rfl) (x_call' rfl rfl cl104) (hwr4) rfl rfl ?_)
 intro wq5 H6
 refine w_k8 ?_
 refine w_b (v:=.bool (!decide ((0:Int)=0))) (hb:=b_neq) ?_
 refine l_of (s_call0 H6 (wt0 rfl) (x_call' rfl rfl cl112) (fail_r _ _ (nf rfl) _) rfl rfl ?_)
 intro wq7 H8
 refine w_k5 ?_
 refine l_of (s_bytesOf2 H8 (wt0 rfl) rfl rfl rfl rfl Tryz.underlying9 Tryz.underlying113 Tryz.underlying5 ?_)
 intro gb9 cb10 fr11 cs12 wq16 H17 hby13 hbc14 hfr15
 refine w_v (v:=.agg #[.int .i64 ((m:Int)),.slice (some ⟨gb9,0,none⟩) s.size cb10]) (x_build (vs:=[.int .i64 ((m:Int)),.slice (some ⟨gb9,0,none⟩) s.size cb10]) rfl rfl (cells:=#[.int .i64 ((m:Int)),.slice (some ⟨gb9,0,none⟩) s.size cb10]) (by kernel_rfl)) ?_
 refine l_of (s_b1 ze137 #[.int .i64 ((m:Int)),.slice (some ⟨gb9,0,none⟩) s.size cb10] H17 ?_)
 intro g18 wq19 H20
 refine l_of (s_appendR (n:=0) (m:=1) (sc:=0) (xs:=[]) (news:=[.int .i64 ((m:Int)),.slice (some ⟨gb9,0,none⟩) s.size cb10]) (p:=none) (ad:=⟨g18,0,none⟩) H20 2 (wt0 rfl) rfl rfl rfl rfl rfl rfl Tryz.underlying190 inf137 rfl (by decide) (by decide) rfl (by decide) (news_ob H20 (j0:=0) rfl) rfl (by omega) ?_)
 intro p21 c22 wq23 (H24:S wq23 [Ob g18 (.cells #[.int .i64 ((m:Int)),.slice (some ⟨gb9,0,none⟩) s.size cb10] 137 (0,0)),Ob gb9 (.cells cs12 5 fr11),Rw 137 2 p21 (0+1) c22 ([]++[.int .i64 ((m:Int)),.slice (some ⟨gb9,0,none⟩) s.size cb10]),Ob g (.cells #[.string s] 9 (0,0)),Old w (fps [Ob g (.cells #[.string s] 9 (0,0))])])
 refine w_k4 ?_
 refine g_wk [(0,_),(5,_),(17,_),(18,_),(19,_)] ?_
 refine g_region ?_
 refine w_b (v:=.int .i64 1) (hb:=(b_add (r:=1) (by decide))) ?_
 refine w_k2 ?_
 refine g_roundU ?_
 refine w_k3 ?_
 refine g_seq ?_
 refine g_cond_f rfl (by decide) ?_
 refine w_k10 ?_
 refine fin_r [.tmp 4] [.slice p21 (0+1) c22] ?_
 exact ⟨_,_,gb9,cb10,fr11,cs12,rfl,hby13,hbc14,hfr15,H24.tk [2,1,3,4]⟩
theorem has_bits (m:Nat) (s:ByteArray) (i:Int) (hm:m≤4096) (hV:Vf m s)  (w:World):Calls Tryz.prog 153 #[.int .i64 ((m:Int)),.string s,.int .i64 i] w fun e w'=>e=.returned (.tuple #[.bool (hasB m s i),.int .i64 (hasE m i)])∧S w' [Old w no]:=by
 have H0:=S.old w
 have hs:=hV.1
 have hv:=hV.wrong hm
 refine enter_d 26 Tryz.func153 rfl rfl rfl ?_
 refine g_wk [(0,_),(1,_),(2,_)] ?_
 refine w_s ?_
 refine w_a ?_
 refine l_of (s_alloc H0 (wt0 rfl) rfl rfl rfl ze30 ?_)
 intro g1 wq2 H3
 refine w_k2 ?_
 refine l_of (s_defer (wt0 rfl) rfl (xd_defer rfl rfl rfl) ?_)
 refine w_k4 ?_
 refine l_of (s_b1 ze9 #[.string s] H3 ?_)
 intro g4 wq5 H6
 refine l_of (s_cl (open_b g4 m s hm hv _ (H6.tk [0])) ?_)
 rintro _ wq16 ⟨q7,d8,gb9,cb10,fr11,cs12,rfl,hby13,hbc14,hfr15,H17⟩
 replace H17:S _ [_,_,_,_,_]:=H6.abI (new:=[_,_,_]) [0] H17 rfl
 refine b_ret rfl rfl ?_
 refine w_v (x_i 0 (H17.rr 0)) ?_
 refine w_v (x_loadRA (vs:=[.int .i64 (m:Int),.slice (some ⟨gb9,0,none⟩) s.size cb10]) 0 (H17.rr 0) (by omega) rfl rfl Tryz.underlying137 rfl sz137 (by rfl) ((fun i u h=>by simpa using h))) ?_
 refine l_of (s_alloc H17 (wt0 rfl) rfl rfl rfl ze137 ?_)
 intro g18 wq19 H20
 refine l_of (w_st #[.int .i64 ((m:Int)),.slice (some ⟨gb9,0,none⟩) (s.size) (cb10)] H20 0 ?_)
 intro wq21 H22
 refine w_k5 ?_
 by_cases hb23:(i:Int)<0
 ·
  iterate 3 refine w_n (decide_eq_true hb23) ?_
  refine w_v (x_pick_t rfl rfl (decide_eq_true hb23) rfl) ?_
  refine l_of (s_cl (fail_p _ _ rfl _) ?_)
  rintro _ wq24 ⟨rfl,H25⟩
  replace H25:=H22.ab0 H25
  refine b_panic ?_
  refine g_then_panic ?_
  refine fin_dpanic ?_
  refine gl_step (by simp) cl102 (caughtb_p g1 7 (0) [] _ (H25.ob (k:=4) rfl)) ?_
  rintro _ _ wq26 ⟨⟨rfl,H27⟩,rfl⟩
  replace H27:S wq26 [Ob g1 (.cells #[.int .i64 7] 30 (0,0)),Ob g18 (.cells #[.int .i64 ((m:Int)),.slice (some ⟨gb9,0,none⟩) (s.size) (cb10)] 137 (0,0)),Rw 137 2 q7 1 d8 [.int .i64 (m:Int),.slice (some ⟨gb9,0,none⟩) s.size cb10],Ob gb9 (.cells cs12 5 fr11),Ob g4 (.cells #[.string s] 9 (0,0)),Old w no]:=H25.absorbK (new:=[Ob g1 (.cells #[.int .i64 7] 30 (0,0))]) [4] (by intro g hg; rw [List.mem_singleton] at hg; subst hg; exact ⟨4,rfl,_,rfl,rfl⟩) H27
  refine (?_:GL _ _ _ _ _ _ FrameMode.returning _)
  refine gl_ret [.tmp 6,.cell 7 30] [.bool false,.int .i64 7] rfl ⟨rfl,⟨_,rfl,run_load1 Tryz.underlying30 rfl (H27.cell (k:=0) rfl rfl)⟩,trivial⟩ ?_
  obtain ⟨q1,q2⟩:=has_out (m:=m) (s:=s) (i:=i) (by omega)
  exact ⟨by rw [q1,q2]; rfl,H27.mask [false,false,false,false,false,true]⟩
 ·
  iterate 2 refine w_g (decide_eq_false hb23) xm ?_
  refine w_g (decide_eq_false hb23) (x_bin rfl rfl rfl b_geq) ?_
  refine w_v (x_pick_f rfl rfl (decide_eq_false hb23) rfl) ?_
  by_cases hb28:((m:Int):Int)≤i
  ·
   refine l_of (s_cl (fail_p _ _ (decide_eq_true hb28) _) ?_)
   rintro _ wq29 ⟨rfl,H30⟩
   replace H30:=H22.ab0 H30
   refine b_panic ?_
   refine g_then_panic ?_
   refine fin_dpanic ?_
   refine gl_step (by simp) cl102 (caughtb_p g1 7 (0) [] _ (H30.ob (k:=4) rfl)) ?_
   rintro _ _ wq31 ⟨⟨rfl,H32⟩,rfl⟩
   replace H32:S wq31 [Ob g1 (.cells #[.int .i64 7] 30 (0,0)),Ob g18 (.cells #[.int .i64 ((m:Int)),.slice (some ⟨gb9,0,none⟩) (s.size) (cb10)] 137 (0,0)),Rw 137 2 q7 1 d8 [.int .i64 (m:Int),.slice (some ⟨gb9,0,none⟩) s.size cb10],Ob gb9 (.cells cs12 5 fr11),Ob g4 (.cells #[.string s] 9 (0,0)),Old w no]:=H30.absorbK (new:=[Ob g1 (.cells #[.int .i64 7] 30 (0,0))]) [4] (by intro g hg; rw [List.mem_singleton] at hg; subst hg; exact ⟨4,rfl,_,rfl,rfl⟩) H32
   refine (?_:GL _ _ _ _ _ _ FrameMode.returning _)
   refine gl_ret [.tmp 6,.cell 7 30] [.bool false,.int .i64 7] rfl ⟨rfl,⟨_,rfl,run_load1 Tryz.underlying30 rfl (H32.cell (k:=0) rfl rfl)⟩,trivial⟩ ?_
   obtain ⟨q1,q2⟩:=has_out (m:=m) (s:=s) (i:=i) (by omega)
   exact ⟨by rw [q1,q2]; rfl,H32.mask [false,false,false,false,false,true]⟩
  ·
   refine l_of (s_call0 H22 (wt0 rfl) (x_call' rfl rfl cl112) (fail_r _ _ (decide_eq_false hb28) _) rfl rfl ?_)
   intro wq33 H34
   refine w_e ?_
   refine g_wk [(2,_),(7,_),(8,_)] ?_
   refine w_s ?_
   refine w_v (v:=.agg #[.int .i64 ((m:Int)),.slice (some ⟨gb9,0,none⟩) (s.size) (cb10)]) (x_loadA H34 0 rfl rfl Tryz.underlying137 rfl sz137 rfl rfl rfl) ?_
   refine w_m ?_
   have hhs35:=has_b m gb9 s.size cb10 i.toNat (bt' s (i.toNat / 8)) wq33 (bt'_lt _ _) (by rw [hs]; unfold longN; omega) (by omega) (H34.cell (k:=2) rfl (hby13 (i.toNat / 8) (by rw [hs]; unfold longN; omega)))
   rw [show ((i.toNat:Nat):Int)=i from by omega] at hhs35
   refine l_of (s_call0 H34 (wt0 rfl) (x_call' rfl rfl cl113) (hhs35) rfl rfl ?_)
   intro wq36 H37
   refine w_a ?_
   refine l_of (w_st #[.int .i64 0] H37 4 ?_)
   intro wq38 H39
   refine w_k2 ?_
   refine fin_dret ?_
   refine gl_step (by simp) cl102 (caughtb_n g1 _) ?_
   rintro _ _ wq40 ⟨⟨rfl,H41⟩,rfl⟩
   replace H41:=H39.ab0 H41
   refine (?_:GL _ _ _ _ _ _ FrameMode.returning _)
   refine gl_ret [.tmp 6,.cell 7 30] [.bool ((bitA s i.toNat)),.int .i64 0] rfl ⟨rfl,⟨_,rfl,run_load1 Tryz.underlying30 rfl (H41.cell (k:=4) rfl rfl)⟩,trivial⟩ ?_
   obtain ⟨q1,q2⟩:=has_in (m:=m) (s:=s) (i:=i) (by omega)
   exact ⟨by rw [q1,q2]; rfl,H41.mask [false,false,false,false,false,true]⟩
theorem bitA_test (s:ByteArray) (i:Nat):bitA s i=(bt' s (i / 8)).testBit (7 - i % 8):=by
 unfold bitA; rw [Nat.testBit_eq_decide_div_mod_eq]
theorem bt_nb {b:List Nat} (h:∀ x∈b,x<256) (k:Nat):bt' (nbS b) k=b.getD k 0:=by
 unfold bt' nbS
 simp only [List.getElem?_map,List.getD_eq_getElem?_getD]
 cases hq:b[k]? with
 | none=>rfl
 | some x =>
   have:=h x (List.mem_of_getElem? hq)
   show (UInt8.ofNat x).toNat=x
   rw [UInt8.toNat_ofNat']; omega
theorem byte_next {v b:Nat} (hb:b≤1) (t:Nat):((2 * v % 256+b) % 256).testBit t=if t=0 then decide (b=1) else (decide (t<8) && v.testBit (t - 1)):=by
 have e:(2 * v % 256+b) % 256=(2 * v+b) % 2 ^ 8:=by omega
 rw [e,Nat.testBit_mod_two_pow]
 by_cases ht:t=0
 · subst ht
   rw [if_pos rfl,Nat.testBit_zero,show (2 * v+b) % 2=b from by omega]; simp
 · obtain ⟨u,rfl⟩:∃ u,t=u+1:=⟨t - 1,by omega⟩
   rw [if_neg ht,Nat.testBit_succ,show (2 * v+b) / 2=v from by omega,Nat.add_sub_cancel]
theorem fldStep_get {l:List Bool} {b:List Nat} {i:Nat} (hi:i / 8<b.length) (k:Nat):(fldStep l b i).getD k 0=if k=i / 8 then (2 * b.getD (i / 8) 0 % 256+(if l.getD i false=true then 1 else 0)) % 256 else b.getD k 0:=by
 unfold fldStep
 by_cases h:l.getD i false=true
 · simp only [if_pos h]
   rw [getD_set (by rw [List.length_set]; exact hi)]
   by_cases hk:k=i / 8
   · rw [if_pos hk,if_pos hk,getD_set hi,if_pos rfl]
   · rw [if_neg hk,if_neg hk,getD_set hi,if_neg hk]
 · simp only [if_neg h]
   rw [getD_set hi]
   by_cases hk:k=i / 8
   · rw [if_pos hk,if_pos hk]; omega
   · rw [if_neg hk,if_neg hk]
theorem fld_bits (l:List Bool):∀ i,i≤8 * longN l.length→∀ k,k<longN l.length→∀ t,((fldAt l i).getD k 0).testBit t=(decide (t<min (i - 8 * k) 8) && l.getD (8 * k+(min (i - 8 * k) 8 - 1 - t)) false)
 | 0,_,k,hk,t=>by
   rw [fldAt,getD_rep,Nat.zero_testBit]; simp
 | i+1,hi,k,hk,t=>by
   have ih:=fld_bits l i (by omega) k hk
   rw [fldAt,fldStep_get (by rw [fldAt_len]; omega)]
   by_cases hk0:k=i / 8
   · rw [if_pos hk0,← hk0,byte_next (by split <;> omega)]
     have hc:min (i+1 - 8 * k) 8=min (i - 8 * k) 8+1:=by omega
     have hc2:min (i - 8 * k) 8=i - 8 * k:=by omega
     rw [hc,hc2]
     by_cases ht:t=0
     · subst ht
       rw [if_pos rfl,show 8 * k+(i - 8 * k+1 - 1 - 0)=i from by omega,decide_eq_true (by omega:0<i - 8 * k+1)]
       cases l.getD i false <;> rfl
     · rw [if_neg ht,ih (t - 1),hc2,show 8 * k+(i - 8 * k - 1 - (t - 1))=8 * k+(i - 8 * k+1 - 1 - t) from by omega]
       by_cases h2:t<i - 8 * k+1
       · rw [decide_eq_true h2,decide_eq_true (by omega:t<8),decide_eq_true (by omega:t - 1<i - 8 * k)]; rfl
       · rw [decide_eq_false h2,decide_eq_false (by omega:¬ t - 1<i - 8 * k)]; simp
   · rw [if_neg hk0,ih t,show min (i+1 - 8 * k) 8=min (i - 8 * k) 8 from by omega]
theorem fieldT_size (l:List Bool):(fieldT l).size=longN l.length:=by unfold fieldT; rw [nbS_size,fldAt_len]
theorem fieldT_bit {l:List Bool} {j:Nat} (hj:j<8 * longN l.length):bitA (fieldT l) j=l.getD j false:=by
 rw [bitA_test]
 unfold fieldT
 rw [bt_nb (fldAt_lt l _),fld_bits l _ (Nat.le_refl _) (j / 8) (by omega),show min (8 * longN l.length - 8 * (j / 8)) 8=8 from by omega,show 8 * (j / 8)+(8 - 1 - (7 - j % 8))=j from by omega,decide_eq_true (by omega:7 - j % 8<8)]
 rfl
theorem bits_ext {s t:ByteArray} (hs:s.size=t.size) (h:∀ j,j<8 * s.size→bitA s j=bitA t j):s=t:=by
 have hb:∀ k,k<s.size→bt' s k=bt' t k:=fun k hk=>by
   refine Nat.eq_of_testBit_eq fun i=>?_
   by_cases hi:i<8
   · have:=h (8 * k+(7 - i)) (by omega)
     rw [bitA_test,bitA_test,show (8 * k+(7 - i)) / 8=k from by omega,show 7 - (8 * k+(7 - i)) % 8=i from by omega] at this
     exact this
   · have h1:2 ^ 8≤2 ^ i:=Nat.pow_le_pow_right (by omega) (by omega)
     rw [Nat.testBit_lt_two_pow (by have:=bt'_lt s k; omega),Nat.testBit_lt_two_pow (by have:=bt'_lt t k; omega)]
 refine ByteArray.ext (Array.ext hs fun i h1 h2=>?_)
 have:=hb i h1
 unfold bt' at this
 rw [Array.getElem?_toList,Array.getElem?_toList,Array.getElem?_eq_getElem h1,Array.getElem?_eq_getElem h2] at this
 exact UInt8.toNat_inj.1 this
theorem pow_shift {r:Nat} (h:r<8):128 / 2 ^ r=2 ^ (7 - r):=by
 rcases (show r=0∨r=1∨r=2∨r=3∨r=4∨r=5∨r=6∨r=7 by omega) with rfl | rfl | rfl | rfl | rfl | rfl | rfl | rfl <;> rfl
theorem truths_get {m:Nat} {s:ByteArray} {j:Nat} (h:j<m):(truthsS m s).getD j false=bitA s j:=by
 unfold truthsS
 rw [List.getD_eq_getElem?_getD,List.getElem?_map,List.getElem?_range h]; rfl
theorem Vf.of_valid {n:Int} {s:ByteArray} (h:0≤n∧n≤4096) (hv:validF n s=true):Vf n.toNat s:=by
 have hv:=of_decide_eq_true hv
 unfold wrongS at hv
 rw [if_pos (rightB_iff.2 h)] at hv
 unfold wrongN at hv
 by_cases hs:s.size=longN n.toNat
 · rw [if_pos hs] at hv
   cases hf:firstBad n.toNat s with
   | some i=>rw [hf] at hv; have hv:(12:Int)=0:=hv; cases hv
   | none =>
     refine ⟨hs,fun j h1 h2=>?_⟩
     unfold firstBad at hf
     rw [List.find?_eq_none] at hf
     have:=hf j (List.mem_range.2 h2)
     rw [decide_eq_true h1] at this
     simpa using this
 · rw [if_neg hs] at hv; have hv:(11:Int)=0:=hv; cases hv
theorem fby_bit (l:List Bool) (k r:Nat) (hr:r<8):decide (fby l k / 2 ^ (7 - r) % 2=1)=l.getD (8 * k+r) false:=by
 have hb:∀ b:Bool,decide (bv b=1)=b:=fun b=>by cases b <;> rfl
 rw [← hb (l.getD (8 * k+r) false),decide_eq_decide]
 have h0:=bv_le (l.getD (8 * k) false); have h1:=bv_le (l.getD (8 * k+1) false); have h2:=bv_le (l.getD (8 * k+2) false); have h3:=bv_le (l.getD (8 * k+3) false)
 have h4:=bv_le (l.getD (8 * k+4) false); have h5:=bv_le (l.getD (8 * k+5) false); have h6:=bv_le (l.getD (8 * k+6) false); have h7:=bv_le (l.getD (8 * k+7) false)
 unfold fby
 rcases (show r=0∨r=1∨r=2∨r=3∨r=4∨r=5∨r=6∨r=7 by omega) with rfl | rfl | rfl | rfl | rfl | rfl | rfl | rfl
 all_goals
   simp only [Nat.add_zero,Nat.reduceSub,Nat.reducePow]
   omega
theorem fbl_lt (l:List Bool):∀ x∈fbl l,x<256:=fun x hx=>by
 obtain ⟨k,_,rfl⟩:=List.mem_map.1 hx; exact fby_lt l k
theorem fieldS_bit {l:List Bool} {j:Nat} (hj:j<8 * longN l.length):bitA (fieldS l) j=l.getD j false:=by
 have hl:longN l.length=(l.length+7) / 8:=rfl
 unfold bitA fieldS
 rw [bt_nb (fbl_lt l),List.getD_eq_getElem?_getD,show (fbl l)[j / 8]?=some (fby l (j / 8)) from by unfold fbl; rw [List.getElem?_map,List.getElem?_range (by omega)]; rfl]
 show decide (fby l (j / 8) / 2 ^ (7 - j % 8) % 2=1)=_
 rw [fby_bit l (j / 8) (j % 8) (by omega),show 8 * (j / 8)+j % 8=j from by omega]
theorem fieldT_eq (l:List Bool):fieldT l=fieldS l:=
 bits_ext (by rw [fieldT_size,fieldS_size]; rfl) fun j hj=>by
   rw [fieldT_size] at hj
   rw [fieldT_bit hj,fieldS_bit hj]
theorem Vf.fieldS {l:List Bool} {m:Nat} (h:l.length=m):Vf m (fieldS l):=by
 subst h
 exact ⟨fieldS_size l,fun j h1 h2=>by rw [fieldS_bit h2,getD_out h1]⟩
theorem truths_fieldS (l:List Bool):truthsS l.length (fieldS l)=l:=by
 refine List.ext_getElem? fun j=>?_
 by_cases hj:j<l.length
 · have hn:longN l.length=(l.length+7) / 8:=rfl
   unfold truthsS
   rw [List.getElem?_map,List.getElem?_range hj]
   show some (bitA (Go.Proofs.YthmmfhdpkddniaaGreatDoor.fieldS l) j)=_
   rw [fieldS_bit (by omega),List.getD_eq_getElem?_getD,List.getElem?_eq_getElem hj]; rfl
 · rw [List.getElem?_eq_none (by rw [truths_len]; omega),List.getElem?_eq_none (by omega)]
theorem Vf.is {m:Nat} {s:ByteArray} (h:Vf m s):s=Go.Proofs.YthmmfhdpkddniaaGreatDoor.fieldS (truthsS m s):=by
 have hn:longN m=(m+7) / 8:=rfl
 refine bits_ext (by rw [fieldS_size,truths_len,h.1]; rfl) fun j hj=>?_
 rw [h.1] at hj
 rw [fieldS_bit (by rw [truths_len]; omega)]
 by_cases hjm:j<m
 · rw [truths_get hjm]
 · rw [getD_out (by rw [truths_len]; omega),h.2 j (by omega) hj]
theorem newS_f {n:Nat} (h:n≤4096):newS (n:Int)=(fieldS (List.replicate n false),0):=by
 unfold newS
 rw [if_pos (rightB_iff.2 ⟨by omega,by omega⟩),Int.toNat_natCast,← field_zeros,fieldT_eq]
theorem fullS_f {n:Nat} (h:n≤4096):fullS (n:Int)=(fieldS (List.replicate n true),0):=by
 unfold fullS
 rw [if_pos (rightB_iff.2 ⟨by omega,by omega⟩),Int.toNat_natCast,← field_ones,fieldT_eq]
theorem valid_fieldS (l:List Bool) (h:l.length≤4096):validF (l.length:Int) (fieldS l)=true:=by
 unfold validF
 rw [(Vf.fieldS (l:=l) rfl).wrong h]; rfl
def ofTo (m:Nat) (l:List Int):List Nat:=l.foldl (fun b i=>bitStep b i.toNat) (List.replicate (longN m) 0)
theorem take_snocI {l:List Int} {i:Nat} {x:Int} (h:l[i]?=some x):l.take (i+1)=l.take i++[x]:=by
 rw [List.take_add_one,h]; rfl
theorem ofTo_snoc {m:Nat} {l:List Int} {i:Nat} {x:Int} (h:l[i]?=some x):ofTo m (l.take (i+1))=bitStep (ofTo m (l.take i)) x.toNat:=by
 unfold ofTo
 rw [take_snocI h,List.foldl_append]; rfl
theorem bitStep_len (b:List Nat) (i:Nat):(bitStep b i).length=b.length:=by unfold bitStep; rw [List.length_set]
theorem ofTo_len (m:Nat) (l:List Int):(ofTo m l).length=longN m:=by
 unfold ofTo
 suffices h:∀ b:List Nat,(l.foldl (fun b i=>bitStep b i.toNat) b).length=b.length by rw [h,List.length_replicate]
 induction l with
 | nil=>exact fun _=>rfl
 | cons a l ih=>exact fun b=>by rw [List.foldl_cons,ih,bitStep_len]
theorem ofTo_lt (m:Nat) (l:List Int):∀ x∈ofTo m l,x<256:=by
 unfold ofTo
 suffices h:∀ b:List Nat,(∀ x∈b,x<256)→∀ x∈l.foldl (fun b i=>bitStep b i.toNat) b,x<256 from h _ (zeros_lt _)
 induction l with
 | nil=>exact fun _ h=>h
 | cons a l ih=>exact fun b h=>ih _ (bitStep_lt h _)
theorem bit_step {b:List Nat} (h:∀ x∈b,x<256) {i j:Nat} (hi:i / 8<b.length):bitA (nbS (bitStep b i)) j=(decide (j=i) || bitA (nbS b) j):=by
 rw [bitA_test,bitA_test,bt_nb (bitStep_lt h i),bt_nb h]
 unfold bitStep
 rw [getD_set hi]
 by_cases hk:j / 8=i / 8
 · rw [if_pos hk,hk,Nat.testBit_or,pow_shift (by omega),Nat.testBit_two_pow,Bool.or_comm]
   congr 1
   rw [decide_eq_decide]; omega
 · rw [if_neg hk,decide_eq_false (by omega:¬ j=i)]; rfl
theorem ofTo_bit {m:Nat}:∀ (l:List Int),(∀ i∈l,0≤i∧i<(m:Int))→∀ j:Nat,bitA (nbS (ofTo m l)) j=decide ((j:Int)∈l):=by
 intro l hl j
 have hn:longN m=(m+7) / 8:=rfl
 suffices h:∀ (l:List Int) (b:List Nat),(∀ x∈b,x<256)→b.length=longN m→(∀ i∈l,0≤i∧i<(m:Int))→bitA (nbS (l.foldl (fun b i=>bitStep b i.toNat) b)) j=(decide ((j:Int)∈l) || bitA (nbS b) j) by
   have:=h l _ (zeros_lt (longN m)) List.length_replicate hl
   unfold ofTo
   rw [this,bit_zeros,Bool.or_false]
 intro l
 induction l with
 | nil=>intro b _ _ _; simp
 | cons a l ih =>
   intro b hb hbl hl
   have ha:=hl a List.mem_cons_self
   rw [List.foldl_cons,ih _ (bitStep_lt hb _) (by rw [bitStep_len]; exact hbl) fun i hi=>hl i (List.mem_cons_of_mem _ hi),bit_step hb (by omega)]
   have e:decide (j=a.toNat)=decide ((j:Int)=a):=by rw [decide_eq_decide]; omega
   rw [e]
   by_cases h1:(j:Int)=a <;> by_cases h2:(j:Int)∈l <;> simp [h1,h2]
def trueIdx (l:List Bool):List Int:=((List.range l.length).filter fun i=>l.getD i false).map fun (i:Nat)=>(i:Int)
theorem mem_trueIdx {l:List Bool} {j:Nat}:(j:Int)∈trueIdx l ↔ l.getD j false=true:=by
 unfold trueIdx
 rw [List.mem_map]
 constructor
 · rintro ⟨i,hi,e⟩
   have:i=j:=by omega
   subst this
   exact (List.mem_filter.1 hi).2
 · intro h
   refine ⟨j,List.mem_filter.2 ⟨List.mem_range.2 ?_,h⟩,rfl⟩
   by_cases hj:j<l.length
   · exact hj
   · rw [getD_out (by omega)] at h; cases h
theorem trueIdx_in {l:List Bool}:∀ i∈trueIdx l,0≤i∧i<(l.length:Int):=fun i hi=>by
 obtain ⟨j,hj,rfl⟩:=List.mem_map.1 hi
 have:=List.mem_range.1 (List.mem_filter.1 hj).1
 omega
theorem trueIdx_nodup (l:List Bool):(trueIdx l).Nodup:=by
 unfold trueIdx
 exact List.pairwise_map.2 ((List.nodup_range.filter _).imp fun h e=>h (by omega))
theorem ofTo_field (l:List Bool):nbS (ofTo l.length (trueIdx l))=fieldS l:=by
 refine bits_ext (by rw [nbS_size,ofTo_len,fieldS_size]; rfl) fun j hj=>?_
 rw [nbS_size,ofTo_len] at hj
 rw [ofTo_bit _ trueIdx_in,fieldS_bit hj]
 cases hb:l.getD j false with
 | true=>exact decide_eq_true (mem_trueIdx.2 hb)
 | false=>exact decide_eq_false fun h=>by rw [mem_trueIdx.1 h] at hb; cases hb
end Go.Proofs.YthmmfhdpkddniaaGreatDoor
