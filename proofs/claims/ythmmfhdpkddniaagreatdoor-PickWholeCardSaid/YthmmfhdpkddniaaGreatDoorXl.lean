import Derived.Test.YthmmfhdpkddniaaGreatDoorFm
import Derived.Test.YthmmfhdpkddniaaGreatDoorXi
import Derived.Test.YthmmfhdpkddniaaGreatDoorOp
set_option maxRecDepth 20000
set_option maxHeartbeats 4000000
set_option linter.unusedSimpArgs false
set_option linter.unusedVariables false
namespace Go.Proofs.YthmmfhdpkddniaaGreatDoor
open Go.RowKit
theorem XOK.ndA {X:XP} {A B:PK} {j:Nat} (hX:XOK X B) (hI:PKI j A) (e:B.peers=A.peers:=by rfl):(X.ms.map Mt.k).Nodup:=by rw [hX.ks,e]; exact hI.nd
abbrev DXj0 (m:Mt):=Ob m.b (.cells #[.string ((fieldS m.fld)),.map (some m.am),.map (some m.sm),.bool m.ch,.bool m.sn,.slice m.ap m.asked.length m.ac] 88 (0,0))
abbrev DXj4 (m:Mt):=[(Big []),DXj0 m,Mp (Value.int .i64) Value.bool okI m.am (bMap m.alw),Mp (Value.int .i64) Value.bool okI m.sm (bMap m.sug),Rw 44 3 m.ap m.asked.length m.ac (fl choL m.asked)]
abbrev DXj5 (x:Cho):Array Value:=#[.int .i64 (x.pc),.int .i64 (x.bg),.int .i64 (x.ln)]
abbrev DXj1 (b:Nat) (c:Cho) (m:Mt):=[Ob b (.cells #[.int .i64 (c.pc),.int .i64 (c.bg),.int .i64 (c.ln)] 44 (0,0)),DXj0 m,Mp (Value.int .i64) Value.bool okI m.am (bMap m.alw),Mp (Value.int .i64) Value.bool okI m.sm (bMap m.sug),Rw 44 3 m.ap m.asked.length m.ac (fl choL m.asked)]
theorem here1_s (m:Mt) (b:Nat) (c:Cho) (x:Cho)  (w:World) (HS:S w (DXj1 b c m)):Calls Tryz.prog 53 #[.agg (DXj5 x),.pointer (some ⟨b,0,none⟩)] w fun e w'=>e=.returned (.bool ((fun x:Cho=>decide (x=c)) x))∧S w' ((DXj1 b c m)++[Old w (fps (DXj1 b c m))]):=by
 have H0:=HS.beginI
 refine enter 7 Tryz.func53 rfl rfl rfl ?_
 refine g_wk [(0,_),(1,_)] ?_
 refine w_s ?_
 refine l_of (s_box H0 (wt0 rfl) rfl rfl rfl rfl ?_)
 intro g1 wq2 H3
 refine w_k3 ?_
 refine w_v (v:=.agg (DXj5 x)) (x_loadA H3 0 rfl rfl Tryz.underlying44 rfl sz44 rfl rfl rfl) ?_
 refine w_v (v:=.agg #[.int .i64 (c.pc),.int .i64 (c.bg),.int .i64 (c.ln)]) (x_loadA H3 1 rfl rfl Tryz.underlying44 rfl sz44 rfl rfl rfl) ?_
 refine w_b (v:=.bool (decide (x=c))) (hb:=(b_choE x c)) ?_
 refine w_k3 ?_
 refine fin_r [.tmp 3] [.bool (decide (x=c))] ?_
 exact ⟨rfl,H3.tk [1,2,3,4,5,6]⟩
theorem here1_f (b:Nat) (m:Mt) (c:Cho):FunC Tryz.prog 53 #[] #[.pointer (some ⟨b,0,none⟩)] (Big [Ob b (.cells #[.int .i64 (c.pc),.int .i64 (c.bg),.int .i64 (c.ln)] 44 (0,0)),Ob m.b (.cells #[.string ((fieldS m.fld)),.map (some m.am),.map (some m.sm),.bool m.ch,.bool m.sn,.slice m.ap m.asked.length m.ac] 88 (0,0)),Mp (Value.int .i64) Value.bool okI m.am (bMap m.alw),Mp (Value.int .i64) Value.bool okI m.sm (bMap m.sug),Rw 44 3 m.ap m.asked.length m.ac (fl choL m.asked)]) (fun x:Cho=>[.agg #[.int .i64 x.pc,.int .i64 x.bg,.int .i64 x.ln]]) (fun x=>.bool ((fun x:Cho=>decide (x=c)) x)) (fun _:Cho=>True):=
 FunC.ofBig (by kernel_rfl) fun x hx w HS=>here1_s m b c x w HS
abbrev DXj3 (b:Nat) (i:Int) (m:Mt):=[Ob b (.cells #[.int .i64 i] 3 (0,0)),DXj0 m,Mp (Value.int .i64) Value.bool okI m.am (bMap m.alw),Mp (Value.int .i64) Value.bool okI m.sm (bMap m.sug),Rw 44 3 m.ap m.asked.length m.ac (fl choL m.asked)]
theorem clear1_s (m:Mt) (b:Nat) (i:Int) (x:Cho)  (w:World) (HS:S w (DXj3 b i m)):Calls Tryz.prog 111 #[.agg (DXj5 x),.pointer (some ⟨b,0,none⟩)] w fun e w'=>e=.returned (.bool ((fun c:Cho=>decide (c.pc=i)) x))∧S w' ((DXj3 b i m)++[Old w (fps (DXj3 b i m))]):=by
 have H0:=HS.beginI
 refine enter 8 Tryz.func111 rfl rfl rfl ?_
 refine g_wk [(0,_),(1,_)] ?_
 refine w_s ?_
 refine l_of (s_box H0 (wt0 rfl) rfl rfl rfl rfl ?_)
 intro g1 wq2 H3
 refine w_k10 ?_
 refine fin_r [.tmp 3] [.bool (decide ((x.pc:Int)=i))] ?_
 exact ⟨rfl,H3.tk [1,2,3,4,5,6]⟩
theorem clear1_f (b:Nat) (m:Mt) (i:Int):FunC Tryz.prog 111 #[] #[.pointer (some ⟨b,0,none⟩)] (Big [Ob b (.cells #[.int .i64 i] 3 (0,0)),Ob m.b (.cells #[.string ((fieldS m.fld)),.map (some m.am),.map (some m.sm),.bool m.ch,.bool m.sn,.slice m.ap m.asked.length m.ac] 88 (0,0)),Mp (Value.int .i64) Value.bool okI m.am (bMap m.alw),Mp (Value.int .i64) Value.bool okI m.sm (bMap m.sug),Rw 44 3 m.ap m.asked.length m.ac (fl choL m.asked)]) (fun x:Cho=>[.agg #[.int .i64 x.pc,.int .i64 x.bg,.int .i64 x.ln]]) (fun x=>.bool ((fun c:Cho=>decide (c.pc=i)) x)) (fun _:Cho=>True):=
 FunC.ofBig (by kernel_rfl) fun x hx w HS=>clear1_s m b i x w HS
abbrev DXj2 (b:Nat) (m:Mt):=[Ob b (.cells #[.pointer (some ⟨m.b,0,none⟩)] 79 (0,0)),DXj0 m,Mp (Value.int .i64) Value.bool okI m.am (bMap m.alw),Mp (Value.int .i64) Value.bool okI m.sm (bMap m.sug),Rw 44 3 m.ap m.asked.length m.ac (fl choL m.asked)]
theorem choke1_s (m:Mt) (b:Nat) (x:Cho) (hx:0≤x.pc∧x.pc≤100)  (w:World) (HS:S w (DXj2 b m)):Calls Tryz.prog 44 #[.agg (DXj5 x),.pointer (some ⟨b,0,none⟩)] w fun e w'=>e=.returned (.bool ((fun c:Cho=>!bitAt m.alw c.pc) x))∧S w' ((DXj2 b m)++[Old w (fps (DXj2 b m))]):=by
 have H0:=HS.beginI
 refine enter 12 Tryz.func44 rfl rfl rfl ?_
 refine g_wk [(0,_),(1,_)] ?_
 refine w_s ?_
 refine l_of (s_box H0 (wt0 rfl) rfl rfl rfl rfl ?_)
 intro g1 wq2 H3
 refine w_k2 ?_
 refine g_seq ?_
 refine g_any [] (fun wx=>S wx [Ob g1 (.cells (DXj5 x) 44 (0,0)),Ob b (.cells #[.pointer (some ⟨m.b,0,none⟩)] 79 (0,0)),DXj0 m,Mp (Value.int .i64) Value.bool okI m.am (bMap m.alw),Mp (Value.int .i64) Value.bool okI m.sm (bMap m.sug),Rw 44 3 m.ap m.asked.length m.ac (fl choL m.asked),Old w (fps (DXj2 b m))]) [] (by kernel_rfl) H3 (fun wq4 H5=>?_)
 refine w_t 0 rfl H5 (fun _ H=>xl H 1) ?_
 refine w_t 1 rfl H5 (fun _ _=>xn) ?_
 refine w_t 2 rfl H5 (fun _ _=>xf 1) ?_
 refine w_t 3 rfl H5 (fun _ H=>xl H 2) ?_
 refine w_t 4 rfl H5 (fun _ _=>xf 0) ?_
 refine w_t 5 rfl H5 (fun _ H=>xl H 0) ?_
 refine w_t (v:=.bool ((bitAt m.alw x.pc))) 6 rfl H5 (fun _ H=>ex_cast (x_lookup1 (x:=x.pc) (intTy Tryz.underlying86 Tryz.underlying3) H 3 rfl rfl rfl rfl (⟨by omega,by omega⟩) ze4) (by rw [look_B,bMap_get (by omega)])) ?_
 refine w_t (v:=.bool (!((bitAt m.alw x.pc)))) 7 rfl H5 (fun _ _=>x_not (b:=(bitAt m.alw x.pc)) rfl rfl) ?_
 refine a_one (i:=8) (by kernel_rfl) rfl ?_
 refine s_v xa ?_
 refine a_k H5 ?_
 refine a_done (by kernel_rfl) ?_
 refine w_k2 ?_
 refine fin_r [.tmp 3] [.bool (!((bitAt m.alw x.pc)))] ?_
 exact ⟨rfl,H5.tk [1,2,3,4,5,6]⟩
theorem choke1_f (b:Nat) (m:Mt):FunC Tryz.prog 44 #[] #[.pointer (some ⟨b,0,none⟩)] (Big [Ob b (.cells #[.pointer (some ⟨m.b,0,none⟩)] 79 (0,0)),Ob m.b (.cells #[.string ((fieldS m.fld)),.map (some m.am),.map (some m.sm),.bool m.ch,.bool m.sn,.slice m.ap m.asked.length m.ac] 88 (0,0)),Mp (Value.int .i64) Value.bool okI m.am (bMap m.alw),Mp (Value.int .i64) Value.bool okI m.sm (bMap m.sug),Rw 44 3 m.ap m.asked.length m.ac (fl choL m.asked)]) (fun x:Cho=>[.agg #[.int .i64 x.pc,.int .i64 x.bg,.int .i64 x.ln]]) (fun x=>.bool ((fun c:Cho=>!bitAt m.alw c.pc) x)) (fun c:Cho=>0≤c.pc∧c.pc≤100):=
 FunC.ofBig (by kernel_rfl) fun x hx w HS=>choke1_s m b x hx w HS
theorem nodup_le {α:Type} [DecidableEq α]:∀ {l m:List α},l.Nodup→(∀ x∈l,x∈m)→l.length≤m.length
 | [],_,_,_=>Nat.zero_le _
 | x :: l,m,hn,hm=>by
   have hx:=hm x List.mem_cons_self
   have h1:=List.nodup_cons.1 hn
   have h2:=nodup_le (l:=l) (m:=m.erase x) h1.2 fun y hy=>(List.mem_erase_of_ne (show y ≠ x from fun e=>h1.1 (e ▸ hy))).2 (hm y (List.mem_cons_of_mem _ hy))
   have h3:=List.length_erase_of_mem hx
   have h4:=List.length_pos_of_mem hx
   rw [List.length_cons]
   omega
theorem nodup_len {α:Type} [DecidableEq α] {l m:List α} (h1:l.Nodup) (h2:m.Nodup) (h:∀ x,x∈l ↔ x∈m):l.length=m.length:=
 Nat.le_antisymm (nodup_le h1 fun x hx=>(h x).1 hx) (nodup_le h2 fun x hx=>(h x).2 hx)
def PK.leftL (A:PK):List Cho:=(idxs A.n).flatMap fun i=>(A.blocks i).filter fun c=>A.openB i && !decide (c∈A.here)
theorem leftL_len (A:PK):A.leftL.length=A.leftN:=by
 unfold PK.leftL PK.leftN
 rw [List.length_flatMap]
 congr 1
 refine List.map_congr_left fun i _=>?_
 unfold PK.leftI
 by_cases h:A.openB i=true
 · rw [if_pos h,h]
   simp only [Bool.true_and]
 · rw [if_neg h]
   have h:A.openB i=false:=by simpa using h
   rw [h]
   simp
theorem mem_leftL {A:PK} {c:Cho}:c∈A.leftL ↔ A.isB c∧A.openB c.pc=true∧c ∉ A.here:=by
 unfold PK.leftL
 rw [mem_flat (q:=fun i c=>A.openB i && !decide (c∈A.here)),mem_idxs]
 simp only [Bool.and_eq_true,Bool.not_eq_eq_eq_not,Bool.not_true,decide_eq_false_iff_not]
 exact ⟨fun ⟨h1,h2,h3⟩=>⟨⟨h1.1,h1.2,h2⟩,h3⟩,fun ⟨h1,h3⟩=>⟨⟨h1.1,h1.2.1⟩,h1.2.2,h3⟩⟩
theorem leftL_nodup (A:PK):A.leftL.Nodup:=flat_blocks (idxs_nodup _) fun i c=>A.openB i && !decide (c∈A.here)
section
variable {A:PK} {j:Nat} {k most:Int} {c:Cho}
theorem ofL_asks {al:AL} {k:Int}:∀ {x:List Cho},x.Nodup→∀ c,ofL (al++x.map fun c=>(k,c)) c=if c∈x then insK k (ofL al c) else ofL al c:=by
 have key:∀ (m:Nat) (x:List Cho),x.length=m→x.Nodup→∀ c,ofL (al++x.map fun c=>(k,c)) c=if c∈x then insK k (ofL al c) else ofL al c:=by
   intro m
   induction m with
   | zero=>intro x hx _ c; rw [List.eq_nil_of_length_eq_zero hx,if_neg List.not_mem_nil]; simp
   | succ m ih =>
     intro x hx hn c
     obtain ⟨y,d,rfl⟩:∃ y d,x=y++[d]:=⟨x.dropLast,x.getLast (by intro e; rw [e] at hx; cases hx),(List.dropLast_concat_getLast _).symm⟩
     have h1:=List.nodup_append.1 hn
     have ih:=ih y (by simpa using hx) h1.1 c
     rw [List.map_append,← List.append_assoc]
     show ofL (_++[(k,d)]) c=_
     rw [ofL_snoc,ih]
     by_cases e:d=c
     · subst e
       rw [if_pos rfl,if_neg (fun h=>h1.2.2 _ h _ (List.mem_singleton.2 rfl) rfl),if_pos (by simp)]
     · rw [if_neg e]
       by_cases h2:c∈y
       · rw [if_pos h2,if_pos (List.mem_append_left _ h2)]
       · rw [if_neg h2,if_neg]
         intro h3
         rcases List.mem_append.1 h3 with h3 | h3
         · exact h2 h3
         · exact e (List.mem_singleton.1 h3).symm
 exact fun {x} hn c=>key _ x rfl hn c
def cntA (al:AL) (c:Cho) (ks:List Int):Nat:=(ks.map fun k=>(mine al k).count c).sum
def PK.frees (A:PK):List Cho:=(idxs A.n).flatMap A.freeL
def PK.othB (A:PK) (k:Int) (c:Cho):Bool:=(ofL A.asked c).any fun x=>decide (x ≠ k)
end
theorem cl43:callable Tryz.prog 43=true:=by kernel_rfl
theorem XOK.left {Y:XP} {B:PK} {j q:Nat} {m:Mt} {k:Int} (hY:XOK Y B) (hI:PKI j B) (hq:Y.ms[q]?=some m) (hk:m.k=k):XOK { Y with ms:=Y.ms.eraseIdx q } { B with peers:=B.peers.filter fun p=>decide (p.k ≠ k) }:=by
 refine ⟨?_,fun x hx=>hY.ask x (List.mem_of_mem_eraseIdx hx),hY.bn,hY.bf⟩
 show (Y.ms.eraseIdx q).map Mt.pe=B.peers.filter fun p=>decide (p.k ≠ k)
 rw [map_eraseR,hY.ms,erase_filter hI.nd (hY.at hq)]
 show B.peers.filter (fun p=>decide (p.k ≠ m.k))=_
 rw [hk]
abbrev DXk0 (X:XP) (A:PK):=Ob X.g (.cells #[.map (some X.mg),.int .i64 ((A.n:Int)),.int .i64 ((A.pz:Int)),.int .i64 ((A.la:Int)),.string (A.seed),.bool A.ino,.slice X.hp A.had.length X.hc,.slice X.wp A.wish.length X.wc,.map (some X.bg)] 85 (0,0))
abbrev DXk2 (X:XP) (A:PK):=Rw 40 2 X.wp A.wish.length X.wc (fl wisL A.wish)
abbrev DXk3 (X:XP) (A:PK):=Rw 4 1 X.hp A.had.length X.hc (fl boolL A.had)
abbrev DXk1 (c:Cho):Array Value:=#[.int .i64 (c.pc),.int .i64 (c.bg),.int .i64 (c.ln)]
theorem alwB_is {A:PK} {j:Nat} (hI:PKI j A) {i:Nat} {p:Pee} (h:A.peers[i]?=some p) (c:Cho):A.alwB p.k c=bitAt p.alw c.pc:=by
 unfold PK.alwB
 rw [fndP_at hI.nd h]
abbrev DXl0 (X:XP) (A:PK):=Ob X.g (.cells #[.map (some X.mg),.int .i64 ((A.n:Int)),.int .i64 ((A.pz:Int)),.int .i64 ((A.la:Int)),.string (A.seed),.bool A.ino,.slice X.hp A.had.length X.hc,.slice X.wp A.wish.length X.wc,.map (some X.bg)] 85 (0,0))
theorem choke_x (X:XP) (A:PK) (j:Nat) (hX:XOK X A) (hI:PKI j A) (k:Int) (ch kp:Bool) (hj:j≤100000)  (w:World) (HS:S w [(XI X A)]):Calls Tryz.prog 14 #[.pointer (some ⟨X.g,0,none⟩),.int .i64 k,.bool ch,.bool kp] w fun e w'=>∃ (Y:XP),Y.g=X.g∧XOK Y (A.chokeA k ch kp)∧∃ p' c',e=.returned (.tuple #[.slice p' (A.chokeL k ch kp).length c',.int .i64 (A.peE k)])∧S w' ([Rw 44 3 p' (A.chokeL k ch kp).length c' (fl choL (A.chokeL k ch kp)),(XI Y (A.chokeA k ch kp))]++[Old w (fps [(XI X A)])]):=by
 have H0:=HS.beginI
 have hn24:=hI.n24
 have hn1:=hI.n1
 have hpz1:=hI.pz1
 have hpz2:=hI.pz2
 have hla1:=hI.la1
 have hla2:=hI.la2
 have hadl:=hI.hadl
 have hwl:=hI.wishl
 replace H0:S _ [_,_,_,_,_,_,_,_]:=S.unbig (L:=[_,_,_,_,_,_,_]) H0
 refine enter_d 28 Tryz.func14 rfl rfl rfl ?_
 refine g_wk [(0,_),(1,_),(2,_),(3,_)] ?_
 refine w_s ?_
 refine w_a ?_
 refine l_of (s_alloc H0 (wt0 rfl) rfl rfl rfl ze30 ?_)
 intro g1 wq2 H3
 refine w_k2 ?_
 refine l_of (s_defer (wt0 rfl) rfl (xd_defer rfl rfl rfl) ?_)
 refine w_k4 ?_
 by_cases hb4:(A.peE k)=0
 ·
  have H9:S _ [_,_,_]:=S.big (L:=[_,_,_,_,_,_,_]) (H3.tk [1,2,3,4,5,6,7,0,8])
  refine l_of (s_cl (peer_t X A j hX hI k hb4 _ (H9.tk [0])) ?_)
  rintro _ wq10 ⟨im5,m6,hm7,hk8,rfl,H11⟩
  replace H11:S _ [_,_,_]:=H9.abI (new:=[_]) [0] H11 rfl
  have H12:S _ [_,_,_,_,_,_,_,_,_]:=S.unbig (L:=[_,_,_,_,_,_,_]) (H11.tk [0,1,2])
  refine b_ret rfl rfl ?_
  have H13:S _ [_,_,_,_,_,_,_,_,_,_,_,_,_]:=S.unbig (L:=[_,_,_,_]) (S.lstOut (F:=MtI) (H12.tk [4,0,1,2,3,5,6,7,8]) hm7)
  refine l_of (s_alloc H13 (wt0 rfl) rfl rfl rfl ze79 ?_)
  intro g14 wq15 H16
  refine l_of (w_st #[.pointer (some ⟨m6.b,0,none⟩)] H16 0 ?_)
  intro wq17 H18
  refine w_k6 ?_
  refine l_of (w_st #[.string ((fieldS m6.fld)),.map (some m6.am),.map (some m6.sm),.bool ch,.bool m6.sn,.slice m6.ap m6.asked.length m6.ac] H18 1 ?_)
  intro wq19 H20
  refine w_k4 ?_
  refine w_v (x_not (b:=ch) rfl rfl) ?_
  refine w_m ?_
  rcases Bool.eq_false_or_eq_true (ch) with hb21 | hb21
  ·
   refine w_g (neg_of hb21) xm ?_
   refine w_v (x_pick_f rfl rfl (neg_of hb21) rfl) ?_
   refine w_e ?_
   refine g_wk [(0,_),(1,_),(8,_),(9,_),(10,_),(22,_)] ?_
   rcases Bool.eq_false_or_eq_true (kp) with hb22 | hb22
   ·
    refine g_cond_t rfl hb22 ?_
    refine w_k2 ?_
    refine l_of (w_st #[.int .i64 0] H20 12 ?_)
    intro wq23 H24
    refine w_k3 ?_
    refine fin_dret ?_
    refine gl_step (by simp) cl38 (caughtx_n g1 _) ?_
    rintro _ _ wq25 ⟨⟨rfl,H26⟩,rfl⟩
    replace H26:=H24.ab0 H26
    refine (?_:GL _ _ _ _ _ _ FrameMode.returning _)
    refine gl_ret [.tmp 8,.cell 9 30] [.slice none 0 0,.int .i64 0] rfl ⟨rfl,⟨_,rfl,run_load1 Tryz.underlying30 rfl (H26.cell (k:=12) rfl rfl)⟩,trivial⟩ ?_
    have hL27:=S.lstIn (F:=MtI) (x:=({ m6 with ch:=ch }:Mt)) (S.big (L:=[_,_,_,_]) (H26.tk [1,2,3,4,5,6,7,8,9,10,11,13])) (List.getElem?_eq_some_iff.1 hm7).1
    have hF28:S wq25 [DXl0 X A,Rw 4 1 X.hp A.had.length X.hc (fl boolL A.had),Rw 40 2 X.wp A.wish.length X.wc (fl wisL A.wish),Mp (Value.int .i64) ptV okI X.mg (mtM (X.ms.set im5 ({ m6 with ch:=ch }:Mt))),(Lst MtI (X.ms.set im5 ({ m6 with ch:=ch }:Mt))),Mp plK ptV okP X.bg (bkM X.bs),(Lst BkI X.bs),Old w (fps [(XI X A)])]:=by rw [mtM_set (m':=({ m6 with ch:=ch }:Mt)) (hX.nd hI) hm7 rfl rfl]; exact hL27.tk [1,2,3,4,0,5,6,7]
    have hno:¬ (ch=true∧kp=false):=by simp [hb21,hb22]
    have hL9:A.chokeL k ch kp=[]:=if_neg (fun h9=>hno h9.2)
    have hA9:A.chokeA k ch kp=A.upd k (fun p=>{ p with un:=!ch }):=by unfold PK.chokeA; rw [if_pos hb4,if_neg hno]; rfl
    rw [hL9,hA9,hb4]
    exact ⟨({ X with ms:=X.ms.set im5 ({ m6 with ch:=ch }:Mt) }:XP),rfl,(by rw [← hk8]; exact hX.upM hI hm7 rfl rfl rfl),none,0,rfl,((S.big (L:=[_,_,_,_,_,_,_]) hF28).tk [0,1]).nilFl 44 3 choL⟩
   ·
    refine g_cond_f rfl hb22 ?_
    refine w_k3 ?_
    have H29:=S.lstIn (F:=MtI) (x:=({ m6 with ch:=ch }:Mt)) (S.big (L:=[_,_,_,_]) (H20.tk [1,2,3,4,5,0,6,7,8,9,10,11,12,13])) (List.getElem?_eq_some_iff.1 hm7).1
    have H30:S wq19 [(Lst MtI (X.ms.set im5 ({ m6 with ch:=ch }:Mt))),Ob g14 (.cells #[.pointer (some ⟨({ m6 with ch:=ch }:Mt).b,0,none⟩)] 79 (0,0)),DXl0 X A,Rw 4 1 X.hp A.had.length X.hc (fl boolL A.had),Rw 40 2 X.wp A.wish.length X.wc (fl wisL A.wish),Mp (Value.int .i64) ptV okI X.mg (mtM (X.ms.set im5 ({ m6 with ch:=ch }:Mt))),Mp plK ptV okP X.bg (bkM X.bs),(Lst BkI X.bs),Ob g1 (.cells #[.int .i64 0] 30 (0,0)),Old w (fps [(XI X A)])]:=by rw [mtM_set (m':=({ m6 with ch:=ch }:Mt)) (hX.nd hI) hm7 rfl rfl]; exact H29
    have hX1:XOK ({ X with ms:=(X.ms.set im5 ({ m6 with ch:=ch }:Mt)) }:XP) (A.upd k (fun p=>{ p with un:=!ch })):=by rw [← hk8]; exact hX.upM hI hm7 rfl rfl rfl
    have hI1:PKI j (A.upd k (fun p=>{ p with un:=!ch })):=hI.upd k (fun p=>rfl) fun p hp=>hI.fl p hp
    have hmq1:(X.ms.set im5 ({ m6 with ch:=ch }:Mt))[im5]?=some ({ m6 with ch:=ch }:Mt):=List.getElem?_set_self (List.getElem?_eq_some_iff.1 hm7).1
    have hmD:∀ c∈m6.asked,0≤c.pc∧c.pc≤100:=fun c hc=>by have h9:=(hI.ak _ (mem_mine.1 (by rw [← hX.ask m6 (List.mem_of_getElem? hm7)]; exact hc))).2.1; exact ⟨h9.1,by have h8:c.pc<(A.n:Int):=h9.2.1; omega⟩
    refine w_k3 ?_
    refine w_v (x_makeFunc rfl rfl rfl) ?_
    refine l_of (s_cl (back_x ({ X with ms:=(X.ms.set im5 ({ m6 with ch:=ch }:Mt)) }:XP) (A.upd k (fun p=>{ p with un:=!ch })) j ((A.upd k (fun p=>{ p with un:=!ch })).here) hX1 hI1 (by omega) k im5 ({ m6 with ch:=ch }:Mt) hmq1 hk8 (fun c:Cho=>!bitAt ({ m6 with ch:=ch }:Mt).alw c.pc) 44 #[] #[.pointer (some ⟨g14,0,none⟩)] (Ob g14 (.cells #[.pointer (some ⟨({ m6 with ch:=ch }:Mt).b,0,none⟩)] 79 (0,0))) (fun c:Cho=>0≤c.pc∧c.pc≤100) (choke1_f g14 ({ m6 with ch:=ch }:Mt)) hmD _ (H30.tk [1,2,6,0,7])) ?_)
    rintro _ wq37 ⟨ap31,ac32,bs33,hY34,po35,co36,rfl,H38⟩
    replace H38:S _ [_,_,_,_,_,_,_,_,_,_,_]:=H30.abI (new:=[_,_,_,_,_,_]) [1,2,6,0,7] H38 rfl
    have hol9:(({ m6 with ch:=ch }:Mt).asked.filter (fun c:Cho=>!bitAt ({ m6 with ch:=ch }:Mt).alw c.pc)).length≤({ m6 with ch:=ch }:Mt).asked.length:=List.length_filter_le _ _
    have H39:S wq37 [Rw 44 3 po35 ((({ m6 with ch:=ch }:Mt).asked.filter (fun c:Cho=>!bitAt ({ m6 with ch:=ch }:Mt).alw c.pc)).length) co36 (fl choL (({ m6 with ch:=ch }:Mt).asked.filter (fun c:Cho=>!bitAt ({ m6 with ch:=ch }:Mt).alw c.pc))),Ob g14 (.cells #[.pointer (some ⟨({ m6 with ch:=ch }:Mt).b,0,none⟩)] 79 (0,0)),DXl0 X A,Mp plK ptV okP X.bg (bkM bs33),(Lst MtI ((X.ms.set im5 ({ m6 with ch:=ch }:Mt)).set im5 ({ ({ m6 with ch:=ch }:Mt) with ap:=ap31,ac:=ac32,asked:=({ m6 with ch:=ch }:Mt).asked.filter fun y9=>!(fun c:Cho=>!bitAt ({ m6 with ch:=ch }:Mt).alw c.pc) y9 }:Mt))),(Lst BkI bs33),Rw 4 1 X.hp A.had.length X.hc (fl boolL A.had),Rw 40 2 X.wp A.wish.length X.wc (fl wisL A.wish),Mp (Value.int .i64) ptV okI X.mg (mtM ((X.ms.set im5 ({ m6 with ch:=ch }:Mt)).set im5 ({ ({ m6 with ch:=ch }:Mt) with ap:=ap31,ac:=ac32,asked:=({ m6 with ch:=ch }:Mt).asked.filter fun y9=>!(fun c:Cho=>!bitAt ({ m6 with ch:=ch }:Mt).alw c.pc) y9 }:Mt))),Ob g1 (.cells #[.int .i64 0] 30 (0,0)),Old w (fps [(XI X A)])]:=by rw [mtM_set (m':=({ ({ m6 with ch:=ch }:Mt) with ap:=ap31,ac:=ac32,asked:=({ m6 with ch:=ch }:Mt).asked.filter fun y9=>!(fun c:Cho=>!bitAt ({ m6 with ch:=ch }:Mt).alw c.pc) y9 }:Mt)) (XOK.ndA hX1 hI1) hmq1 rfl rfl]; exact H38
    refine b_ret rfl rfl ?_
    refine w_a ?_
    refine l_of (w_st #[.int .i64 0] H39 9 ?_)
    intro wq40 H41
    refine w_k2 ?_
    refine fin_dret ?_
    refine gl_step (by simp) cl38 (caughtx_n g1 _) ?_
    rintro _ _ wq42 ⟨⟨rfl,H43⟩,rfl⟩
    replace H43:=H41.ab0 H43
    refine (?_:GL _ _ _ _ _ _ FrameMode.returning _)
    refine gl_ret [.tmp 8,.cell 9 30] [.slice po35 ((({ m6 with ch:=ch }:Mt).asked.filter (fun c:Cho=>!bitAt ({ m6 with ch:=ch }:Mt).alw c.pc)).length) co36,.int .i64 0] rfl ⟨rfl,⟨_,rfl,run_load1 Tryz.underlying30 rfl (H43.cell (k:=9) rfl rfl)⟩,trivial⟩ ?_
    have hyes:ch=true∧kp=false:=by simp [hb21,hb22]
    have hf9:(fun c=>!A.alwB k c)=(fun c:Cho=>!bitAt m6.alw c.pc):=by funext c; rw [← hk8,show m6.k=m6.pe.k from rfl,alwB_is hI (hX.at hm7)]; rfl
    have hL9:A.chokeL k ch kp=m6.asked.filter (fun c:Cho=>!bitAt m6.alw c.pc):=by unfold PK.chokeL; rw [if_pos ⟨hb4,hyes⟩,hf9,hX.ask m6 (List.mem_of_getElem? hm7),hk8]
    have hA9:A.chokeA k ch kp={ A.upd k (fun p=>{ p with un:=!ch }) with asked:=delQ A.asked k (fun c:Cho=>!bitAt m6.alw c.pc) }:=by unfold PK.chokeA; rw [if_pos hb4,if_pos hyes,hf9]
    rw [hL9,hA9,hb4]
    exact ⟨({ X with ms:=((X.ms.set im5 ({ m6 with ch:=ch }:Mt)).set im5 ({ ({ m6 with ch:=ch }:Mt) with ap:=ap31,ac:=ac32,asked:=({ m6 with ch:=ch }:Mt).asked.filter fun y9=>!(fun c:Cho=>!bitAt ({ m6 with ch:=ch }:Mt).alw c.pc) y9 }:Mt)),bs:=bs33 }:XP),rfl,hY34,_,_,rfl,(S.big (L:=[_,_,_,_,_,_,_]) (H43.tk [2,6,7,8,4,3,5,0,10])).tk [1,0,2]⟩
  ·
   refine w_n (neg_of hb21) ?_
   refine w_v (x_pick_t rfl rfl (neg_of hb21) rfl) ?_
   refine w_e ?_
   refine g_wk [(0,_),(1,_),(8,_),(9,_),(10,_),(22,_)] ?_
   refine g_cond_t rfl rfl ?_
   refine w_k2 ?_
   refine l_of (w_st #[.int .i64 0] H20 12 ?_)
   intro wq44 H45
   refine w_k3 ?_
   refine fin_dret ?_
   refine gl_step (by simp) cl38 (caughtx_n g1 _) ?_
   rintro _ _ wq46 ⟨⟨rfl,H47⟩,rfl⟩
   replace H47:=H45.ab0 H47
   refine (?_:GL _ _ _ _ _ _ FrameMode.returning _)
   refine gl_ret [.tmp 8,.cell 9 30] [.slice none 0 0,.int .i64 0] rfl ⟨rfl,⟨_,rfl,run_load1 Tryz.underlying30 rfl (H47.cell (k:=12) rfl rfl)⟩,trivial⟩ ?_
   have hL48:=S.lstIn (F:=MtI) (x:=({ m6 with ch:=ch }:Mt)) (S.big (L:=[_,_,_,_]) (H47.tk [1,2,3,4,5,6,7,8,9,10,11,13])) (List.getElem?_eq_some_iff.1 hm7).1
   have hF49:S wq46 [DXl0 X A,Rw 4 1 X.hp A.had.length X.hc (fl boolL A.had),Rw 40 2 X.wp A.wish.length X.wc (fl wisL A.wish),Mp (Value.int .i64) ptV okI X.mg (mtM (X.ms.set im5 ({ m6 with ch:=ch }:Mt))),(Lst MtI (X.ms.set im5 ({ m6 with ch:=ch }:Mt))),Mp plK ptV okP X.bg (bkM X.bs),(Lst BkI X.bs),Old w (fps [(XI X A)])]:=by rw [mtM_set (m':=({ m6 with ch:=ch }:Mt)) (hX.nd hI) hm7 rfl rfl]; exact hL48.tk [1,2,3,4,0,5,6,7]
   have hno:¬ (ch=true∧kp=false):=by simp [hb21]
   have hL9:A.chokeL k ch kp=[]:=if_neg (fun h9=>hno h9.2)
   have hA9:A.chokeA k ch kp=A.upd k (fun p=>{ p with un:=!ch }):=by unfold PK.chokeA; rw [if_pos hb4,if_neg hno]; rfl
   rw [hL9,hA9,hb4]
   exact ⟨({ X with ms:=X.ms.set im5 ({ m6 with ch:=ch }:Mt) }:XP),rfl,(by rw [← hk8]; exact hX.upM hI hm7 rfl rfl rfl),none,0,rfl,((S.big (L:=[_,_,_,_,_,_,_]) hF49).tk [0,1]).nilFl 44 3 choL⟩
 ·
  have H50:S _ [_,_,_]:=S.big (L:=[_,_,_,_,_,_,_]) (H3.tk [1,2,3,4,5,6,7,0,8])
  refine l_of (s_cl (peer_f X A j hX hI k hb4 _ (H50.tk [0])) ?_)
  rintro _ wq51 ⟨rfl,H52⟩
  replace H52:S _ [_,_,_]:=H50.abI (new:=[_]) [0] H52 rfl
  have H53:S _ [_,_,_,_,_,_,_,_,_]:=S.unbig (L:=[_,_,_,_,_,_,_]) (H52.tk [0,1,2])
  refine b_panic ?_
  refine g_then_panic ?_
  refine fin_dpanic ?_
  refine gl_step (by simp) cl38 (caughtx_p g1 (A.peE k) (0) [] _ (H53.ob (k:=7) rfl)) ?_
  rintro _ _ wq54 ⟨⟨rfl,H55⟩,rfl⟩
  replace H55:S wq54 [Ob g1 (.cells #[.int .i64 ((A.peE k))] 30 (0,0)),DXl0 X A,Rw 4 1 X.hp A.had.length X.hc (fl boolL A.had),Rw 40 2 X.wp A.wish.length X.wc (fl wisL A.wish),Mp (Value.int .i64) ptV okI X.mg (mtM X.ms),(Lst MtI X.ms),Mp plK ptV okP X.bg (bkM X.bs),(Lst BkI X.bs),Old w (fps [(XI X A)])]:=H53.absorbK (new:=[Ob g1 (.cells #[.int .i64 ((A.peE k))] 30 (0,0))]) [7] (by intro g hg; rw [List.mem_singleton] at hg; subst hg; exact ⟨7,rfl,_,rfl,rfl⟩) H55
  refine (?_:GL _ _ _ _ _ _ FrameMode.returning _)
  refine gl_ret [.tmp 8,.cell 9 30] [.slice none 0 0,.int .i64 ((A.peE k))] rfl ⟨rfl,⟨_,rfl,run_load1 Tryz.underlying30 rfl (H55.cell (k:=0) rfl rfl)⟩,trivial⟩ ?_
  have hL9:A.chokeL k ch kp=[]:=if_neg (fun h9=>hb4 h9.1)
  have hA9:A.chokeA k ch kp=A:=if_neg hb4
  rw [hL9,hA9]
  exact ⟨X,rfl,hX,none,0,rfl,((S.big (L:=[_,_,_,_,_,_,_]) (H55.tk [1,2,3,4,5,6,7,8])).tk [0,1]).nilFl 44 3 choL⟩
end Go.Proofs.YthmmfhdpkddniaaGreatDoor
