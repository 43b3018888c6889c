import Derived.Test.YthmmfhdpkddniaaGreatDoorXd
set_option maxRecDepth 20000
set_option maxHeartbeats 4000000
set_option linter.all false
namespace Go.Proofs.YthmmfhdpkddniaaGreatDoor
open Go.RowKit
theorem Rz (l:List Int) (p:Option Addr) (n c:Nat) (x:Int) (hn:n≤9223372036854775807)  (w:World) (hr:bz w p n c 1 (fl cg l)):Calls Tryz.prog 110 #[.slice p n c,vI x] w fun e w'=>∃ k:Int,e=.returned (vI k)∧(0≤k ↔ x∈l)∧S w' [aB w no]:=by
 have H0:=S.old w
 have hnl:=hr.lenL bE
 refine en Tryz.func110 ?_
 refine ah [0,1] ?_
 refine cS ?_
 refine cQ (ι:=Nat) (fun i=>[(0,.slice p n c),(1,vI x),(7,vI n),(8,vI i)]) (fun i wx=>(i≤n)∧(∀ y∈l.take i,¬ x=y)∧S wx [aB w no]) (fun i=>n - i) (0) ⟨Nat.zero_le _,(fun y hy=>by simp at hy),H0⟩ ?_
 rintro i H6 ⟨hi,hno,H2⟩
 refine ah [0,1,7,8] ?_
 refine aC ?_
 refine g_seq ?_
 by_cases H5:((i:Int):Int)<(n:Int)
 ·
  refine bm H5 ?_
  refine jG ?_
  refine w_v (iH i (H2.exReads (k:=0) rfl hr (fun _ _ _ h=>h))) ?_
  obtain ⟨x4,H4⟩:=(H2.exReads (k:=0) rfl hr (fun _ _ _ h=>h)).exL bE i
  refine w_v (nX i (H2.exReads (k:=0) rfl hr (fun _ _ _ h=>h)) (bE.flAt1 H4 rfl)) ?_
  refine ae ?_
  by_cases H3:(x:Int)=x4
  ·
   refine bm H3 ?_
   refine aE ?_
   refine ah [4] ?_
   refine a_ ?_
   refine af ?_
   exact ⟨_,rfl,⟨fun _=>by rw [H3]; exact Pu H4,fun _=>by omega⟩,H2.tk [0]⟩
  refine br H3 ?_
  refine aE ?_
  refine gI i ?_
  refine ae ?_
  refine bD (i:=(i)) ((i+1)) ⟨by omega,(d6 hno H4 H3),H2⟩
 refine br H5 ?_
 refine eG ?_
 refine af ?_
 rw [List.take_of_length_le (by omega)] at hno
 exact ⟨_,rfl,⟨fun h=>absurd h (by decide),fun h=>absurd rfl (hno x h)⟩,H2.tk [0]⟩
theorem Ho (l:List Int) (p:Option Addr) (n c:Nat) (x:Int) (hn:n≤9223372036854775807)  (w:World) (hr:bz w p n c 1 (fl cg l)):Calls Tryz.prog 51 #[.slice p n c,vI x] w fun e w'=>e=.returned (.bool (decide (x∈l)))∧S w' [aB w no]:=by
 have H0:=S.old w
 refine en Tryz.func51 ?_
 refine ah [0,1] ?_
 refine a_ ?_
 refine l_of (aG (Rz l p n c x hn _ (H0.exReads (k:=0) rfl hr (fun _ _ _ h=>h))) ?_)
 rintro _ H3 ⟨k,rfl,hk,H2⟩
 replace H2:=H0.ab0 H2
 refine bW ?_
 refine aE ?_
 refine af ?_
 exact ⟨by rw [decide_eq_decide.2 hk]; rfl,H2.tk [0]⟩
theorem ID (l:List Int) (p:Option Addr) (n c:Nat) (hn:n≤9223372036854775807) (q:Int→Bool) (gc:Nat) (fi ca:Array Value) (X:aD) (D:Int→Prop) (hq:kg Tryz.prog gc fi ca X (fun x:Int=>[vI x]) (fun x=>.bool (q x)) D) (hD:∀ x∈l,D x)  (w:World) (HS:S w [X]) (hr:bz w p n c 1 (fl cg l)) (hap:AH w X p n c 1 (fl cg l)):Calls Tryz.prog 134 #[.slice p n c,.func (.func gc) fi ca] w fun e w'=>e=.returned (vI (Jv q l))∧S w' ([X]++[aB w (aT [X])]):=by
 have H0:=HS.beginI
 have hn2:=hr.lenL bE
 refine en Tryz.func134 ?_
 refine ah [0,1] ?_
 refine cS ?_
 refine cQ (ι:=Nat) (fun i=>[(0,.slice p n c),(1,.func (.func gc) fi ca),(7,vI n),(8,vI i)]) (fun i wx=>(i≤n)∧(∀ y∈l.take i,q y=false)∧S wx [X,aB w (aT [X])]) (fun i=>n - i) (0) ⟨Nat.zero_le _,(fun y hy=>by simp at hy),H0⟩ ?_
 rintro i H8 ⟨hi,hno,H2⟩
 refine ah [0,1,7,8] ?_
 refine aC ?_
 refine g_seq ?_
 by_cases H5:((i:Int):Int)<(n:Int)
 ·
  refine bm H5 ?_
  refine jG ?_
  refine w_v (iH i ((hap _ (H2.tk [0,1])))) ?_
  obtain ⟨x4,H4⟩:=((hap _ (H2.tk [0,1]))).exL bE i
  refine w_v (nX i ((hap _ (H2.tk [0,1]))) (bE.flAt1 H4 rfl)) ?_
  refine l_of (bR (bh rfl) (gQ rfl rfl rfl hq.ok) (hq.does x4 (hD _ (List.mem_of_getElem? H4)) _ (H2.tk [0])) ?_)
  rintro _ H7 ⟨rfl,H6⟩
  replace H6:=H2.aI1 [0] H6
  refine bW ?_
  refine cD ?_
  rcases ef (q x4) with H3 | H3
  ·
   refine g_cond_t rfl H3 ?_
   refine aE ?_
   refine ah [4] ?_
   refine a_ ?_
   refine af ?_
   exact ⟨by rw [Oq H4 H3 hno]; rfl,H6.tk [0,1]⟩
  refine g_cond_f rfl H3 ?_
  refine aE ?_
  refine gI i ?_
  refine ae ?_
  refine bD (i:=(i)) ((i+1)) ⟨by omega,(Kg hno H4 H3),H6⟩
 refine br H5 ?_
 refine eG ?_
 refine af ?_
 rw [List.take_of_length_le (by omega)] at hno
 exact ⟨by rw [Oo hno]; rfl,H2.tk [0,1]⟩
theorem O7 (l:List Int) (p:Option Addr) (c:Nat) (hl:l.length≤9223372036854775807) (q:Int→Bool) (gc:Nat) (fi ca:Array Value) (X:aD) (D:Int→Prop) (hq:kg Tryz.prog gc fi ca X (fun x:Int=>[vI x]) (fun x=>.bool (q x)) D) (hD:∀ x∈l,D x)  (w:World) (HS:S w [X,Rw 3 1 p l.length c (fl cg l)]):Calls Tryz.prog 105 #[.slice p l.length c,.func (.func gc) fi ca] w fun e w'=>e=.returned (.slice p (kh q l).length c)∧S w' ([X,Rw 3 1 p ((kh q l).length) c (fl cg (kh q l))]++[aB w (aT [X,Rw 3 1 p l.length c (fl cg l)])]):=by
 have H0:=HS.beginI
 refine en Tryz.func105 ?_
 refine ah [0,1] ?_
 refine a_ ?_
 refine l_of (aG (ID l p l.length c hl q gc fi ca X D hq hD _ (H0.tk [0]) (H0.rr 1) (H0.apartRw (i:=1) (k:=0) rfl rfl (by decide))) ?_)
 rintro _ h7 ⟨rfl,H2⟩
 replace H2:=H0.aI1 [0] H2
 refine bW ?_
 refine cp ?_
 by_cases H6:((Jv q l):Int)=-1
 ·
  refine bm H6 ?_
  refine a_ ?_
  refine af ?_
  have hd:kh q l=l:=Bh (fun y hy=>by cases h9:q y with | false=>rfl | true=>exact absurd (H6) (by unfold Jv; rw [if_pos (List.any_eq_true.2 ⟨y,hy,h9⟩)]; omega))
  exact ⟨by rw [hd]; rfl,by rw [hd]; exact H2.tk [0,1,2]⟩
 obtain ⟨i0,x0,hix,h0,h3,hno⟩:=IA H6
 have hi0:=(List.getElem?_eq_some_iff.1 h0).1
 refine br H6 ?_
 refine aE ?_
 rw [hix]
 refine cJ ?_
 refine bP (v:=vI (((i0+1:Nat):Int))) (hb:=(dq (a:=i0) (b:=1) (by omega))) ?_
 refine aC ?_
 refine cQ (ι:=Nat × Nat × List Int) (fun (i,j,cur)=>[(0,.slice p l.length c),(1,.func (.func gc) fi ca),(5,vI i),(6,vI j)]) (fun (i,j,cur) wx=>(cur.length=l.length)∧(i<j)∧(j≤l.length)∧(cur.take i=kh q (l.take j))∧(cur.drop j=l.drop j)∧S wx [X,Rw 3 1 p l.length c (fl cg cur),aB w (aT [X,Rw 3 1 p l.length c (fl cg l)])]) (fun (i,j,cur)=>l.length - j) (i0,(i0+1),l) ⟨rfl,Nat.lt_succ_self _,(by omega),(Dd h0 h3 hno).symm,rfl,(H2.tk [0,1,2])⟩ ?_
 rintro ⟨i,j,cur⟩ h6 ⟨hcl,hij,hj,hp,hs,H5⟩
 refine ah [0,1,5,6] ?_
 refine cp ?_
 by_cases h1:((j:Int):Int)<(l.length:Int)
 ·
  refine bm h1 ?_
  refine cp ?_
  refine w_v (iH j (H5.rr 1)) ?_
  obtain ⟨x7,H4⟩:=(H5.rr 1).exL bE j
  have hmc:∀ y,cur[j]?=some y→y∈l:=fun y hy=>List.mem_of_getElem? (by rw [← Ah hs]; exact hy)
  have hDc:∀ x∈l,D x:=hD
  refine w_v (nX j (H5.rr 1) (bE.flAt1 H4 rfl)) ?_
  refine aQ ?_
  refine l_of (bR (bh rfl) (gQ rfl rfl rfl hq.ok) (hq.does x7 (hDc x7 (by first | exact List.mem_of_getElem? H4 | exact hmc _ H4)) _ (H5.tk [0])) ?_)
  rintro _ h5 ⟨rfl,H9⟩
  replace H9:=H5.aI1 [0] H9
  refine bW ?_
  refine w_v (cj (b:=q x7) rfl rfl) ?_
  refine cD ?_
  rcases ef (q x7) with H3 | H3
  ·
   refine g_cond_f rfl (aa H3) ?_
   refine aC ?_
   refine ah [0,1,5,6] ?_
   refine ae ?_
   refine bP (v:=vI (((j+1:Nat):Int))) (hb:=(dq (a:=j) (b:=1) (by omega))) ?_
   refine ae ?_
   refine bD (i:=(i,j,cur)) (i,(j+1),cur) ⟨hcl,by omega,by omega,(BF hp hs H4 H3).1,(BF hp hs H4 H3).2,(H9.tk [0,1,2])⟩
  refine g_cond_t rfl (aa H3) ?_
  refine aE ?_
  refine w_v (iH i (H9.rr 1)) ?_
  refine l_of (mH (j:=i) bE x7 H9 1 (bh rfl) rfl rfl rfl rfl rfl rfl si (by omega) ?_)
  intro h2 h4
  refine cD ?_
  refine ah [0,1,5,6] ?_
  refine ae ?_
  refine bP (v:=vI (((i+1:Nat):Int))) (hb:=(dq (a:=i) (b:=1) (by omega))) ?_
  refine a_ ?_
  refine bP (v:=vI (((j+1:Nat):Int))) (hb:=(dq (a:=j) (b:=1) (by omega))) ?_
  refine ae ?_
  refine bD (i:=(i,j,cur)) ((i+1),(j+1),(cur.set i x7)) ⟨(by rw [List.length_set]; exact hcl),by omega,by omega,(EB hcl hij hp hs H4 H3).1,(EB hcl hij hp hs H4 H3).2,(h4.tk [0,1,2])⟩
 refine br h1 ?_
 refine dz ?_
 refine w_v (v:=.slice (kA p i c 1) (l.length - i) (c - i)) (vd i rfl rfl rfl Tryz.underlying59 si (by omega)) ?_
 refine l_of (J2 (i:=i) H5 1 (bh rfl) rfl rfl rfl rfl Tryz.underlying59 Av rfl rfl (by decide) (by omega) ?_)
 intro H8 H7
 replace H7:S H8 [X,Rw 3 1 p i c (fl cg (cur.take i)),aB w (aT [X,Rw 3 1 p l.length c (fl cg l)])]:=by have h9:=H7; rw [← bE.flTake]; exact h9
 refine aE ?_
 have hic:=(H7.rr 1).2.1
 refine w_v (v:=.slice p i c) (aH (ui i rfl rfl rfl Tryz.underlying59 si ⟨rfl,hic⟩) (by rw [DJ])) ?_
 refine ae ?_
 refine ah [4] ?_
 refine aR ?_
 refine af ?_
 have hjl:j=l.length:=by omega
 have hd:kh q l=cur.take i:=by rw [hp,hjl,List.take_length]
 have hdl:(cur.take i).length=i:=by rw [List.length_take]; omega
 exact ⟨by rw [hd,hdl]; rfl,by rw [hd,hdl]; exact H7.tk [0,1,2]⟩
theorem Gc (l:List Int) (a:Addr) (c:Nat) (hm:l.length≤1099511627776)  (w:World) (hr:bz w (some a) l.length c 1 (fl cg l)):Calls Tryz.prog 52 #[.slice (some a) l.length c] w fun e w'=>∃ p' c',e=.returned (.slice p' l.length c')∧S w' ([Rw 3 1 p' l.length c' (fl cg l)]++[aB w no]):=by
 have H0:=S.old w
 refine en Tryz.func52 ?_
 refine ah [0] ?_
 refine a_ ?_
 refine bP (v:=.bool false) (hb:=(j3 (r:=false) Tryz.underlying59 rfl)) ?_
 refine cD ?_
 refine g_cond_f rfl rfl ?_
 refine aC ?_
 refine l_of (mL H0 (bh rfl) rfl rfl rfl Tryz.underlying59 si ?_)
 intro g1 H4 H3
 replace H3:=S.oF bE 0 ([]:List Int) H3
 refine cJ ?_
 have hln8a:=(H3.rr 0).lenL bE
 have hln8b:=(H3.exReads (k:=1) rfl hr (fun _ _ _ h=>h)).lenL bE
 have hln8:l.length=0+l.length:=by omega
 refine l_of (iO (l:=[]) (l2:=l) bE H3 0 (bh rfl) rfl rfl rfl rfl rfl rfl Tryz.underlying59 oe rfl (by decide) (H3.exReads (k:=1) rfl hr (fun _ _ _ h=>h)) (by omega) ?_)
 intro p4 c5 H2 H7
 rw [List.nil_append] at H7 ⊢
 replace H7:S _ [_,_]:=H7
 refine aC ?_
 refine af ?_
 exact ⟨_,_,rfl,H7⟩
theorem Gd (n c:Nat)  (w:World):Calls Tryz.prog 52 #[.slice none n c] w fun e w'=>∃ p' c',e=.returned (.slice p' 0 c')∧S w' ([Rw 3 1 p' 0 c' (fl cg [])]++[aB w no]):=by
 have H0:=S.old w
 refine en Tryz.func52 ?_
 refine ah [0] ?_
 refine a_ ?_
 refine bP (v:=.bool true) (hb:=(j3 (r:=true) Tryz.underlying59 rfl)) ?_
 refine cD ?_
 refine g_cond_t rfl rfl ?_
 refine aQ ?_
 refine af ?_
 exact ⟨none,0,rfl,H0.nilFl 3 1 cg⟩
theorem Lh (l:List Int) (p:Option Addr) (n c:Nat) (hm:l.length≤1099511627776) (w:World) (hr:bz w p n c 1 (fl cg l)):Calls Tryz.prog 52 #[.slice p n c] w fun e w'=>∃ p' c',e=.returned (.slice p' l.length c')∧S w' ([Rw 3 1 p' l.length c' (fl cg l)]++[aB w no]):=by
 have hn:=hr.lenL bE
 subst hn
 cases p with
 | some a=>exact Gc l a c hm w hr
 | none =>
   have h0:l.length=0:=by
     refine Decidable.byContradiction fun hn=>?_
     obtain ⟨a,ha,_⟩:=hr.2.2 (by omega)
     cases ha
   obtain rfl:l=[]:=List.length_eq_zero_iff.1 h0
   exact Gd 0 c w
theorem Ge (l:List aV) (a:Addr) (c:Nat) (hm:l.length≤1099511627776)  (w:World) (hr:bz w (some a) l.length c 3 (fl aO l)):Calls Tryz.prog 84 #[.slice (some a) l.length c] w fun e w'=>∃ p' c',e=.returned (.slice p' l.length c')∧S w' ([Rw 44 3 p' l.length c' (fl aO l)]++[aB w no]):=by
 have H0:=S.old w
 refine en Tryz.func84 ?_
 refine ah [0] ?_
 refine a_ ?_
 refine bP (v:=.bool false) (hb:=(j3 (r:=false) Tryz.underlying35 rfl)) ?_
 refine cD ?_
 refine g_cond_f rfl rfl ?_
 refine aC ?_
 refine l_of (mL H0 (bh rfl) rfl rfl rfl Tryz.underlying35 dE ?_)
 intro g1 H4 H3
 replace H3:=S.oF cN 0 ([]:List aV) H3
 refine cJ ?_
 have hln8a:=(H3.rr 0).lenL cN
 have hln8b:=(H3.exReads (k:=1) rfl hr (fun _ _ _ h=>h)).lenL cN
 have hln8:l.length=0+l.length:=by omega
 refine l_of (iO (l:=[]) (l2:=l) cN H3 0 (bh rfl) rfl rfl rfl rfl rfl rfl Tryz.underlying35 kN rfl (by decide) (H3.exReads (k:=1) rfl hr (fun _ _ _ h=>h)) (by omega) ?_)
 intro p4 c5 H2 H7
 rw [List.nil_append] at H7 ⊢
 replace H7:S _ [_,_]:=H7
 refine aC ?_
 refine af ?_
 exact ⟨_,_,rfl,H7⟩
theorem Gf (n c:Nat)  (w:World):Calls Tryz.prog 84 #[.slice none n c] w fun e w'=>∃ p' c',e=.returned (.slice p' 0 c')∧S w' ([Rw 44 3 p' 0 c' (fl aO [])]++[aB w no]):=by
 have H0:=S.old w
 refine en Tryz.func84 ?_
 refine ah [0] ?_
 refine a_ ?_
 refine bP (v:=.bool true) (hb:=(j3 (r:=true) Tryz.underlying35 rfl)) ?_
 refine cD ?_
 refine g_cond_t rfl rfl ?_
 refine aQ ?_
 refine af ?_
 exact ⟨none,0,rfl,H0.nilFl 44 3 aO⟩
theorem Li (l:List aV) (p:Option Addr) (n c:Nat) (hm:l.length≤1099511627776) (w:World) (hr:bz w p n c 3 (fl aO l)):Calls Tryz.prog 84 #[.slice p n c] w fun e w'=>∃ p' c',e=.returned (.slice p' l.length c')∧S w' ([Rw 44 3 p' l.length c' (fl aO l)]++[aB w no]):=by
 have hn:=hr.lenL cN
 subst hn
 cases p with
 | some a=>exact Ge l a c hm w hr
 | none =>
   have h0:l.length=0:=by
     refine Decidable.byContradiction fun hn=>?_
     obtain ⟨a,ha,_⟩:=hr.2.2 (by omega)
     cases ha
   obtain rfl:l=[]:=List.length_eq_zero_iff.1 h0
   exact Gf 0 c w
theorem Ew:u_ Tryz.prog 103 1=some 1:=by kernel_rfl
theorem Iy (k:Int) (l:List Int):kh (fun x=>decide (x=k)) l=l.filter fun x=>decide (x ≠ k):=by
 unfold kh
 refine List.filter_congr fun x _=>?_
 by_cases h:x=k <;> simp [h]
theorem LN (b5:Nat) (k x:Int)  (w:World) (HS:S w [Ob b5 (.cells #[vI k] 3 (0,0))]):Calls Tryz.prog 106 #[vI x,vP b5] w fun e w'=>e=.returned (.bool (decide (x=k)))∧S w' ([Ob b5 (.cells #[vI k] 3 (0,0))]++[aB w (aT [Ob b5 (.cells #[vI k] 3 (0,0))])]):=by
 have H0:=HS.beginI
 refine en Tryz.func106 ?_
 refine ah [0,1] ?_
 refine cS ?_
 refine af ?_
 exact ⟨rfl,H0.tk [0,1]⟩
theorem LO (b5:Nat) (k:Int):kg Tryz.prog 106 #[] #[.pointer (some ⟨b5,0,none⟩)] (fN [Ob b5 (.cells #[.int .i64 k] 3 (0,0))]) (fun x:Int=>[.int .i64 x]) (fun x=>.bool ((fun x=>decide (x=k)) x)) (fun _=>True):=
 kg.ofBig (by kernel_rfl) fun x _ w HS=>LN b5 k x w HS
theorem wy {j:Nat} {A:PK} (hI:bQ j A) {c:aV} (hc:A.isB c):qE c.at:=jQ hI ⟨hc.1,hc.2.1⟩ hc.2.2
theorem xY {α:Type} {l:List α} (hn:l.Nodup) {i:Nat} {x:α} (hx:l[i]?=some x):x ∉ l.take i:=fun h=>by
 obtain ⟨q,hq⟩:=List.getElem?_of_mem h
 have hl:=(List.getElem?_eq_some_iff.1 hq).1
 rw [List.length_take] at hl
 rw [List.getElem?_take_of_lt (by omega)] at hq
 have:=(List.getElem?_inj (by omega) hn).1 (hq.trans hx.symm)
 omega
theorem wK (X:XP) (A:PK) (j:Nat) (H:List aV) (hX:di X ({ A with here:=H }:PK)) (hI:bQ j A) (hj:j≤100000) (k:Int) (q:Nat) (m:Mt) (hm:X.ms[q]?=some m) (hk:m.k=k) (f:aV→Bool) (gc:Nat) (fi ca:Array Value) (C:aD) (D:aV→Prop) (hq:kg Tryz.prog gc fi ca (fN [C,Ob m.b (.cells #[.string ((fieldS m.fld)),.map (some m.am),.map (some m.sm),.bool m.ch,.bool m.sn,.slice m.ap m.asked.length m.ac] 88 (0,0)),Mp (Value.int .i64) Value.bool cO m.am (cX m.alw),Mp (Value.int .i64) Value.bool cO m.sm (cX m.sug),Rw 44 3 m.ap m.asked.length m.ac (fl aO m.asked)]) (fun x:aV=>[.agg #[vI x.pc,vI x.bg,vI x.ln]]) (fun x=>.bool (f x)) D) (hD:∀ c∈m.asked,D c)  (w:World) (HS:S w [C,X0 X A,X5 X,bM fA X.ms,bM g_ X.bs]):Calls Tryz.prog 43 #[vP X.g,vI k,vP m.b,.func (.func gc) fi ca] w fun e w'=>∃ ap' ac' bs',di ({ X with ms:=(X.ms.set q { m with ap:=ap',ac:=ac',asked:=m.asked.filter fun c=>!f c }),bs:=bs' }:XP) ({ A with asked:=cx A.asked k f,here:=H }:PK)∧∃ p' c',e=.returned (.slice p' (m.asked.filter f).length c')∧S w' ([Rw 44 3 p' (m.asked.filter f).length c' (fl aO (m.asked.filter f)),C,X0 X A,Mp pQ j_ qE X.bg (gZ bs'),(bM fA (X.ms.set q { m with ap:=ap',ac:=ac',asked:=m.asked.filter fun c=>!f c })),(bM g_ bs')]++[aB w (aT [C,X0 X A,X5 X,bM fA X.ms,bM g_ X.bs])]):=by
 have H0:=HS.beginI
 have hn24:=hI.n24
 have hal9:=hI.al
 have hmn:m.asked.Nodup:=by rw [hX.ask m (List.mem_of_getElem? hm)]; exact C6 hI.an _
 have hml9:m.asked.length≤A.asked.length:=by rw [hX.ask m (List.mem_of_getElem? hm)]; exact iK _ _
 replace H0:S _ [_,_,_,_,_,_,_,_,_,_]:=S.unbig (L:=[_,_,_,_]) (S.lstOut (F:=fA) (H0.tk [3,0,1,2,4,5]) hm)
 refine en Tryz.func43 ?_
 refine ah [0,1,2,3] ?_
 refine iF ?_
 refine l_of (fq H0 ?_)
 intro g1 k3 H3
 refine Qc ?_
 refine cQ (ι:=Nat × Option Addr × Nat × List aV × Option Addr × Nat × List aV × List Bk) (fun (i,po,co,ol,pr,cr,rl,bs)=>[(0,vP X.g),(2,vP m.b),(3,.func (.func gc) fi ca),(5,vP g1),(9,.slice po ol.length co),(10,.slice pr rl.length cr),(17,.slice m.ap m.asked.length m.ac),(18,vI m.asked.length),(19,vI i)]) (fun (i,po,co,ol,pr,cr,rl,bs) wx=>(i≤m.asked.length)∧(ol=(m.asked.take i).filter f)∧(rl=(m.asked.take i).filter fun c=>!f c)∧(pV (mh ({ A with here:=H }:PK) k f (m.asked.take i)) bs)∧S wx [Rw 44 3 po ol.length co (fl aO ol),Rw 44 3 pr rl.length cr (fl aO rl),C,X0 X A,Ob m.b (.cells #[.string ((fieldS m.fld)),.map (some m.am),.map (some m.sm),.bool m.ch,.bool m.sn,.slice m.ap m.asked.length m.ac] 88 (0,0)),Mp (Value.int .i64) Value.bool cO m.am (cX m.alw),Mp (Value.int .i64) Value.bool cO m.sm (cX m.sug),Rw 44 3 m.ap m.asked.length m.ac (fl aO m.asked),(bM fA (X.ms.eraseIdx q)),Mp pQ j_ qE X.bg (gZ bs),(bM g_ bs),Ob g1 (.cells #[vI k] 3 (0,0)),aB w (aT [C,X0 X A,X5 X,bM fA X.ms,bM g_ X.bs])]) (fun (i,po,co,ol,pr,cr,rl,bs)=>m.asked.length - i) (0,none,0,[],none,0,[],X.bs) ⟨Nat.zero_le _,rfl,rfl,(by rw [List.take_zero,Jp]; exact hX.bok),((S.nilFl (S.nilFl H3 44 3 aO) 44 3 aO).tk [0,1,8,9,3,4,5,6,7,10,11,2,12])⟩ ?_
 rintro ⟨i,po,co,ol,pr,cr,rl,bs⟩ k2 ⟨hi,hol,hrl,hb,H5⟩
 refine ah [0,2,3,5,9,10,17,18,19] ?_
 have hoz9:ol.length≤m.asked.length:=by rw [hol]; exact Nat.le_trans (List.length_filter_le _ _) (by rw [List.length_take]; exact Nat.min_le_right _ _)
 have hrz9:rl.length≤m.asked.length:=by rw [hrl]; exact Nat.le_trans (List.length_filter_le _ _) (by rw [List.length_take]; exact Nat.min_le_right _ _)
 refine aC ?_
 refine g_seq ?_
 by_cases h7:((i:Int):Int)<(m.asked.length:Int)
 ·
  refine bm h7 ?_
  refine aQ ?_
  refine w_v (iH i (H5.rr 7)) ?_
  obtain ⟨x7,H6⟩:=(H5.rr 7).exL cN i
  refine w_v (bc (vs:=aO x7) i (H5.rr 7) (by omega) rfl rfl Tryz.underlying44 rfl dE (by rfl) (cN.flAt H6)) ?_
  refine l_of (cA H5 gX ?_)
  intro g8 k1 k0
  refine l_of (eu k0 0 ?_)
  intro w8 g9
  refine aE ?_
  refine w_v (fS g9 0) ?_
  have g7:S _ [_,_,_,_,_,_,_,_,_,_]:=S.big (L:=[_,_,_,_,_]) (g9.tk [3,5,6,7,8,0,1,2,4,9,10,11,12,13])
  refine l_of (bR (bh rfl) (gQ rfl rfl rfl hq.ok) (hq.does x7 (hD x7 (List.mem_of_getElem? H6)) _ (g7.tk [0])) ?_)
  rintro _ c9 ⟨rfl,h6⟩
  replace h6:=g7.aI1 [0] h6
  have h1:S _ [_,_,_,_,_,_,_,_,_,_,_,_,_,_]:=S.unbig (h6.tk [0,1,2,3,4,5,6,7,8,9])
  refine bW ?_
  refine w_v (cj (b:=(f x7)) rfl rfl) ?_
  refine cD ?_
  rcases ef ((f x7)) with H2 | H2
  ·
   refine g_cond_f rfl (aa H2) ?_
   refine aE ?_
   refine w_v (fS h1 5) ?_
   refine l_of (fC gX #[vI x7.pc,vI x7.bg,vI x7.ln] h1 ?_)
   intro k5 c8 g6
   have hln25a:=(g6.rr 7).lenL cN
   have hln25:(ol++[x7]).length=ol.length+1:=by simp only [List.length_append,List.length_cons,List.length_nil] <;> omega
   refine l_of (fE kN [x7] cN g6 7 0 ?_)
   intro h2 h3 c7 b9
   refine ae ?_
   refine g_seq ?_
   refine g_aS [] [] b9 (fun c6 H8=>?_)
   refine aU 0 H8 ?_
   refine aU 1 H8 ?_
   refine aU 2 H8 ?_
   refine eY 3 9 H8 ?_
   refine bT 4 rfl H8 (fun _ H=>fS H 6) ?_
   refine bG (i:=5) ?_
   refine cz H8 (sr x7 _) ?_
   intro x9 h0
   refine bF h0 ?_
   refine bT (v:=(pJ ((gZ bs) x7.at))) 6 rfl h0 (fun _ H=>aH (bU (x:=x7.at) jp H 11 rfl rfl rfl rfl ((wy hI (hI.ak _ (show (k,x7)∈A.asked by rw [← hk]; exact gq.1 (by rw [← hX.ask m (List.mem_of_getElem? hm)]; exact List.mem_of_getElem? H6))).2.1)) vw) (rfl)) ?_
   refine bG (i:=7) ?_
   refine iW xa ?_
   refine bF h0 ?_
   refine fP ?_
   refine aR ?_
   refine ah [0,2,3,5,9,10,12,13,17,18,19] ?_
   refine iF ?_
   have hxm9:x7∈m.asked:=List.mem_of_getElem? H6
   have hka9:(k,x7)∈A.asked:=by rw [← hk]; exact gq.1 (by rw [← hX.ask m (List.mem_of_getElem? hm)]; exact hxm9)
   have hcB:A.isB x7:=(hI.ak _ hka9).2.1
   have hIb:bQ j (mh A k f (m.asked.take i)):=BN hI
   have hnl9:x7 ∉ m.asked.take i:=xY hmn H6
   obtain ⟨ir,r,hrx,hrp,hrb,hrf⟩:=hb.get (c:=x7) hcB (B5 (Jr (A:=({ A with here:=H }:PK)) hka9 hnl9))
   have hran:=(hb.ent hcB hrx hrp).2
   rw [hG hrb]
   have b8:S _ [_,_,_,_,_,_,_,_,_,_,_,_,_,_,_,_,_]:=S.unbig (L:=[_,_]) (S.lstOut (F:=g_) (h0.tk [12,0,1,2,3,4,5,6,7,8,9,10,11,13,14]) hrx)
   have hral9:r.asked.length≤1099511627776:=by have h9:=kY (mh ({ A with here:=H }:PK) k f (m.asked.take i)).asked x7; have h8:(mh ({ A with here:=H }:PK) k f (m.asked.take i)).asked.length≤400 * j:=(BN (k:=k) (f:=f) (l:=m.asked.take i) hI).al; rw [hran]; omega
   refine aQ ?_
   refine w_v (h_ rfl rfl rfl) ?_
   have g5:S _ [_,_,_,_,_,_,_,_,_,_,_,_,_,_,_,_,_]:=S.big (L:=[_]) (b8.tk [15,0,1,2,3,4,5,6,7,8,9,10,11,12,13,14,16])
   have hdl34:=O7 r.asked r.ap r.ac (by omega) (fun x=>decide (x=k)) 106 #[] #[vP g1] (fN [Ob g1 (.cells #[vI k] 3 (0,0))]) (fun _=>True) (LO g1 k) (fun _ _=>trivial) _ (g5.tk [0,2])
   rw [Iy] at hdl34
   refine l_of (aG hdl34 ?_)
   rintro _ x8 ⟨rfl,h5⟩
   replace h5:=g5.aI2 [0,2] h5
   have b7:S _ [_,_,_,_,_,_,_,_,_,_,_,_,_,_,_,_,_]:=S.unbig (h5.tk [0,1,2,3,4,5,6,7,8,9,10,11,12,13,14,15,16])
   have hrl8:=List.length_filter_le (fun x=>decide (x ≠ k)) r.asked
   refine bW ?_
   refine ru ?_
   refine l_of (eu b7 2 ?_)
   intro x6 H9
   refine eG ?_
   by_cases H4:(((r.asked.filter fun x=>decide (x ≠ k)).length:Int):Int)=0
   ·
    refine aN (dt H4) xm ?_
    refine aN (dt H4) xn ?_
    refine aN (dt H4) (xf 0) ?_
    refine aN (dt H4) (xl H9 2) ?_
    refine aN (dt H4) (cj (b:=r.here) rfl rfl) ?_
    refine w_v (pt (dt H4)) ?_
    refine cD ?_
    refine ah [0,2,3,5,9,10,12,17,18,19,63] ?_
    rcases ef (r.here) with H7 | H7
    ·
     refine g_cond_f rfl (aa H7) ?_
     refine aE ?_
     refine gI i ?_
     refine ae ?_
     refine bD (i:=(i,po,co,ol,pr,cr,rl,bs)) ((i+1),h2,h3,(ol++[x7]),pr,cr,rl,(bs.set ir ({ r with ap:=r.ap,ac:=r.ac,asked:=r.asked.filter fun x=>decide (x ≠ k) }:Bk))) ⟨by omega,(by rw [aj H6,lO (by rw [H2]),← hol]),(by rw [aj H6,jM (by rw [H2]; decide),← hrl]),(by rw [aj H6,xF H2]; exact Ee (A:=mh ({ A with here:=H }:PK) k f (m.asked.take i)) hIb.an hcB hb hrx hrp r.ap r.ac (fun h9=>by rw [h9.2] at H7; cases H7)),(by rw [vS (r':=({ r with ap:=r.ap,ac:=r.ac,asked:=r.asked.filter fun x=>decide (x ≠ k) }:Bk)) hb.bn hrx rfl rfl]; exact (S.lstIn (F:=g_) (x:=({ r with ap:=r.ap,ac:=r.ac,asked:=r.asked.filter fun x=>decide (x ≠ k) }:Bk)) (S.big (L:=[_,_]) (H9.tk [2,1,3,11,12,5,13,6,7,8,9,14,15,0,16])) (List.getElem?_eq_some_iff.1 hrx).1).tk [1,2,3,4,5,6,7,8,9,10,0,11,12])⟩
    refine g_cond_t rfl (aa H7) ?_
    refine PY [] [10,13] [] [6] H9 (fun x5 g4=>?_)
    refine fu 0 ?_
    refine fu 1 ?_
    refine fu 2 ?_
    have g0:=g4.tk [10,13]
    refine Dw 3 1 g0 ?_
    refine yt 4 rfl g0 (fun _ H=>fS H 0) ?_
    refine sf (i:=5) ?_
    refine cz g4 (sr x7 _) ?_
    intro x4 h4
    refine Ca (h4.tk [10,13]) (h4.tk []) ?_
    refine sf (i:=6) ?_
    refine wW (x:=x7.at) jp h4 15 (bh rfl) rfl rfl rfl rfl rfl ((wy hI (hI.ak _ (show (k,x7)∈A.asked by rw [← hk]; exact gq.1 (by rw [← hX.ask m (List.mem_of_getElem? hm)]; exact List.mem_of_getElem? H6))).2.1)) ?_
    intro x3 g3
    refine sj rfl (g3.tk []) ?_
    refine Cb ?_
    refine aC ?_
    refine gI i ?_
    refine ae ?_
    refine bD (i:=(i,po,co,ol,pr,cr,rl,bs)) ((i+1),h2,h3,(ol++[x7]),pr,cr,rl,(bs.eraseIdx ir)) ⟨by omega,(by rw [aj H6,lO (by rw [H2]),← hol]),(by rw [aj H6,jM (by rw [H2]; decide),← hrl]),(by rw [aj H6,xF H2]; exact FC (A:=mh ({ A with here:=H }:PK) k f (m.asked.take i)) hIb.an hcB hb hrx hrp (List.eq_nil_of_length_eq_zero (by omega)) H7),(by rw [zw hb.bn hrx,hrp]; exact g3.tk [11,12,5,13,6,7,8,9,14,15,3,0,16])⟩
   iterate 5 refine dh (df H4) ?_
   refine w_v (pf (df H4)) ?_
   refine cD ?_
   refine ah [0,2,3,5,9,10,12,17,18,19,63] ?_
   refine g_cond_f rfl rfl ?_
   refine aE ?_
   refine gI i ?_
   refine ae ?_
   refine bD (i:=(i,po,co,ol,pr,cr,rl,bs)) ((i+1),h2,h3,(ol++[x7]),pr,cr,rl,(bs.set ir ({ r with ap:=r.ap,ac:=r.ac,asked:=r.asked.filter fun x=>decide (x ≠ k) }:Bk))) ⟨by omega,(by rw [aj H6,lO (by rw [H2]),← hol]),(by rw [aj H6,jM (by rw [H2]; decide),← hrl]),(by rw [aj H6,xF H2]; exact Ee (A:=mh ({ A with here:=H }:PK) k f (m.asked.take i)) hIb.an hcB hb hrx hrp r.ap r.ac (fun h9=>H4 (by rw [h9.1]; rfl))),(by rw [vS (r':=({ r with ap:=r.ap,ac:=r.ac,asked:=r.asked.filter fun x=>decide (x ≠ k) }:Bk)) hb.bn hrx rfl rfl]; exact (S.lstIn (F:=g_) (x:=({ r with ap:=r.ap,ac:=r.ac,asked:=r.asked.filter fun x=>decide (x ≠ k) }:Bk)) (S.big (L:=[_,_]) (H9.tk [2,1,3,11,12,5,13,6,7,8,9,14,15,0,16])) (List.getElem?_eq_some_iff.1 hrx).1).tk [1,2,3,4,5,6,7,8,9,10,0,11,12])⟩
  refine g_cond_t rfl (aa H2) ?_
  refine ae ?_
  refine w_v (fS h1 5) ?_
  refine l_of (fC gX #[vI x7.pc,vI x7.bg,vI x7.ln] h1 ?_)
  intro k4 x2 g2
  have hln53a:=(g2.rr 8).lenL cN
  have hln53:(rl++[x7]).length=rl.length+1:=by simp only [List.length_append,List.length_cons,List.length_nil] <;> omega
  refine l_of (fE kN [x7] cN g2 8 0 ?_)
  intro w9 b1 x1 b6
  refine ae ?_
  refine ah [0,2,3,5,9,10,17,18,19] ?_
  refine aQ ?_
  refine gI i ?_
  refine ae ?_
  refine bD (i:=(i,po,co,ol,pr,cr,rl,bs)) ((i+1),po,co,ol,w9,b1,(rl++[x7]),bs) ⟨by omega,(by rw [aj H6,jM (by rw [H2]; decide),← hol]),(by rw [aj H6,lO (by rw [H2]; decide),← hrl]),(by rw [aj H6,LX H2]; exact hb),(b6.tk [7,8,1,9,2,3,4,5,10,11,12,13,14])⟩
 refine br h7 ?_
 refine cS ?_
 refine l_of (eu H5 4 ?_)
 intro x0 b2
 refine cD ?_
 refine ah [9] ?_
 refine aQ ?_
 refine af ?_
 rw [List.take_of_length_le (by omega)] at hol hrl hb
 subst hol
 subst hrl
 have hmq:m.asked=bO A.asked k:=by rw [hX.ask m (List.mem_of_getElem? hm),hk]
 have b0:pV ({ A with asked:=cx A.asked k f,here:=H }:PK) bs:=by have h9:pV (mh ({ A with here:=H }:PK) k f (bO A.asked k)) bs:=by { rw [← hmq]; exact hb }; have e9:mh ({ A with here:=H }:PK) k f (bO A.asked k)={ A with asked:=cx A.asked k f,here:=H }:=Js ({ A with here:=H }:PK) k f; rw [e9] at h9; exact h9
 have hnd9:(X.ms.map Mt.k).Nodup:=by rw [hX.ks]; exact hI.nd
 have hL9:=S.lstIn (F:=fA) (x:=({ m with ap:=pr,ac:=cr,asked:=m.asked.filter fun c=>!f c }:Mt)) (S.big (L:=[_,_,_,_]) (b2.tk [4,5,6,1,8,0,2,3,9,10,12])) (List.getElem?_eq_some_iff.1 hm).1
 exact ⟨pr,cr,bs,di.backed (A:=({ A with here:=H }:PK)) hX hnd9 hm hk b0 pr cr,po,co,rfl,hL9.tk [1,2,3,4,0,5,6]⟩
end Go.Proofs.YthmmfhdpkddniaaGreatDoor
