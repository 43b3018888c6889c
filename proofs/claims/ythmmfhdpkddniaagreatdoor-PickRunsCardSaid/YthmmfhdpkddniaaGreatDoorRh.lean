import Derived.Test.YthmmfhdpkddniaaGreatDoorRg
set_option maxRecDepth 20000
set_option maxHeartbeats 4000000
set_option linter.all false
namespace Go.Proofs.YthmmfhdpkddniaaGreatDoor
open Go.RowKit
theorem QL:aI Tryz.prog 167=true:=by kernel_rfl
theorem DF:kf Tryz.prog 59=some (some (.slice none 0 0),1,24):=by kernel_rfl
theorem JA:jW Tryz.prog 59=some 1:=by kernel_rfl
theorem MO:tw Tryz.prog 40=some (.agg #[.int .i64 0,.int .i64 0]):=by kernel_rfl
theorem PR:tw Tryz.prog 59=some (.slice none 0 0):=by kernel_rfl
def dm (A:PK) (p:fV) (i:Int):List Int:=
 ([eo (decide (0<A.du i)),A.du i,eo (A.partB i),eo (aF p.sug i),0 - A.lv i]++if A.ino=true then [] else [(A.countV i:Int),o8 A.seed i])++[i]
def rz:List Int→List Int→Bool
 | a :: l,b :: m=>if a=b then rz l m else decide (a<b)
 | _,_=>false
theorem zj (A:PK) (p:fV) (i:Int):(dm A p i).length=if A.ino=true then 6 else 8:=by
 unfold dm
 split <;> rfl
theorem Ip (A:PK) (p:fV) (i k:Int):rz (dm A p i) (dm A p k)=decide (jn (A.keys p) i k<0):=by
 unfold dm PK.keys
 have step:∀ (f:Int→Int) (ks:List (Int→Int)) (l m:List Int),rz l m=decide (jn ks i k<0)→rz (f i :: l) (f k :: m)=decide (jn (f :: ks) i k<0):=fun f ks l m h=>by
   unfold rz jn
   by_cases e:f i=f k
   · rw [if_pos e,if_neg (by omega)]; exact h
   · rw [if_neg e,if_pos (by omega)]
     exact decide_eq_decide.2 (by omega)
 have last:rz [i] [k]=decide (jn [fun i=>i] i k<0):=step (fun i=>i) [] [] [] rfl
 have zero:∀ ks:List (Int→Int),jn ((fun _=>(0:Int)) :: ks) i k=jn ks i k:=fun ks=>by show (if (0:Int) - 0 ≠ 0 then (0:Int) - 0 else jn ks i k)=_; exact if_neg (by decide)
 by_cases hi:A.ino=true
 · simp only [hi,if_true]
   refine step (fun i=>eo (decide (0<A.du i))) _ _ _ (step A.du _ _ _ (step (fun i=>eo (A.partB i)) _ _ _ (step (fun i=>eo (aF p.sug i)) _ _ _ (step (fun i=>0 - A.lv i) _ _ _ ?_))))
   rw [zero,zero]; exact last
 simp only [hi,if_false,Bool.false_eq_true]
 exact step (fun i=>eo (decide (0<A.du i))) _ _ _ (step A.du _ _ _ (step (fun i=>eo (A.partB i)) _ _ _ (step (fun i=>eo (aF p.sug i)) _ _ _ (step (fun i=>0 - A.lv i) _ _ _ (step (fun i=>(A.countV i:Int)) _ _ _ (step (fun i=>o8 A.seed i) _ _ _ last))))))
theorem nN (A:PK) (p:fV) {i k:Int} (h:jn (A.keys p) i k=0):i=k:=by
 have key:∀ ks:List (Int→Int),jn (ks++[fun i=>i]) i k=0→i=k:=by
   intro ks
   induction ks with
   | nil =>
     intro h
     have h:(if i - k ≠ 0 then i - k else (0:Int))=0:=h
     split at h <;> omega
   | cons f ks ih =>
     intro h
     have h:(if f i - f k ≠ 0 then f i - f k else jn (ks++[fun i=>i]) i k)=0:=h
     split at h
     · omega
     · exact ih h
 exact key [_,_,_,_,_,_,_] h
theorem zc {A:PK} {i:Int} (h:aF A.had i=false):A.parR i=A.partB i:=by
 unfold PK.parR PK.partB PK.freeL
 rw [h]
 show (true && _)=_
 rw [Bool.true_and,Bool.eq_iff_iff,decide_eq_true_eq,List.length_filter_lt_length_iff_exists,List.any_eq_true]
 simp
theorem yb {c:Int→Int→Int} (W:Wk c) {o:List Int} {x:Int} {a:Nat} (hs:o.Pairwise fun p q=>c p q<0) (h1:∀ y∈o.take a,c y x<0) (h2:a=o.length∨∃ y,o[a]?=some y∧¬ c y x<0) (hx:∀ y∈o,c y x ≠ 0):(o.take a++([x]++o.drop a)).Pairwise fun p q=>c p q<0:=by
 have hd:∀ y∈o.drop a,c x y<0:=by
   intro y hy
   rcases h2 with rfl | ⟨z,hz,hn⟩
   · rw [List.drop_length] at hy; cases hy
   · have hxz:c x z<0:=by
       have e1:=hx z (List.mem_of_getElem? hz)
       have e2:=W.anti x z
       have e3:=W.anti z x
       omega
     obtain ⟨i,hi⟩:=List.getElem?_of_mem hy
     rw [List.getElem?_drop] at hi
     rcases Nat.eq_zero_or_pos i with h0 | h0
     · subst h0
       rw [Nat.add_zero,hz] at hi; cases hi; exact hxz
     obtain ⟨p1,p2⟩:=List.getElem?_eq_some_iff.1 hz
     obtain ⟨p3,p4⟩:=List.getElem?_eq_some_iff.1 hi
     have:=List.pairwise_iff_getElem.1 hs a (a+i) p1 p3 (by omega)
     rw [p2,p4] at this
     exact W.lt1 hxz (by omega)
 refine List.pairwise_append.2 ⟨hs.sublist (List.take_sublist ..),List.pairwise_cons.2 ⟨hd,hs.sublist (List.drop_sublist ..)⟩,fun p hp q hq=>?_⟩
 have hp1:=h1 p hp
 rcases List.mem_cons.1 hq with rfl | hq
 · exact hp1
 exact W.lt1 hp1 (by have:=hd q hq; omega)
theorem Bm {o l:List Int} {x:Int} {a:Nat} (h:o.Perm l):(o.take a++([x]++o.drop a)).Perm (l++[x]):=by
 refine List.Perm.trans ?_ (List.perm_append_comm (l₁:=[x]) (l₂:=l))
 show (o.take a++(x :: o.drop a)).Perm (x :: l)
 refine List.perm_middle.trans (.cons _ ?_)
 rw [List.take_append_drop]; exact h
theorem Ni {c:Int→Int→Int} (h:Wk c) (d:Int) {l:List Int} (hl:l.length<40):(srt d c l).Pairwise fun a b=>c a b≤0:=by
 unfold srt
 rw [List.pairwise_map]
 exact (qB h hl).imp fun {a b} hab=>by
   rcases hab with hab | ⟨hab,_⟩ <;> omega
theorem EI {A:PK} {p:fV} (hn:A.n≤24) {o:List Int} (hp:o.Perm (A.candL p)) (hs:o.Pairwise fun a b=>jn (A.keys p) a b<0):o=A.cand p:=by
 have W:=kZ (A.keys p)
 have h2:=Ni W 0 (l:=A.candL p) (by have:=u6 A p; omega)
 unfold PK.cand
 refine List.Perm.eq_of_pairwise (le:=fun a b=>jn (A.keys p) a b≤0) (fun a b _ _ h1 h2=>?_) (hs.imp fun h=>by omega) h2 (hp.trans (qn _ _ _).symm)
 have e1:=W.anti a b
 have e2:=W.anti b a
 exact nN A p (by omega)
theorem FN {l m:List Int} {i:Nat} (h:l.take i=m.take i) (hl:i≤l.length) (hm:i≤m.length):rz l m=rz (l.drop i) (m.drop i):=by
 induction i generalizing l m with
 | zero=>rfl
 | succ i ih =>
   cases l with
   | nil=>simp at hl
   | cons a l =>
     cases m with
     | nil=>simp at hm
     | cons b m =>
       simp only [List.take_succ_cons,List.cons.injEq] at h
       obtain ⟨rfl,h⟩:=h
       show (if a=a then rz l m else decide (a<a))=rz (l.drop i) (m.drop i)
       rw [if_pos rfl]
       exact ih h (by simpa using hl) (by simpa using hm)
theorem Ko {l m:List Int} {i:Nat} {x y:Int} (h:l.take i=m.take i) (hx:l[i]?=some x) (hy:m[i]?=some y) (hn:¬ x=y):rz l m=decide (x<y):=by
 obtain ⟨h1,h2⟩:=List.getElem?_eq_some_iff.1 hx
 obtain ⟨h3,h4⟩:=List.getElem?_eq_some_iff.1 hy
 rw [FN h (by omega) (by omega),List.drop_eq_getElem_cons h1,List.drop_eq_getElem_cons h3,h2,h4]
 show (if x=y then _ else decide (x<y))=_
 rw [if_neg hn]
theorem FM (l:List Int):rz l l=false:=by
 induction l with
 | nil=>rfl
 | cons a l ih =>
   show (if a=a then rz l l else decide (a<a))=false
   rw [if_pos rfl]; exact ih
theorem GM (b:Bool)  (w:World):Calls Tryz.prog 175 #[.bool b] w fun e w'=>e=.returned (vI (eo b))∧S w' [aB w no]:=by
 have H0:=S.old w
 refine en Tryz.func175 ?_
 refine ah [0] ?_
 refine cp ?_
 rcases ef (b) with H2 | H2
 ·
  refine g_cond_t rfl H2 ?_
  refine aQ ?_
  refine af ?_
  exact ⟨by unfold eo; rw [if_pos (by simp [H2])]; rfl,H0.tk [0]⟩
 refine g_cond_f rfl H2 ?_
 refine a_ ?_
 refine af ?_
 exact ⟨by unfold eo; rw [if_neg (by simp [H2])]; rfl,H0.tk [0]⟩
theorem Oc (l k:List Int) (hlk:l.length=k.length∧l.length≤100) (p:Option Addr) (n c:Nat) (pm:Option Addr) (m d:Nat)  (w:World) (hr:bz w p n c 1 (fl cg l)) (hq:bz w pm m d 1 (fl cg k)):Calls Tryz.prog 167 #[.slice p n c,.slice pm m d] w fun e w'=>e=.returned (.bool (rz l k))∧S w' [aB w no]:=by
 have H0:=S.old w
 have hnl:=hr.lenL bE
 have hml:=hq.lenL bE
 refine en Tryz.func167 ?_
 refine ah [0,1] ?_
 refine cS ?_
 refine cQ (ι:=Nat) (fun i=>[(0,.slice p n c),(1,.slice pm m d),(7,vI n),(8,vI i)]) (fun i wx=>(i≤n)∧(l.take i=k.take i)∧S wx [aB w no]) (fun i=>n - i) (0) ⟨Nat.zero_le _,rfl,H0⟩ ?_
 rintro i h1 ⟨hi,heq,H2⟩
 refine ah [0,1,7,8] ?_
 refine aC ?_
 refine g_seq ?_
 by_cases H6:((i:Int):Int)<(n:Int)
 ·
  refine bm H6 ?_
  refine dz ?_
  refine g_seq ?_
  refine oP (by kernel_rfl) (by kernel_rfl) H2 ?_
  iterate 2 refine kJ (fun _ _=>xm) ?_
  refine kJ (fun _ _=>eZ i ((H2.exReads (k:=0) rfl hr (fun _ _ _ h=>h)).some (by omega))) ?_
  obtain ⟨x4,H4⟩:=(H2.exReads (k:=0) rfl hr (fun _ _ _ h=>h)).exL bE i
  refine kJ (fun _ H=>nX i (H.exReads (k:=0) rfl hr (fun _ _ _ h=>h)) (bE.flAt1 H4 rfl)) ?_
  iterate 2 refine kJ (fun _ _=>xm) ?_
  refine kJ (fun _ _=>eZ i ((H2.exReads (k:=0) rfl hq (fun _ _ _ h=>h)).some (by omega))) ?_
  obtain ⟨x5,H3⟩:=(H2.exReads (k:=0) rfl hq (fun _ _ _ h=>h)).exL bE i
  refine kJ (fun _ H=>nX i (H.exReads (k:=0) rfl hq (fun _ _ _ h=>h)) (bE.flAt1 H3 rfl)) ?_
  refine kJ (fun _ _=>ai rfl rfl rfl eh) ?_
  refine tG (fun h0 H7=>?_)
  refine aR ?_
  by_cases H5:(x4:Int)=x5
  ·
   refine kw H5 ?_
   refine aC ?_
   refine ah [0,1,7,8] ?_
   refine aR ?_
   refine gI i ?_
   refine ae ?_
   refine bD (i:=(i)) ((i+1)) ⟨by omega,(by rw [aj H4,aj H3,heq,H5]),H7⟩
  refine mX H5 ?_
  refine g_seq ?_
  refine oP (by kernel_rfl) (by kernel_rfl) H7 ?_
  iterate 2 refine kJ (fun _ _=>xm) ?_
  refine kJ (fun _ _=>eZ i ((H7.exReads (k:=0) rfl hr (fun _ _ _ h=>h)).some (by omega))) ?_
  refine kJ (fun _ H=>nX i (H.exReads (k:=0) rfl hr (fun _ _ _ h=>h)) (bE.flAt1 H4 rfl)) ?_
  iterate 2 refine kJ (fun _ _=>xm) ?_
  refine kJ (fun _ _=>eZ i ((H7.exReads (k:=0) rfl hq (fun _ _ _ h=>h)).some (by omega))) ?_
  refine kJ (fun _ H=>nX i (H.exReads (k:=0) rfl hq (fun _ _ _ h=>h)) (bE.flAt1 H3 rfl)) ?_
  refine kJ (fun _ _=>ai rfl rfl rfl dG) ?_
  refine kJ (fun _ _=>xa) ?_
  refine tG (fun H9 H8=>?_)
  refine aR ?_
  refine ah [4] ?_
  refine a_ ?_
  refine af ?_
  exact ⟨by rw [Ko heq H4 H3 H5]; rfl,H8.tk [0]⟩
 refine br H6 ?_
 refine eG ?_
 refine af ?_
 rw [List.take_of_length_le (by omega),List.take_of_length_le (by omega)] at heq
 exact ⟨by rw [heq,FM]; rfl,H2.tk [0]⟩
theorem Oi (Z:ZP) (A:PK) (j:Nat) (hZ:fU Z A) (hI:bQ j A) (fi:Nat) (fx:Rp) (hfx:Z.rs[fi]?=some fx) (i:Int) (hi:(0≤i∧i<(A.n:Int))∧aF A.had i=false) (hj:j≤100000)  (w:World) (HS:S w [(ZI Z A)]):Calls Tryz.prog 166 #[vP Z.g,.agg #[vI fx.k,.slice fx.fp fx.fld.length fx.fc,.slice fx.ap fx.alw.length fx.ac,.slice fx.sp fx.sug.length fx.sc,.bool fx.un,.bool fx.sn],vI i] w fun e w'=>∃ p' c',e=.returned (.slice p' (dm A fx.pe i).length c')∧S w' ([Rw 3 1 p' (dm A fx.pe i).length c' (fl cg (dm A fx.pe i)),(ZI Z A)]++[aB w (aT [(ZI Z A)])]):=by
 have H0:=HS.bu
 have h8:=hI.a8
 have hfl:=fU.at hZ hfx
 have hln:fx.fld.length=A.n∧fx.alw.length=A.n∧fx.sug.length=A.n:=hI.fl _ (List.mem_of_getElem? hfl)
 have hfi9:=(List.getElem?_eq_some_iff.1 hfx).1
 obtain ⟨hi,hhi⟩:=hi
 refine en Tryz.func166 ?_
 refine ah [0,1,2] ?_
 refine iF ?_
 refine l_of (fq H0 ?_)
 intro g1 b8 H3
 refine dz ?_
 refine w_v (iH ((i).toNat) (H3.rr 3)) ?_
 obtain ⟨x4,H8⟩:=(H3.rr 3).exL lA ((i).toNat)
 have hlv9:A.lv i=x4.lv:=vi H8
 have hdu9:A.du i=x4.du:=wj H8
 have hwr9:=hI.wishr x4 (List.mem_of_getElem? H8)
 refine w_v (bc (vs:=jC x4) ((i).toNat) (H3.rr 3) (by omega) rfl rfl Tryz.underlying40 rfl EW (by rfl) (lA.flAt H8)) ?_
 refine l_of (cA H3 MO ?_)
 intro g5 b6 H7
 refine l_of (eu H7 0 ?_)
 intro b2 H9
 refine cD ?_
 refine g_seq ?_
 refine g_aS [] [] H9 (fun x8 H2=>?_)
 refine aU 0 H2 ?_
 refine eY 1 0 H2 ?_
 refine bT 2 rfl H2 (fun _ _=>ai rfl rfl rfl fK) ?_
 refine aU 4 H2 ?_
 refine eY 5 0 H2 ?_
 refine aU 6 H2 ?_
 refine aU 7 H2 ?_
 refine aU 10 H2 ?_
 refine eY 11 1 H2 ?_
 refine aU 12 H2 ?_
 refine bT (v:=.pointer ((fx.sp).map fun q=>q.add (((i).toNat) * 1))) 13 rfl H2 (fun _ _=>eZ ((i).toNat) ((H2.rdS (k:=8) rfl hfx).some (by omega))) ?_
 obtain ⟨H4,H6⟩:=(H2.rdS (k:=8) rfl hfx).exL cP ((i).toNat)
 have hsu9:aF fx.pe.sug i=H4:=gv H6
 refine bT (v:=.bool H4) 14 rfl H2 (fun _ H=>nX ((i).toNat) (H.rdS (k:=8) rfl hfx) (cP.flAt1 H6 rfl)) ?_
 refine aU 16 H2 ?_
 refine eY 17 0 H2 ?_
 refine bT (v:=vI (0 - x4.lv)) 18 rfl H2 (fun _ _=>Mj rfl rfl (jD (by omega))) ?_
 refine bG (i:=3) ?_
 refine aG (GM (decide ((0:Int)<x4.du)) _) ?_
 rintro _ x7 ⟨rfl,h3⟩
 replace h3:=H2.ab0 h3
 have hb10q13:=CG (decide ((0:Int)<x4.du))
 refine bW ?_
 refine bF h3 ?_
 refine bG (i:=8) ?_
 refine fZ h3 [2,3,4,5,6,7,8,0,1,9] (NQ Z A j hZ hI i (by omega) (by omega) _) ?_
 intro x6 g4
 refine bF (g4.tk [7,8,0,1,2,3,4,5,6,9]) ?_
 refine bG (i:=9) ?_
 refine aG (GM (A.parR i) _) ?_
 rintro _ x5 ⟨rfl,h2⟩
 replace h2:=g4.ab0 h2
 have hb10q20:=CG (A.parR i)
 refine bW ?_
 refine bF (h2.tk [7,8,0,1,2,3,4,5,6,9]) ?_
 refine bG (i:=15) ?_
 refine aG (GM H4 _) ?_
 rintro _ x3 ⟨rfl,h1⟩
 replace h1:=h2.ab0 h1
 have hb10q23:=CG H4
 refine bW ?_
 refine bF (h1.tk [7,8,0,1,2,3,4,5,6,9]) ?_
 refine bG (i:=19) ?_
 refine fC Av #[vI ((eo (decide ((0:Int)<x4.du)))),vI x4.du,vI ((eo (A.parR i))),vI ((eo H4)),vI (0 - x4.lv)] h1 ?_
 intro h7 x2 h0
 refine bF (h0.tk [8,9,1,2,3,4,5,6,7,10]) ?_
 refine aU 20 (h0.tk [8,9,1,2,3,4,5,6,7,10]) ?_
 refine fP ?_
 refine aR ?_
 refine ah [0,2,8] ?_
 refine a_ ?_
 refine w_v (cj (b:=A.ino) rfl rfl) ?_
 refine cD ?_
 rcases ef (A.ino) with H5 | H5
 ·
  refine g_cond_f rfl (aa H5) ?_
  refine aQ ?_
  refine l_of (fC Av #[vI i] h0 ?_)
  intro c6 h5 b1
  have g3:S h5 [Ob c6 (.cells #[.int .i64 i] 3 (0,0)),Rw 3 1 (some ⟨h7,0,none⟩) 5 5 (fl cg ([(eo (decide ((0:Int)<x4.du))),x4.du,(eo (A.parR i)),(eo H4),0 - x4.lv])),Ob Z.g (.cells #[.int .i64 ((A.n:Int)),.int .i64 ((A.pz:Int)),.int .i64 ((A.la:Int)),.string (A.seed),.bool A.ino,.slice Z.hp A.had.length Z.hc,.slice Z.wp A.wish.length Z.wc,.slice Z.ep A.here.length Z.ec,.slice Z.ap A.asked.length Z.ac,.slice Z.pp Z.rs.length Z.pc] 97 (0,0)),Rw 4 1 Z.hp A.had.length Z.hc (fl cG A.had),Rw 40 2 Z.wp A.wish.length Z.wc (fl jC A.wish),Rw 44 3 Z.ep A.here.length Z.ec (fl aO A.here),Rw 150 4 Z.ap A.asked.length Z.ac (fl askL A.asked),Rw 125 6 Z.pp Z.rs.length Z.pc (fl mQ Z.rs),(bM gW Z.rs),Ob g5 (.cells #[.int .i64 (x4.lv),.int .i64 (x4.du)] 40 (0,0)),Ob g1 (.cells #[.int .i64 (fx.k),.slice fx.fp fx.fld.length fx.fc,.slice fx.ap fx.alw.length fx.ac,.slice fx.sp fx.sug.length fx.sc,.bool fx.un,.bool fx.sn] 125 (0,0)),aB w (aT [(ZI Z A)])]:=S.obFl bE b1 (k:=1) rfl rfl (by decide) rfl
  have hln38a:=(g3.rr 1).lenL bE
  have hln38:([(eo (decide ((0:Int)<x4.du))),x4.du,(eo (A.parR i)),(eo H4),0 - x4.lv]++[i]).length=5+1:=by simp only [List.length_append,List.length_cons,List.length_nil] <;> omega
  refine l_of (fE oe [i] bE g3 1 0 ?_)
  intro k1 k5 x1 b0
  refine ae ?_
  refine ah [6] ?_
  refine aR ?_
  refine af ?_
  have hpp9:=zc (A:=A) hhi
  have hV:(dm A fx.pe i)=([(eo (decide ((0:Int)<x4.du))),x4.du,(eo (A.parR i)),(eo H4),0 - x4.lv]++[i]):=by unfold dm; rw [← hpp9]; simp [H5,hlv9,hdu9,hsu9]
  rw [hV]
  exact ⟨_,_,rfl,((S.big (L:=[_,_,_,_,_,_,_]) (b0.tk [2,3,4,5,6,7,8,1,11])).tk [1,0,2])⟩
 refine g_cond_t rfl (aa H5) ?_
 refine aC ?_
 have g2:=h0.b7 [1,2,3,4,5,6,7,0,8,9,10]
 refine l_of (aG (F_ Z A j hZ hI i (by omega) _ (g2.tk [0])) ?_)
 rintro _ x0 ⟨rfl,h6⟩
 replace h6:=g2.aI1 [0] h6
 have hcv9:=A.countV_le i
 have w9:=h6.ub [0,1,2,3,4]
 refine bW ?_
 refine a_ ?_
 refine ah [0,2,8,9] ?_
 refine a_ ?_
 refine l_of (cz w9 (O0 A.seed i hI.sd (by omega) (by omega) _) ?_)
 intro g9 w8
 refine cS ?_
 refine l_of (fC Av #[vI ((A.countV i:Int)),vI ((o8 A.seed i))] w8 ?_)
 intro x9 h4 c9
 have g0:S h4 [Ob x9 (.cells #[.int .i64 ((A.countV i:Int)),.int .i64 ((o8 A.seed i))] 3 (0,0)),Ob Z.g (.cells #[.int .i64 ((A.n:Int)),.int .i64 ((A.pz:Int)),.int .i64 ((A.la:Int)),.string (A.seed),.bool A.ino,.slice Z.hp A.had.length Z.hc,.slice Z.wp A.wish.length Z.wc,.slice Z.ep A.here.length Z.ec,.slice Z.ap A.asked.length Z.ac,.slice Z.pp Z.rs.length Z.pc] 97 (0,0)),Rw 4 1 Z.hp A.had.length Z.hc (fl cG A.had),Rw 40 2 Z.wp A.wish.length Z.wc (fl jC A.wish),Rw 44 3 Z.ep A.here.length Z.ec (fl aO A.here),Rw 150 4 Z.ap A.asked.length Z.ac (fl askL A.asked),Rw 125 6 Z.pp Z.rs.length Z.pc (fl mQ Z.rs),(bM gW Z.rs),Rw 3 1 (some ⟨h7,0,none⟩) 5 5 (fl cg ([(eo (decide ((0:Int)<x4.du))),x4.du,(eo (A.parR i)),(eo H4),0 - x4.lv])),Ob g5 (.cells #[.int .i64 (x4.lv),.int .i64 (x4.du)] 40 (0,0)),Ob g1 (.cells #[.int .i64 (fx.k),.slice fx.fp fx.fld.length fx.fc,.slice fx.ap fx.alw.length fx.ac,.slice fx.sp fx.sug.length fx.sc,.bool fx.un,.bool fx.sn] 125 (0,0)),aB w (aT [(ZI Z A)])]:=S.obFl bE c9 (k:=8) rfl rfl (by decide) rfl
 have hln53a:=(g0.rr 8).lenL bE
 have hln53:([(eo (decide ((0:Int)<x4.du))),x4.du,(eo (A.parR i)),(eo H4),0 - x4.lv]++[(A.countV i:Int),(o8 A.seed i)]).length=5+2:=by simp only [List.length_append,List.length_cons,List.length_nil] <;> omega
 refine l_of (t6 (m:=2) (l:=[(eo (decide ((0:Int)<x4.du))),x4.du,(eo (A.parR i)),(eo H4),0 - x4.lv]) (l2:=[(A.countV i:Int),(o8 A.seed i)]) bE g0 8 (j0:=0) rfl rfl ⟨rfl,Nat.le_refl _⟩ (bh rfl) rfl rfl rfl rfl rfl rfl Tryz.underlying59 oe rfl (by decide) (by omega) ?_)
 intro k0 k4 g8 c8
 refine ae ?_
 refine ah [2,8] ?_
 refine aC ?_
 refine l_of (fC Av #[vI i] c8 ?_)
 intro k2 g7 h9
 have hln61a:=(h9.rr 9).lenL bE
 have hln61:(([(eo (decide ((0:Int)<x4.du))),x4.du,(eo (A.parR i)),(eo H4),0 - x4.lv]++[(A.countV i:Int),(o8 A.seed i)])++[i]).length=(([(eo (decide ((0:Int)<x4.du))),x4.du,(eo (A.parR i)),(eo H4),0 - x4.lv]++[(A.countV i:Int),(o8 A.seed i)]).length)+1:=by simp only [List.length_append,List.length_cons,List.length_nil] <;> omega
 refine l_of (fE oe [i] bE h9 9 0 ?_)
 intro b9 k3 g6 c7
 refine aC ?_
 refine af ?_
 have hpp9:=zc (A:=A) hhi
 have hV:(dm A fx.pe i)=(([(eo (decide ((0:Int)<x4.du))),x4.du,(eo (A.parR i)),(eo H4),0 - x4.lv]++[(A.countV i:Int),(o8 A.seed i)])++[i]):=by unfold dm; rw [← hpp9]; simp [H5,hlv9,hdu9,hsu9]
 rw [hV]
 exact ⟨_,_,rfl,((S.big (L:=[_,_,_,_,_,_,_]) (c7.tk [2,3,4,5,6,7,8,9,12])).tk [1,0,2])⟩
theorem LC {A:PK} {p:fV} {k:Nat} {y:Int} (h:y∈((jo A.n).take k).filter (A.candB p)):y<(k:Int):=by
 obtain ⟨i,hi⟩:=List.getElem?_of_mem (List.mem_filter.1 h).1
 have hlt:=(List.getElem?_eq_some_iff.1 hi).1
 rw [List.length_take] at hlt
 have h1:i<k:=by omega
 rw [List.getElem?_take_of_lt h1] at hi
 rw [cK (by rw [je] at hlt; omega)] at hi
 cases hi; omega
theorem Ky {kz:List (Ro Int)} {oz:List Int} {f:Int→List Int} (h:kz.map Ro.l=oz.map f) {a:Nat} {x:Ro Int} {y:Int} (hx:kz[a]?=some x) (hy:oz[a]?=some y):x.l=f y:=by
 have h1:=congrArg (fun z=>z[a]?) h
 simp only [List.getElem?_map,hx,hy,Option.map_some] at h1
 exact Option.some.inj h1
theorem iC.same {Z:ZP} {A:PK} (hZ:fU Z A) (hn:(A.peers.map fV.k).Nodup) {i:Nat} {x:Rp} {n:Int} (hx:Z.rs[i]?=some x) (h:iC Z x.k n):n=(i:Int):=by
 rcases h with ⟨j,y,rfl,hy,hk⟩ | ⟨_,h⟩
 · have:=qp hn (fU.at hZ hy) (fU.at hZ hx) hk
   rw [this]
 · exact absurd rfl (h x (List.mem_of_getElem? hx))
theorem Lz (Z:ZP) (A:PK) (j:Nat) (hZ:fU Z A) (hI:bQ j A) (fi:Nat) (fx:Rp) (hfx:Z.rs[fi]?=some fx) (k:Int) (hk:fx.k=k) (hj:j≤100000)  (w:World) (HS:S w [(ZI Z A)]):Calls Tryz.prog 152 #[vP Z.g,vI k] w fun e w'=>∃ p' c',e=.returned (.slice p' (A.cand fx.pe).length c')∧S w' ([Rw 3 1 p' (A.cand fx.pe).length c' (fl cg (A.cand fx.pe)),(ZI Z A)]++[aB w (aT [(ZI Z A)])]):=by
 have H0:=HS.bu
 have h8:=hI.a8
 have hfl:=fU.at hZ hfx
 have hln:fx.fld.length=A.n∧fx.alw.length=A.n∧fx.sug.length=A.n:=hI.fl _ (List.mem_of_getElem? hfl)
 have hfi9:=(List.getElem?_eq_some_iff.1 hfx).1
 refine en Tryz.func152 ?_
 refine ah [0,1] ?_
 refine aC ?_
 refine g_seq ?_
 refine g_cut (ι:=Nat) (fun gb=>[(0,vP Z.g),(5,vP gb)]) (fun gb wx=>S wx [Ob gb (.cells #[vI fx.k,.slice fx.fp fx.fld.length fx.fc,.slice fx.ap fx.alw.length fx.ac,.slice fx.sp fx.sug.length fx.sc,.bool fx.un,.bool fx.sn] 125 (0,0)),Z0 Z A,Z1 Z A,Z2 Z A,Z3 Z A,Z4 Z A,Z5 Z,bM gW Z.rs,aB w (aT [(ZI Z A)])]) ?_ ?_
 ·
  refine g_aS [] [] H0 (fun y4 H2=>?_)
  refine aU 0 H2 ?_
  refine aU 1 H2 ?_
  refine aU 2 H2 ?_
  refine eY 3 0 H2 ?_
  refine aU 4 H2 ?_
  refine aU 5 H2 ?_
  refine lH (i:=6) (j:=9) (by kernel_rfl) rfl rfl ?_ ?_
  ·
   have H3:=H2.b7 [0,1,2,3,4,5,6,7]
   refine aG (jL Z A j hZ hI k _ (H3.tk [0])) ?_
   rintro _ y3 ⟨n9,rfl,hfi9x,H5⟩
   replace H5:=H3.aI1 [0] H5
   have hn9:n9=(fi:Int):=iC.same hZ hI.nd hfx (by rw [hk]; exact hfi9x)
   subst hn9
   have H6:=H5.ub [0,1]
   refine bW ?_
   refine bF (H6.tk [0,1,2,3,4,5,6,7]) ?_
   refine bT (v:=.pointer ((Z.pp).map fun q=>q.add (fi * 6))) 7 rfl (H6.tk [0,1,2,3,4,5,6,7]) (fun _ _=>eZ fi ((H6.rr 5).some (by omega))) ?_
   refine bT (v:=.agg #[vI fx.k,.slice fx.fp fx.fld.length fx.fc,.slice fx.ap fx.alw.length fx.ac,.slice fx.sp fx.sug.length fx.sc,.bool fx.un,.bool fx.sn]) 8 rfl (H6.tk [0,1,2,3,4,5,6,7]) (fun _ H=>bc (vs:=mQ fx) fi (H.rr 5) (by omega) rfl rfl Tryz.underlying125 rfl rJ (by rfl) (mR.flAt hfx)) ?_
   refine bG (i:=9) ?_
   refine cA H6 na ?_
   intro g7 y2 H9
   refine bF (H9.tk [1,2,3,4,5,6,7,8]) ?_
   refine bG (i:=10) ?_
   refine eu H9 0 ?_
   intro q8 m0
   refine bF (m0.tk [1,2,3,4,5,6,7,8]) ?_
   refine fP ?_
   refine aR ?_
   refine iu (g7) ?_ ?_
   · exact ⟨rfl,rfl,trivial⟩
   exact (m0.tk [0,1,2,3,4,5,6,7,8])
  refine cA H2 na ?_
  intro r3 q7 k9
  refine bF (k9.tk [1,2,3,4,5,6,7,8]) ?_
  refine bG (i:=6) ?_
  have k7:=k9.b7 [1,2,3,4,5,6,7,0,8]
  refine aG (jL Z A j hZ hI k _ (k7.tk [0])) ?_
  rintro _ q6 ⟨n9,rfl,hfi9x,b1⟩
  replace b1:=k7.aI1 [0] b1
  have hn9:n9=(fi:Int):=iC.same hZ hI.nd hfx (by rw [hk]; exact hfi9x)
  subst hn9
  have x3:=b1.ub [0,1,2]
  refine bW ?_
  refine bF (x3.tk [0,1,2,3,4,5,6,8]) ?_
  refine bT (v:=.pointer ((Z.pp).map fun q=>q.add (fi * 6))) 7 rfl (x3.tk [0,1,2,3,4,5,6,8]) (fun _ _=>eZ fi ((x3.rr 5).some (by omega))) ?_
  refine bT (v:=.agg #[vI fx.k,.slice fx.fp fx.fld.length fx.fc,.slice fx.ap fx.alw.length fx.ac,.slice fx.sp fx.sug.length fx.sc,.bool fx.un,.bool fx.sn]) 8 rfl (x3.tk [0,1,2,3,4,5,6,8]) (fun _ H=>bc (vs:=mQ fx) fi (H.rr 5) (by omega) rfl rfl Tryz.underlying125 rfl rJ (by rfl) (mR.flAt hfx)) ?_
  refine bG (i:=10) ?_
  refine eu x3 7 ?_
  intro q5 k6
  refine bF (k6.tk [0,1,2,3,4,5,6,8]) ?_
  refine fP ?_
  refine aR ?_
  refine iu (r3) ?_ ?_
  · exact ⟨rfl,rfl,trivial⟩
  exact (k6.tk [7,0,1,2,3,4,5,6,8])
 rintro gb c9 y1
 refine ah [0,5] ?_
 refine iF ?_
 have y0:=y1.nilFl 3 1 cg
 refine aC ?_
 have v9:S c9 [Rw 59 1 none 0 0 (fl EY ([]:List (Ro Int))),Rw 3 1 none 0 0 (fl cg ([]:List Int)),Ob gb (.cells #[.int .i64 (fx.k),.slice fx.fp fx.fld.length fx.fc,.slice fx.ap fx.alw.length fx.ac,.slice fx.sp fx.sug.length fx.sc,.bool fx.un,.bool fx.sn] 125 (0,0)),Ob Z.g (.cells #[.int .i64 ((A.n:Int)),.int .i64 ((A.pz:Int)),.int .i64 ((A.la:Int)),.string (A.seed),.bool A.ino,.slice Z.hp A.had.length Z.hc,.slice Z.wp A.wish.length Z.wc,.slice Z.ep A.here.length Z.ec,.slice Z.ap A.asked.length Z.ac,.slice Z.pp Z.rs.length Z.pc] 97 (0,0)),Rw 4 1 Z.hp A.had.length Z.hc (fl cG A.had),Rw 40 2 Z.wp A.wish.length Z.wc (fl jC A.wish),Rw 44 3 Z.ep A.here.length Z.ec (fl aO A.here),Rw 150 4 Z.ap A.asked.length Z.ac (fl askL A.asked),Rw 125 6 Z.pp Z.rs.length Z.pc (fl mQ Z.rs),(bM gW Z.rs),aB w (aT [(ZI Z A)])]:=y0.nilFl 59 1 EY
 refine io ?_
 refine cQ (ι:=Nat × Option Addr × Nat × List Int × Option Addr × Nat × List (Ro Int) × List (Ro Int)) (fun (ii,pq,cq,oz,ps,cs,kz,bg)=>[(0,vP Z.g),(5,vP gb),(6,.slice pq oz.length cq),(7,.slice ps kz.length cs),(23,vI A.n),(24,vI ii)]) (fun (ii,pq,cq,oz,ps,cs,kz,bg) wx=>(ii≤A.n)∧(oz.Perm (((jo A.n).take ii).filter (A.candB fx.pe)))∧(oz.Pairwise fun a b=>jn (A.keys fx.pe) a b<0)∧(kz.map Ro.l=oz.map (dm A fx.pe))∧(∀ r∈kz,r∈bg)∧S wx [Rw 3 1 pq oz.length cq (fl cg oz),Rw 59 1 ps kz.length cs (fl EY kz),(p_ 3 1 cg bg),Z0 Z A,Z1 Z A,Z2 Z A,Z3 Z A,Z4 Z A,Z5 Z,bM gW Z.rs,Ob gb (.cells #[vI fx.k,.slice fx.fp fx.fld.length fx.fc,.slice fx.ap fx.alw.length fx.ac,.slice fx.sp fx.sug.length fx.sc,.bool fx.un,.bool fx.sn] 125 (0,0)),aB w (aT [(ZI Z A)])]) (fun (ii,pq,cq,oz,ps,cs,kz,bg)=>A.n - ii) (0,none,0,[],none,0,[],[]) ⟨(Nat.zero_le _),(List.Perm.refl _),.nil,rfl,(fun r hr=>absurd hr List.not_mem_nil),((v9.tk [1,0,3,4,5,6,7,8,9,2,10]).rowsNil.tk [1,2,0,3,4,5,6,7,8,9,10,11])⟩ ?_
 rintro ⟨ii,pq,cq,oz,ps,cs,kz,bg⟩ q4 ⟨hq,hp,hso,hkz,hbg,h1⟩
 refine ah [0,5,6,7,23,24] ?_
 have hozl:oz.length≤ii:=by rw [hp.length_eq]; exact Nat.le_trans (List.length_filter_le _ _) (by rw [List.length_take]; exact Nat.min_le_left _ _)
 have hkl:kz.length=oz.length:=by have h9:=congrArg List.length hkz; rwa [List.length_map,List.length_map] at h9
 have hno9:∀ y∈oz,y<(ii:Int):=fun y hy=>LC ((hp.mem_iff).1 hy)
 refine aC ?_
 refine g_seq ?_
 by_cases g9:((ii:Int):Int)<(A.n:Int)
 ·
  refine bm g9 ?_
  refine dz ?_
  refine g_seq ?_
  refine g_cut (ι:=Unit) (fun _=>[(0,vP Z.g),(5,vP gb),(6,.slice pq oz.length cq),(7,.slice ps kz.length cs),(8,vI ii),(23,vI A.n),(24,vI ii)]) (fun _ wx=>(ii<A.n)∧(A.candB fx.pe (ii:Int)=true)∧(aF A.had (ii:Int)=false)∧S wx [Rw 3 1 pq oz.length cq (fl cg oz),Rw 59 1 ps kz.length cs (fl EY kz),(p_ 3 1 cg bg),Z0 Z A,Z1 Z A,Z2 Z A,Z3 Z A,Z4 Z A,Z5 Z,bM gW Z.rs,Ob gb (.cells #[vI fx.k,.slice fx.fp fx.fld.length fx.fc,.slice fx.ap fx.alw.length fx.ac,.slice fx.sp fx.sug.length fx.sc,.bool fx.un,.bool fx.sn] 125 (0,0)),aB w (aT [(ZI Z A)])]) ?_ ?_
  ·
   refine aE ?_
   refine w_v (iH ii (h1.rdF (k:=9) rfl hfx)) ?_
   obtain ⟨c8,g8⟩:=(h1.rdF (k:=9) rfl hfx).exL cP ii
   have hfb9:aF fx.pe.fld (ii:Int)=c8:=kF g8
   refine w_v (nX ii (h1.rdF (k:=9) rfl hfx) (cP.flAt1 g8 rfl)) ?_
   refine w_v (cj (b:=c8) rfl rfl) ?_
   refine cJ ?_
   rcases ef (c8) with H7 | H7
   ·
    refine aN (aa H7) xm ?_
    refine aN (aa H7) xn ?_
    refine aN (aa H7) (xf 5) ?_
    refine aN (aa H7) (xl h1 3) ?_
    refine aN (aa H7) xm ?_
    refine aN (aa H7) (iH ii (h1.rr 4)) ?_
    obtain ⟨b8,g6⟩:=(h1.rr 4).exL cP ii
    have hhb9:aF A.had (ii:Int)=b8:=kF g6
    refine aN (aa H7) (nX ii (h1.rr 4) (cP.flAt1 g6 rfl)) ?_
    refine w_v (pf (aa H7)) ?_
    refine cJ ?_
    rcases ef (b8) with H4 | H4
    ·
     iterate 9 refine dh H4 ?_
     refine w_v (dH rfl rfl H4 rfl) ?_
     refine cJ ?_
     iterate 4 refine dh rfl ?_
     iterate 6 refine Gr ?_
     refine dh rfl ?_
     refine w_v (pt rfl) ?_
     refine cD ?_
     refine ah [0,5,6,7,8,23,24,65] ?_
     refine g_cond_t rfl rfl ?_
     refine aR ?_
     have hiw:ii<A.n:=by omega
     have hcb9:A.candB fx.pe (ii:Int)=false:=by unfold PK.candB PK.openB; rw [hfb9]; first | (simp [H7,H4]; done) | (rw [hhb9]; simp [H7,H4]; done) | (rw [hhb9,hlb9]; simp; intros; omega) | (rw [hhb9,hlb9,show fx.pe.un=fx.un from rfl,hab9]; simp_all)
     refine aE ?_
     refine gI ii ?_
     refine ae ?_
     refine bD (i:=(ii,pq,cq,oz,ps,cs,kz,bg)) ((ii+1),pq,cq,oz,ps,cs,kz,bg) ⟨(by omega),(by rw [aj (cK hiw),List.filter_append,List.filter_cons,if_neg (by rw [hcb9]; decide),List.filter_nil,List.append_nil]; exact hp),hso,hkz,hbg,(h1.tk [0,1,2,3,4,5,6,7,8,9,10,11])⟩
    refine aN H4 xm ?_
    refine aN H4 xn ?_
    refine aN H4 (xf 6) ?_
    refine aN H4 (xl h1 3) ?_
    refine aN H4 xm ?_
    refine aN H4 (iH ii (h1.rr 5)) ?_
    refine aN (v:=.pointer ((Z.wp).map fun q=>q.add (ii * 2+0))) H4 (aH (bJ (m:=ii * 2) ((h1.rr 5).some (by omega)) rfl rfl sH) rfl) ?_
    obtain ⟨c7,g3⟩:=(h1.rr 5).exL lA ii
    have hlb9:A.lv (ii:Int)=c7.lv:=vi g3
    have hwr9:=hI.wishr c7 (List.mem_of_getElem? g3)
    refine aN H4 (eX (i:=0) (j:=ii) lA (h1.rr 5) g3 rfl rfl Tryz.underlying3 rfl rfl) ?_
    refine aN H4 (ai rfl rfl rfl f7) ?_
    refine w_v (cH rfl rfl H4 rfl) ?_
    refine cJ ?_
    by_cases H8:(c7.lv:Int)=0
    ·
     iterate 4 refine dh (dt H8) ?_
     iterate 6 refine Gr ?_
     refine dh (dt H8) ?_
     refine w_v (pt (dt H8)) ?_
     refine cD ?_
     refine ah [0,5,6,7,8,23,24,65] ?_
     refine g_cond_t rfl rfl ?_
     refine aR ?_
     have hiw:ii<A.n:=by omega
     have hcb9:A.candB fx.pe (ii:Int)=false:=by unfold PK.candB PK.openB; rw [hfb9]; first | (simp [H7,H4,H8]; done) | (rw [hhb9]; simp [H7,H4,H8]; done) | (rw [hhb9,hlb9]; simp; intros; omega) | (rw [hhb9,hlb9,show fx.pe.un=fx.un from rfl,hab9]; simp_all)
     refine aE ?_
     refine gI ii ?_
     refine ae ?_
     refine bD (i:=(ii,pq,cq,oz,ps,cs,kz,bg)) ((ii+1),pq,cq,oz,ps,cs,kz,bg) ⟨(by omega),(by rw [aj (cK hiw),List.filter_append,List.filter_cons,if_neg (by rw [hcb9]; decide),List.filter_nil,List.append_nil]; exact hp),hso,hkz,hbg,(h1.tk [0,1,2,3,4,5,6,7,8,9,10,11])⟩
    refine aN (df H8) (xf 4) ?_
    refine aN (df H8) (xl h1 10) ?_
    refine aN (df H8) (cj (b:=fx.un) rfl rfl) ?_
    refine aN (df H8) xm ?_
    rcases ef (fx.un) with h0 | h0
    ·
     iterate 6 refine dh (aa h0) ?_
     refine aN (df H8) (pf (aa h0)) ?_
     refine w_v (pf (df H8)) ?_
     refine cD ?_
     refine ah [0,5,6,7,8,23,24,65] ?_
     refine g_cond_f rfl rfl ?_
     refine ae ?_
     have hiw:ii<A.n:=by omega
     refine iu () ?_ ?_
     · exact ⟨rfl,rfl,rfl,rfl,rfl,rfl,rfl,trivial⟩
     exact ⟨(by omega),(by unfold PK.candB PK.openB; rw [hfb9,hhb9,hlb9,show fx.pe.un=fx.un from rfl]; first | (simp [H7,H4,H8,h0]; omega) | (rw [hab9]; simp [H7,H4,H8,h0]; omega) | (simp_all; omega)),(by rw [hhb9]; simp_all),h1⟩
    refine aN (aa h0) (xf 2) ?_
    refine aN (aa h0) (xl h1 10) ?_
    refine aN (aa h0) xm ?_
    refine aN (aa h0) (iH ii (h1.rdA (k:=9) rfl hfx)) ?_
    obtain ⟨c6,g5⟩:=(h1.rdA (k:=9) rfl hfx).exL cP ii
    have hab9:aF fx.pe.alw (ii:Int)=c6:=kF g5
    refine aN (aa h0) (nX ii (h1.rdA (k:=9) rfl hfx) (cP.flAt1 g5 rfl)) ?_
    refine aN (aa h0) (cj (b:=c6) rfl rfl) ?_
    refine aN (df H8) (pt (aa h0)) ?_
    refine w_v (pf (df H8)) ?_
    refine cD ?_
    refine ah [0,5,6,7,8,23,24,65] ?_
    rcases ef (c6) with h3 | h3
    ·
     refine g_cond_f rfl (aa h3) ?_
     refine ae ?_
     have hiw:ii<A.n:=by omega
     refine iu () ?_ ?_
     · exact ⟨rfl,rfl,rfl,rfl,rfl,rfl,rfl,trivial⟩
     exact ⟨(by omega),(by unfold PK.candB PK.openB; rw [hfb9,hhb9,hlb9,show fx.pe.un=fx.un from rfl]; first | (simp [H7,H4,H8,h0,h3]; omega) | (rw [hab9]; simp [H7,H4,H8,h0,h3]; omega) | (simp_all; omega)),(by rw [hhb9]; simp_all),h1⟩
    refine g_cond_t rfl (aa h3) ?_
    refine aR ?_
    have hiw:ii<A.n:=by omega
    have hcb9:A.candB fx.pe (ii:Int)=false:=by unfold PK.candB PK.openB; rw [hfb9]; first | (simp [H7,H4,H8,h0,h3]; done) | (rw [hhb9]; simp [H7,H4,H8,h0,h3]; done) | (rw [hhb9,hlb9]; simp; intros; omega) | (rw [hhb9,hlb9,show fx.pe.un=fx.un from rfl,hab9]; simp_all)
    refine aE ?_
    refine gI ii ?_
    refine ae ?_
    refine bD (i:=(ii,pq,cq,oz,ps,cs,kz,bg)) ((ii+1),pq,cq,oz,ps,cs,kz,bg) ⟨(by omega),(by rw [aj (cK hiw),List.filter_append,List.filter_cons,if_neg (by rw [hcb9]; decide),List.filter_nil,List.append_nil]; exact hp),hso,hkz,hbg,(h1.tk [0,1,2,3,4,5,6,7,8,9,10,11])⟩
   iterate 7 refine dh (aa H7) ?_
   refine w_v (pt (aa H7)) ?_
   refine cJ ?_
   iterate 9 refine dh rfl ?_
   refine w_v (pt rfl) ?_
   refine cJ ?_
   iterate 4 refine dh rfl ?_
   iterate 6 refine Gr ?_
   refine dh rfl ?_
   refine w_v (pt rfl) ?_
   refine cD ?_
   refine ah [0,5,6,7,8,23,24,65] ?_
   refine g_cond_t rfl rfl ?_
   refine aR ?_
   have hiw:ii<A.n:=by omega
   have hcb9:A.candB fx.pe (ii:Int)=false:=by unfold PK.candB PK.openB; rw [hfb9]; first | (simp [H7]; done) | (rw [hhb9]; simp [H7]; done) | (rw [hhb9,hlb9]; simp; intros; omega) | (rw [hhb9,hlb9,show fx.pe.un=fx.un from rfl,hab9]; simp_all)
   refine aE ?_
   refine gI ii ?_
   refine ae ?_
   refine bD (i:=(ii,pq,cq,oz,ps,cs,kz,bg)) ((ii+1),pq,cq,oz,ps,cs,kz,bg) ⟨(by omega),(by rw [aj (cK hiw),List.filter_append,List.filter_cons,if_neg (by rw [hcb9]; decide),List.filter_nil,List.append_nil]; exact hp),hso,hkz,hbg,(h1.tk [0,1,2,3,4,5,6,7,8,9,10,11])⟩
  rintro _ q3 ⟨hiw,hcb9,hhh9,k5⟩
  refine ah [0,5,6,7,8,23,24] ?_
  refine ae ?_
  refine w_v (fS k5 10) ?_
  refine cJ ?_
  have k4:=k5.b7 [3,4,5,6,7,8,9,0,1,2,10,11]
  refine l_of (aG (Oi Z A j hZ hI fi fx hfx (ii:Int) ⟨⟨by omega,by omega⟩,hhh9⟩ (by omega) _ (k4.tk [0])) ?_)
  rintro _ q2 ⟨pk39,ck40,rfl,b0⟩
  replace b0:=k4.aI2 [0] b0
  have v8:=b0.ub [1,0,2,3,4,5,6]
  refine bW ?_
  have v7:S _ [_,_,_,_,_,_,_,_,_,_,_,_]:=S.rowsAdd (v8.tk [10,7,0,1,2,3,4,5,6,8,9,11,12]) rfl
  refine cp ?_
  refine cQ (ι:=Nat) (fun a=>[(0,vP Z.g),(5,vP gb),(6,.slice pq oz.length cq),(7,.slice ps kz.length cs),(8,vI ii),(9,.slice pk39 ((dm A fx.pe (ii:Int)).length) ck40),(10,vI a),(23,vI A.n),(24,vI ii)]) (fun a wx=>(a≤oz.length)∧(∀ y∈oz.take a,jn (A.keys fx.pe) y ii<0)∧S wx [(p_ 3 1 cg (bg++[⟨pk39,ck40,(dm A fx.pe (ii:Int))⟩])),Z0 Z A,Z1 Z A,Z2 Z A,Z3 Z A,Z4 Z A,Z5 Z,bM gW Z.rs,Rw 3 1 pq oz.length cq (fl cg oz),Rw 59 1 ps kz.length cs (fl EY kz),Ob gb (.cells #[vI fx.k,.slice fx.fp fx.fld.length fx.fc,.slice fx.ap fx.alw.length fx.ac,.slice fx.sp fx.sug.length fx.sc,.bool fx.un,.bool fx.sn] 125 (0,0)),aB w (aT [(ZI Z A)])]) (fun a=>oz.length - a) (0) ⟨(Nat.zero_le _),(fun y hy=>by simp at hy),v7⟩ ?_
  rintro a q1 ⟨ha,hlt,g4⟩
  refine ah [0,5,6,7,8,9,10,23,24] ?_
  refine cp ?_
  by_cases h2:((a:Int):Int)<(oz.length:Int)
  ·
   iterate 2 refine aN (dt h2) xm ?_
   refine aN (dt h2) (iH a (g4.rr 9)) ?_
   obtain ⟨h6,g2⟩:=(g4.rr 9).exL ka a
   obtain ⟨yo9,hoy9⟩:∃ y,oz[a]?=some y:=Mz (by omega)
   have hkx9:h6.l=dm A fx.pe yo9:=Ky hkz g2 hoy9
   have hlx9:rz h6.l (dm A fx.pe (ii:Int))=decide (jn (A.keys fx.pe) yo9 ii<0):=by rw [hkx9]; exact Ip A fx.pe yo9 ii
   have hkn9:h6.l.length=(dm A fx.pe (ii:Int)).length∧h6.l.length≤100:=by rw [hkx9,zj,zj]; exact ⟨rfl,by split <;> omega⟩
   refine aN (dt h2) (nX a (g4.rr 9) (ka.flAt1 g2 rfl)) ?_
   refine aN (dt h2) xm ?_
   refine l_of (bZ g4 (cU rfl rfl rfl rfl (dt h2)) (aP rfl rfl QL) (Oc h6.l (dm A fx.pe (ii:Int)) hkn9 h6.p h6.l.length h6.c pk39 ((dm A fx.pe (ii:Int)).length) ck40 _ ((D_ (g4.at (k:=0) rfl) (.inl (List.mem_append_left _ (hbg h6 (List.mem_of_getElem? g2)))))) ((D_ (g4.at (k:=0) rfl) (r:=⟨pk39,ck40,(dm A fx.pe (ii:Int))⟩) (.inl (by simp))))) rfl rfl ?_)
   intro q0 k3
   refine w_v (pt (dt h2)) ?_
   refine cD ?_
   rcases ef ((rz h6.l (dm A fx.pe (ii:Int)))) with h4 | h4
   ·
    refine g_cond_t rfl h4 ?_
    refine ae ?_
    refine ah [0,5,6,7,8,9,10,23,24] ?_
    refine aC ?_
    refine gI a ?_
    refine aE ?_
    refine bD (i:=(a)) ((a+1)) ⟨(by omega),(d6 hlt hoy9 (of_decide_eq_true (hlx9.symm.trans h4))),k3⟩
   refine g_cond_f rfl h4 ?_
   refine aR ?_
   have hins:(oz.take a++([(ii:Int)]++oz.drop a)).Pairwise fun a b=>jn (A.keys fx.pe) a b<0:=yb (kZ _) hso hlt (.inr ⟨_,hoy9,fun h9=>by have h8:=hlx9.symm.trans h4; rw [dt h9] at h8; cases h8⟩) (fun y hy h9=>by have h8:=nN A fx.pe h9; have h7:=hno9 y hy; omega)
   refine aE ?_
   refine ah [0,5,6,7,8,9,10,23,24] ?_
   refine g_seq ?_
   refine g_any [] (fun _=>True) [] (by kernel_rfl) k3 (fun n2 x9=>?_)
   refine pT 0 ?_
   refine pT 1 ?_
   refine pT 2 ?_
   have hnc:=(x9.rr 8).2.1
   refine Gn (v:=.slice (tJ pq a 1) a a) 3 rfl (fun _=>uI a a rfl rfl rfl rfl Tryz.underlying59 si (by omega)) ?_
   refine pT 4 ?_
   refine pT 6 ?_
   refine pT 7 ?_
   have hnc:=(x9.rr 8).2.1
   have hnl:=(x9.rr 8).lenL bE
   have hdl:(oz.drop a).length=oz.length - a:=by rw [List.length_drop,← hnl]
   refine Gn (v:=.slice (kA pq a cq 1) ((oz.drop a).length) (cq - a)) 8 rfl (fun _=>aH (vd a rfl rfl rfl Tryz.underlying59 si (by omega)) (by rw [List.length_drop,← hnl])) ?_
   refine bG (i:=5) ?_
   refine fC Av #[vI ii] x9 ?_
   intro i1 n1 v6
   refine bF trivial ?_
   refine bG (i:=9) ?_
   have x8:=S.oF bE 1 ([(ii:Int)]) v6
   have hln63a:=(x8.rr 0).lenL bE
   have hln63b:=((x8.rr 9).cutLn bE a (by omega)).lenL bE
   have hln63:([(ii:Int)]++(oz.drop a)).length=1+((oz.drop a).length):=by simp only [List.length_append,List.length_cons,List.length_nil] <;> omega
   refine iO (l:=[(ii:Int)]) (l2:=(oz.drop a)) bE x8 0 (bh rfl) rfl rfl rfl rfl rfl rfl Tryz.underlying59 oe rfl (by decide) ((x8.rr 9).cutLn bE a (by omega)) (by omega) ?_
   intro y7 i5 n0 x2
   refine bF trivial ?_
   refine bG (i:=10) ?_
   have hln68a:=((x2.rr 9).clipL bE a (by omega)).lenL bE
   have hln68b:=(x2.rr 0).lenL bE
   have hln68:((oz.take a)++([(ii:Int)]++(oz.drop a))).length=a+(([(ii:Int)]++(oz.drop a)).length):=by simp only [List.length_append,List.length_cons,List.length_nil] <;> omega
   refine qG (l:=(oz.take a)) (l2:=([(ii:Int)]++(oz.drop a))) bE x2 (bh rfl) rfl rfl rfl rfl rfl ((x2.rr 9).clipL bE a (by omega)) Tryz.underlying59 oe rfl (by decide) (x2.rr 0) (by omega) (by omega) ?_
   intro r1 u9 m9 v5
   refine bF trivial ?_
   refine pT 11 ?_
   refine fP ?_
   refine aR ?_
   refine ah [0,5,6,7,9,10,23,24] ?_
   refine g_any [] (fun _=>True) [] (by kernel_rfl) v5 (fun m8 x7=>?_)
   refine pT 0 ?_
   refine pT 1 ?_
   refine pT 2 ?_
   have hnc:=(x7.rr 11).2.1
   refine Gn (v:=.slice (tJ ps a 1) a a) 3 rfl (fun _=>uI a a rfl rfl rfl rfl Tryz.underlying192 JA (by omega)) ?_
   refine pT 4 ?_
   refine pT 6 ?_
   refine pT 7 ?_
   have hnc:=(x7.rr 11).2.1
   have hnl:=(x7.rr 11).lenL ka
   have hdl:(kz.drop a).length=kz.length - a:=by rw [List.length_drop,← hnl]
   refine Gn (v:=.slice (kA ps a cs 1) ((kz.drop a).length) (cs - a)) 8 rfl (fun _=>aH (vd a rfl rfl rfl Tryz.underlying192 JA (by omega)) (by rw [List.length_drop,← hnl])) ?_
   refine bG (i:=5) ?_
   refine fC PR #[.slice pk39 ((dm A fx.pe (ii:Int)).length) ck40] x7 ?_
   intro y9 m7 v4
   refine bF trivial ?_
   refine bG (i:=9) ?_
   have x6:=S.oF ka 1 ([(⟨pk39,ck40,(dm A fx.pe (ii:Int))⟩:Ro Int)]) v4
   have hln79a:=(x6.rr 0).lenL ka
   have hln79b:=((x6.rr 12).cutLn ka a (by omega)).lenL ka
   have hln79:([(⟨pk39,ck40,(dm A fx.pe (ii:Int))⟩:Ro Int)]++(kz.drop a)).length=1+((kz.drop a).length):=by simp only [List.length_append,List.length_cons,List.length_nil] <;> omega
   refine iO (l:=[(⟨pk39,ck40,(dm A fx.pe (ii:Int))⟩:Ro Int)]) (l2:=(kz.drop a)) ka x6 0 (bh rfl) rfl rfl rfl rfl rfl rfl Tryz.underlying192 DF rfl (by decide) ((x6.rr 12).cutLn ka a (by omega)) (by omega) ?_
   intro y6 i4 m6 x1
   refine bF trivial ?_
   refine bG (i:=10) ?_
   have hln84a:=((x1.rr 12).clipL ka a (by omega)).lenL ka
   have hln84b:=(x1.rr 0).lenL ka
   have hln84:((kz.take a)++([(⟨pk39,ck40,(dm A fx.pe (ii:Int))⟩:Ro Int)]++(kz.drop a))).length=a+(([(⟨pk39,ck40,(dm A fx.pe (ii:Int))⟩:Ro Int)]++(kz.drop a)).length):=by simp only [List.length_append,List.length_cons,List.length_nil] <;> omega
   refine qG (l:=(kz.take a)) (l2:=([(⟨pk39,ck40,(dm A fx.pe (ii:Int))⟩:Ro Int)]++(kz.drop a))) ka x1 (bh rfl) rfl rfl rfl rfl rfl ((x1.rr 12).clipL ka a (by omega)) Tryz.underlying192 DF rfl (by decide) (x1.rr 0) (by omega) (by omega) ?_
   intro r0 u0 m5 v3
   refine bF trivial ?_
   refine pT 11 ?_
   refine fP ?_
   refine ae ?_
   refine ah [0,5,6,7,23,24] ?_
   refine aR ?_
   refine gI ii ?_
   refine ae ?_
   have hbg2:∀ r∈((kz.take a)++([(⟨pk39,ck40,(dm A fx.pe (ii:Int))⟩:Ro Int)]++(kz.drop a))),r∈(bg++[⟨pk39,ck40,(dm A fx.pe (ii:Int))⟩]):=fun r hr=>by rcases List.mem_append.1 hr with hr | hr; exact List.mem_append_left _ (hbg r (List.mem_of_mem_take hr)); rcases List.mem_append.1 hr with hr | hr; exact List.mem_append_right _ hr; exact List.mem_append_left _ (hbg r (List.mem_of_mem_drop hr))
   refine qI (i:=(ii,pq,cq,oz,ps,cs,kz,bg)) ((ii+1),r1,u9,((oz.take a)++([(ii:Int)]++(oz.drop a))),r0,u0,((kz.take a)++([(⟨pk39,ck40,(dm A fx.pe (ii:Int))⟩:Ro Int)]++(kz.drop a))),(bg++[⟨pk39,ck40,(dm A fx.pe (ii:Int))⟩])) ?_ ?_ ?_
   · exact ⟨rfl,rfl,rfl,rfl,rfl,rfl,trivial⟩
   · exact ⟨(by omega),(by rw [aj (cK hiw),List.filter_append,List.filter_cons,if_pos hcb9,List.filter_nil]; exact Bm hp),hins,(by rw [List.map_append,List.map_append,List.map_append,List.map_append,List.map_take,List.map_drop,List.map_take,List.map_drop,hkz]; rfl),hbg2,(v3.takes [2,0,4,5,6,7,8,9,10,11,14,15] (by decide))⟩
   (try dsimp only); omega
  iterate 6 refine dh (df h2) ?_
  refine w_v (pf (df h2)) ?_
  refine cD ?_
  refine g_cond_f rfl rfl ?_
  refine aR ?_
  have hins:(oz.take a++([(ii:Int)]++oz.drop a)).Pairwise fun a b=>jn (A.keys fx.pe) a b<0:=yb (kZ _) hso hlt (.inl (by omega)) (fun y hy h9=>by have h8:=nN A fx.pe h9; have h7:=hno9 y hy; omega)
  refine aE ?_
  refine ah [0,5,6,7,8,9,10,23,24] ?_
  refine g_seq ?_
  refine g_any [] (fun _=>True) [] (by kernel_rfl) g4 (fun m4 x5=>?_)
  refine pT 0 ?_
  refine pT 1 ?_
  refine pT 2 ?_
  have hnc:=(x5.rr 8).2.1
  refine Gn (v:=.slice (tJ pq a 1) a a) 3 rfl (fun _=>uI a a rfl rfl rfl rfl Tryz.underlying59 si (by omega)) ?_
  refine pT 4 ?_
  refine pT 6 ?_
  refine pT 7 ?_
  have hnc:=(x5.rr 8).2.1
  have hnl:=(x5.rr 8).lenL bE
  have hdl:(oz.drop a).length=oz.length - a:=by rw [List.length_drop,← hnl]
  refine Gn (v:=.slice (kA pq a cq 1) ((oz.drop a).length) (cq - a)) 8 rfl (fun _=>aH (vd a rfl rfl rfl Tryz.underlying59 si (by omega)) (by rw [List.length_drop,← hnl])) ?_
  refine bG (i:=5) ?_
  refine fC Av #[vI ii] x5 ?_
  intro y8 m3 v2
  refine bF trivial ?_
  refine bG (i:=9) ?_
  have x4:=S.oF bE 1 ([(ii:Int)]) v2
  have hln95a:=(x4.rr 0).lenL bE
  have hln95b:=((x4.rr 9).cutLn bE a (by omega)).lenL bE
  have hln95:([(ii:Int)]++(oz.drop a)).length=1+((oz.drop a).length):=by simp only [List.length_append,List.length_cons,List.length_nil] <;> omega
  refine iO (l:=[(ii:Int)]) (l2:=(oz.drop a)) bE x4 0 (bh rfl) rfl rfl rfl rfl rfl rfl Tryz.underlying59 oe rfl (by decide) ((x4.rr 9).cutLn bE a (by omega)) (by omega) ?_
  intro y5 i3 m2 x0
  refine bF trivial ?_
  refine bG (i:=10) ?_
  have hln100a:=((x0.rr 9).clipL bE a (by omega)).lenL bE
  have hln100b:=(x0.rr 0).lenL bE
  have hln100:((oz.take a)++([(ii:Int)]++(oz.drop a))).length=a+(([(ii:Int)]++(oz.drop a)).length):=by simp only [List.length_append,List.length_cons,List.length_nil] <;> omega
  refine qG (l:=(oz.take a)) (l2:=([(ii:Int)]++(oz.drop a))) bE x0 (bh rfl) rfl rfl rfl rfl rfl ((x0.rr 9).clipL bE a (by omega)) Tryz.underlying59 oe rfl (by decide) (x0.rr 0) (by omega) (by omega) ?_
  intro q9 r7 m1 v1
  refine bF trivial ?_
  refine pT 11 ?_
  refine fP ?_
  refine aR ?_
  refine ah [0,5,6,7,9,10,23,24] ?_
  refine g_any [] (fun _=>True) [] (by kernel_rfl) v1 (fun k2 g1=>?_)
  refine pT 0 ?_
  refine pT 1 ?_
  refine pT 2 ?_
  have hnc:=(g1.rr 11).2.1
  refine Gn (v:=.slice (tJ ps a 1) a a) 3 rfl (fun _=>uI a a rfl rfl rfl rfl Tryz.underlying192 JA (by omega)) ?_
  refine pT 4 ?_
  refine pT 6 ?_
  refine pT 7 ?_
  have hnc:=(g1.rr 11).2.1
  have hnl:=(g1.rr 11).lenL ka
  have hdl:(kz.drop a).length=kz.length - a:=by rw [List.length_drop,← hnl]
  refine Gn (v:=.slice (kA ps a cs 1) ((kz.drop a).length) (cs - a)) 8 rfl (fun _=>aH (vd a rfl rfl rfl Tryz.underlying192 JA (by omega)) (by rw [List.length_drop,← hnl])) ?_
  refine bG (i:=5) ?_
  refine fC PR #[.slice pk39 ((dm A fx.pe (ii:Int)).length) ck40] g1 ?_
  intro r4 k1 b6
  refine bF trivial ?_
  refine bG (i:=9) ?_
  have g0:=S.oF ka 1 ([(⟨pk39,ck40,(dm A fx.pe (ii:Int))⟩:Ro Int)]) b6
  have hln111a:=(g0.rr 0).lenL ka
  have hln111b:=((g0.rr 12).cutLn ka a (by omega)).lenL ka
  have hln111:([(⟨pk39,ck40,(dm A fx.pe (ii:Int))⟩:Ro Int)]++(kz.drop a)).length=1+((kz.drop a).length):=by simp only [List.length_append,List.length_cons,List.length_nil] <;> omega
  refine iO (l:=[(⟨pk39,ck40,(dm A fx.pe (ii:Int))⟩:Ro Int)]) (l2:=(kz.drop a)) ka g0 0 (bh rfl) rfl rfl rfl rfl rfl rfl Tryz.underlying192 DF rfl (by decide) ((g0.rr 12).cutLn ka a (by omega)) (by omega) ?_
  intro r2 v0 k0 h5
  refine bF trivial ?_
  refine bG (i:=10) ?_
  have hln116a:=((h5.rr 12).clipL ka a (by omega)).lenL ka
  have hln116b:=(h5.rr 0).lenL ka
  have hln116:((kz.take a)++([(⟨pk39,ck40,(dm A fx.pe (ii:Int))⟩:Ro Int)]++(kz.drop a))).length=a+(([(⟨pk39,ck40,(dm A fx.pe (ii:Int))⟩:Ro Int)]++(kz.drop a)).length):=by simp only [List.length_append,List.length_cons,List.length_nil] <;> omega
  refine qG (l:=(kz.take a)) (l2:=([(⟨pk39,ck40,(dm A fx.pe (ii:Int))⟩:Ro Int)]++(kz.drop a))) ka h5 (bh rfl) rfl rfl rfl rfl rfl ((h5.rr 12).clipL ka a (by omega)) Tryz.underlying192 DF rfl (by decide) (h5.rr 0) (by omega) (by omega) ?_
  intro w8 w9 b9 b2
  refine bF trivial ?_
  refine pT 11 ?_
  refine fP ?_
  refine ae ?_
  refine ah [0,5,6,7,23,24] ?_
  refine aR ?_
  refine gI ii ?_
  refine ae ?_
  have hbg2:∀ r∈((kz.take a)++([(⟨pk39,ck40,(dm A fx.pe (ii:Int))⟩:Ro Int)]++(kz.drop a))),r∈(bg++[⟨pk39,ck40,(dm A fx.pe (ii:Int))⟩]):=fun r hr=>by rcases List.mem_append.1 hr with hr | hr; exact List.mem_append_left _ (hbg r (List.mem_of_mem_take hr)); rcases List.mem_append.1 hr with hr | hr; exact List.mem_append_right _ hr; exact List.mem_append_left _ (hbg r (List.mem_of_mem_drop hr))
  refine qI (i:=(ii,pq,cq,oz,ps,cs,kz,bg)) ((ii+1),q9,r7,((oz.take a)++([(ii:Int)]++(oz.drop a))),w8,w9,((kz.take a)++([(⟨pk39,ck40,(dm A fx.pe (ii:Int))⟩:Ro Int)]++(kz.drop a))),(bg++[⟨pk39,ck40,(dm A fx.pe (ii:Int))⟩])) ?_ ?_ ?_
  · exact ⟨rfl,rfl,rfl,rfl,rfl,rfl,trivial⟩
  · exact ⟨(by omega),(by rw [aj (cK hiw),List.filter_append,List.filter_cons,if_pos hcb9,List.filter_nil]; exact Bm hp),hins,(by rw [List.map_append,List.map_append,List.map_append,List.map_append,List.map_take,List.map_drop,List.map_take,List.map_drop,hkz]; rfl),hbg2,(b2.takes [2,0,4,5,6,7,8,9,10,11,14,15] (by decide))⟩
  (try dsimp only); omega
 refine br g9 ?_
 refine cS ?_
 refine af ?_
 have hie:ii=A.n:=by omega
 have hV:oz=(A.cand fx.pe):=by refine EI hI.n24 ?_ hso; rw [hie,List.take_of_length_le (by rw [je]; exact Nat.le_refl _)] at hp; exact hp
 rw [← hV]
 exact ⟨_,_,rfl,((S.big (L:=[_,_,_,_,_,_,_]) (h1.tk [3,4,5,6,7,8,9,0,11])).tk [1,0,2])⟩
end Go.Proofs.YthmmfhdpkddniaaGreatDoor
