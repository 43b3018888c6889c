import Derived.Test.YthmmfhdpkddniaaGreatDoorPd
set_option maxRecDepth 20000
set_option maxHeartbeats 4000000
set_option linter.all false
namespace Go.Proofs.YthmmfhdpkddniaaGreatDoor
open Go.RowKit
theorem QS:aI Tryz.prog 119=true:=by kernel_rfl
theorem DK:aI Tryz.prog 124=true:=by kernel_rfl
theorem QO:aI Tryz.prog 129=true:=by kernel_rfl
theorem KQ:u_ Tryz.prog 150 0=some 0:=by kernel_rfl
theorem wC:u_ Tryz.prog 44 0=some 0:=by kernel_rfl
theorem OO:u_ Tryz.prog 97 0=some 0:=by kernel_rfl
theorem oe:kf Tryz.prog 3=some (some (.int .i64 0),1,8):=by kernel_rfl
theorem kN:kf Tryz.prog 44=some (some (.agg #[.int .i64 0,.int .i64 0,.int .i64 0]),3,24):=by kernel_rfl
theorem rJ:jW Tryz.prog 125=some 6:=by kernel_rfl
theorem DD:jW Tryz.prog 150=some 4:=by kernel_rfl
theorem dE:jW Tryz.prog 44=some 3:=by kernel_rfl
theorem na:tw Tryz.prog 125=some (.agg #[.int .i64 0,.slice none 0 0,.slice none 0 0,.slice none 0 0,.bool false,.bool false]):=by kernel_rfl
theorem vc:tw Tryz.prog 150=some (.agg #[.int .i64 0,.int .i64 0,.int .i64 0,.int .i64 0]):=by kernel_rfl
theorem Av:tw Tryz.prog 3=some (.int .i64 0):=by kernel_rfl
theorem gX:tw Tryz.prog 44=some (.agg #[.int .i64 0,.int .i64 0,.int .i64 0]):=by kernel_rfl
theorem aH {P:Program} {N:Nat} {f:Fr} {ds:List Deferred} {w w':World} {o:Oper} {v v':Value} (h:Ex P N f ds o w v w') (e:v=v'):Ex P N f ds o w v' w':=e ▸ h
theorem d6 {α:Type} {P:α→Prop} {l:List α} {k:Nat} {x:α} (h:∀ y∈l.take k,P y) (hx:l[k]?=some x) (hq:P x):∀ y∈l.take (k+1),P y:=fun y hy=>by
 rw [List.take_add_one,hx] at hy
 rcases List.mem_append.1 hy with hy | hy
 · exact h y hy
 · have e:=Option.some.inj (Option.mem_toList.1 hy); rw [← e]; exact hq
theorem Pu {l:List Int} {j:Nat} {x:Int} (h:l[j]?=some x):x∈l:=List.mem_of_getElem? h
theorem aj {α:Type} {l:List α} {k:Nat} {x:α} (h:l[k]?=some x):l.take (k+1)=l.take k++[x]:=by rw [List.take_add_one,h]; rfl
theorem Nw {α:Type} {l:List α} {j:Nat} {x y:α} (h:l[j]?=some x):(l.set j y)[j]?=some y:=List.getElem?_set_self (List.getElem?_eq_some_iff.1 h).1
theorem PZ:Tryz.prog.eqGuardType Tryz.prog.depth 44=false:=by kernel_rfl
def mY (c:aV):Array Value:=#[.int .i64 c.pc,.int .i64 c.bg,.int .i64 c.ln]
theorem Lq (a b:aV) (w:World):(binOp .eql 44 (.agg (mY a)) (.agg (mY b))).run Tryz.prog w=.ok (.bool (decide (a=b))) w:=by
 obtain ⟨a1,a2,a3⟩:=a
 obtain ⟨b1,b2,b3⟩:=b
 by_cases h1:a1=b1
 · subst h1
   by_cases h2:a2=b2
   · subst h2
     by_cases h3:a3=b3
     · subst h3; simp [mY,go_sem]
     · simp [mY,go_sem,h3]
   · simp [mY,go_sem,h2]
 · simp [mY,go_sem,h1]
theorem Lp (a b:aV) (w:World):(binOp .neq 44 (.agg (mY a)) (.agg (mY b))).run Tryz.prog w=.ok (.bool (!decide (a=b))) w:=by
 obtain ⟨a1,a2,a3⟩:=a
 obtain ⟨b1,b2,b3⟩:=b
 by_cases h1:a1=b1
 · subst h1
   by_cases h2:a2=b2
   · subst h2
     by_cases h3:a3=b3
     · subst h3; simp [mY,go_sem]
     · simp [mY,go_sem,h3]
   · simp [mY,go_sem,h2]
 · simp [mY,go_sem,h1]
theorem wO {xo yo:Operand} {w:World} (a b:aV):iM Tryz.prog .eql 44 xo yo (.agg (mY a)) (.agg (mY b)) w (.bool (decide (a=b))):=by
 unfold iM
 simp only [Sem.run_bind,run_eqGuard_agg w .eql 44 xo yo (mY a) (mY b) PZ,Result.andThen_ok]
 exact Lq a b w
theorem Hr {xo yo:Operand} {w:World} (a b:aV):iM Tryz.prog .neq 44 xo yo (.agg (mY a)) (.agg (mY b)) w (.bool (!decide (a=b))):=by
 unfold iM
 simp only [Sem.run_bind,run_eqGuard_agg w .neq 44 xo yo (mY a) (mY b) PZ,Result.andThen_ok]
 exact Lp a b w
theorem vT {l:List aV} {j:Nat} {x:aV} (h:l[j]?=some x):x∈l:=List.mem_of_getElem? h
def oh (A:PK) (k i:Int):Int:=if (k<1∨1000<k)∨(i ≠ -2∧(i<0∨(A.n:Int)≤i)) then 7 else if (fD A.peers k).isSome=true then 0 else 8
theorem O_ (A:PK) (k:Int):oh A k (-2)=A.peE k:=by
 unfold oh PK.peE
 by_cases h:k<1∨1000<k
 · rw [if_pos (.inl h),if_pos h]
 · rw [if_neg h,if_neg]
   rintro (h2 | ⟨h2,_⟩)
   · exact h h2
   · exact h2 rfl
theorem sP (A:PK) (k:Int) {i:Int} (hi:i ≠ -2):oh A k i=A.boE k i:=by
 unfold oh PK.boE
 by_cases h:(k<1∨1000<k)∨(i<0∨(A.n:Int)≤i)
 · rw [if_pos h,if_pos]
   rcases h with h | h
   · exact .inl h
   · exact .inr ⟨hi,h⟩
 · rw [if_neg h,if_neg]
   rintro (h2 | ⟨_,h2⟩)
   · exact h (.inl h2)
   · exact h (.inr h2)
theorem kY (al:AL) (c:aV):(cn al c).length≤al.length:=by
 have key:∀ (al:AL) (o:List Int),(al.foldl (wd c) o).length≤o.length+al.length:=by
   intro al
   induction al with
   | nil=>intro o; exact Nat.le_refl _
   | cons a al ih =>
     intro o
     have h1:=ih (wd c o a)
     have h2:(wd c o a).length≤o.length+1:=by
       unfold wd
       split
       · rw [nu]; exact Nat.le_refl _
       · exact Nat.le_succ _
     rw [List.foldl_cons,List.length_cons]; omega
 have:=key al []
 rw [List.length_nil,Nat.zero_add] at this; exact this
theorem iK (al:AL) (k:Int):(bO al k).length≤al.length:=by
 unfold bO
 rw [List.length_map]; exact List.length_filter_le _ _
theorem w_ {al:AL} {i:Nat} {a:Int × aV} (h:al[i]?=some a) (c:aV):cn (al.take (i+1)) c=if a.2=c then eU a.1 (cn (al.take i) c) else cn (al.take i) c:=by
 rw [aj h]
 obtain ⟨k,d⟩:=a
 exact qo _ k d c
theorem zf {al:AL} {i:Nat} {a:Int × aV} (h:al[i]?=some a) (k:Int):bO (al.take (i+1)) k=if a.1=k then bO (al.take i) k++[a.2] else bO (al.take i) k:=by
 rw [aj h]
 obtain ⟨j,d⟩:=a
 rw [zg]
 by_cases e:k=j
 · rw [if_pos e,if_pos e.symm]
 · rw [if_neg e,if_neg (fun h=>e h.symm)]
theorem En {o:List Int} {k:Int} {a:Nat} (hs:o.Pairwise (·<·)) (h1:∀ y∈o.take a,y<k) (h2:a=o.length∨∃ y,o[a]?=some y∧¬ y<k):o.take a++([k]++o.drop a)=eU k o:=by
 have e1:o.filter (fun x=>decide (x<k))=o.take a:=by
   conv=>lhs; rw [← List.take_append_drop a o]
   rw [List.filter_append,List.filter_eq_self.2 (fun y hy=>dt (h1 y hy)),List.filter_eq_nil_iff.2,List.append_nil]
   intro y hy hd
   have hd:=of_decide_eq_true hd
   rcases h2 with rfl | ⟨z,hz,hn⟩
   · rw [List.drop_length] at hy; cases hy
   · obtain ⟨i,hi⟩:=List.getElem?_of_mem hy
     rw [List.getElem?_drop] at hi
     rcases Nat.eq_zero_or_pos i with h0 | h0
     · subst h0
       rw [Nat.add_zero,hz] at hi; cases hi; exact hn hd
     obtain ⟨p1,p2⟩:=List.getElem?_eq_some_iff.1 hz
     obtain ⟨p3,p4⟩:=List.getElem?_eq_some_iff.1 hi
     have:=List.pairwise_iff_getElem.1 hs a (a+i) p1 p3 (by omega)
     rw [p2,p4] at this; omega
 have e2:o.filter (fun x=>decide (k≤x))=o.drop a:=by
   conv=>lhs; rw [← List.take_append_drop a o]
   rw [List.filter_append,List.filter_eq_nil_iff.2,List.nil_append,List.filter_eq_self.2]
   · intro y hy
     refine dt ?_
     rcases h2 with rfl | ⟨z,hz,hn⟩
     · rw [List.drop_length] at hy; cases hy
     obtain ⟨i,hi⟩:=List.getElem?_of_mem hy
     rw [List.getElem?_drop] at hi
     rcases Nat.eq_zero_or_pos i with h0 | h0
     · subst h0
       rw [Nat.add_zero,hz] at hi; cases hi; omega
     obtain ⟨p1,p2⟩:=List.getElem?_eq_some_iff.1 hz
     obtain ⟨p3,p4⟩:=List.getElem?_eq_some_iff.1 hi
     have:=List.pairwise_iff_getElem.1 hs a (a+i) p1 p3 (by omega)
     rw [p2,p4] at this; omega
   · intro y hy hd
     have:=h1 y hy
     have hd:=of_decide_eq_true hd
     omega
 unfold eU
 rw [e1,e2]; rfl
theorem zB (l:List aV) (p:Option Addr) (n c:Nat) (x:aV) (hn:n≤1099511627776)  (w:World) (hr:bz w p n c 3 (fl aO l)):Calls Tryz.prog 124 #[.slice p n c,.agg #[vI x.pc,vI x.bg,vI x.ln]] w fun e w'=>e=.returned (.bool (decide (x∈l)))∧S w' [aB w no]:=by
 have H0:=S.old w
 have hnl:=hr.lenL cN
 refine en Tryz.func124 ?_
 refine ah [0,1] ?_
 refine iF ?_
 refine l_of (fq H0 ?_)
 intro g1 h2 H3
 refine eG ?_
 refine cQ (ι:=Nat) (fun i=>[(3,vP g1),(7,.slice p n c),(8,vI n),(9,vI i)]) (fun i wx=>(i≤n)∧(∀ y∈l.take i,¬ y=x)∧S wx [Ob g1 (.cells #[vI x.pc,vI x.bg,vI x.ln] 44 (0,0)),aB w no]) (fun i=>n - i) (0) ⟨Nat.zero_le _,(fun y hy=>by simp at hy),H3⟩ ?_
 rintro i h1 ⟨hi,hno,H5⟩
 refine ah [3,7,8,9] ?_
 refine aC ?_
 refine g_seq ?_
 by_cases H7:((i:Int):Int)<(n:Int)
 ·
  refine bm H7 ?_
  refine aQ ?_
  refine w_v (iH i (H5.exReads (k:=1) rfl hr (fun _ _ _ h=>h))) ?_
  obtain ⟨x7,H6⟩:=(H5.exReads (k:=1) rfl hr (fun _ _ _ h=>h)).exL cN i
  refine w_v (bc (vs:=aO x7) i (H5.exReads (k:=1) rfl hr (fun _ _ _ h=>h)) (by omega) rfl rfl Tryz.underlying44 rfl dE (by rfl) (cN.flAt H6)) ?_
  refine l_of (cA H5 gX ?_)
  intro g8 h0 H9
  refine l_of (eu H9 0 ?_)
  intro H8 H4
  refine ae ?_
  refine w_v (fS H4 0) ?_
  refine w_v (fS H4 1) ?_
  refine bP (v:=.bool (decide (x7=x))) (hb:=(wO x7 x)) ?_
  refine cD ?_
  by_cases H2:x7=x
  ·
   refine bm H2 ?_
   refine eG ?_
   refine af ?_
   have hm:x∈l:=by have h9:=vT H6; have h8:=H2; first | (rw [← h8]; exact h9) | (rw [h8]; exact h9)
   exact ⟨by rw [dt hm]; rfl,H4.tk [2]⟩
  refine br H2 ?_
  refine aE ?_
  refine gI i ?_
  refine ae ?_
  refine bD (i:=(i)) ((i+1)) ⟨by omega,(d6 hno H6 H2),(H4.tk [1,2])⟩
 refine br H7 ?_
 refine eG ?_
 refine af ?_
 rw [List.take_of_length_le (by omega)] at hno
 have hm:¬ x∈l:=fun h=>hno x h rfl
 exact ⟨by rw [df hm]; rfl,H5.tk [1]⟩
theorem nz (Z:ZP) (A:PK) (j:Nat) (hZ:fU Z A) (hI:bQ j A) (i:Int) (hi:0≤i∧i<(A.n:Int))  (w:World) (HS:S w [(ZI Z A)]):Calls Tryz.prog 129 #[vP Z.g,vI i] w fun e w'=>∃ p' c',e=.returned (.slice p' (A.blocks i).length c')∧S w' ([Rw 44 3 p' (A.blocks i).length c' (fl aO (A.blocks i)),(ZI Z A)]++[aB w (aT [(ZI Z A)])]):=by
 have H0:=HS.bu
 have h8:=hI.a8
 have hsz9:=qF hI i
 refine en Tryz.func129 ?_
 refine ah [0,1] ?_
 refine cS ?_
 refine g_seq ?_
 refine g_cut (ι:=Nat) (fun z=>[(1,vI i),(5,vI z)]) (fun z wx=>(z=A.size i)∧S wx [Z0 Z A,Z1 Z A,Z2 Z A,Z3 Z A,Z4 Z A,Z5 Z,bM gW Z.rs,aB w (aT [(ZI Z A)])]) ?_ ?_
 ·
  refine a_ ?_
  refine bP (v:=vI ((A.n:Int) - 1)) (hb:=(vj (jD (by omega)))) ?_
  refine ae ?_
  by_cases H2:(i:Int)=(A.n:Int) - 1
  ·
   refine bm H2 ?_
   refine cp ?_
   refine iu (A.la) ?_ ?_
   · exact ⟨rfl,rfl,trivial⟩
   exact ⟨(by unfold PK.size; rw [if_pos H2]),H0⟩
  refine br H2 ?_
  refine ae ?_
  refine iu (A.pz) ?_ ?_
  · exact ⟨rfl,rfl,trivial⟩
  exact ⟨(by unfold PK.size; rw [if_neg H2]),H0⟩
 rintro z h4 ⟨hz,H3⟩
 refine ah [1,5] ?_
 refine iF ?_
 have H4:=H3.nilFl 44 3 aO
 refine cp ?_
 refine cQ (ι:=Nat × Option Addr × Nat × List aV) (fun (q,pb,cb,oz)=>[(1,vI i),(5,vI z),(6,.slice pb oz.length cb),(7,vI (((16 * q:Nat):Int)))]) (fun (q,pb,cb,oz) wx=>(q≤(z+15) / 16)∧(oz=(yA i z).take q)∧S wx [Rw 44 3 pb oz.length cb (fl aO oz),Z0 Z A,Z1 Z A,Z2 Z A,Z3 Z A,Z4 Z A,Z5 Z,bM gW Z.rs,aB w (aT [(ZI Z A)])]) (fun (q,pb,cb,oz)=>(z+15) / 16 - q) (0,none,0,[]) ⟨(Nat.zero_le _),rfl,(H4.tk [0,1,2,3,4,5,6,7,8])⟩ ?_
 rintro ⟨q,pb,cb,oz⟩ h3 ⟨hq,hoz,H6⟩
 refine ah [1,5,6,7] ?_
 have hlt9:oz.length≤128:=by rw [hoz,List.length_take,uz]; omega
 refine a_ ?_
 by_cases H5:(((16 * q:Nat):Int):Int)<(z:Int)
 ·
  refine bm H5 ?_
  refine cS ?_
  refine bP (v:=vI ((z:Int) - ((16 * q:Nat):Int))) (hb:=(vj (jD (by omega)))) ?_
  refine w_v (v:=vI (min 16 ((z:Int) - ((16 * q:Nat):Int)))) (yL rfl rfl rfl) ?_
  refine w_v (v:=.agg #[vI i,vI (((16 * q:Nat):Int)),vI (min 16 ((z:Int) - ((16 * q:Nat):Int)))]) (j4) ?_
  refine l_of (fC gX #[vI i,vI (((16 * q:Nat):Int)),vI (min 16 ((z:Int) - ((16 * q:Nat):Int)))] H6 ?_)
  intro g8 h2 H7
  have hln15a:=(H7.rr 1).lenL cN
  have hln15:(oz++[(⟨i,((16 * q:Nat):Int),min 16 ((z:Int) - ((16 * q:Nat):Int))⟩:aV)]).length=oz.length+1:=by simp only [List.length_append,List.length_cons,List.length_nil] <;> omega
  refine l_of (fE kN [(⟨i,((16 * q:Nat):Int),min 16 ((z:Int) - ((16 * q:Nat):Int))⟩:aV)] cN H7 1 0 ?_)
  intro H9 h0 H8 h1
  refine aE ?_
  refine ah [1,5,6,7] ?_
  refine ae ?_
  refine bP (v:=vI (((16 * (q+1):Nat):Int))) (hb:=(dY (by rw [jD (by omega)]; omega))) ?_
  refine ae ?_
  refine bD (i:=(q,pb,cb,oz)) ((q+1),H9,h0,(oz++[(⟨i,((16 * q:Nat):Int),min 16 ((z:Int) - ((16 * q:Nat):Int))⟩:aV)])) ⟨(by omega),(by rw [aj (Am (i:=i) (z:=z) (q:=q) (by omega)),← hoz]; rfl),(h1.tk [1,2,3,4,5,6,7,8,9])⟩
 refine br H5 ?_
 refine cS ?_
 refine af ?_
 have he9:oz=A.blocks i:=by unfold PK.blocks; rw [hoz,← hz]; exact List.take_of_length_le (by rw [uz]; omega)
 subst he9
 exact ⟨_,_,rfl,((S.big (L:=[_,_,_,_,_,_,_]) (H6.tk [1,2,3,4,5,6,7,0,8])).tk [1,0,2])⟩
theorem EK (Z:ZP) (A:PK) (j:Nat) (hZ:fU Z A) (hI:bQ j A) (c:aV)  (w:World) (HS:S w [(ZI Z A)]):Calls Tryz.prog 123 #[vP Z.g,.agg #[vI c.pc,vI c.bg,vI c.ln]] w fun e w'=>e=.returned (.bool (decide (A.isB c)))∧S w' ([(ZI Z A)]++[aB w (aT [(ZI Z A)])]):=by
 have H0:=HS.bu
 have h8:=hI.a8
 refine en Tryz.func123 ?_
 refine ah [0,1] ?_
 refine iF ?_
 refine l_of (fq H0 ?_)
 intro g1 g2 H3
 refine ae ?_
 iterate 2 refine g_seq ?_
 refine oP (by kernel_rfl) (by kernel_rfl) H3 ?_
 refine kJ (fun _ _=>yq) ?_
 refine kJ (fun _ H=>xl H 0) ?_
 refine kJ (fun _ _=>ai rfl rfl rfl dG) ?_
 refine kJ (fun _ _=>xm) ?_
 by_cases H2:(c.pc:Int)<0
 ·
  iterate 7 refine Mw (nY rfl rfl rfl rfl (dt H2)) rfl rfl ?_
  refine kJ (fun _ _=>pt (dt H2)) ?_
  refine tG (fun g0 H6=>?_)
  refine aR ?_
  refine ah [0,3,16] ?_
  refine g_cond_t rfl rfl ?_
  refine aQ ?_
  refine af ?_
  have hn9:¬ A.isB c:=fun h9=>by obtain ⟨a9,b9,_⟩:=h9; omega
  rw [df hn9]
  exact ⟨rfl,(H6.b7 [1,2,3,4,5,6,7,8])⟩
 refine lF (v:=vP g1) (cU rfl rfl rfl rfl (df H2)) rfl rfl (fun wx H=>c_ rfl rfl wC rfl) ?_
 refine lF (v:=vI c.pc) (cU rfl rfl rfl rfl (df H2)) rfl rfl (fun wx H=>gi H 0 rfl rfl Tryz.underlying3 rfl rfl rfl) ?_
 refine lF (v:=vP Z.g) (cU rfl rfl rfl rfl (df H2)) rfl rfl (fun wx H=>bY rfl rfl) ?_
 refine lF (v:=vP Z.g) (cU rfl rfl rfl rfl (df H2)) rfl rfl (fun wx H=>fm rfl rfl) ?_
 refine lF (v:=vP Z.g) (cU rfl rfl rfl rfl (df H2)) rfl rfl (fun wx H=>c_ rfl rfl OO rfl) ?_
 refine lF (v:=vI A.n) (cU rfl rfl rfl rfl (df H2)) rfl rfl (fun wx H=>gi H 1 rfl rfl Tryz.underlying3 rfl rfl rfl) ?_
 refine lF (v:=.bool (decide (((A.n:Int):Int)≤c.pc))) (cU rfl rfl rfl rfl (df H2)) rfl rfl (fun wx H=>ai rfl rfl rfl nm) ?_
 refine kJ (fun _ _=>pf (df H2)) ?_
 refine tG (fun h7 H8=>?_)
 refine aR ?_
 refine ah [0,3,16] ?_
 by_cases H9:((A.n:Int):Int)≤c.pc
 ·
  refine bm H9 ?_
  refine aQ ?_
  refine af ?_
  have hn9:¬ A.isB c:=fun h9=>by obtain ⟨a9,b9,_⟩:=h9; omega
  rw [df hn9]
  exact ⟨rfl,(H8.b7 [1,2,3,4,5,6,7,8])⟩
 refine br H9 ?_
 refine ae ?_
 refine g_seq ?_
 refine g_aM [] [0] [] H8 (fun h6 h3=>?_)
 have H4:=h3.tk [0]
 refine aU 0 H4 ?_
 refine aU 1 H4 ?_
 refine eY 2 0 H4 ?_
 refine bT 4 rfl H4 (fun _ H=>fS H 0) ?_
 refine bG (i:=3) ?_
 have h2:=h3.b7 [1,2,3,4,5,6,7,0,8]
 refine aG (nz Z A j hZ hI c.pc (by omega) _ (h2.tk [0])) ?_
 rintro _ h5 ⟨pb12,cb13,rfl,H7⟩
 replace H7:=h2.aI2 [0] H7
 have hblpb12:=(cZ hI c.pc).2
 have H5:=H7.ub [1,0,2,3]
 refine bW ?_
 refine bF (H5.tk [8]) ?_
 refine bG (i:=5) ?_
 refine cz H5 (zB (A.blocks c.pc) pb12 ((A.blocks c.pc).length) cb13 c (by omega) _ (H5.rr 7)) ?_
 intro h4 h1
 have h0:=h1.tk [8]
 refine bF h0 ?_
 refine aU 6 h0 ?_
 refine fP ?_
 refine ae ?_
 refine af ?_
 have he9:decide (c∈A.blocks c.pc)=decide (A.isB c):=by refine decide_eq_decide.2 ⟨fun h9=>⟨by omega,by omega,h9⟩,fun h9=>h9.2.2⟩
 rw [← he9]
 exact ⟨rfl,(h1.b7 [0,1,2,3,4,5,6,9])⟩
theorem MR (Z:ZP) (A:PK) (j:Nat) (hZ:fU Z A) (hI:bQ j A) (c:aV) (hj:j≤100000)  (w:World) (HS:S w [(ZI Z A)]):Calls Tryz.prog 125 #[vP Z.g,.agg #[vI c.pc,vI c.bg,vI c.ln]] w fun e w'=>∃ p' c',e=.returned (.slice p' (cn A.asked c).length c')∧S w' ([Rw 3 1 p' (cn A.asked c).length c' (fl cg (cn A.asked c)),(ZI Z A)]++[aB w (aT [(ZI Z A)])]):=by
 have H0:=HS.bu
 have h8:=hI.a8
 have hal9:=hI.al
 refine en Tryz.func125 ?_
 refine ah [0,1] ?_
 refine iF ?_
 refine l_of (fq H0 ?_)
 intro g1 k0 H3
 refine aC ?_
 have H4:=H3.nilFl 3 1 cg
 refine jG ?_
 refine cQ (ι:=Nat × Option Addr × Nat × List Int) (fun (i,pq,cq,oz)=>[(3,vP g1),(5,.slice pq oz.length cq),(12,.slice Z.ap A.asked.length Z.ac),(13,vI A.asked.length),(14,vI i)]) (fun (i,pq,cq,oz) wx=>(i≤A.asked.length)∧(oz=cn (A.asked.take i) c)∧(oz.length≤i)∧S wx [Rw 3 1 pq oz.length cq (fl cg oz),Z0 Z A,Z1 Z A,Z2 Z A,Z3 Z A,Z4 Z A,Z5 Z,bM gW Z.rs,Ob g1 (.cells #[vI c.pc,vI c.bg,vI c.ln] 44 (0,0)),aB w (aT [(ZI Z A)])]) (fun (i,pq,cq,oz)=>A.asked.length - i) (0,none,0,[]) ⟨Nat.zero_le _,rfl,(Nat.le_refl 0),(H4.tk [0,2,3,4,5,6,7,8,1,9])⟩ ?_
 rintro ⟨i,pq,cq,oz⟩ b9 ⟨hi,hoz,hol,H6⟩
 refine ah [3,5,12,13,14] ?_
 have hos9:oz.Pairwise (·<·):=by rw [hoz]; exact l7 (hI.an.sublist (List.take_sublist ..)) c
 refine aC ?_
 refine g_seq ?_
 by_cases g3:((i:Int):Int)<(A.asked.length:Int)
 ·
  refine bm g3 ?_
  refine aQ ?_
  refine w_v (iH i (H6.rr 5)) ?_
  obtain ⟨x8,h5⟩:=(H6.rr 5).exL lC i
  refine w_v (bc (vs:=askL x8) i (H6.rr 5) (by omega) rfl rfl Tryz.underlying150 rfl DD (by rfl) (lC.flAt h5)) ?_
  refine l_of (cA H6 vc ?_)
  intro g9 w9 b8
  refine l_of (eu b8 0 ?_)
  intro w8 h9
  refine aE ?_
  refine w_v (v:=.agg #[.int .i64 (x8.2.pc),.int .i64 (x8.2.bg),.int .i64 (x8.2.ln)]) (iN h9 0 rfl rfl Tryz.underlying44 rfl dE rfl rfl rfl) ?_
  refine w_v (v:=.agg #[.int .i64 (c.pc),.int .i64 (c.bg),.int .i64 (c.ln)]) (iN h9 9 rfl rfl Tryz.underlying44 rfl dE rfl rfl rfl) ?_
  refine bP (v:=.bool (!decide (x8.2=c))) (hb:=(Hr x8.2 c)) ?_
  refine cD ?_
  by_cases H5:x8.2=c
  ·
   refine kw H5 ?_
   refine cp ?_
   refine cQ (ι:=Nat) (fun a=>[(3,vP g1),(5,.slice pq oz.length cq),(7,vP g9),(8,vI a),(12,.slice Z.ap A.asked.length Z.ac),(13,vI A.asked.length),(14,vI i)]) (fun a wx=>(a≤oz.length)∧(∀ y∈oz.take a,y<x8.1)∧S wx [Ob g9 (.cells #[vI x8.1,vI x8.2.pc,vI x8.2.bg,vI x8.2.ln] 150 (0,0)),Rw 3 1 pq oz.length cq (fl cg oz),Z0 Z A,Z1 Z A,Z2 Z A,Z3 Z A,Z4 Z A,Z5 Z,bM gW Z.rs,Ob g1 (.cells #[vI c.pc,vI c.bg,vI c.ln] 44 (0,0)),aB w (aT [(ZI Z A)])]) (fun a=>oz.length - a) (0) ⟨(Nat.zero_le _),(fun y hy=>by simp at hy),h9⟩ ?_
   rintro a c9 ⟨ha,hlt,g2⟩
   refine ah [3,5,7,8,12,13,14] ?_
   iterate 2 refine g_seq ?_
   refine oP (by kernel_rfl) (by kernel_rfl) g2 ?_
   iterate 2 refine kJ (fun _ _=>xm) ?_
   refine kJ (fun _ _=>Aw) ?_
   refine kJ (fun _ _=>ai rfl rfl rfl dG) ?_
   refine kJ (fun _ _=>xm) ?_
   by_cases H2:((a:Int):Int)<(oz.length:Int)
   ·
    refine lF (v:=.slice pq oz.length cq) (cU rfl rfl rfl rfl (dt H2)) rfl rfl (fun wx H=>bY rfl rfl) ?_
    refine lF (v:=vI a) (cU rfl rfl rfl rfl (dt H2)) rfl rfl (fun wx H=>bY rfl rfl) ?_
    refine lF (v:=.pointer ((pq).map fun q=>q.add (a * 1))) (cU rfl rfl rfl rfl (dt H2)) rfl rfl (fun wx H=>zG a ((g2.rr 1).some (by omega)) rfl rfl rfl Tryz.underlying59 si (by omega)) ?_
    obtain ⟨g0,h0⟩:=(g2.rr 1).exL bE a
    refine lF (v:=vI g0) (cU rfl rfl rfl rfl (dt H2)) rfl rfl (fun wx H=>wT a (H.rr 1) (by omega) rfl rfl Tryz.underlying3 rfl (bE.flAt1 h0 rfl)) ?_
    refine lF (v:=vP g9) (cU rfl rfl rfl rfl (dt H2)) rfl rfl (fun wx H=>c_ rfl rfl KQ rfl) ?_
    refine lF (v:=vI x8.1) (cU rfl rfl rfl rfl (dt H2)) rfl rfl (fun wx H=>gi H 0 rfl rfl Tryz.underlying3 rfl rfl rfl) ?_
    refine lF (v:=.bool (decide ((g0:Int)<x8.1))) (cU rfl rfl rfl rfl (dt H2)) rfl rfl (fun wx H=>ai rfl rfl rfl dG) ?_
    refine kJ (fun _ _=>pt (dt H2)) ?_
    refine tG (fun c8 x1=>?_)
    refine aR ?_
    by_cases H7:(g0:Int)<x8.1
    ·
     refine bm H7 ?_
     refine aQ ?_
     refine gI a ?_
     refine aE ?_
     refine bD (i:=(a)) ((a+1)) ⟨(by omega),(d6 hlt h0 H7),x1⟩
    refine br H7 ?_
    refine aR ?_
    have hins:oz.take a++([x8.1]++oz.drop a)=eU x8.1 oz:=En hos9 hlt (.inr ⟨_,h0,H7⟩)
    refine aE ?_
    refine g_aM [] [0] [] x1 (fun c7 h4=>?_)
    have H9:=h4.tk [0]
    refine aU 0 H9 ?_
    refine aU 1 H9 ?_
    refine aU 2 H9 ?_
    have hnc:=(h4.rr 1).2.1
    refine bT (v:=.slice (tJ pq a 1) a a) 3 rfl H9 (fun _ _=>uI a a rfl rfl rfl rfl Tryz.underlying59 si (by omega)) ?_
    refine aU 4 H9 ?_
    refine eY 5 0 H9 ?_
    refine aU 7 H9 ?_
    refine aU 8 H9 ?_
    have hnc:=(h4.rr 1).2.1
    have hnl:=(h4.rr 1).lenL bE
    have hdl:(oz.drop a).length=oz.length - a:=by rw [List.length_drop,← hnl]
    refine bT (v:=.slice (kA pq a cq 1) ((oz.drop a).length) (cq - a)) 9 rfl H9 (fun _ _=>aH (vd a rfl rfl rfl Tryz.underlying59 si (by omega)) (by rw [List.length_drop,← hnl])) ?_
    refine bG (i:=6) ?_
    refine fC Av #[vI x8.1] h4 ?_
    intro k4 c6 x0
    refine bF (x0.tk [1]) ?_
    refine bG (i:=10) ?_
    have h7:=S.oF bE 1 [x8.1] x0
    have hln32a:=(h7.rr 0).lenL bE
    have hln32b:=((h7.rr 2).cutLn bE a (by omega)).lenL bE
    have hln32:([x8.1]++(oz.drop a)).length=1+((oz.drop a).length):=by simp only [List.length_append,List.length_cons,List.length_nil] <;> omega
    refine iO (l:=[x8.1]) (l2:=(oz.drop a)) bE h7 0 (bh rfl) rfl rfl rfl rfl rfl rfl Tryz.underlying59 oe rfl (by decide) ((h7.rr 2).cutLn bE a (by omega)) (by omega) ?_
    intro k2 k6 x9 h2
    refine bF (h2.tk [1]) ?_
    refine bG (i:=11) ?_
    have hln37a:=((h2.rr 2).clipL bE a (by omega)).lenL bE
    have hln37b:=(h2.rr 0).lenL bE
    have hln37:((oz.take a)++([x8.1]++(oz.drop a))).length=a+(([x8.1]++(oz.drop a)).length):=by simp only [List.length_append,List.length_cons,List.length_nil] <;> omega
    refine qG (l:=(oz.take a)) (l2:=([x8.1]++(oz.drop a))) bE h2 (bh rfl) rfl rfl rfl rfl rfl ((h2.rr 2).clipL bE a (by omega)) Tryz.underlying59 oe rfl (by decide) (h2.rr 0) (by omega) (by omega) ?_
    intro b1 b6 x7 g8
    have g5:=g8.tk [2]
    refine bF g5 ?_
    refine aU 12 g5 ?_
    refine fP ?_
    refine ae ?_
    refine ah [3,5,12,13,14,27,28,29,30,31,32,33] ?_
    refine aR ?_
    refine gI i ?_
    refine ae ?_
    refine bD (i:=(i,pq,cq,oz)) ((i+1),b1,b6,((oz.take a)++([x8.1]++(oz.drop a)))) ⟨by omega,(by rw [w_ h5,if_pos H5,← hoz]; exact hins),(by rw [hins,nu]; omega),(g8.tk [0,4,5,6,7,8,9,10,11,12])⟩
   iterate 7 refine Mw (nY rfl rfl rfl rfl (df H2)) rfl rfl ?_
   refine kJ (fun _ _=>pf (df H2)) ?_
   refine tG (fun x6 b7=>?_)
   refine aR ?_
   refine g_cond_f rfl rfl ?_
   refine aR ?_
   have hins:oz.take a++([x8.1]++oz.drop a)=eU x8.1 oz:=En hos9 hlt (.inl (by omega))
   refine aE ?_
   refine g_aM [] [0] [] b7 (fun x5 h3=>?_)
   have H8:=h3.tk [0]
   refine aU 0 H8 ?_
   refine aU 1 H8 ?_
   refine aU 2 H8 ?_
   have hnc:=(h3.rr 1).2.1
   refine bT (v:=.slice (tJ pq a 1) a a) 3 rfl H8 (fun _ _=>uI a a rfl rfl rfl rfl Tryz.underlying59 si (by omega)) ?_
   refine aU 4 H8 ?_
   refine eY 5 0 H8 ?_
   refine aU 7 H8 ?_
   refine aU 8 H8 ?_
   have hnc:=(h3.rr 1).2.1
   have hnl:=(h3.rr 1).lenL bE
   have hdl:(oz.drop a).length=oz.length - a:=by rw [List.length_drop,← hnl]
   refine bT (v:=.slice (kA pq a cq 1) ((oz.drop a).length) (cq - a)) 9 rfl H8 (fun _ _=>aH (vd a rfl rfl rfl Tryz.underlying59 si (by omega)) (by rw [List.length_drop,← hnl])) ?_
   refine bG (i:=6) ?_
   refine fC Av #[vI x8.1] h3 ?_
   intro k3 x4 g7
   refine bF (g7.tk [1]) ?_
   refine bG (i:=10) ?_
   have h6:=S.oF bE 1 [x8.1] g7
   have hln50a:=(h6.rr 0).lenL bE
   have hln50b:=((h6.rr 2).cutLn bE a (by omega)).lenL bE
   have hln50:([x8.1]++(oz.drop a)).length=1+((oz.drop a).length):=by simp only [List.length_append,List.length_cons,List.length_nil] <;> omega
   refine iO (l:=[x8.1]) (l2:=(oz.drop a)) bE h6 0 (bh rfl) rfl rfl rfl rfl rfl rfl Tryz.underlying59 oe rfl (by decide) ((h6.rr 2).cutLn bE a (by omega)) (by omega) ?_
   intro k1 k5 x3 h1
   refine bF (h1.tk [1]) ?_
   refine bG (i:=11) ?_
   have hln55a:=((h1.rr 2).clipL bE a (by omega)).lenL bE
   have hln55b:=(h1.rr 0).lenL bE
   have hln55:((oz.take a)++([x8.1]++(oz.drop a))).length=a+(([x8.1]++(oz.drop a)).length):=by simp only [List.length_append,List.length_cons,List.length_nil] <;> omega
   refine qG (l:=(oz.take a)) (l2:=([x8.1]++(oz.drop a))) bE h1 (bh rfl) rfl rfl rfl rfl rfl ((h1.rr 2).clipL bE a (by omega)) Tryz.underlying59 oe rfl (by decide) (h1.rr 0) (by omega) (by omega) ?_
   intro b0 b2 x2 g6
   have g4:=g6.tk [2]
   refine bF g4 ?_
   refine aU 12 g4 ?_
   refine fP ?_
   refine ae ?_
   refine ah [3,5,12,13,14,27,28,29,30,31,32,33] ?_
   refine aR ?_
   refine gI i ?_
   refine ae ?_
   refine bD (i:=(i,pq,cq,oz)) ((i+1),b0,b2,((oz.take a)++([x8.1]++(oz.drop a)))) ⟨by omega,(by rw [w_ h5,if_pos H5,← hoz]; exact hins),(by rw [hins,nu]; omega),(g6.tk [0,4,5,6,7,8,9,10,11,12])⟩
  refine mX H5 ?_
  refine aQ ?_
  refine gI i ?_
  refine ae ?_
  refine bD (i:=(i,pq,cq,oz)) ((i+1),pq,cq,oz) ⟨by omega,(by rw [w_ h5,if_neg H5]; exact hoz),(by omega),(h9.tk [1,2,3,4,5,6,7,8,9,10])⟩
 refine br g3 ?_
 refine cS ?_
 refine af ?_
 rw [List.take_of_length_le (by omega)] at hoz
 rw [← hoz]
 exact ⟨_,_,rfl,((S.big (L:=[_,_,_,_,_,_,_]) (H6.tk [1,2,3,4,5,6,7,0,9])).tk [1,0,2])⟩
def iC (Z:ZP) (k n:Int):Prop:=(∃ (i:Nat) (x:Rp),n=(i:Int)∧Z.rs[i]?=some x∧x.k=k)∨(n=-1∧∀ x∈Z.rs,¬ x.k=k)
theorem iC.got {Z:ZP} {A:PK} {k n:Int} (hZ:fU Z A) (h:iC Z k n):decide (n<0)=!(fD A.peers k).isSome:=by
 have hp:∀ x∈Z.rs,x.pe∈A.peers:=fun x hx=>by rw [← hZ]; exact List.mem_map.2 ⟨x,hx,rfl⟩
 rcases h with ⟨i,x,rfl,hx,hk⟩ | ⟨rfl,hn⟩
 · rw [decide_eq_false (by omega)]
   cases hf:fD A.peers k with
   | none=>exact absurd hk (lu hf x.pe (hp x (List.mem_of_getElem? hx)))
   | some p=>rfl
 · rw [decide_eq_true (by decide)]
   cases hf:fD A.peers k with
   | none=>rfl
   | some p =>
     obtain ⟨h1,h2⟩:=qX hf
     rw [← hZ] at h1
     obtain ⟨x,hx,rfl⟩:=List.mem_map.1 h1
     exact absurd h2 (hn x hx)
theorem jL (Z:ZP) (A:PK) (j:Nat) (hZ:fU Z A) (hI:bQ j A) (k:Int)  (w:World) (HS:S w [(ZI Z A)]):Calls Tryz.prog 119 #[vP Z.g,vI k] w fun e w'=>∃ n:Int,e=.returned (vI n)∧iC Z k n∧S w' ([(ZI Z A)]++[aB w (aT [(ZI Z A)])]):=by
 have H0:=HS.bu
 have h8:=hI.a8
 have hrs9:Z.rs.length≤100:=by have h9:=hI.pl; rw [← hZ,List.length_map] at h9; exact h9
 refine en Tryz.func119 ?_
 refine ah [0,1] ?_
 refine v_ ?_
 refine cQ (ι:=Nat) (fun i=>[(1,vI k),(10,.slice Z.pp Z.rs.length Z.pc),(11,vI Z.rs.length),(12,vI i)]) (fun i wx=>(i≤Z.rs.length)∧(∀ y∈Z.rs.take i,¬ y.k=k)∧S wx [Z0 Z A,Z1 Z A,Z2 Z A,Z3 Z A,Z4 Z A,Z5 Z,bM gW Z.rs,aB w (aT [(ZI Z A)])]) (fun i=>Z.rs.length - i) (0) ⟨Nat.zero_le _,(fun y hy=>by simp at hy),(H0.tk [0,1,2,3,4,5,6,7])⟩ ?_
 rintro i h0 ⟨hi,hno,H2⟩
 refine ah [1,10,11,12] ?_
 refine aC ?_
 refine g_seq ?_
 by_cases H5:((i:Int):Int)<(Z.rs.length:Int)
 ·
  refine bm H5 ?_
  refine a_ ?_
  refine w_v (iH i (H2.rr 5)) ?_
  obtain ⟨x4,H4⟩:=(H2.rr 5).exL mR i
  refine w_v (bc (vs:=mQ x4) i (H2.rr 5) (by omega) rfl rfl Tryz.underlying125 rfl rJ (by rfl) (mR.flAt H4)) ?_
  refine l_of (cA H2 na ?_)
  intro g5 H8 H7
  refine Gs ?_
  refine l_of (eu H7 0 ?_)
  intro H6 H9
  refine cp ?_
  by_cases H3:(x4.k:Int)=k
  ·
   refine bm H3 ?_
   refine aE ?_
   refine ah [4] ?_
   refine a_ ?_
   refine af ?_
   exact ⟨_,rfl,.inl ⟨i,x4,rfl,H4,H3⟩,(H9.b7 [1,2,3,4,5,6,7,8])⟩
  refine br H3 ?_
  refine aE ?_
  refine gI i ?_
  refine ae ?_
  refine bD (i:=(i)) ((i+1)) ⟨by omega,(d6 hno H4 H3),(H9.tk [1,2,3,4,5,6,7,8])⟩
 refine br H5 ?_
 refine eG ?_
 refine af ?_
 rw [List.take_of_length_le (by omega)] at hno
 exact ⟨-1,rfl,.inr ⟨rfl,hno⟩,(H2.b7 [0,1,2,3,4,5,6,7])⟩
theorem Aj (Z:ZP) (A:PK) (j:Nat) (hZ:fU Z A) (hI:bQ j A) (k i:Int)  (w:World) (HS:S w [(ZI Z A)]):Calls Tryz.prog 117 #[vP Z.g,vI k,vI i] w fun e w'=>e=.returned (vI (oh A k i))∧S w' ([(ZI Z A)]++[aB w (aT [(ZI Z A)])]):=by
 have H0:=HS.bu
 have h8:=hI.a8
 refine en Tryz.func117 ?_
 refine ah [0,1,2] ?_
 refine eG ?_
 by_cases h1:(k:Int)<1
 ·
  iterate 2 refine dh (dt h1) ?_
  refine w_v (pt (dt h1)) ?_
  refine cJ ?_
  iterate 3 refine dh rfl ?_
  iterate 10 refine Gr ?_
  refine dh rfl ?_
  refine w_v (pt rfl) ?_
  refine ae ?_
  refine ah [0,1,7] ?_
  refine g_cond_t rfl rfl ?_
  refine a_ ?_
  refine af ?_
  have h7:(k<1∨1000<k)∨(i ≠ -2∧(i<0∨(A.n:Int)≤i)):=by omega
  have he:oh A k i=7:=if_pos h7
  rw [he]
  exact ⟨rfl,(H0.b7 [0,1,2,3,4,5,6,7])⟩
 refine aN (df h1) xm ?_
 refine aN (df h1) (ai rfl rfl rfl fK) ?_
 refine w_v (pf (df h1)) ?_
 refine cJ ?_
 by_cases H3:(1000:Int)<k
 ·
  iterate 3 refine dh (dt H3) ?_
  iterate 10 refine Gr ?_
  refine dh (dt H3) ?_
  refine w_v (pt (dt H3)) ?_
  refine ae ?_
  refine ah [0,1,7] ?_
  refine g_cond_t rfl rfl ?_
  refine a_ ?_
  refine af ?_
  have h7:(k<1∨1000<k)∨(i ≠ -2∧(i<0∨(A.n:Int)≤i)):=by omega
  have he:oh A k i=7:=if_pos h7
  rw [he]
  exact ⟨rfl,(H0.b7 [0,1,2,3,4,5,6,7])⟩
 refine aN (df H3) xm ?_
 refine aN (df H3) (ai rfl rfl rfl eh) ?_
 refine aN (df H3) xm ?_
 by_cases H4:(i:Int)=-2
 ·
  iterate 3 refine dh (nf H4) ?_
  iterate 6 refine Gr ?_
  refine dh (nf H4) ?_
  refine aN (df H3) (pf (nf H4)) ?_
  refine w_v (pf (df H3)) ?_
  refine ae ?_
  refine ah [0,1,7] ?_
  refine g_cond_f rfl rfl ?_
  refine aC ?_
  have H6:=H0.b7 [0,1,2,3,4,5,6,7]
  refine l_of (aG (jL Z A j hZ hI k _ (H6.tk [0])) ?_)
  rintro _ h6 ⟨fi4,rfl,hfi5,H8⟩
  have H9:=H6.au H8
  refine bW ?_
  refine aC ?_
  by_cases H7:(fi4:Int)<0
  ·
   refine bm H7 ?_
   refine a_ ?_
   refine af ?_
   have h7:¬ ((k<1∨1000<k)∨(i ≠ -2∧(i<0∨(A.n:Int)≤i))):=by omega
   have hs9:=iC.got hZ hfi5
   rw [dt H7] at hs9
   have he:oh A k i=8:=by unfold oh; rw [if_neg h7]; cases hq:(fD A.peers k).isSome with | true=>rw [hq] at hs9; cases hs9 | false=>rfl
   rw [he]
   exact ⟨rfl,(H9.b7 [0,1,2,3,4,5,6,7])⟩
  refine br H7 ?_
  refine cp ?_
  refine af ?_
  have h7:¬ ((k<1∨1000<k)∨(i ≠ -2∧(i<0∨(A.n:Int)≤i))):=by omega
  have hs9:=iC.got hZ hfi5
  rw [df H7] at hs9
  have he:oh A k i=0:=by unfold oh; rw [if_neg h7]; cases hq:(fD A.peers k).isSome with | false=>rw [hq] at hs9; cases hs9 | true=>rfl
  rw [he]
  exact ⟨rfl,(H9.b7 [0,1,2,3,4,5,6,7])⟩
 refine aN (nt H4) xm ?_
 refine aN (nt H4) (ai rfl rfl rfl dG) ?_
 refine aN (nt H4) xm ?_
 by_cases H2:(i:Int)<0
 ·
  iterate 6 refine dh (dt H2) ?_
  refine aN (nt H4) (pt (dt H2)) ?_
  refine aN (df H3) (pt (nt H4)) ?_
  refine w_v (pf (df H3)) ?_
  refine ae ?_
  refine ah [0,1,7] ?_
  refine g_cond_t rfl rfl ?_
  refine a_ ?_
  refine af ?_
  have h7:(k<1∨1000<k)∨(i ≠ -2∧(i<0∨(A.n:Int)≤i)):=by omega
  have he:oh A k i=7:=if_pos h7
  rw [he]
  exact ⟨rfl,(H0.b7 [0,1,2,3,4,5,6,7])⟩
 iterate 2 refine aN (df H2) xm ?_
 refine aN (df H2) xn ?_
 refine aN (df H2) (xf 0) ?_
 refine aN (df H2) (xl H0 0) ?_
 refine aN (df H2) (ai rfl rfl rfl nm) ?_
 refine aN (nt H4) (pf (df H2)) ?_
 refine aN (df H3) (pt (nt H4)) ?_
 refine w_v (pf (df H3)) ?_
 refine ae ?_
 refine ah [0,1,7] ?_
 by_cases h0:((A.n:Int):Int)≤i
 ·
  refine bm h0 ?_
  refine a_ ?_
  refine af ?_
  have h7:(k<1∨1000<k)∨(i ≠ -2∧(i<0∨(A.n:Int)≤i)):=by omega
  have he:oh A k i=7:=if_pos h7
  rw [he]
  exact ⟨rfl,(H0.b7 [0,1,2,3,4,5,6,7])⟩
 refine br h0 ?_
 refine aC ?_
 have h3:=H0.b7 [0,1,2,3,4,5,6,7]
 refine l_of (aG (jL Z A j hZ hI k _ (h3.tk [0])) ?_)
 rintro _ h4 ⟨fi13,rfl,hfi14,h5⟩
 have h2:=h3.au h5
 refine bW ?_
 refine aC ?_
 by_cases H5:(fi13:Int)<0
 ·
  refine bm H5 ?_
  refine a_ ?_
  refine af ?_
  have h7:¬ ((k<1∨1000<k)∨(i ≠ -2∧(i<0∨(A.n:Int)≤i))):=by omega
  have hs9:=iC.got hZ hfi14
  rw [dt H5] at hs9
  have he:oh A k i=8:=by unfold oh; rw [if_neg h7]; cases hq:(fD A.peers k).isSome with | true=>rw [hq] at hs9; cases hs9 | false=>rfl
  rw [he]
  exact ⟨rfl,(h2.b7 [0,1,2,3,4,5,6,7])⟩
 refine br H5 ?_
 refine cp ?_
 refine af ?_
 have h7:¬ ((k<1∨1000<k)∨(i ≠ -2∧(i<0∨(A.n:Int)≤i))):=by omega
 have hs9:=iC.got hZ hfi14
 rw [df H5] at hs9
 have he:oh A k i=0:=by unfold oh; rw [if_neg h7]; cases hq:(fD A.peers k).isSome with | false=>rw [hq] at hs9; cases hs9 | true=>rfl
 rw [he]
 exact ⟨rfl,(h2.b7 [0,1,2,3,4,5,6,7])⟩
theorem oQ (Z:ZP) (A:PK) (j:Nat) (hZ:fU Z A) (hI:bQ j A) (k:Int) (w:World) (HS:S w [(ZI Z A)]):Calls Tryz.prog 117 #[.pointer (some ⟨Z.g,0,none⟩),.int .i64 k,.int .i64 (-2)] w fun e w'=>e=.returned (.int .i64 (A.peE k))∧S w' ([(ZI Z A)]++[aB w (aT [(ZI Z A)])]):=by
 rw [← O_]; exact Aj Z A j hZ hI k (-2) w HS
theorem vQ (Z:ZP) (A:PK) (j:Nat) (hZ:fU Z A) (hI:bQ j A) (k i:Int) (hi:i ≠ -2) (w:World) (HS:S w [(ZI Z A)]):Calls Tryz.prog 117 #[.pointer (some ⟨Z.g,0,none⟩),.int .i64 k,.int .i64 i] w fun e w'=>e=.returned (.int .i64 (A.boE k i))∧S w' ([(ZI Z A)]++[aB w (aT [(ZI Z A)])]):=by
 rw [← sP A k hi]; exact Aj Z A j hZ hI k i w HS
theorem iC.is {Z:ZP} {A:PK} {k n:Int} (hZ:fU Z A) (h0:A.peE k=0) (h:iC Z k n):∃ (i:Nat) (x:Rp),n=(i:Int)∧Z.rs[i]?=some x∧x.k=k:=by
 rcases h with h | ⟨_,hn⟩
 · exact h
 · obtain ⟨_,_,i,p,hp,hk,_⟩:=vh h0
   have h1:=List.mem_of_getElem? hp
   rw [← hZ] at h1
   obtain ⟨x,hx,rfl⟩:=List.mem_map.1 h1
   exact absurd hk (hn x hx)
theorem fU.at {Z:ZP} {A:PK} (hZ:fU Z A) {i:Nat} {x:Rp} (h:Z.rs[i]?=some x):A.peers[i]?=some x.pe:=by
 rw [← hZ,List.getElem?_map,h]; rfl
theorem qP (Z:ZP) (A:PK) (j:Nat) (hZ:fU Z A) (hI:bQ j A) (k:Int) (hj:j≤100000)  (w:World) (HS:S w [(ZI Z A)]):Calls Tryz.prog 96 #[vP Z.g,vI k] w fun e w'=>∃ p' c',e=.returned (.slice p' (bO A.asked k).length c')∧S w' ([Rw 44 3 p' (bO A.asked k).length c' (fl aO (bO A.asked k)),(ZI Z A)]++[aB w (aT [(ZI Z A)])]):=by
 have H0:=HS.bu
 have h8:=hI.a8
 have hal9:=hI.al
 refine en Tryz.func96 ?_
 refine ah [0,1] ?_
 refine aE ?_
 have H1:=H0.nilFl 44 3 aO
 refine jG ?_
 refine cQ (ι:=Nat × Option Addr × Nat × List aV) (fun (i,pq,cq,oz)=>[(1,vI k),(5,.slice pq oz.length cq),(11,.slice Z.ap A.asked.length Z.ac),(12,vI A.asked.length),(13,vI i)]) (fun (i,pq,cq,oz) wx=>(i≤A.asked.length)∧(oz=bO (A.asked.take i) k)∧(oz.length≤i)∧S wx [Rw 44 3 pq oz.length cq (fl aO oz),Z0 Z A,Z1 Z A,Z2 Z A,Z3 Z A,Z4 Z A,Z5 Z,bM gW Z.rs,aB w (aT [(ZI Z A)])]) (fun (i,pq,cq,oz)=>A.asked.length - i) (0,none,0,[]) ⟨Nat.zero_le _,rfl,(Nat.le_refl 0),(H1.tk [0,1,2,3,4,5,6,7,8])⟩ ?_
 rintro ⟨i,pq,cq,oz⟩ h6 ⟨hi,hoz,hol,H3⟩
 refine ah [1,5,11,12,13] ?_
 refine aC ?_
 refine g_seq ?_
 by_cases H6:((i:Int):Int)<(A.asked.length:Int)
 ·
  refine bm H6 ?_
  refine aQ ?_
  refine w_v (iH i (H3.rr 5)) ?_
  obtain ⟨x5,H4⟩:=(H3.rr 5).exL lC i
  refine w_v (bc (vs:=askL x5) i (H3.rr 5) (by omega) rfl rfl Tryz.underlying150 rfl DD (by rfl) (lC.flAt H4)) ?_
  refine l_of (cA H3 vc ?_)
  intro g6 h5 H8
  refine l_of (eu H8 0 ?_)
  intro h4 H5
  refine cp ?_
  by_cases H2:(x5.1:Int)=k
  ·
   refine bm H2 ?_
   refine aC ?_
   refine w_v (v:=.agg #[.int .i64 (x5.2.pc),.int .i64 (x5.2.bg),.int .i64 (x5.2.ln)]) (iN H5 0 rfl rfl Tryz.underlying44 rfl dE rfl rfl rfl) ?_
   refine l_of (fC gX #[vI x5.2.pc,vI x5.2.bg,vI x5.2.ln] H5 ?_)
   intro h7 h0 H7
   have hln19a:=(H7.rr 2).lenL cN
   have hln19:(oz++[x5.2]).length=oz.length+1:=by simp only [List.length_append,List.length_cons,List.length_nil] <;> omega
   refine l_of (fE kN [x5.2] cN H7 2 0 ?_)
   intro h1 h2 H9 h3
   refine aE ?_
   refine ah [1,5,11,12,13] ?_
   refine aR ?_
   refine gI i ?_
   refine ae ?_
   refine bD (i:=(i,pq,cq,oz)) ((i+1),h1,h2,(oz++[x5.2])) ⟨by omega,(by rw [zf H4,if_pos H2,← hoz]),(by first | omega | (simp only [List.length_append,List.length_cons,List.length_nil]; omega)),(h3.tk [2,3,4,5,6,7,8,9,10])⟩
  refine br H2 ?_
  refine aE ?_
  refine gI i ?_
  refine ae ?_
  refine bD (i:=(i,pq,cq,oz)) ((i+1),pq,cq,oz) ⟨by omega,(by rw [zf H4,if_neg H2]; exact hoz),(by first | omega | (simp only [List.length_append,List.length_cons,List.length_nil]; omega)),(H5.tk [1,2,3,4,5,6,7,8,9])⟩
 refine br H6 ?_
 refine cS ?_
 refine af ?_
 rw [List.take_of_length_le (by omega)] at hoz
 rw [← hoz]
 exact ⟨_,_,rfl,((S.big (L:=[_,_,_,_,_,_,_]) (H3.tk [1,2,3,4,5,6,7,0,8])).tk [1,0,2])⟩
end Go.Proofs.YthmmfhdpkddniaaGreatDoor
