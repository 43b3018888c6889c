import Derived.Test.YthmmfhdpkddniaaGreatDoorPh
set_option maxRecDepth 20000
set_option maxHeartbeats 4000000
set_option linter.all false
namespace Go.Proofs.YthmmfhdpkddniaaGreatDoor
open Go.RowKit
theorem G4 (n pz la:Nat) (seed:ByteArray) (ino:Bool) (h:(1≤n∧n≤24∧16≤pz∧pz≤128∧1≤la∧la≤pz∧seed.size≤100)∧(pz:Int) % 16=0)  (w:World):Calls Tryz.prog 34 #[vI n,vI pz,vI la,.string seed,.bool ino] w fun e w'=>∃ X:XP,di X (fa n pz la seed ino)∧e=.returned (.tuple #[vP X.g,vI 0])∧S w' ([(XI X (fa n pz la seed ino))]++[aB w no]):=by
 have H0:=S.old w
 have hrl:(List.replicate n (⟨0,0⟩:o_)).length=n:=List.length_replicate
 have hrh:(List.replicate n false).length=n:=List.length_replicate
 refine en Tryz.func34 ?_
 refine ah [0,1,2,3,4] ?_
 refine dz ?_
 refine w_v (iJ rfl rfl Tryz.underlying9) ?_
 refine aC ?_
 refine g_cond_f rfl (df (by omega)) ?_
 refine aE ?_
 refine l_of (aJ (v:=.int .i64 ((n:Int))) (cU rfl rfl rfl rfl (decide_eq_false (by omega))) rfl rfl (bY rfl rfl) ?_)
 refine l_of (aJ (v:=.bool (decide ((4096:Int)<(n:Int)))) (cU rfl rfl rfl rfl (decide_eq_false (by omega))) rfl rfl (ai rfl rfl rfl fK) ?_)
 refine w_v Ju ?_
 refine cJ ?_
 refine l_of (aJ (v:=.int .i64 ((pz:Int))) (cU rfl rfl rfl rfl (decide_eq_false (by omega))) rfl rfl (bY rfl rfl) ?_)
 refine l_of (aJ (v:=.bool (decide (((pz:Int):Int)<16))) (cU rfl rfl rfl rfl (decide_eq_false (by omega))) rfl rfl (ai rfl rfl rfl dG) ?_)
 refine w_v Ju ?_
 refine cJ ?_
 refine l_of (aJ (v:=.int .i64 ((pz:Int))) (cU rfl rfl rfl rfl (decide_eq_false (by omega))) rfl rfl (bY rfl rfl) ?_)
 refine l_of (aJ (v:=.bool (decide ((1024:Int)<(pz:Int)))) (cU rfl rfl rfl rfl (decide_eq_false (by omega))) rfl rfl (ai rfl rfl rfl fK) ?_)
 refine w_v Ju ?_
 refine cJ ?_
 refine l_of (aJ (v:=.int .i64 ((pz:Int))) (cU rfl rfl rfl rfl (decide_eq_false (by omega))) rfl rfl (bY rfl rfl) ?_)
 refine l_of (aJ (v:=.int .i64 ((pz:Int) % 16)) (cU rfl rfl rfl rfl (decide_eq_false (by omega))) rfl rfl (ai rfl rfl rfl (yR (by omega) (EZ (by omega)))) ?_)
 refine l_of (aJ (v:=.bool (!decide (((pz:Int) % 16:Int)=0))) (cU rfl rfl rfl rfl (decide_eq_false (by omega))) rfl rfl (ai rfl rfl rfl eh) ?_)
 refine w_v Ju ?_
 refine cJ ?_
 refine l_of (aJ (v:=.int .i64 ((la:Int))) (cU rfl rfl rfl rfl (nf (by omega))) rfl rfl (bY rfl rfl) ?_)
 refine l_of (aJ (v:=.bool (decide (((la:Int):Int)<1))) (cU rfl rfl rfl rfl (nf (by omega))) rfl rfl (ai rfl rfl rfl dG) ?_)
 refine w_v (cH rfl rfl (nf (by omega)) rfl) ?_
 refine cJ ?_
 refine l_of (aJ (v:=.int .i64 ((la:Int))) (cU rfl rfl rfl rfl (decide_eq_false (by omega))) rfl rfl (bY rfl rfl) ?_)
 refine l_of (aJ (v:=.int .i64 ((pz:Int))) (cU rfl rfl rfl rfl (decide_eq_false (by omega))) rfl rfl (bY rfl rfl) ?_)
 refine l_of (aJ (v:=.bool (decide (((pz:Int):Int)<(la:Int)))) (cU rfl rfl rfl rfl (decide_eq_false (by omega))) rfl rfl (ai rfl rfl rfl fK) ?_)
 refine w_v (cH rfl rfl (decide_eq_false (by omega)) rfl) ?_
 refine ae ?_
 refine ah [0,1,2,3,4,18] ?_
 refine g_cond_f rfl (df (by omega)) ?_
 refine aC ?_
 refine g_seq ?_
 refine g_cut (ι:=Nat × Option Addr × Option Addr × Nat × Nat) (fun (g,hp,wp,mg,bg)=>[(12,vP g)]) (fun (g,hp,wp,mg,bg) wx=>S wx [Ob g (.cells #[.map (some mg),vI n,vI pz,vI la,.string seed,.bool ino,.slice hp ((List.replicate n false).length) n,.slice wp ((List.replicate n (⟨0,0⟩:o_)).length) n,.map (some bg)] 85 (0,0)),Rw 4 1 hp ((List.replicate n false).length) n (fl cG (List.replicate n false)),Rw 40 2 wp ((List.replicate n (⟨0,0⟩:o_)).length) n (fl jC (List.replicate n (⟨0,0⟩:o_))),Mp (Value.int .i64) j_ cO mg (fun _=>none),Mp pQ j_ qE bg (fun _=>none),aB w no]) ?_ ?_
 ·
  refine g_any [] (fun _=>True) [] (by kernel_rfl) H0 (fun h1 H=>?_)
  refine pT 2 ?_
  refine pT 3 ?_
  refine pT 4 ?_
  refine pT 5 ?_
  refine pT 6 ?_
  refine pT 7 ?_
  refine pT 9 ?_
  iterate 4
   all_goals first
    | refine Pw (i:=0) (j:=8) (k:=10) (l:=11) (by decide +kernel) rfl rfl rfl rfl ?_ ?_ ?_ ?_
    | refine uh (i:=0) (j:=8) (k:=10) (by decide +kernel) rfl rfl rfl ?_ ?_ ?_
    | refine uh (i:=0) (j:=8) (k:=11) (by decide +kernel) rfl rfl rfl ?_ ?_ ?_
    | refine uh (i:=0) (j:=10) (k:=11) (by decide +kernel) rfl rfl rfl ?_ ?_ ?_
    | refine uh (i:=8) (j:=10) (k:=11) (by decide +kernel) rfl rfl rfl ?_ ?_ ?_
    | refine lH (i:=0) (j:=8) (by decide +kernel) rfl rfl ?_ ?_
    | refine lH (i:=0) (j:=10) (by decide +kernel) rfl rfl ?_ ?_
    | refine lH (i:=0) (j:=11) (by decide +kernel) rfl rfl ?_ ?_
    | refine lH (i:=8) (j:=10) (by decide +kernel) rfl rfl ?_ ?_
    | refine lH (i:=8) (j:=11) (by decide +kernel) rfl rfl ?_ ?_
    | refine lH (i:=10) (j:=11) (by decide +kernel) rfl rfl ?_ ?_
    | refine vk (i:=0) (by decide +kernel) rfl ?_
    | refine vk (i:=8) (by decide +kernel) rfl ?_
    | refine vk (i:=10) (by decide +kernel) rfl ?_
    | refine vk (i:=11) (by decide +kernel) rfl ?_
   all_goals first
    | (refine nG (α:=Nat) (t:=80) (Value.int .i64) j_ cO H (bh rfl) rfl rfl rfl ?_; intro mg wq H; refine bF trivial ?_; refine Ht (v:=.agg #[.map (some mg)]) 1 rfl (bh rfl) rfl rfl rfl (by kernel_rfl) (by kernel_rfl) (by kernel_rfl) (.inr fun _=>trivial) (fun wx=>j4) ?_)
    | (refine nG (α:=Nat) (t:=83) pQ j_ qE H (bh rfl) rfl rfl rfl ?_; intro bg wq H; refine bF trivial ?_)
    | (refine gk n H (bh rfl) rfl rfl rfl rfl rfl Tryz.underlying38 pO (by omega) ?_; intro g6 wq H; refine bF trivial ?_)
    | (refine J1 n H (bh rfl) rfl rfl rfl rfl rfl Tryz.underlying24 My rfl (by omega) ?_; intro g9 wq H; refine bF trivial ?_)
  all_goals
   refine Gn (v:=.agg #[.map (some mg),vI n,vI pz,vI la,.string seed,.bool ino,.slice (some ⟨g6,0,none⟩) ((List.replicate n false).length) n,.slice (some ⟨g9,0,none⟩) ((List.replicate n (⟨0,0⟩:o_)).length) n,.map (some bg)]) 12 rfl (fun _=>j4) ?_
   refine bG (i:=13) ?_
   refine fq H ?_
   intro g wq H
   refine bF trivial ?_
   refine bG (i:=14) ?_
   refine iW xa ?_
   refine bF trivial ?_
   refine fP ?_
   refine aR ?_
   refine iu (g,(some ⟨g6,0,none⟩),(some ⟨g9,0,none⟩),mg,bg) ?_ ?_
   · exact ⟨rfl,trivial⟩
   first
    | exact (H.tk [0,1,2,3,4,5])
    | exact (H.tk [0,1,2,4,3,5])
    | exact (H.tk [0,1,3,2,4,5])
    | exact (H.tk [0,1,3,4,2,5])
    | exact (H.tk [0,1,4,2,3,5])
    | exact (H.tk [0,1,4,3,2,5])
    | exact (H.tk [0,2,1,3,4,5])
    | exact (H.tk [0,2,1,4,3,5])
    | exact (H.tk [0,2,3,1,4,5])
    | exact (H.tk [0,2,3,4,1,5])
    | exact (H.tk [0,2,4,1,3,5])
    | exact (H.tk [0,2,4,3,1,5])
    | exact (H.tk [0,3,1,2,4,5])
    | exact (H.tk [0,3,1,4,2,5])
    | exact (H.tk [0,3,2,1,4,5])
    | exact (H.tk [0,3,2,4,1,5])
    | exact (H.tk [0,3,4,1,2,5])
    | exact (H.tk [0,3,4,2,1,5])
    | exact (H.tk [0,4,1,2,3,5])
    | exact (H.tk [0,4,1,3,2,5])
    | exact (H.tk [0,4,2,1,3,5])
    | exact (H.tk [0,4,2,3,1,5])
    | exact (H.tk [0,4,3,1,2,5])
    | exact (H.tk [0,4,3,2,1,5])
 rintro ⟨g,hp,wp,mg,bg⟩ h0 H7
 refine ah [12] ?_
 refine cS ?_
 refine cQ (ι:=Nat × List o_) (fun (ii,wl)=>[(12,vP g),(65,vI (((List.replicate n (⟨0,0⟩:o_)).length:Int))),(66,vI ii)]) (fun (ii,wl) wx=>(ii≤n)∧(wl=List.replicate ii (⟨4,0⟩:o_)++List.replicate (n - ii) (⟨0,0⟩:o_))∧(wl.length=n)∧S wx [Ob g (.cells #[.map (some mg),vI n,vI pz,vI la,.string seed,.bool ino,.slice hp ((List.replicate n false).length) n,.slice wp wl.length n,.map (some bg)] 85 (0,0)),Rw 4 1 hp ((List.replicate n false).length) n (fl cG (List.replicate n false)),Rw 40 2 wp wl.length n (fl jC wl),Mp (Value.int .i64) j_ cO mg (fun _=>none),Mp pQ j_ qE bg (fun _=>none),aB w no]) (fun (ii,wl)=>n - ii) (0,(List.replicate n (⟨0,0⟩:o_))) ⟨Nat.zero_le _,rfl,List.length_replicate,(H7.tk [0,1,2,3,4,5])⟩ ?_
 rintro ⟨ii,wl⟩ H9 ⟨hii,hwl,hww,H2⟩
 refine ah [12,65,66] ?_
 refine aC ?_
 refine g_seq ?_
 by_cases H4:((ii:Int):Int)<((List.replicate n (⟨0,0⟩:o_)).length:Int)
 ·
  refine bm H4 ?_
  refine Qd ?_
  refine w_v (iH ii (H2.rr 2)) ?_
  refine w_v (v:=.pointer ((wp).map fun q=>q.add (ii * 2+0))) (aH (bJ (m:=ii * 2) ((H2.rr 2).some (by omega)) rfl rfl sH) rfl) ?_
  obtain ⟨H5,H3⟩:=(H2.rr 2).exL lA ii
  refine l_of (zI (i:=0) (j:=ii) lA ({ H5 with lv:=4 }:o_) H2 2 (bh rfl) rfl rfl rfl rfl rfl H3 rfl (by decide) si rfl rfl ?_)
  intro H8 H6
  refine aE ?_
  refine gI ii ?_
  refine ae ?_
  refine bD (i:=(ii,wl)) ((ii+1),(wl.set ii ({ H5 with lv:=4 }:o_))) ⟨by omega,(by rw [NH _ _ _ _ (hwl ▸ H3:(List.replicate ii (⟨4,0⟩:o_)++List.replicate (n - ii) (⟨0,0⟩:o_))[ii]?=some H5),hwl]; exact J8 _ _ _ _ (by omega)),(by rw [List.length_set]; exact hww),(by rw [List.length_set]; exact H6.tk [0,1,2,3,4,5])⟩
 refine br H4 ?_
 refine io ?_
 refine af ?_
 obtain rfl:wl=List.replicate n ⟨4,0⟩:=by rw [hwl,show ii=n from by omega,Nat.sub_self]; exact List.append_nil _
 have hQ:=S.lstNil (S.lstNil (H2.tk [0,1,2,3,4,5]) g_) fA
 refine ⟨⟨g,hp,n,wp,n,mg,[],bg,[]⟩,N2 ..,rfl,?_⟩
 exact S.big (L:=[_,_,_,_,_,_,_]) (hQ.tk [2,3,4,5,0,6,1,7])
end Go.Proofs.YthmmfhdpkddniaaGreatDoor
namespace Go.Proofs.YthmmfhdpkddniaaGreatDoor
open Go.RowKit Go.Sort
theorem S.borrow {w0 w:World} {L0 L:List aD} {k:Nat} (h0:S w0 L0) (h:S w L) (hk:L[k]?=some (aB w0 no)):S w L0:=
 ⟨fun it hi=>⟨it.loc ((h.at hk).less fun g hg=>⟨(h0.1 it hi).2 g hg,id⟩) (h0.1 it hi).1,fun g hg=>Nat.lt_of_lt_of_le ((h0.1 it hi).2 g hg) (h.at hk).size⟩,h0.2⟩
theorem S.grown {w w':World} {L:List aD} {k:Nat} (h:S w' L) (hk:L[k]?=some (aB w no)):∃ q os,w'=grow (w.drewN q) os:=by
 obtain ⟨h1,h2,h3,h4,h5,h6⟩:=h.at hk
 refine ⟨w'.drawn - w.drawn,w'.heap.extract w.heap.size w'.heap.size,?_⟩
 have hh:w'.heap=w.heap++w'.heap.extract w.heap.size w'.heap.size:=by
   apply Array.ext_getElem?
   intro g
   by_cases hg:g<w.heap.size
   · rw [Array.getElem?_append_left hg]
     exact h5 g ⟨hg,id⟩
   · rw [Array.getElem?_append_right (by omega),Array.getElem?_extract]
     by_cases hg2:g<w'.heap.size
     · rw [if_pos (by omega),show w.heap.size+(g - w.heap.size)=g by omega]
     rw [if_neg (by omega),Array.getElem?_eq_none (by omega)]
 have hd:w'.drawn=w.drawn+(w'.drawn - w.drawn):=by omega
 unfold grow World.drewN
 cases w'
 cases w
 simp only at *
 subst h1 h2 h3
 congr 1
theorem AU {P:Program} {N:Nat} {f:Fr} {ds:List Deferred} {w:World} {o:Oper} {t e n size g:Nat} {x:Operand} (ho:o.op=.slice t x none none none) (hx:cy f x=some (.pointer (some ⟨g,0,none⟩))) (hu:P.underlying t=some (.array n e)) (hz:jW P e=some size) :
   Ex P N f ds o w (.slice (some ⟨g,0,none⟩) n n) w:=
 fH (x:=Instr.sliceAt t (.pointer (some ⟨g,0,none⟩)) none none none) (fun a ha=>by unfold execOp; simp only [ho,ha.eval hx,Option.map_none]) (by
   have hel:P.elem t=e:=by unfold Program.elem; rw [hu]
   have hal:P.arrayLen t=n:=by unfold Program.arrayLen; rw [hu]
   have hu':P.underlying t=some (.array (P.arrayLen t) (P.elem t)):=by rw [hel,hal]; exact hu
   rw [run_sliceAt_array_all (P:=P) w t _ hu',hel,iZ hz]
   simp only [Result.andThen_ok,slicedAt,hal,Nat.zero_mul,iL,ite_self,Nat.sub_zero])
theorem JS (l:List Int) (p:Option Addr) (n c:Nat) (C:aD) (g:Nat) (cb:Array Value) (cf:Int→Int→Int) (hn:l.length=n) (hn2:n≤1000000) (hg:∀ args w,(callFunc g args).run Tryz.prog w=.ok (.enter g args) w)
   (hirr:∀ x∈l,¬ cf x x<0) (htr:∀ x∈l,∀ y∈l,∀ z∈l,cf x y<0→cf y z<0→cf x z<0) (hnt:∀ x∈l,∀ y∈l,∀ z∈l,¬ cf x y<0→¬ cf y z<0→¬ cf x z<0) (hT:∀ x∈l,∀ y∈l,¬ cf x y<0→¬ cf y x<0→x=y)
   (hc:∀ x∈l,∀ y∈l,∀ w,S w [C]→Calls Tryz.prog g (#[.int .i64 x,.int .i64 y]++cb) w fun e w'=>e=.returned (.int .i64 (cf x y))∧S w' [aB w no])
   (w:World) (HS:S w [Rw 3 1 p n c (zV l),C]) :
   Calls Tryz.prog 155 #[.slice p n c,.func (.func g) #[] cb] w fun e w'=>e=.returned (.tuple #[])∧∃ m:List Int,(m.Perm l∧m.Pairwise fun x y=>¬ cf y x<0)∧S w' ([Rw 3 1 p n c (zV m),C]++[aB w (aT [Rw 3 1 p n c (zV l),C])]):=by
 have H:=HS.beginI
 obtain ⟨k1,k2,k3,k4⟩:=HS.rw (k:=0) rfl
 rcases Nat.eq_zero_or_pos n with h0 | hp
 · subst h0
   have hl:l=[]:=List.eq_nil_of_length_eq_zero hn
   subst hl
   refine (Tryz.slices_SortFunc_none (α:=Int) p c _ w).mono ?_
   rintro e w' ⟨rfl,rfl⟩
   exact ⟨rfl,[],⟨List.Perm.refl _,List.Pairwise.nil⟩,H⟩
 rcases k4 with ⟨_,h0,_⟩ | ⟨gb,o,cur,rfl,hgb,hs,hcu⟩
 · omega
 rw [Nat.mul_one] at hs
 have hlt:gb<w.heap.size:=(Array.getElem?_eq_some_iff.1 hgb).1
 obtain ⟨x0,H2⟩:=List.exists_mem_of_length_pos (l:=l) (by omega)
 haveI:Inhabited {x // x∈l}:=⟨⟨x0,H2⟩⟩
 have hd:(l.attach.toArray).size=n:=by simp [hn]
 have hv:∀ (dk:Array {x // x∈l}),dk.size=n→putCells (fun x:{x // x∈l}=>Value.int .i64 x.1) o dk=putCells (Value.int .i64) o (dk.toList.map (·.1)).toArray:=fun dk hk=>by
   funext c
   unfold putCells
   apply Array.ext
   · simp
   · intro j h1 h2
     simp only [Array.getElem_mapIdx,List.size_toArray,List.length_map,Array.length_toList]
     split
     · rename_i hj
       rw [getElem!_pos _ _ (by omega),getElem!_pos _ _ (by simp; omega)]
       simp
     rfl
 have hW:∀ m (dk:Array {x // x∈l}) os,dk.size=n→sortWorld (fun x:{x // x∈l}=>Value.int .i64 x.1) w gb o m dk os=grow (putRow (Value.int .i64) (Go.Sort.ahead w m) gb o (dk.toList.map (·.1)).toArray) os:=fun m dk os hk=>by
   unfold sortWorld putRow
   rw [hv dk hk]
 have hP:∀ m (dk:Array {x // x∈l}) os,dk.size=n→S (sortWorld (fun x:{x // x∈l}=>Value.int .i64 x.1) w gb o m dk os) [Rw 3 1 (some ⟨gb,o,none⟩) n c (zV (dk.toList.map (·.1))),C,aB w (aT [Rw 3 1 (some ⟨gb,o,none⟩) n c (zV l),C])]:=fun m dk os hk=>by
   rw [hW m dk os hk]
   have h9:=Ms (m:=dk.toList.map (·.1)) (os:=os) (q:=m) (n':=n) H (k:=0) rfl hgb hs k2 k3 (by simp; omega) (by simp; omega) (Nat.le_refl _)
   rw [List.take_of_length_le (by simp; omega)] at h9
   exact h9
 have hr:=Tryz.slices_SortFunc_total (α:={x // x∈l}) (fun x=>Value.int .i64 x.1) (fun _=>rfl) (fun x y=>cf x.1 y.1) ⟨fun x=>decide_eq_false (hirr _ x.2),fun x y z h1 h2=>decide_eq_true (htr _ x.2 _ y.2 _ z.2 (of_decide_eq_true h1) (of_decide_eq_true h2)),fun x y z h1 h2=>decide_eq_false (hnt _ x.2 _ y.2 _ z.2 (of_decide_eq_false h1) (of_decide_eq_false h2))⟩ g cb gb o c l.attach.toArray w hg
   (fun m os dk hk x y=>(hc x.1 x.2 y.1 y.2 _ ((hP m dk os (hk.trans hd)).takes [1] (by decide))).mono fun e w' ⟨he,h9⟩=>⟨he,h9.grown (k:=0) rfl⟩)
   (fun j hj=>by
     have h9:=D8 hgb hcu j (by simpa using hj)
     rw [getElem!_pos _ _ (by simpa using hj)] at h9
     rw [show l.attach.toArray[j]! = l.attach.toArray[j] from getElem!_pos _ j hj]
     simpa using h9)
   hlt (by omega) (fun x y h1 h2=>Subtype.ext (hT _ x.2 _ y.2 (of_decide_eq_false h1) (of_decide_eq_false h2)))
 rw [hd] at hr
 refine hr.mono ?_
 rintro e w' ⟨rfl,m,os,rfl⟩
 have hpm:=List.mergeSort_perm l.attach (fun x y=>!decide (cf y.1 x.1<0))
 refine ⟨rfl,(l.attach.mergeSort fun x y=>!decide (cf y.1 x.1<0)).map (·.1),⟨?_,?_⟩,?_⟩
 · have:=hpm.map (·.1)
   rwa [List.attach_map_subtype_val] at this
 · rw [List.pairwise_map]
   have h9:=List.pairwise_mergeSort (le:=fun x y:{x // x∈l}=>!decide (cf y.1 x.1<0)) (fun a b c h1 h2=>by
     simp only [Bool.not_eq_true',decide_eq_false_iff_not] at *
     exact hnt _ c.2 _ b.2 _ a.2 h2 h1) (fun a b=>by
     by_cases h1:cf b.1 a.1<0
     · by_cases h2:cf a.1 b.1<0
       · exact absurd (htr _ a.2 _ b.2 _ a.2 h2 h1) (hirr _ a.2)
       simp [h2]
     · simp [h1]) l.attach
   exact h9.imp fun h=>by simpa using h
 exact hP m _ os ((congrArg List.length (List.toList_toArray ..)).trans (by rw [List.length_mergeSort]; exact hd))
end Go.Proofs.YthmmfhdpkddniaaGreatDoor
namespace Go.Proofs.YthmmfhdpkddniaaGreatDoor
open Go.RowKit
theorem S.arrReads {w:World} {L:List aD} {k g e:Nat} {cs:Array Value} {l:List Int} (h:S w L) (hk:L[k]?=some (Ob g (.cells cs e (0,0)))) (hl:cs.toList=fl cg l) (hm:l.length≤maxLen):bz w (some ⟨g,0,none⟩) l.length l.length 1 (fl cg l):=by
 have hlen:(fl cg l).length=l.length * 1:=bE.flLen l
 have h9:=h.obRw (size:=1) (n:=l.length) hk (by rw [← Array.length_toList,hl,hlen]) hm
 rw [hl] at h9
 exact h9.rwReads (k:=k) (by rw [List.getElem?_set_self (List.getElem?_eq_some_iff.1 hk).1])
structure Gp where
 a0:Int
 a1:Int
 a2:Int
 a3:Int
 a4:Int
 a5:Int
 a6:Int
 a7:Int
def yw (r:Gp):List Int:=[r.a0,r.a1,r.a2,r.a3,r.a4,r.a5,r.a6,r.a7]
def Cf (r:Gp):Value:=.agg #[.int .i64 r.a0,.int .i64 r.a1,.int .i64 r.a2,.int .i64 r.a3,.int .i64 r.a4,.int .i64 r.a5,.int .i64 r.a6,.int .i64 r.a7]
theorem LE (b mg:Nat) (M:Int→Option Gp) (x y:Int) (hxk:cO x) (hyk:cO y) (rx ry:Gp) (hx:M x=some rx) (hy:M y=some ry)  (w:World) (hC:S w [Ob b (.cells #[.map (some mg)] 177 (0,0)),Mp (Value.int .i64) Cf cO mg M]):Calls Tryz.prog 156 #[vI x,vI y,vP b] w fun e w'=>e=.returned (vI (vA (yw rx) (yw ry)))∧S w' [aB w no]:=by
 have H0:=S.old w
 refine en Tryz.func156 ?_
 refine ah [0,1,2] ?_
 refine aE ?_
 refine ET (S.borrow hC H0 (k:=0) rfl) 0 ?_
 refine cJ ?_
 refine w_v (v:=.agg #[vI rx.a0,vI rx.a1,vI rx.a2,vI rx.a3,vI rx.a4,vI rx.a5,vI rx.a6,vI rx.a7]) (aH (bU (x:=x) (iG Tryz.underlying177 Tryz.underlying3) (S.borrow hC H0 (k:=0) rfl) 1 rfl rfl rfl rfl (hxk) rF) (by rw [hx]; rfl)) ?_
 refine ET (S.borrow hC H0 (k:=0) rfl) 0 ?_
 refine cJ ?_
 refine w_v (v:=.agg #[vI ry.a0,vI ry.a1,vI ry.a2,vI ry.a3,vI ry.a4,vI ry.a5,vI ry.a6,vI ry.a7]) (aH (bU (x:=y) (iG Tryz.underlying177 Tryz.underlying3) (S.borrow hC H0 (k:=0) rfl) 1 rfl rfl rfl rfl (hyk) rF) (by rw [hy]; rfl)) ?_
 refine l_of (cA H0 rF ?_)
 intro g1 h3 H3
 refine l_of (cA H3 rF ?_)
 intro g4 h2 H6
 refine l_of (eu H6 1 ?_)
 intro h1 H8
 refine l_of (eu H8 0 ?_)
 intro h0 H9
 refine cD ?_
 refine g_seq ?_
 refine g_any [] (fun _=>True) [] (by kernel_rfl) H9 (fun H5 H2=>?_)
 refine Gn (v:=.slice (some ⟨g1,0,none⟩) 8 8) 0 rfl (fun _=>AU rfl rfl Tryz.underlying179 si) ?_
 refine Gn (v:=.slice (some ⟨g4,0,none⟩) 8 8) 1 rfl (fun _=>AU rfl rfl Tryz.underlying179 si) ?_
 refine bG (i:=2) ?_
 refine cz H2 (Ny (yw rx) (yw ry) ⟨rfl,by show 8≤1000; omega⟩ (some ⟨g1,0,none⟩) 8 8 (some ⟨g4,0,none⟩) 8 8 _ (S.arrReads (l:=yw rx) H2 (k:=1) rfl rfl (by show 8≤maxLen; unfold maxLen; omega)) (S.arrReads (l:=yw ry) H2 (k:=0) rfl rfl (by show 8≤maxLen; unfold maxLen; omega))) ?_
 intro H4 H7
 refine bF trivial ?_
 refine bG (i:=3) ?_
 refine iW xa ?_
 refine bF trivial ?_
 refine fP ?_
 refine aR ?_
 refine ah [5] ?_
 refine aR ?_
 refine af ?_
 exact ⟨rfl,H7.tk [2]⟩
end Go.Proofs.YthmmfhdpkddniaaGreatDoor
namespace Go.Proofs.YthmmfhdpkddniaaGreatDoor
open Go.RowKit Go.Sort
def Mf (A:PK) (p:fV) (i:Int):Gp:=⟨eo (decide (0<A.du i)),A.du i,eo (A.partB i),eo (aF p.sug i),0 - A.lv i,if A.ino=true then 0 else (A.countV i:Int),if A.ino=true then 0 else o8 A.seed i,i⟩
theorem J7 (A:PK) (p:fV) (x y:Int):vA (yw (Mf A p x)) (yw (Mf A p y))=sg (jn (A.keys p) x y) 0:=I9 (A.keys p) x y
theorem Nr {a:Int}:sg a 0<0 ↔ a<0:=by
 unfold sg
 split
 · omega
 · split <;> omega
def Dz (A:PK) (p:fV) (x y:Int):Int:=vA (yw (Mf A p x)) (yw (Mf A p y))
theorem oR {A:PK} {p:fV} {x y:Int}:Dz A p x y<0 ↔ jn (A.keys p) x y<0:=by
 unfold Dz
 rw [J7]
 exact Nr
section
variable {A:PK} {p:fV} {x y z:Int}
theorem Lv:¬ Dz A p x x<0:=fun h=>by
 have h1:=oR.1 h
 have h2:=((kZ (A.keys p)).anti x x).1 h1
 omega
theorem Pb (h1:Dz A p x y<0) (h2:Dz A p y z<0):Dz A p x z<0:=oR.2 ((kZ (A.keys p)).lt1 (oR.1 h1) (by have:=oR.1 h2; omega))
theorem vR (h:¬ Dz A p x y<0):jn (A.keys p) y x≤0:=by
 rw [oR,(kZ (A.keys p)).anti] at h
 omega
theorem Pe (h1:¬ Dz A p x y<0) (h2:¬ Dz A p y z<0):¬ Dz A p x z<0:=fun h=>by
 have h3:=(kZ (A.keys p)).trans z y x (vR h2) (vR h1)
 have h4:=((kZ (A.keys p)).anti x z).1 (oR.1 h)
 omega
theorem Pf (h1:¬ Dz A p x y<0) (h2:¬ Dz A p y x<0):x=y:=by
 have h3:=vR h2
 rw [oR] at h1
 exact nN A p (by omega)
theorem B_ {m:List Int} (hn:A.n≤24) (hp:m.Perm (A.candL p)) (hs:m.Pairwise fun x y=>¬ Dz A p y x<0) (hnd:(A.candL p).Nodup):m=A.cand p:=by
 refine EI hn hp ?_
 have h9:m.Nodup:=hp.nodup_iff.2 hnd
 refine (hs.and h9).imp fun h=>?_
 have h1:=vR h.1
 have h2:jn (A.keys p) _ _ ≠ 0:=fun h3=>h.2 (nN A p h3)
 omega
end
end Go.Proofs.YthmmfhdpkddniaaGreatDoor
