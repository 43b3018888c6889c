import Derived.Test.YtpbjekdjebjbkaaGreatDoorSo
set_option linter.unusedSimpArgs false
set_option linter.unusedVariables false
namespace Go.Proofs.YtpbjekdjebjbkaaGreatDoor
section
variable {α:Type}
structure Wk (c:α→α→Int):Prop where
 anti:∀ x y,c x y<0 ↔ 0<c y x
 trans:∀ x y z,c x y≤0→c y z≤0→c x z≤0
variable {c:α→α→Int} {d:α} {l:List α}
theorem Wk.lt1 (h:Wk c) {x y z:α} (h1:c x y<0) (h2:c y z≤0):c x z<0:=by
 refine Decidable.byContradiction fun hn=>?_
 have h3:c z x≤0:=by
   have:=h.anti x z
   omega
 have h4:=h.trans y z x h2 h3
 have:=h.anti x y
 omega
theorem Wk.lt2 (h:Wk c) {x y z:α} (h1:c x y≤0) (h2:c y z<0):c x z<0:=by
 refine Decidable.byContradiction fun hn=>?_
 have h3:c z x≤0:=by
   have:=h.anti x z
   omega
 have h4:=h.trans z x y h3 h1
 have:=h.anti y z
 omega
theorem Wk.refl (h:Wk c) (x:α):c x x=0:=by
 have:=h.anti x x
 omega
theorem Wk.zero (h:Wk c) {x y:α}:c x y=0 ↔ c y x=0:=by
 have h1:=h.anti x y
 have h2:=h.anti y x
 omega
def RZ (c:α→α→Int) (p q:α × Nat):Prop:=c p.1 q.1<0∨(c p.1 q.1=0∧p.2<q.2)
theorem RZ.trans (h:Wk c) {p q r:α × Nat} (h1:RZ c p q) (h2:RZ c q r):RZ c p r:=by
 rcases h1 with h1 | ⟨h1,t1⟩
 · rcases h2 with h2 | ⟨h2,t2⟩
   · exact .inl (h.lt1 h1 (by omega))
   · exact .inl (h.lt1 h1 (by omega))
 · rcases h2 with h2 | ⟨h2,t2⟩
   · exact .inl (h.lt2 (by omega) h2)
   · have h3:=h.trans p.1 q.1 r.1 (by omega) (by omega)
     have h4:=h.trans r.1 q.1 p.1 (by have:=(h.zero).1 h2; omega) (by have:=(h.zero).1 h1; omega)
     have h5:=h.anti p.1 r.1
     have h6:=h.anti r.1 p.1
     exact .inr ⟨by omega,by omega⟩
theorem RZ.irr (h:Wk c) {p:α × Nat}:¬ RZ c p p:=fun h1=>by
 have:=h.refl p.1
 rcases h1 with h1 | ⟨_,h1⟩ <;> omega
theorem RZ.ords (h:Wk c) (z:List (α × Nat)):Ords (RZ c) Prod.snd (fun p q=>c p.1 q.1) z:=by
 refine ⟨fun x y z _ _ _=>RZ.trans h,fun x _=>RZ.irr h,fun x y _ _ ht hn=>?_,fun x y _ _ ht=>⟨fun h1=>.inl h1,fun h1=>?_⟩⟩
 · by_cases h1:c x.1 y.1<0
   · exact .inl h1
   · have h2:=h.anti y.1 x.1
     have h3:¬ c y.1 x.1<0:=fun h4=>hn (.inl h4)
     exact .inr ⟨by omega,ht⟩
 · rcases h1 with h1 | ⟨_,h1⟩
   · exact h1
   · omega
theorem zipTags (l:List α):∀ k,(l.zipIdx k).Pairwise fun y z=>y.2<z.2:=by
 induction l with
 | nil=>intro k; exact .nil
 | cons a l ih =>
   intro k
   rw [List.zipIdx_cons]
   refine List.pairwise_cons.2 ⟨fun b hb=>?_,ih (k+1)⟩
   have:=List.le_snd_of_mem_zipIdx hb
   show k<b.2; omega
theorem zipFst (l:List α):∀ k,(l.zipIdx k).map Prod.fst=l:=by
 induction l with
 | nil=>intro k; rfl
 | cons a l ih=>intro k; rw [List.zipIdx_cons,List.map_cons,ih]
def srtZ (d:α) (c:α→α→Int) (l:List α):List (α × Nat):=stableS (d,0) (fun p q=>c p.1 q.1) l.zipIdx
def srt (d:α) (c:α→α→Int) (l:List α):List α:=(srtZ d c l).map Prod.fst
theorem srtZ_perm (d:α) (c:α→α→Int) (l:List α):(srtZ d c l).Perm l.zipIdx:=stable_perm _ _ _
theorem srtZ_sorted (h:Wk c) (hl:l.length<20):(srtZ d c l).Pairwise (RZ c):=
 stable_sorted (tag:=Prod.snd) (by rw [List.length_zipIdx]; exact hl) (RZ.ords h _) (zipTags l 0)
theorem srt_perm (d:α) (c:α→α→Int) (l:List α):(srt d c l).Perm l:=by
 have:=(srtZ_perm d c l).map Prod.fst
 rwa [zipFst] at this
theorem srt_len (d:α) (c:α→α→Int) (l:List α):(srt d c l).length=l.length:=(srt_perm d c l).length_eq
theorem srt_mem {x:α}:x∈srt d c l ↔ x∈l:=(srt_perm d c l).mem_iff
theorem uniq (h:Wk c) {y z:List (α × Nat)} (hp:y.Perm z) (hy:y.Pairwise (RZ c)) (hz:z.Pairwise (RZ c)):y=z:=
 List.Perm.eq_of_pairwise (fun a b _ _ hab hba=>absurd (RZ.trans h hab hba) (RZ.irr h)) hy hz hp
theorem srt_of (h:Wk c) {t z:List (α × Nat)} (hl:t.length<20) (ht:t.Pairwise fun y z=>y.2<z.2) (hz:z.Perm t) (hs:z.Pairwise (RZ c)):z.map Prod.fst=srt d c (t.map Prod.fst):=by
 -- tags of places
 have hf:∀ i j,i<j→j<t.length→((t.map Prod.snd).getD i 0)<((t.map Prod.snd).getD j 0):=fun i j hij hj=>by
   rw [List.getD_eq_getElem?_getD,List.getD_eq_getElem?_getD,List.getElem?_eq_getElem (by rw [List.length_map]; omega),List.getElem?_eq_getElem (by rw [List.length_map]; omega)]
   simp only [Option.getD_some,List.getElem_map]
   exact List.pairwise_iff_getElem.1 ht i j (by omega) hj hij
 have h1:((srtZ d c (t.map Prod.fst)).map fun p=>(p.1,(t.map Prod.snd).getD p.2 0)).Perm t:=by
   have h2:=(srtZ_perm d c (t.map Prod.fst)).map fun p=>(p.1,(t.map Prod.snd).getD p.2 0)
   refine h2.trans (List.Perm.of_eq ?_)
   refine List.ext_getElem? fun i=>?_
   rw [List.getElem?_map,List.getElem?_zipIdx,List.getElem?_map]
   cases hx:t[i]? with
   | none=>rfl
   | some p =>
     have:(t.map Prod.snd).getD i 0=p.2:=by rw [List.getD_eq_getElem?_getD,List.getElem?_map,hx]; rfl
     show some (p.1,(t.map Prod.snd).getD (0+i) 0)=some p
     rw [Nat.zero_add,this]
 have h3:((srtZ d c (t.map Prod.fst)).map fun p=>(p.1,(t.map Prod.snd).getD p.2 0)).Pairwise (RZ c):=by
   rw [List.pairwise_map]
   have h4:=srtZ_sorted (d:=d) h (l:=t.map Prod.fst) (by rw [List.length_map]; exact hl)
   refine List.Pairwise.imp_of_mem (fun {a b} ha hb hab=>?_) h4
   have hb2:b.2<t.length:=by
     have hm:=(srtZ_perm d c (t.map Prod.fst)).mem_iff.1 hb
     have:=List.snd_lt_of_mem_zipIdx hm
     rw [List.length_map] at this; omega
   rcases hab with hab | ⟨hab,hlt⟩
   · exact .inl hab
   · exact .inr ⟨hab,hf _ _ hlt hb2⟩
 have h5:=uniq h (hz.trans h1.symm) hs h3
 rw [h5]
 unfold srt
 rw [List.map_map]; rfl
theorem sub_tags {t s:List (α × Nat)} (h:t.Sublist s) (ht:s.Pairwise fun y z=>y.2<z.2):t.Pairwise fun y z=>y.2<z.2:=List.Pairwise.sublist h ht
theorem srt_filter (h:Wk c) (hl:l.length<20) (p:α→Bool):srt d c (l.filter p)=(srt d c l).filter p:=by
 have h1:=srt_of (d:=d) h (t:=l.zipIdx.filter fun q=>p q.1) (z:=(srtZ d c l).filter fun q=>p q.1)
   (Nat.lt_of_le_of_lt (List.length_filter_le ..) (by rw [List.length_zipIdx]; exact hl)) (sub_tags List.filter_sublist (zipTags l 0)) ((srtZ_perm d c l).filter _) ((srtZ_sorted h hl).filter _)
 have e:∀ z:List (α × Nat),(z.filter fun q=>p q.1).map Prod.fst=(z.map Prod.fst).filter p:=fun z=>by rw [List.filter_map]; rfl
 rw [e,e,zipFst] at h1
 exact h1.symm
def IsBest (c:α→α→Int) (l:List α) (k i:Nat) (x:α):Prop:=i<k∧l[i]?=some x∧∀ j y,j<k→l[j]?=some y→(j<i→c x y<0)∧¬ c y x<0
theorem IsBest.first (h:Wk c) {x:α} (hx:l[0]?=some x):IsBest c l 1 0 x:=⟨by decide,hx,fun j y hj hy=>by
 have e:j=0:=by omega
 subst e
 rw [hx] at hy; cases hy
 have:=h.refl x
 exact ⟨fun hj=>by omega,by omega⟩⟩
theorem IsBest.take (h:Wk c) {k i:Nat} {x y:α} (hb:IsBest c l k i x) (hy:l[k]?=some y) (hc:c y x<0):IsBest c l (k+1) k y:=⟨by omega,hy,fun j z hj hz=>by
 by_cases e:j=k
 · subst e; rw [hy] at hz; cases hz
   have:=h.refl y
   exact ⟨fun hj=>by omega,by omega⟩
 · have h1:=(hb.2.2 j z (by omega) hz).2
   have h2:=h.anti z x
   have h3:c x z≤0:=by
     have:=h.anti z x
     omega
   have h4:=h.lt1 hc h3
   have h5:=h.anti y z
   exact ⟨fun _=>h4,by omega⟩⟩
theorem IsBest.keep {k i:Nat} {x y:α} (hb:IsBest c l k i x) (hy:l[k]?=some y) (hc:¬ c y x<0):IsBest c l (k+1) i x:=⟨by have:=hb.1; omega,hb.2.1,fun j z hj hz=>by
 by_cases e:j=k
 · subst e; rw [hy] at hz; cases hz
   exact ⟨fun hj=>by have:=hb.1; omega,hc⟩
 · exact hb.2.2 j z (by omega) hz⟩
theorem srt_best (h:Wk c) (hl:l.length<20) {i:Nat} {x:α} (hb:IsBest c l l.length i x):srt d c l=x :: srt d c (l.eraseIdx i):=by
 have hp:=srtZ_perm d c l
 have hs:=srtZ_sorted (d:=d) h hl
 obtain ⟨hi,hx,hall⟩:=hb
 have hxz:l.zipIdx[i]?=some (x,i):=by rw [List.getElem?_zipIdx,hx]; simp
 have hmem:(x,i)∈srtZ d c l:=hp.mem_iff.2 (List.mem_of_getElem? hxz)
 cases hz:srtZ d c l with
 | nil=>rw [hz] at hmem; cases hmem
 | cons q Z =>
   rw [hz] at hs hp hmem
   have hq:q=(x,i):=by
     rcases List.mem_cons.1 hmem with e | hm
     · exact e.symm
     · have hR:=(List.pairwise_cons.1 hs).1 _ hm
       have hqm:=hp.mem_iff.1 (List.mem_cons_self ..)
       obtain ⟨j,hj⟩:=List.getElem?_of_mem hqm
       rw [List.getElem?_zipIdx] at hj
       obtain ⟨y,hy,rfl⟩:=Option.map_eq_some_iff.1 hj
       have hjl:=(List.getElem?_eq_some_iff.1 hy).1
       obtain ⟨h1,h2⟩:=hall j y hjl hy
       rcases hR with hR | ⟨hR,ht⟩
       · exact absurd hR h2
       · have ht:0+j<i:=ht
         have h3:=h1 (by omega)
         have h4:=h.anti x y
         have hR:c y x=0:=hR
         omega
   subst hq
   have hpe:Z.Perm (l.zipIdx.eraseIdx i):=by
     have h1:l.zipIdx.Perm ((x,i) :: l.zipIdx.eraseIdx i):=by
       obtain ⟨h2,e⟩:=List.getElem?_eq_some_iff.1 hxz
       have:=List.eraseIdx_eq_take_drop_succ l.zipIdx i
       rw [this]
       conv=>lhs; rw [← List.take_append_drop i l.zipIdx,List.drop_eq_getElem_cons h2,e]
       exact List.perm_middle
     exact (List.perm_cons _).1 (hp.trans h1)
   have h2:=srt_of (d:=d) h (t:=l.zipIdx.eraseIdx i) (z:=Z) (Nat.lt_of_le_of_lt (List.length_eraseIdx_le ..) (by rw [List.length_zipIdx]; exact hl)) (sub_tags (List.eraseIdx_sublist ..) (zipTags l 0)) hpe (List.pairwise_cons.1 hs).2
   have e:(l.zipIdx.eraseIdx i).map Prod.fst=l.eraseIdx i:=by
     conv=>rhs; rw [← zipFst l 0]
     rw [List.eraseIdx_eq_take_drop_succ,List.eraseIdx_eq_take_drop_succ,List.map_append,List.map_take,List.map_drop]
   unfold srt
   rw [hz,List.map_cons,h2,e]; rfl
inductive Picks (c:α→α→Int) (l:List α):List α→List α→Prop where
 | nil:Picks c l [] l
 | step {o r:List α} {i:Nat} {x:α}:Picks c l o r→IsBest c r r.length i x→Picks c l (o++[x]) (r.eraseIdx i)
theorem Picks.srt (h:Wk c) (hl:l.length<20) {o r:List α} (hp:Picks c l o r):r.length<20∧srt d c l=o++srt d c r:=by
 induction hp with
 | nil=>exact ⟨hl,rfl⟩
 | step _ hb ih =>
   obtain ⟨h1,h2⟩:=ih
   refine ⟨Nat.lt_of_le_of_lt (List.length_eraseIdx_le ..) h1,?_⟩
   rw [h2,srt_best h h1 hb,List.append_assoc]; rfl
theorem Picks.perm {o r:List α} (hp:Picks c l o r):(o++r).Perm l:=by
 induction hp with
 | nil=>exact .refl _
 | @step o r i x _ hb ih =>
   obtain ⟨hi,e⟩:=List.getElem?_eq_some_iff.1 hb.2.1
   rw [List.eraseIdx_eq_take_drop_succ]
   have h1:r=r.take i++x :: r.drop (i+1):=by
     conv=>lhs; rw [← List.take_append_drop i r,List.drop_eq_getElem_cons hi,e]
   refine List.Perm.trans ?_ ih
   conv=>rhs; rw [h1]
   rw [List.append_assoc]
   refine List.Perm.append_left _ ?_
   show (x :: (r.take i++r.drop (i+1))).Perm _
   exact List.perm_middle.symm
theorem Picks.sub {o r:List α} (hp:Picks c l o r):r.Sublist l:=by
 induction hp with
 | nil=>exact List.Sublist.refl _
 | step _ _ ih=>exact (List.eraseIdx_sublist ..).trans ih
theorem Picks.len {o r:List α} (hp:Picks c l o r):o.length+r.length=l.length:=by
 have:=hp.perm.length_eq
 rwa [List.length_append] at this
def lexC (ks:List (α→Int)) (x y:α):Int:=match ks with
 | []=>0
 | k :: ks=>if k x - k y ≠ 0 then k x - k y else lexC ks x y
theorem lexC_wk:∀ ks:List (α→Int),Wk (lexC ks)
 | []=>⟨fun _ _=>by simp [lexC],fun _ _ _ _ _=>by simp [lexC]⟩
 | k :: ks=>by
   have ih:=lexC_wk ks
   refine ⟨fun x y=>?_,fun x y z=>?_⟩
   · unfold lexC
     by_cases h:k x - k y ≠ 0
     · rw [if_pos h,if_pos (show k y - k x ≠ 0 by omega)]; omega
     · rw [if_neg h,if_neg (show ¬ k y - k x ≠ 0 by omega)]; exact ih.anti x y
   · unfold lexC
     intro h1 h2
     by_cases h3:k x - k y ≠ 0 <;> by_cases h4:k y - k z ≠ 0
     · rw [if_pos h3] at h1; rw [if_pos h4] at h2; rw [if_pos (by omega)]; omega
     · rw [if_pos h3] at h1; rw [if_pos (by omega)]; omega
     · rw [if_pos h4] at h2; rw [if_pos (by omega)]; omega
     · rw [if_neg h3] at h1; rw [if_neg h4] at h2; rw [if_neg (by omega)]; exact ih.trans x y z h1 h2
end
end Go.Proofs.YtpbjekdjebjbkaaGreatDoor
