import Derived.Test.YthmmfhdpkddniaaGreatDoorSo
import Derived.Test.YthmmfhdpkddniaaGreatDoorFi
set_option linter.all false
namespace Go.Proofs.YthmmfhdpkddniaaGreatDoor
section
variable {α:Type}
structure Wk (c:α→α→Int):Prop where
 anti:∀ x y,c x y<0 ↔ 0<c y x
 trans:∀ x y z,c x y≤0→c y z≤0→c x z≤0
variable {c:α→α→Int} {d:α} {l:List α}
theorem Wk.lt1 (h:Wk c) {x y z:α} (h1:c x y<0) (h2:c y z≤0):c x z<0:=by
 refine Decidable.byContradiction fun hn=>?_
 have h3:c z x≤0:=by
   have:=h.anti x z
   omega
 have h4:=h.trans y z x h2 h3
 have:=h.anti x y
 omega
theorem Wk.lt2 (h:Wk c) {x y z:α} (h1:c x y≤0) (h2:c y z<0):c x z<0:=by
 refine Decidable.byContradiction fun hn=>?_
 have h3:c z x≤0:=by
   have:=h.anti x z
   omega
 have h4:=h.trans z x y h3 h1
 have:=h.anti y z
 omega
theorem Wk.refl (h:Wk c) (x:α):c x x=0:=by
 have:=h.anti x x
 omega
theorem Wk.zero (h:Wk c) {x y:α}:c x y=0 ↔ c y x=0:=by
 have h1:=h.anti x y
 have h2:=h.anti y x
 omega
def RZ (c:α→α→Int) (p q:α × Nat):Prop:=c p.1 q.1<0∨(c p.1 q.1=0∧p.2<q.2)
theorem RZ.trans (h:Wk c) {p q r:α × Nat} (h1:RZ c p q) (h2:RZ c q r):RZ c p r:=by
 rcases h1 with h1 | ⟨h1,t1⟩
 · rcases h2 with h2 | ⟨h2,t2⟩
   · exact .inl (h.lt1 h1 (by omega))
   · exact .inl (h.lt1 h1 (by omega))
 · rcases h2 with h2 | ⟨h2,t2⟩
   · exact .inl (h.lt2 (by omega) h2)
   · have h3:=h.trans p.1 q.1 r.1 (by omega) (by omega)
     have h4:=h.trans r.1 q.1 p.1 (by have:=(h.zero).1 h2; omega) (by have:=(h.zero).1 h1; omega)
     have h5:=h.anti p.1 r.1
     have h6:=h.anti r.1 p.1
     exact .inr ⟨by omega,by omega⟩
theorem RZ.irr (h:Wk c) {p:α × Nat}:¬ RZ c p p:=fun h1=>by
 have:=h.refl p.1
 rcases h1 with h1 | ⟨_,h1⟩ <;> omega
theorem RZ.ords (h:Wk c) (z:List (α × Nat)):tz (RZ c) Prod.snd (fun p q=>c p.1 q.1) z:=by
 refine ⟨fun x y z _ _ _=>RZ.trans h,fun x _=>RZ.irr h,fun x y _ _ ht hn=>?_,fun x y _ _ ht=>⟨fun h1=>.inl h1,fun h1=>?_⟩⟩
 · by_cases h1:c x.1 y.1<0
   · exact .inl h1
   have h2:=h.anti y.1 x.1
   have h3:¬ c y.1 x.1<0:=fun h4=>hn (.inl h4)
   exact .inr ⟨by omega,ht⟩
 rcases h1 with h1 | ⟨_,h1⟩
 · exact h1
 omega
theorem DN (l:List α):∀ k,(l.zipIdx k).Pairwise fun y z=>y.2<z.2:=by
 induction l with
 | nil=>intro k; exact .nil
 | cons a l ih =>
   intro k
   rw [List.zipIdx_cons]
   refine List.pairwise_cons.2 ⟨fun b hb=>?_,ih (k+1)⟩
   have:=List.le_snd_of_mem_zipIdx hb
   show k<b.2; omega
theorem GN (l:List α):∀ k,(l.zipIdx k).map Prod.fst=l:=by
 induction l with
 | nil=>intro k; rfl
 | cons a l ih=>intro k; rw [List.zipIdx_cons,List.map_cons,ih]
def Ce (d:α) (c:α→α→Int) (l:List α):List (α × Nat):=hU (d,0) (fun p q=>c p.1 q.1) l.zipIdx
def srt (d:α) (c:α→α→Int) (l:List α):List α:=(Ce d c l).map Prod.fst
theorem qQ (d:α) (c:α→α→Int) (l:List α):(Ce d c l).Perm l.zipIdx:=mw _ _ _
theorem qB (h:Wk c) (hl:l.length<40):(Ce d c l).Pairwise (RZ c):=
 yD (tag:=Prod.snd) (by rw [List.length_zipIdx]; exact hl) (RZ.ords h _) (DN l 0)
theorem qn (d:α) (c:α→α→Int) (l:List α):(srt d c l).Perm l:=by
 have:=(qQ d c l).map Prod.fst
 rwa [GN] at this
theorem D3 (d:α) (c:α→α→Int) (l:List α):(srt d c l).length=l.length:=(qn d c l).length_eq
theorem JR {x:α}:x∈srt d c l ↔ x∈l:=(qn d c l).mem_iff
theorem Rn (h:Wk c) {y z:List (α × Nat)} (hp:y.Perm z) (hy:y.Pairwise (RZ c)) (hz:z.Pairwise (RZ c)):y=z:=
 List.Perm.eq_of_pairwise (fun a b _ _ hab hba=>absurd (RZ.trans h hab hba) (RZ.irr h)) hy hz hp
theorem Nh (h:Wk c) {t z:List (α × Nat)} (hl:t.length<40) (ht:t.Pairwise fun y z=>y.2<z.2) (hz:z.Perm t) (hs:z.Pairwise (RZ c)):z.map Prod.fst=srt d c (t.map Prod.fst):=by
 -- tags of places
 have hf:∀ i j,i<j→j<t.length→((t.map Prod.snd).getD i 0)<((t.map Prod.snd).getD j 0):=fun i j hij hj=>by
   rw [List.getD_eq_getElem?_getD,List.getD_eq_getElem?_getD,List.getElem?_eq_getElem (by rw [List.length_map]; omega),List.getElem?_eq_getElem (by rw [List.length_map]; omega)]
   simp only [Option.getD_some,List.getElem_map]
   exact List.pairwise_iff_getElem.1 ht i j (by omega) hj hij
 have h1:((Ce d c (t.map Prod.fst)).map fun p=>(p.1,(t.map Prod.snd).getD p.2 0)).Perm t:=by
   have h2:=(qQ d c (t.map Prod.fst)).map fun p=>(p.1,(t.map Prod.snd).getD p.2 0)
   refine h2.trans (List.Perm.of_eq ?_)
   refine List.ext_getElem? fun i=>?_
   rw [List.getElem?_map,List.getElem?_zipIdx,List.getElem?_map]
   cases hx:t[i]? with
   | none=>rfl
   | some p =>
     have:(t.map Prod.snd).getD i 0=p.2:=by rw [List.getD_eq_getElem?_getD,List.getElem?_map,hx]; rfl
     show some (p.1,(t.map Prod.snd).getD (0+i) 0)=some p
     rw [Nat.zero_add,this]
 have h3:((Ce d c (t.map Prod.fst)).map fun p=>(p.1,(t.map Prod.snd).getD p.2 0)).Pairwise (RZ c):=by
   rw [List.pairwise_map]
   have h4:=qB (d:=d) h (l:=t.map Prod.fst) (by rw [List.length_map]; exact hl)
   refine List.Pairwise.imp_of_mem (fun {a b} ha hb hab=>?_) h4
   have H2:b.2<t.length:=by
     have hm:=(qQ d c (t.map Prod.fst)).mem_iff.1 hb
     have:=List.snd_lt_of_mem_zipIdx hm
     rw [List.length_map] at this; omega
   rcases hab with hab | ⟨hab,hlt⟩
   · exact .inl hab
   · exact .inr ⟨hab,hf _ _ hlt H2⟩
 have h5:=Rn h (hz.trans h1.symm) hs h3
 rw [h5]
 unfold srt
 rw [List.map_map]; rfl
theorem HO {t s:List (α × Nat)} (h:t.Sublist s) (ht:s.Pairwise fun y z=>y.2<z.2):t.Pairwise fun y z=>y.2<z.2:=List.Pairwise.sublist h ht
def mK (c:α→α→Int) (l:List α) (k i:Nat) (x:α):Prop:=i<k∧l[i]?=some x∧∀ j y,j<k→l[j]?=some y→(j<i→c x y<0)∧¬ c y x<0
theorem mK.first (h:Wk c) {x:α} (hx:l[0]?=some x):mK c l 1 0 x:=⟨by decide,hx,fun j y hj hy=>by
 have e:j=0:=by omega
 subst e
 rw [hx] at hy; cases hy
 have:=h.refl x
 exact ⟨fun hj=>by omega,by omega⟩⟩
theorem mK.take (h:Wk c) {k i:Nat} {x y:α} (hb:mK c l k i x) (hy:l[k]?=some y) (hc:c y x<0):mK c l (k+1) k y:=⟨by omega,hy,fun j z hj hz=>by
 by_cases e:j=k
 · subst e; rw [hy] at hz; cases hz
   have:=h.refl y
   exact ⟨fun hj=>by omega,by omega⟩
 · have h1:=(hb.2.2 j z (by omega) hz).2
   have h2:=h.anti z x
   have h3:c x z≤0:=by
     have:=h.anti z x
     omega
   have h4:=h.lt1 hc h3
   have h5:=h.anti y z
   exact ⟨fun _=>h4,by omega⟩⟩
theorem mK.keep {k i:Nat} {x y:α} (hb:mK c l k i x) (hy:l[k]?=some y) (hc:¬ c y x<0):mK c l (k+1) i x:=⟨by have:=hb.1; omega,hb.2.1,fun j z hj hz=>by
 by_cases e:j=k
 · subst e; rw [hy] at hz; cases hz
   exact ⟨fun hj=>by have:=hb.1; omega,hc⟩
 · exact hb.2.2 j z (by omega) hz⟩
theorem HQ (h:Wk c) (hl:l.length<40) {i:Nat} {x:α} (hb:mK c l l.length i x):srt d c l=x :: srt d c (l.eraseIdx i):=by
 have hp:=qQ d c l
 have hs:=qB (d:=d) h hl
 obtain ⟨hi,hx,hall⟩:=hb
 have hxz:l.zipIdx[i]?=some (x,i):=by rw [List.getElem?_zipIdx,hx]; simp
 have hmem:(x,i)∈Ce d c l:=hp.mem_iff.2 (List.mem_of_getElem? hxz)
 cases hz:Ce d c l with
 | nil=>rw [hz] at hmem; cases hmem
 | cons q Z =>
   rw [hz] at hs hp hmem
   have hq:q=(x,i):=by
     rcases List.mem_cons.1 hmem with e | hm
     · exact e.symm
     · have hR:=(List.pairwise_cons.1 hs).1 _ hm
       have hqm:=hp.mem_iff.1 (List.mem_cons_self ..)
       obtain ⟨j,hj⟩:=List.getElem?_of_mem hqm
       rw [List.getElem?_zipIdx] at hj
       obtain ⟨y,hy,rfl⟩:=Option.map_eq_some_iff.1 hj
       have hjl:=(List.getElem?_eq_some_iff.1 hy).1
       obtain ⟨h1,h2⟩:=hall j y hjl hy
       rcases hR with hR | ⟨hR,ht⟩
       · exact absurd hR h2
       · have ht:0+j<i:=ht
         have h3:=h1 (by omega)
         have h4:=h.anti x y
         have hR:c y x=0:=hR
         omega
   subst hq
   have hpe:Z.Perm (l.zipIdx.eraseIdx i):=by
     have h1:l.zipIdx.Perm ((x,i) :: l.zipIdx.eraseIdx i):=by
       obtain ⟨h2,e⟩:=List.getElem?_eq_some_iff.1 hxz
       have:=List.eraseIdx_eq_take_drop_succ l.zipIdx i
       rw [this]
       conv=>lhs; rw [← List.take_append_drop i l.zipIdx,List.drop_eq_getElem_cons h2,e]
       exact List.perm_middle
     exact (List.perm_cons _).1 (hp.trans h1)
   have h2:=Nh (d:=d) h (t:=l.zipIdx.eraseIdx i) (z:=Z) (Nat.lt_of_le_of_lt (List.length_eraseIdx_le ..) (by rw [List.length_zipIdx]; exact hl)) (HO (List.eraseIdx_sublist ..) (DN l 0)) hpe (List.pairwise_cons.1 hs).2
   have e:(l.zipIdx.eraseIdx i).map Prod.fst=l.eraseIdx i:=by
     conv=>rhs; rw [← GN l 0]
     rw [List.eraseIdx_eq_take_drop_succ,List.eraseIdx_eq_take_drop_succ,List.map_append,List.map_take,List.map_drop]
   unfold srt
   rw [hz,List.map_cons,h2,e]; rfl
inductive qa (c:α→α→Int) (l:List α):List α→List α→Prop where
 | nil:qa c l [] l
 | step {o r:List α} {i:Nat} {x:α}:qa c l o r→mK c r r.length i x→qa c l (o++[x]) (r.eraseIdx i)
theorem qa.srt (h:Wk c) (hl:l.length<40) {o r:List α} (hp:qa c l o r):r.length<40∧srt d c l=o++srt d c r:=by
 induction hp with
 | nil=>exact ⟨hl,rfl⟩
 | step _ hb ih =>
   obtain ⟨h1,h2⟩:=ih
   refine ⟨Nat.lt_of_le_of_lt (List.length_eraseIdx_le ..) h1,?_⟩
   rw [h2,HQ h h1 hb,List.append_assoc]; rfl
theorem qa.perm {o r:List α} (hp:qa c l o r):(o++r).Perm l:=by
 induction hp with
 | nil=>exact .refl _
 | @step o r i x _ hb ih =>
   obtain ⟨hi,e⟩:=List.getElem?_eq_some_iff.1 hb.2.1
   rw [List.eraseIdx_eq_take_drop_succ]
   have h1:r=r.take i++x :: r.drop (i+1):=by
     conv=>lhs; rw [← List.take_append_drop i r,List.drop_eq_getElem_cons hi,e]
   refine List.Perm.trans ?_ ih
   conv=>rhs; rw [h1]
   rw [List.append_assoc]
   refine List.Perm.append_left _ ?_
   show (x :: (r.take i++r.drop (i+1))).Perm _
   exact List.perm_middle.symm
theorem qa.sub {o r:List α} (hp:qa c l o r):r.Sublist l:=by
 induction hp with
 | nil=>exact List.Sublist.refl _
 | step _ _ ih=>exact (List.eraseIdx_sublist ..).trans ih
theorem qa.len {o r:List α} (hp:qa c l o r):o.length+r.length=l.length:=by
 have:=hp.perm.length_eq
 rwa [List.length_append] at this
def jn (ks:List (α→Int)) (x y:α):Int:=match ks with
 | []=>0
 | k :: ks=>if k x - k y ≠ 0 then k x - k y else jn ks x y
theorem kZ:∀ ks:List (α→Int),Wk (jn ks)
 | []=>⟨fun _ _=>by simp [jn],fun _ _ _ _ _=>by simp [jn]⟩
 | k :: ks=>by
   have ih:=kZ ks
   refine ⟨fun x y=>?_,fun x y z=>?_⟩
   · unfold jn
     by_cases h:k x - k y ≠ 0
     · rw [if_pos h,if_pos (show k y - k x ≠ 0 by omega)]; omega
     rw [if_neg h,if_neg (show ¬ k y - k x ≠ 0 by omega)]; exact ih.anti x y
   unfold jn
   intro h1 h2
   by_cases h3:k x - k y ≠ 0 <;> by_cases h4:k y - k z ≠ 0
   · rw [if_pos h3] at h1; rw [if_pos h4] at h2; rw [if_pos (by omega)]; omega
   · rw [if_pos h3] at h1; rw [if_pos (by omega)]; omega
   · rw [if_pos h4] at h2; rw [if_pos (by omega)]; omega
   rw [if_neg h3] at h1; rw [if_neg h4] at h2; rw [if_neg (by omega)]; exact ih.trans x y z h1 h2
end
structure aV where
 pc:Int
 bg:Int
 ln:Int
 deriving DecidableEq
structure o_ where
 lv:Int
 du:Int
structure fV where
 k:Int
 fld:List Bool
 alw:List Bool
 sug:List Bool
 un:Bool
 sn:Bool
structure PK where
 n:Nat
 pz:Nat
 la:Nat
 seed:ByteArray
 ino:Bool
 had:List Bool
 wish:List o_
 here:List aV
 asked:List (Int × aV)
 peers:List fV
def aF (l:List Bool) (i:Int):Bool:=l.getD i.toNat false
abbrev AL:=List (Int × aV)
def eU (k:Int) (l:List Int):List Int:=l.filter (fun x=>decide (x<k))++k :: l.filter (fun x=>decide (k≤x))
def wd (c:aV) (o:List Int) (a:Int × aV):List Int:=if a.2=c then eU a.1 o else o
def cn (al:AL) (c:aV):List Int:=al.foldl (wd c) []
def bO (al:AL) (k:Int):List aV:=(al.filter fun a=>decide (a.1=k)).map Prod.snd
def cx (al:AL) (k:Int) (q:aV→Bool):AL:=al.filter fun a=>!(decide (a.1=k) && q a.2)
theorem qo (al:AL) (k:Int) (c d:aV):cn (al++[(k,c)]) d=if c=d then eU k (cn al d) else cn al d:=by
 unfold cn; rw [List.foldl_append]; rfl
theorem Im {k x:Int} {l:List Int}:x∈eU k l ↔ x=k∨x∈l:=by
 unfold eU
 simp only [List.mem_append,List.mem_cons,List.mem_filter,decide_eq_true_eq]
 constructor
 · rintro (h | h | h)
   · exact .inr h.1
   · exact .inl h
   · exact .inr h.1
 · rintro (h | h)
   · exact .inr (.inl h)
   · by_cases h2:x<k
     · exact .inl ⟨h,h2⟩
     · exact .inr (.inr ⟨h,by omega⟩)
theorem vp {k:Int} {l:List Int} (h:l.Pairwise (·<·)) (hk:k ∉ l):(eU k l).Pairwise (·<·):=by
 unfold eU
 refine List.pairwise_append.2 ⟨h.filter _,List.pairwise_cons.2 ⟨fun x hx=>?_,h.filter _⟩,fun a ha b hb=>?_⟩
 · obtain ⟨h1,h2⟩:=List.mem_filter.1 hx
   have h2:=of_decide_eq_true h2
   have:x ≠ k:=fun e=>hk (e ▸ h1)
   omega
 have h1:=of_decide_eq_true (List.mem_filter.1 ha).2
 rcases List.mem_cons.1 hb with rfl | hb
 · exact h1
 have h2:=of_decide_eq_true (List.mem_filter.1 hb).2
 omega
theorem nu (k:Int) (l:List Int):(eU k l).length=l.length+1:=by
 unfold eU
 induction l with
 | nil=>rfl
 | cons a l ih =>
   simp only [List.filter_cons,List.length_append,List.length_cons] at ih ⊢
   by_cases h:a<k
   · rw [if_pos (decide_eq_true h),if_neg (by simp; omega)]; simp only [List.length_cons]; omega
   · rw [if_neg (by simp; omega),if_pos (by simp; omega)]; simp only [List.length_cons]; omega
theorem gp {al:AL} {c:aV} {k:Int}:k∈cn al c ↔ (k,c)∈al:=by
 unfold cn
 have key:∀ (al:AL) (o:List Int),k∈al.foldl (wd c) o ↔ k∈o∨(k,c)∈al:=by
   intro al
   induction al with
   | nil=>intro o; simp
   | cons a al ih =>
     intro o
     rw [List.foldl_cons,ih,List.mem_cons]
     unfold wd
     obtain ⟨j,d⟩:=a
     by_cases h:d=c
     · subst h
       rw [if_pos rfl,Im]
       simp only [Prod.mk.injEq,and_true]
       constructor
       · rintro ((h | h) | h)
         · exact .inr (.inl h)
         · exact .inl h
         · exact .inr (.inr h)
       · rintro (h | h | h)
         · exact .inl (.inr h)
         · exact .inl (.inl h)
         · exact .inr h
     · rw [if_neg h]
       simp only [Prod.mk.injEq]
       constructor
       · rintro (h2 | h2)
         · exact .inl h2
         · exact .inr (.inr h2)
       · rintro (h2 | ⟨_,h2⟩ | h2)
         · exact .inl h2
         · exact absurd h2.symm h
         · exact .inr h2
 rw [key]; simp
theorem l7 {al:AL} (h:al.Nodup) (c:aV):(cn al c).Pairwise (·<·):=by
 have key:∀ (m:Nat) (al:AL),al.length=m→al.Nodup→(cn al c).Pairwise (·<·):=by
   intro m
   induction m with
   | zero=>intro al hm _; rw [List.eq_nil_of_length_eq_zero hm]; exact .nil
   | succ m ih =>
     intro al hm hn
     obtain ⟨b,a,rfl⟩:∃ b a,al=b++[a]:=⟨al.dropLast,al.getLast (by intro e; rw [e] at hm; cases hm),(List.dropLast_concat_getLast _).symm⟩
     obtain ⟨k,d⟩:=a
     have h1:=List.nodup_append.1 hn
     have h2:=ih b (by simpa using hm) h1.1
     rw [qo]
     split
     · rename_i e
       subst e
       exact vp h2 fun hk=>h1.2.2 _ (gp.1 hk) _ (List.mem_singleton.2 rfl) rfl
     · exact h2
 exact key _ al rfl h
theorem CQ {x y:List Int} (hx:x.Pairwise (·<·)) (hy:y.Pairwise (·<·)) (h:∀ k,k∈x ↔ k∈y):x=y:=by
 have nx:x.Nodup:=hx.imp fun h=>Int.ne_of_lt h
 have ny:y.Nodup:=hy.imp fun h=>Int.ne_of_lt h
 have hp:x.Perm y:=(List.perm_ext_iff_of_nodup nx ny).2 h
 exact List.Perm.eq_of_pairwise (fun a b _ _ h1 h2=>absurd h1 (by omega)) hx hy hp
theorem xg {al:AL} {k:Int} {q:aV→Bool} {a:Int × aV}:a∈cx al k q ↔ a∈al∧¬ (a.1=k∧q a.2=true):=by
 unfold cx
 rw [List.mem_filter]
 by_cases h:a.1=k
 · simp [h]
 · simp [h]
theorem Do {al:AL} (h:al.Nodup) (k:Int) (q:aV→Bool):(cx al k q).Nodup:=h.filter _
theorem Bb {al:AL} (h:al.Nodup) (k:Int) (q:aV→Bool) (c:aV):cn (cx al k q) c=if q c=true then (cn al c).filter (fun x=>decide (x ≠ k)) else cn al c:=by
 refine CQ (l7 (Do h k q) c) ?_ fun x=>?_
 · split
   · exact (l7 h c).filter _
   exact l7 h c
 rw [gp,xg]
 by_cases hq:q c=true
 · rw [if_pos hq,List.mem_filter,gp]
   simp only [hq,and_true,ne_eq,decide_not,Bool.not_eq_eq_eq_not,Bool.not_true,decide_eq_false_iff_not]
 rw [if_neg hq,gp]
 simp only [hq]
 simp
theorem gq {al:AL} {k:Int} {c:aV}:c∈bO al k ↔ (k,c)∈al:=by
 unfold bO
 simp only [List.mem_map,List.mem_filter,decide_eq_true_eq]
 constructor
 · rintro ⟨⟨j,d⟩,⟨h1,h2⟩,h3⟩
   have h2:j=k:=h2
   have h3:d=c:=h3
   subst h2; subst h3; exact h1
 · exact fun h=>⟨(k,c),⟨h,rfl⟩,rfl⟩
theorem C6 {al:AL} (h:al.Nodup) (k:Int):(bO al k).Nodup:=by
 unfold bO
 refine List.pairwise_map.2 ?_
 refine List.Pairwise.imp_of_mem (fun {a b} ha hb hab=>?_) (h.filter _)
 intro e
 have h1:=of_decide_eq_true (List.mem_filter.1 ha).2
 have h2:=of_decide_eq_true (List.mem_filter.1 hb).2
 exact hab (Prod.ext (h1.trans h2.symm) e)
theorem zg (al:AL) (k j:Int) (c:aV):bO (al++[(k,c)]) j=if j=k then bO al j++[c] else bO al j:=by
 unfold bO
 rw [List.filter_append,List.map_append]
 by_cases h:j=k
 · rw [if_pos h,List.filter_cons,if_pos (decide_eq_true h.symm)]; rfl
 · rw [if_neg h,List.filter_cons,if_neg (by simp; exact fun e=>h e.symm)]; simp
theorem FH (al:AL) (k j:Int) (q:aV→Bool):bO (cx al k q) j=if j=k then (bO al j).filter (fun c=>!q c) else bO al j:=by
 unfold bO cx
 rw [List.filter_filter]
 by_cases h:j=k
 · subst h
   rw [if_pos rfl,List.filter_map,List.filter_filter]
   congr 1
   refine List.filter_congr fun a _=>?_
   by_cases h1:a.1=j
   · simp [h1]
   simp [h1]
 rw [if_neg h]
 congr 1
 refine List.filter_congr fun a _=>?_
 by_cases h1:a.1=j
 · have:a.1 ≠ k:=fun e=>h (h1.symm.trans e)
   simp [h1,h]
 simp [h1]
theorem F6 (al:AL) (k:Int) (l:List aV) (c:aV):cx al k (fun x=>decide (x∈l++[c]))=cx (cx al k fun x=>decide (x∈l)) k (fun x=>decide (x=c)):=by
 unfold cx
 rw [List.filter_filter]
 refine List.filter_congr fun a _=>?_
 by_cases h1:a.1=k <;> by_cases h2:a.2∈l <;> by_cases h3:a.2=c <;> simp [h1,h2,h3]
theorem I7 (al:AL) (k:Int):cx al k (fun x=>decide (x∈([]:List aV)))=al:=by
 unfold cx
 exact List.filter_eq_self.2 fun a _=>by simp
theorem o0 {al:AL} {k:Int} {q r:aV→Bool} (h:∀ c,(k,c)∈al→q c=r c):cx al k q=cx al k r:=by
 unfold cx
 refine List.filter_congr fun a ha=>?_
 by_cases h1:a.1=k
 · have h2:(k,a.2)∈al:=by rw [← h1]; exact ha
   rw [h a.2 h2]
 simp [h1]
theorem BJ (al:AL) (k:Int) (q:aV→Bool):cx al k (fun x=>decide (x∈(bO al k).filter q))=cx al k q:=o0 fun c hc=>by
 rw [Bool.eq_iff_iff,decide_eq_true_eq,List.mem_filter,gq]
 exact ⟨fun h=>h.2,fun h=>⟨hc,h⟩⟩
def py (al:AL) (c:aV):AL:=al.filter fun a=>decide (a.2 ≠ c)
def PK.size (A:PK) (i:Int):Nat:=if i=(A.n:Int) - 1 then A.la else A.pz
def E0 (i:Int) (z q:Nat):aV:=⟨i,((16 * q:Nat):Int),min 16 ((z:Int) - ((16 * q:Nat):Int))⟩
def yA (i:Int) (z:Nat):List aV:=(List.range ((z+15) / 16)).map (E0 i z)
def PK.blocks (A:PK) (i:Int):List aV:=yA i (A.size i)
theorem uz (i:Int) (z:Nat):(yA i z).length=(z+15) / 16:=by unfold yA; simp
theorem Am {i:Int} {z q:Nat} (h:16 * q<z):(yA i z)[q]?=some (E0 i z q):=by
 unfold yA
 rw [List.getElem?_map,List.getElem?_range (by omega)]; rfl
theorem xh {i:Int} {z:Nat} {c:aV}:c∈yA i z ↔ ∃ q,16 * q<z∧c=E0 i z q:=by
 unfold yA
 simp only [List.mem_map,List.mem_range]
 exact ⟨fun ⟨q,h1,h2⟩=>⟨q,by omega,h2.symm⟩,fun ⟨q,h1,h2⟩=>⟨q,by omega,h2.symm⟩⟩
theorem Dq (i:Int) (z:Nat):(yA i z).Nodup:=by
 unfold yA
 refine List.pairwise_map.2 (List.nodup_range.imp fun {a b} h e=>h ?_)
 have:=congrArg aV.bg e
 simp only [E0] at this
 omega
theorem eQ {A:PK} {i:Int} {c:aV} (h:c∈A.blocks i):c.pc=i:=by
 obtain ⟨q,_,rfl⟩:=xh.1 h; rfl
def aV.at (c:aV):Int × Int:=(c.pc,c.bg)
def PK.chAt (A:PK) (p:Int × Int):aV:=⟨p.1,p.2,min 16 ((A.size p.1:Int) - p.2)⟩
theorem Ak {A:PK} {i:Int} {c:aV} (h:c∈A.blocks i):A.chAt c.at=c:=by
 have hp:=eQ h
 obtain ⟨q,_,rfl⟩:=xh.1 h
 rfl
def PK.isB (A:PK) (c:aV):Prop:=0≤c.pc∧c.pc<(A.n:Int)∧c∈A.blocks c.pc
instance (A:PK) (c:aV):Decidable (A.isB c):=inferInstanceAs (Decidable (_∧_∧_))
theorem Cs {A:PK} {i:Int} {c:aV} (h0:0≤i) (h1:i<(A.n:Int)) (h:c∈A.blocks i):A.isB c:=by
 have:=eQ h
 subst this
 exact ⟨h0,h1,h⟩
def PK.freeC (A:PK) (c:aV):Bool:=!decide (c∈A.here) && (cn A.asked c).isEmpty
def PK.lv (A:PK) (i:Int):Int:=(A.wish.getD i.toNat ⟨0,0⟩).lv
def PK.du (A:PK) (i:Int):Int:=(A.wish.getD i.toNat ⟨0,0⟩).du
def PK.openB (A:PK) (i:Int):Bool:=!aF A.had i && decide (0<A.lv i)
def PK.freeL (A:PK) (i:Int):List aV:=(A.blocks i).filter fun c=>!aF A.had i && A.freeC c
def PK.partB (A:PK) (i:Int):Bool:=(A.blocks i).any fun c=>!A.freeC c
def PK.wholeB (A:PK) (i:Int):Bool:=(A.blocks i).all fun c=>decide (c∈A.here)
def jo (n:Nat):List Int:=(List.range n).map fun (i:Nat)=>(i:Int)
def PK.endB (A:PK):Bool:=(jo A.n).all fun i=>!A.openB i || (A.blocks i).all fun c=>!A.freeC c
def PK.leftI (A:PK) (i:Int):Nat:=if A.openB i=true then ((A.blocks i).filter fun c=>!decide (c∈A.here)).length else 0
def PK.leftN (A:PK):Nat:=((jo A.n).map A.leftI).sum
def PK.countV (A:PK) (i:Int):Nat:=(A.peers.filter fun p=>aF p.fld i).length
def PK.ent (A:PK) (p:Int × Int):Option (Bool × List Int):=if A.freeC (A.chAt p)=true then none else some (decide (A.chAt p∈A.here),cn A.asked (A.chAt p))
end Go.Proofs.YthmmfhdpkddniaaGreatDoor
