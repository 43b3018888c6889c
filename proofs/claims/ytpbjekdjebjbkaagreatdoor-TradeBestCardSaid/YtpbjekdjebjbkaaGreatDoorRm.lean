import Derived.Test.YtpbjekdjebjbkaaGreatDoorRi
set_option linter.unusedSimpArgs false
set_option linter.unusedVariables false
namespace Go.Proofs.YtpbjekdjebjbkaaGreatDoor
open Go.RowKit
def putV (n:Nat) (W V:List Int):List Int:=(W.zip V).foldl (fun o p=>o.set p.1.toNat p.2) (List.replicate n 0)
theorem put_aux (q:Int):∀ (W:List Int) (o:List Int),(W.zip (List.replicate W.length q)).foldl (fun o (p:Int × Int)=>o.set p.1.toNat p.2) o=W.foldl (fun o i=>o.set i.toNat q) o
 | [],o=>rfl
 | a :: W,o=>by
   rw [List.length_cons,List.replicate_succ,List.zip_cons_cons,List.foldl_cons,List.foldl_cons]
   exact put_aux q W _
theorem put_evn (n:Nat) (rt:Int) (W:List Int):putV n W (whatE rt W)=evnV n rt W:=put_aux _ W _
theorem put_snoc {n:Nat} {W V:List Int} {i v:Int} (h:W.length=V.length):putV n (W++[i]) (V++[v])=(putV n W V).set i.toNat v:=by
 unfold putV
 rw [List.zip_append h,List.foldl_append]; rfl
structure TyRel (n:Nat) (s:TyW) (t:TyR):Prop where
 left:t.left=s.left
 stop:t.stop=s.stop
 len:s.who.length=s.what.length
 out:t.o=putV n s.who s.what
 cho:∀ i,(t.C i).getD false=decide (i∈s.who)
theorem TyRel.step {n:Nat} {m:Int→Int} {s:TyW} {t:TyR} (h:TyRel n s t) (i:Int):TyRel n (tyW m s i) (tyrS m t i):=by
 unfold tyW tyrS
 rw [h.stop,h.left]
 by_cases h1:s.stop=true
 · rw [if_pos h1,if_pos h1]; exact h
 · rw [if_neg h1,if_neg h1]
   by_cases h2:s.left<m i
   · rw [if_pos h2,if_pos h2]
     exact ⟨rfl,rfl,h.len,h.out,h.cho⟩
   · rw [if_neg h2,if_neg h2]
     refine ⟨rfl,rfl,by rw [List.length_append,List.length_append,h.len]; rfl,by rw [put_snoc h.len,h.out],fun j=>?_⟩
     show (upM t.C i true j).getD false=decide (j∈s.who++[i])
     unfold upM
     by_cases e:j=i
     · rw [if_pos e,e]; simp
     · rw [if_neg e,h.cho j]; simp [e]
theorem TyRel.fold {n:Nat} {m:Int→Int}:∀ (l:List Int) {s:TyW} {t:TyR},TyRel n s t→TyRel n (l.foldl (tyW m) s) (l.foldl (tyrS m) t)
 | [],_,_,h=>h
 | a :: l,s,t,h=>TyRel.fold l (h.step a)
theorem tyr_rel (m:Int→Int) (n:Nat) (rt:Int) (l:List Int):TyRel n (l.foldl (tyW m) ⟨[],[],rt,false⟩) (tyrF m n rt l):=
 TyRel.fold l ⟨rfl,rfl,rfl,rfl,fun i=>rfl⟩
theorem mir_rel (f:Int→Int) (n:Nat):∀ (l:List Int) {s:(List Int × List Int) × Int} {t:List Int × Int},t.2=s.2→s.1.1.length=s.1.2.length→t.1=putV n s.1.1 s.1.2 →
   (l.foldl (mirS f) t).2=(l.foldl (mirW f) s).2∧(l.foldl (mirW f) s).1.1.length=(l.foldl (mirW f) s).1.2.length∧(l.foldl (mirS f) t).1=putV n (l.foldl (mirW f) s).1.1 (l.foldl (mirW f) s).1.2
 | [],s,t,h1,h2,h3=>⟨h1,h2,h3⟩
 | a :: l,s,t,h1,h2,h3=>by
   rw [List.foldl_cons,List.foldl_cons]
   refine mir_rel f n l ?_ ?_ ?_
   · show t.2 - min (f a) t.2=s.2 - min (f a) s.2
     rw [h1]
   · show (s.1.1++[a]).length=(s.1.2++[min (f a) s.2]).length
     rw [List.length_append,List.length_append,h2]; rfl
   · show t.1.set a.toNat (min (f a) t.2)=putV n (s.1.1++[a]) (s.1.2++[min (f a) s.2])
     rw [put_snoc h2,h3,h1]
theorem mir_put (f:Int→Int) (n:Nat) (rt:Int) (l:List Int):(mirF f n rt l).1=putV n (l.foldl (mirW f) (([],[]),rt)).1.1 (l.foldl (mirW f) (([],[]),rt)).1.2:=
 (mir_rel f n l (s:=(([],[]),rt)) (t:=(List.replicate n 0,rt)) rfl rfl rfl).2.2
theorem three_end {α:Type} {G:List α} (h:3≤G.length):∃ G' a b c,G=G'++[a,b,c]:=by
 refine ⟨G.take (G.length - 3),G[G.length - 3],G[G.length - 2],G[G.length - 1],?_⟩
 have h1:G.drop (G.length - 3)=[G[G.length - 3],G[G.length - 2],G[G.length - 1]]:=by
   rw [List.drop_eq_getElem_cons (by omega)]
   have e1:G.length - 3+1=G.length - 2:=by omega
   have h2:G.drop (G.length - 3+1)=[G[G.length - 2],G[G.length - 1]]:=by
     rw [e1,List.drop_eq_getElem_cons (by omega)]
     have e2:G.length - 2+1=G.length - 1:=by omega
     rw [e2,List.drop_eq_getElem_cons (by omega),List.drop_eq_nil_of_le (by omega)]
   rw [h2]
 rw [← h1,List.take_append_drop]
theorem gvK_end {G':List (List (List Int))} {r3 r2 r1:List (List Int)} (a b:Int):gvK (G'++[r3,r2,r1]) a b 1=at2 r1 a b∧gvK (G'++[r3,r2,r1]) a b 2=at2 r2 a b∧gvK (G'++[r3,r2,r1]) a b 3=at2 r3 a b:=by
 have hl:((G'++[r3,r2,r1]).length:Int)=G'.length+3:=by rw [List.length_append]; rfl
 unfold gvK
 rw [hl]
 refine ⟨?_,?_,?_⟩
 · rw [if_neg (by omega),show ((G'.length:Int)+3 - 1).toNat=G'.length+2 by omega,getD_atT (x:=r1) (by rw [List.getElem?_append_right (by omega)]; simp)]
 · rw [if_neg (by omega),show ((G'.length:Int)+3 - 2).toNat=G'.length+1 by omega,getD_atT (x:=r2) (by rw [List.getElem?_append_right (by omega)]; simp)]
 · rw [if_neg (by omega),show ((G'.length:Int)+3 - 3).toNat=G'.length by omega,getD_atT (x:=r3) (by rw [List.getElem?_append_right (by omega)]; simp)]
theorem snb1_is {n:Nat} {r:List (List Int)} (h:RdOK n r) (me ot:Int):snb1 me ot r=(decide (at2 r ot me=0) && decide (0<at2 r me ot)):=by
 have h1:=(h.at2 ot me).1
 have h2:=(h.at2 me ot).1
 unfold snb1
 by_cases e1:at2 r ot me=0
 · by_cases e2:at2 r me ot=0
   · simp [e1,e2]
   · have e3:0<at2 r me ot:=by omega
     simp [e1,e2,e3]
 · have e3:0<at2 r ot me:=by omega
   simp [e1,e3]
theorem snb_is {n:Nat} {G:List (List (List Int))} (h:∀ r∈G,RdOK n r) (me ot:Int):snbK G me ot 3=snubV G me ot:=by
 by_cases h3:3≤G.length
 · obtain ⟨G',r3,r2,r1,rfl⟩:=three_end h3
   have g1:=gvK_end (G':=G') (r3:=r3) (r2:=r2) (r1:=r1) ot me
   have g2:=gvK_end (G':=G') (r3:=r3) (r2:=r2) (r1:=r1) me ot
   unfold snubV
   rw [List.reverse_append]
   show ((((decide (3≤(G'++[r3,r2,r1]).length)) && (decide (gvK _ ot me 1=0) && decide (0<gvK _ me ot 1))) && (decide (gvK _ ot me 2=0) && decide (0<gvK _ me ot 2))) && (decide (gvK _ ot me 3=0) && decide (0<gvK _ me ot 3)))=(_ && (snb1 me ot r1 && (snb1 me ot r2 && (snb1 me ot r3 && true))))
   rw [g1.1,g1.2.1,g1.2.2,g2.1,g2.2.1,g2.2.2,snb1_is (h r1 (by simp)),snb1_is (h r2 (by simp)),snb1_is (h r3 (by simp)),Bool.and_true,Bool.and_assoc,Bool.and_assoc]
 · unfold snubV
   rw [decide_eq_false h3,Bool.false_and]
   show (((decide (3≤G.length) && _) && _) && _)=false
   rw [decide_eq_false h3]; rfl
def RT (c:Int→Int→Int) (x y:Int):Prop:=RZ c (x,x.toNat) (y,y.toNat)
section
variable {c:Int→Int→Int} {o l:List Int} {x:Int}
theorem RT.ords (h:Wk c) (l:List Int):Ords (RT c) Int.toNat c l:=by
 refine ⟨fun x y z _ _ _=>RZ.trans h,fun x _=>RZ.irr h,fun x y _ _ ht hn=>?_,fun x y _ _ ht=>⟨fun h1=>.inl h1,fun h1=>?_⟩⟩
 · by_cases h1:c x y<0
   · exact .inl h1
   · have h2:=h.anti y x
     have h3:¬ c y x<0:=fun h4=>hn (.inl h4)
     exact .inr ⟨by show c x y=0; omega,ht⟩
 · rcases h1 with h1 | ⟨_,h1⟩
   · exact h1
   · have h1:y.toNat<x.toNat:=h1
     omega
theorem posV_spec (c:Int→Int→Int) (o:List Int) (x:Int):∀ K,(∀ j,posV c o x K≤j→j<K→c x (o.getD j 0)<0)∧(posV c o x K=0∨¬ c x (o.getD (posV c o x K - 1) 0)<0)
 | 0=>⟨fun j _ h=>absurd h (Nat.not_lt_zero _),.inl rfl⟩
 | K+1=>by
   have ih:=posV_spec c o x K
   by_cases h:c x (o.getD K 0)<0
   · have e:posV c o x (K+1)=posV c o x K:=if_pos h
     rw [e]
     refine ⟨fun j h1 h2=>?_,ih.2⟩
     by_cases hj:j=K
     · rw [hj]; exact h
     · exact ih.1 j h1 (by omega)
   · have e:posV c o x (K+1)=K+1:=if_neg h
     rw [e]
     exact ⟨fun j h1 h2=>by omega,.inr h⟩
theorem ins_sorted (h:Wk c) (ho:o.Pairwise (RT c)) (ht:∀ y∈o,y.toNat<x.toNat):(insV c o x).Pairwise (RT c):=by
 obtain ⟨k,hk⟩:∃ k,k=posV c o x o.length:=⟨_,rfl⟩
 have hs:=posV_spec c o x o.length
 have hkl:=posV_le c o x o.length
 unfold insV
 rw [← hk] at hs hkl ⊢
 have ho2:(o.take k++o.drop k).Pairwise (RT c):=by rw [List.take_append_drop]; exact ho
 obtain ⟨p1,p2,p3⟩:=List.pairwise_append.1 ho2
 have before:∀ a∈o.take k,RT c a x:=fun a ha=>by
   obtain ⟨j,hj⟩:=List.getElem?_of_mem ha
   have hjl:=(List.getElem?_eq_some_iff.1 hj).1
   rw [List.length_take] at hjl
   have hj2:o[j]?=some a:=by rw [List.getElem?_take,if_pos (by omega)] at hj; exact hj
   rcases hs.2 with h0 | h0
   · omega
   · obtain ⟨y,hy⟩:=ex_at (l:=o) (j:=k - 1) (by omega)
     rw [getD_atT hy] at h0
     have hax:=ht a (List.mem_of_getElem? hj2)
     have hyx:c y x≤0:=by have:=h.anti x y; omega
     have hay:c a y≤0:=by
       by_cases e:j=k - 1
       · subst e
         rw [hj2] at hy
         obtain rfl:=Option.some.inj hy
         have:=h.refl a
         omega
       · obtain ⟨q1,q2⟩:=List.getElem?_eq_some_iff.1 hj2
         obtain ⟨q3,q4⟩:=List.getElem?_eq_some_iff.1 hy
         have:=List.pairwise_iff_getElem.1 ho j (k - 1) q1 q3 (by omega)
         rw [q2,q4] at this
         rcases this with t | ⟨t,_⟩
         · have t:c a y<0:=t; omega
         · have t:c a y=0:=t; omega
     have haxc:=h.trans a y x hay hyx
     by_cases e:c a x<0
     · exact .inl e
     · exact .inr ⟨by show c a x=0; omega,hax⟩
 have after:∀ b∈o.drop k,RT c x b:=fun b hb=>by
   obtain ⟨j,hj⟩:=List.getElem?_of_mem hb
   rw [List.getElem?_drop] at hj
   have hjl:=(List.getElem?_eq_some_iff.1 hj).1
   have:=hs.1 (k+j) (by omega) hjl
   rw [getD_atT hj] at this
   exact .inl this
 refine List.pairwise_append.2 ⟨List.pairwise_append.2 ⟨p1,List.pairwise_singleton _ _,fun a ha b hb=>?_⟩,p2,fun a ha b hb=>?_⟩
 · rw [List.mem_singleton.1 hb]; exact before a ha
 · rcases List.mem_append.1 ha with ha | ha
   · exact p3 a ha b hb
   · rw [List.mem_singleton.1 ha]; exact after b hb
theorem ins_perm (c:Int→Int→Int) (o:List Int) (x:Int):(insV c o x).Perm (x :: o):=by
 unfold insV
 rw [List.append_assoc]
 refine (List.perm_middle (l₁:=o.take _) (l₂:=o.drop _)).trans ?_
 rw [List.take_append_drop]
theorem rank_aux (h:Wk c):∀ (l:List Int) {o:List Int},o.Pairwise (RT c)→(∀ y∈o,∀ z∈l,y.toNat<z.toNat)→(l.Pairwise fun y z=>y.toNat<z.toNat)→(l.foldl (insV c) o).Pairwise (RT c)∧(l.foldl (insV c) o).Perm (o++l)
 | [],o,ho,_,_=>⟨ho,by rw [List.append_nil]; exact .refl _⟩
 | a :: l,o,ho,ht,hl=>by
   rw [List.pairwise_cons] at hl
   have h1:=ins_sorted (x:=a) h ho fun y hy=>ht y hy a List.mem_cons_self
   have h2:=rank_aux h l h1 (fun y hy z hz=>by
     rcases insV_mem hy with hy | rfl
     · exact ht y hy z (List.mem_cons_of_mem _ hz)
     · exact hl.1 z hz) hl.2
   refine ⟨h2.1,h2.2.trans ?_⟩
   exact ((ins_perm c o a).append_right l).trans List.perm_middle.symm
theorem rank_stable (h:Wk c) (hl:l.length<20) (ht:l.Pairwise fun y z=>y.toNat<z.toNat):rankV c l=stableS 0 c l:=by
 have h1:=rank_aux h l (o:=[]) List.Pairwise.nil (fun y hy=>absurd hy List.not_mem_nil) ht
 have h2:=stable_sorted (d:=(0:Int)) hl (RT.ords h l) ht
 have h3:(rankV c l).Perm (stableS 0 c l):=h1.2.trans (stable_perm _ _ _).symm
 exact List.Perm.eq_of_pairwise (fun a b _ _ hab hba=>absurd (RZ.trans h hab hba) (RZ.irr h)) h1.1 h2 h3
end
theorem oth_rise (n:Nat) (me:Int):(othV n me).Pairwise fun y z=>y.toNat<z.toNat:=by
 unfold othV
 refine List.Pairwise.sublist List.filter_sublist ?_
 rw [List.pairwise_map]
 exact List.pairwise_lt_range.imp fun h=>by omega
theorem tyr_wk {G:List (List (List Int))} {m:Int→Int} {me:Int} (hG:∀ a b,0≤lastV G a b) (hm:∀ i,0≤m i):Wk (tyrCm G m me):=by
 constructor
 · intro x y
   have hx:=hG x me
   have hy:=hG y me
   unfold tyrCm
   by_cases h:lastV G x me=0∨lastV G y me=0
   · rw [if_pos h,if_pos (Or.symm h)]; omega
   · rw [if_neg h,if_neg (fun h2=>h (Or.symm h2))]; omega
 · intro x y z h1 h2
   have hx:=hG x me
   have hy:=hG y me
   have hz:=hG z me
   unfold tyrCm at h1 h2 ⊢
   by_cases ex:lastV G x me=0
   · rw [if_pos (.inl ex)] at h1
     have ey:lastV G y me=0:=by omega
     rw [if_pos (.inl ey)] at h2
     rw [if_pos (.inl ex)]; omega
   · by_cases ey:lastV G y me=0
     · rw [if_pos (.inl ey)] at h2
       have ez:lastV G z me=0:=by omega
       rw [if_pos (.inr ez)]; omega
     · by_cases ez:lastV G z me=0
       · rw [if_pos (.inr ez)]; omega
       · rw [if_neg (by omega)] at h1 h2 ⊢
         have k1:lastV G y me * m x * lastV G z me≤lastV G x me * m y * lastV G z me:=Int.mul_le_mul_of_nonneg_right (by omega) hz
         have k2:lastV G z me * m y * lastV G x me≤lastV G y me * m z * lastV G x me:=Int.mul_le_mul_of_nonneg_right (by omega) hx
         have e1:lastV G x me * m y * lastV G z me=lastV G z me * m y * lastV G x me:=by rw [Int.mul_comm (lastV G x me * m y),← Int.mul_assoc,Int.mul_comm (lastV G z me * lastV G x me),← Int.mul_assoc,Int.mul_comm (m y)]
         have e2:lastV G y me * m x * lastV G z me=lastV G y me * (lastV G z me * m x):=by rw [Int.mul_assoc,Int.mul_comm (m x)]
         have e3:lastV G y me * m z * lastV G x me=lastV G y me * (lastV G x me * m z):=by rw [Int.mul_assoc,Int.mul_comm (m z)]
         have k3:lastV G y me * (lastV G z me * m x)≤lastV G y me * (lastV G x me * m z):=by omega
         have k4:=Int.le_of_mul_le_mul_left k3 (by omega)
         omega
theorem rank_tyr {n:Nat} {G:List (List (List Int))} {P:Int→Option Int} {rt me:Int} (hn:n≤9) (hG:∀ a b,0≤lastV G a b) (hm:∀ i,0≤mustV P rt i):rankV (tyrCm G (mustV P rt) me) (othV n me)=tyrL n G P rt me:=by
 have hl:=othV_len n me
 exact rank_stable (tyr_wk hG hm) (by omega) (oth_rise n me)
theorem sum_pos:∀ {l:List Int},(∀ y∈l,0≤y)→(sumI l=0 ↔ ∀ y∈l,y=0)
 | [],_=>⟨fun _ y hy=>absurd hy List.not_mem_nil,fun _=>rfl⟩
 | a :: l,h=>by
   have h1:=h a List.mem_cons_self
   have ih:=sum_pos (l:=l) fun y hy=>h y (List.mem_cons_of_mem _ hy)
   have h0:0≤sumI l:=by
     by_cases e:l=[]
     · subst e; exact Int.le_refl _
     · obtain ⟨b,hb⟩:=List.exists_mem_of_ne_nil _ e
       have:=mem_le_sum (fun y hy=>h y (List.mem_cons_of_mem _ hy)) b hb
       have:=h b (List.mem_cons_of_mem _ hb)
       omega
   rw [sumI_cons]
   constructor
   · intro e y hy
     rcases List.mem_cons.1 hy with rfl | hy
     · omega
     · exact ih.1 (by omega) y hy
   · intro e
     have:=e a List.mem_cons_self
     have:=ih.2 fun y hy=>e y (List.mem_cons_of_mem _ hy)
     omega
theorem let_btw {n:Nat} {G:List (List (List Int))} (h:∀ r∈G,RdOK n r) (me i:Int):letR G me i=if btwV G me i=0 then -1 else 0:=by
 have hs:=sum_pos (l:=G.map fun r=>at2 r me i) fun y hy=>by
   obtain ⟨r,hr,rfl⟩:=List.mem_map.1 hy
   exact ((h r hr).at2 me i).1
 unfold letR btwV
 cases ha:G.any fun r=>decide (0<at2 r me i) with
 | true =>
   obtain ⟨r,hr,hz⟩:=List.any_eq_true.1 ha
   have hz:=of_decide_eq_true hz
   rw [if_pos rfl,if_neg (fun e=>by
     have:=hs.1 e (at2 r me i) (List.mem_map.2 ⟨r,hr,rfl⟩)
     omega)]
 | false =>
   rw [if_neg (by decide),if_pos (hs.2 fun y hy=>by
     obtain ⟨r,hr,rfl⟩:=List.mem_map.1 hy
     have h1:=List.any_eq_false.1 ha r hr
     have h2:=((h r hr).at2 me i).1
     have h3:¬ 0<at2 r me i:=fun e=>h1 (decide_eq_true e)
     omega)]
def BwInv (n:Nat) (G:List (List (List Int))) (bw:List (List Int)):Prop:=∀ a b:Int,0≤a∧a<n→0≤b∧b<n→at2 bw a b=btwV G a b
theorem fair_is {n:Nat} {G:List (List (List Int))} {bw:List (List Int)} {sd:ByteArray} {me:Int} (hn:n≤9) (h:∀ r∈G,RdOK n r) (hb:BwInv n G bw) (hme:0≤me∧me<n):fairR sd n G me=ids1 G.length 4 ((sd++⟨#[32]⟩)++itS me) (rivL n G bw me):=by
 have e:(othV n me).map (rvR G me)=rivL n G bw me:=by
   unfold rivL
   refine List.map_congr_left fun i hi=>?_
   have h1:=(othV_mem.1 hi).1
   unfold rvR rvOf
   rw [let_btw h,snb_is h,hb me i hme h1]
 have hl:=othV_len n me
 unfold fairR ids1
 rw [← e,way1_eq (by rw [List.length_map]; omega) (by rw [rvR_ids]; exact oth_nodup n me)]
theorem at2_addL {l row:List Int} {n:Nat} (h1:l.length=n) (h2:row.length=n) {b:Nat} (hb:b<n):(addL l row)[b]?=some (l.getD b 0+row.getD b 0):=by
 obtain ⟨x,hx⟩:=ex_at (l:=l) (j:=b) (by omega)
 unfold addL
 rw [mapK_lt (by omega) hx,getD_atT hx]
theorem at2_bwF {n:Nat} {rows bw:List (List Int)} (hr:rows.length=n) (hrl:∀ r∈rows,r.length=n) (hw:bw.length=n) (hwl:∀ l∈bw,l.length=n) {a b:Int} (ha:0≤a∧a<n) (hb:0≤b∧b<n):at2 (bwF rows bw) a b=at2 bw a b+at2 rows a b:=by
 obtain ⟨l,hl⟩:=ex_at (l:=bw) (j:=a.toNat) (by omega)
 obtain ⟨r,hrr⟩:=ex_at (l:=rows) (j:=a.toNat) (by omega)
 have h1:(bwF rows bw)[a.toNat]?=some (addL l r):=by
   unfold bwF
   rw [mapK_lt (by omega) hl,getD_atT hrr]
 rw [at2_def,at2_def,at2_def,h1,hl,hrr]
 show ((addL l r)[b.toNat]?).getD 0=(l[b.toNat]?).getD 0+(r[b.toNat]?).getD 0
 rw [at2_addL (hwl l (List.mem_of_getElem? hl)) (hrl r (List.mem_of_getElem? hrr)) (by omega),← List.getD_eq_getElem?_getD,← List.getD_eq_getElem?_getD]
 rfl
theorem BwInv.step {A:GA} (h:GOK A) (hb:BwInv A.ps.length A.gv A.bw):BwInv A.ps.length (stepA A).gv (stepA A).bw:=fun a b ha hb2=>by
 show at2 (bwF (roundR A) A.bw) a b=btwV (A.gv++[roundR A]) a b
 rw [at2_bwF (n:=A.ps.length) (roundR_len A) (fun r hr=>(h.row_bd hr).1) h.bw.1 (fun l hl=>(h.bw.2 l hl).1) ha hb2,btw_snoc,hb a b ha hb2]
theorem gotF_at:∀ (rows:List (List Int)) {g:List Int} {n i:Nat},g.length=n→(∀ r∈rows,r.length=n)→i<n→(gotF rows g).getD i 0=g.getD i 0+sumI (rows.map fun r=>r.getD i 0)
 | [],g,n,i,_,_,_=>by show g.getD i 0=g.getD i 0+0; omega
 | r :: rows,g,n,i,hg,hr,hi=>by
   have h1:=hr r List.mem_cons_self
   show (gotF rows (addL g r)).getD i 0=_
   rw [gotF_at rows (n:=n) (by rw [addL_len]; exact hg) (fun q hq=>hr q (List.mem_cons_of_mem _ hq)) hi,getD_atT (at2_addL hg h1 hi),List.map_cons,sumI_cons]; omega
theorem range_map {α:Type} (l:List α) (d:α) (f:α→Int):(List.range l.length).map (fun j=>f (l.getD j d))=l.map f:=by
 apply List.ext_getElem?
 intro i
 rw [List.getElem?_map,List.getElem?_map]
 by_cases h:i<l.length
 · rw [List.getElem?_range h,List.getElem?_eq_getElem h]
   show some (f (l.getD i d))=_
   rw [getD_atT (List.getElem?_eq_getElem h)]; rfl
 · rw [List.getElem?_eq_none (by rw [List.length_range]; omega),List.getElem?_eq_none (by omega)]; rfl
theorem sum_add {f g:Nat→Int}:∀ k,sumI ((List.range k).map fun j=>f j+g j)=sumI ((List.range k).map f)+sumI ((List.range k).map g)
 | 0=>rfl
 | k+1=>by
   rw [List.range_succ,List.map_append,List.map_append,List.map_append,List.map_singleton,List.map_singleton,List.map_singleton,sumI_snoc,sumI_snoc,sumI_snoc,sum_add k]; omega
theorem at2_getD (r:List (List Int)) (a b:Nat):at2 r a b=(r.getD a []).getD b 0:=by unfold at2; rw [Int.toNat_natCast,Int.toNat_natCast]
theorem gotN_step (G:List (List (List Int))) (r:List (List Int)) (i:Nat):gotN (G++[r]) i r.length=gotN G i r.length+sumI (r.map fun q=>q.getD i 0):=by
 unfold gotN
 rw [← range_map r [] (fun q=>q.getD i 0),← sum_add]
 congr 1
 refine List.map_congr_left fun j _=>?_
 rw [btw_snoc,at2_getD]
theorem gaveN_step (G:List (List (List Int))) (r:List (List Int)) (i:Nat) (hr:(r.getD i []).length=r.length):gaveN (G++[r]) i r.length=gaveN G i r.length+sumI (r.getD i []):=by
 unfold gaveN
 have e:=range_getD (r.getD i [])
 rw [hr] at e
 conv=>rhs; rw [← e]
 rw [← sum_add]
 congr 1
 refine List.map_congr_left fun j _=>?_
 rw [btw_snoc,at2_getD]
def TotInv (A:GA):Prop:=∀ i:Nat,i<A.ps.length→A.got.getD i 0=gotN A.gv i A.ps.length∧A.gave.getD i 0=gaveN A.gv i A.ps.length
theorem TotInv.step {A:GA} (h:GOK A) (ht:TotInv A):TotInv (stepA A):=fun i hi=>by
 have hi:i<A.ps.length:=hi
 obtain ⟨t1,t2⟩:=ht i hi
 have hl:=roundR_len A
 have hri:=GOK.round_at hi
 constructor
 · show (gotF (roundR A) A.got).getD i 0=gotN (A.gv++[roundR A]) i A.ps.length
   rw [gotF_at _ h.gt.1 (fun r hr=>(h.row_bd hr).1) hi,t1]
   have:=gotN_step A.gv (roundR A) i
   rw [hl] at this
   exact this.symm
 · show (gaveF (roundR A) A.gave).getD i 0=gaveN (A.gv++[roundR A]) i A.ps.length
   obtain ⟨x,hx⟩:=ex_at (l:=A.gave) (j:=i) (by rw [h.gg.1]; exact hi)
   have e1:(gaveF (roundR A) A.gave)[i]?=some (x+sumI ((roundR A).getD i [])):=by
     unfold gaveF
     rw [mapK_lt (by rw [hl]; exact hi) hx]
   rw [getD_atT e1]
   have:=gaveN_step A.gv (roundR A) i (by rw [getD_atT hri,hl]; exact rowR_len h hi)
   rw [hl] at this
   rw [this,← t2,getD_atT hx]
structure RA where
 sd:ByteArray
 ps:List Pl
 gv:List (List (List Int))
 px:List (List Int)
 rw:List (List Int)
def GR.A (X:GR):RA:=⟨X.sd,X.ps,X.gs.map Rd.v,X.xs.map Ro.l,X.ys.map Ro.l⟩
noncomputable def chosG (sd:ByteArray) (n:Nat) (G:List (List (List Int))) (k rt:Int) (m:Int→Int) (me:Int):List Int × List Int:=
 if k=1 then (fairR sd n G me,whatE rt (fairR sd n G me)) else if k=2 then ([],[]) else if k=3 then (othV n me,whatE rt (othV n me))
 else if k=4 then (keepS (grimB G me) (othV n me),whatE rt (keepS (grimB G me) (othV n me))) else if k=5 then ([nextV n G me],whatE rt [nextV n G me])
 else if k=6 then (((rankV (tyrCm G m me) (othV n me)).foldl (tyW m) (⟨[],[],rt,false⟩:TyW)).who,((rankV (tyrCm G m me) (othV n me)).foldl (tyW m) (⟨[],[],rt,false⟩:TyW)).what)
 else if G.length=0 then (othV n me,whatE rt (othV n me)) else (((othV n me).foldl (mirW (fun i=>lastV G i me)) (([],[]),rt)).1.1,((othV n me).foldl (mirW (fun i=>lastV G i me)) (([],[]),rt)).1.2)
theorem fairR_mem {sd:ByteArray} {n:Nat} {G:List (List (List Int))} {me i:Int} (h:n≤9) (hi:i∈fairR sd n G me):(0≤i∧i<(n:Int))∧i ≠ me:=by
 unfold fairR at hi
 have hl:((othV n me).map (rvR G me)).length≤19:=by rw [List.length_map]; have:=othV_len n me; omega
 rw [← way1_eq hl (by rw [rvR_ids]; exact oth_nodup n me)] at hi
 obtain ⟨x,hx,rfl⟩:=List.mem_map.1 ((sortI_perm _).mem_iff.1 hi)
 obtain ⟨j,hj,rfl⟩:=List.mem_map.1 (way1_mem hx)
 exact othV_mem.1 hj
theorem tyW_who {m:Int→Int}:∀ (l:List Int) {s:TyW} {i:Int},i∈(l.foldl (tyW m) s).who→i∈s.who∨i∈l
 | [],s,i,h=>.inl h
 | a :: l,s,i,h=>by
   rcases tyW_who l h with h | h
   · unfold tyW at h
     split at h
     · exact .inl h
     · split at h
       · exact .inl h
       · rcases List.mem_append.1 h with h | h
         · exact .inl h
         · exact .inr (by rw [List.mem_singleton.1 h]; exact List.mem_cons_self)
   · exact .inr (List.mem_cons_of_mem _ h)
theorem mirW_who {f:Int→Int}:∀ (l:List Int) {s:(List Int × List Int) × Int},(l.foldl (mirW f) s).1.1=s.1.1++l
 | [],s=>(List.append_nil _).symm
 | a :: l,s=>by
   rw [List.foldl_cons,mirW_who l]
   show (s.1.1++[a])++l=_
   rw [List.append_assoc]; rfl
theorem whatE_len (rt:Int) (W:List Int):(whatE rt W).length=W.length:=List.length_replicate
structure ChOK (n:Nat) (me:Int) (W V:List Int):Prop where
 len:W.length=V.length
 mem:∀ i∈W,(0≤i∧i<(n:Int))∧i ≠ me
theorem chosG_ok {sd:ByteArray} {n:Nat} {G:List (List (List Int))} {k rt:Int} {m:Int→Int} {me:Int} {W V:List Int} (hn:n≤9) (h2:2≤n) (hme:0≤me∧me<n) (h:chosG sd n G k rt m me=(W,V)):ChOK n me W V:=by
 unfold chosG at h
 split at h
 · obtain ⟨rfl,rfl⟩:=Prod.mk.inj h
   exact ⟨(whatE_len _ _).symm,fun i hi=>fairR_mem hn hi⟩
 split at h
 · obtain ⟨rfl,rfl⟩:=Prod.mk.inj h
   exact ⟨rfl,fun i hi=>absurd hi List.not_mem_nil⟩
 split at h
 · obtain ⟨rfl,rfl⟩:=Prod.mk.inj h
   exact ⟨(whatE_len _ _).symm,fun i hi=>othV_mem.1 hi⟩
 split at h
 · obtain ⟨rfl,rfl⟩:=Prod.mk.inj h
   exact ⟨(whatE_len _ _).symm,fun i hi=>othV_mem.1 (keepS_mem hi)⟩
 split at h
 · obtain ⟨rfl,rfl⟩:=Prod.mk.inj h
   exact ⟨(whatE_len _ _).symm,fun i hi=>by rw [List.mem_singleton.1 hi]; exact next_ok h2 hme.1 hme.2⟩
 split at h
 · obtain ⟨rfl,rfl⟩:=Prod.mk.inj h
   refine ⟨(tyr_rel m n rt _).len,fun i hi=>?_⟩
   rcases tyW_who _ hi with hi | hi
   · exact absurd hi List.not_mem_nil
   · rcases rankV_mem _ hi with hi | hi
     · exact absurd hi List.not_mem_nil
     · exact othV_mem.1 hi
 split at h
 · obtain ⟨rfl,rfl⟩:=Prod.mk.inj h
   exact ⟨(whatE_len _ _).symm,fun i hi=>othV_mem.1 hi⟩
 · obtain ⟨rfl,rfl⟩:=Prod.mk.inj h
   refine ⟨(mir_rel (fun i=>lastV G i me) n _ (s:=(([],[]),rt)) (t:=(List.replicate n 0,rt)) rfl rfl rfl).2.1,fun i hi=>?_⟩
   rw [mirW_who] at hi
   exact othV_mem.1 hi
theorem tyW_len {m:Int→Int}:∀ (l:List Int) {s:TyW},(l.foldl (tyW m) s).who.length≤s.who.length+l.length
 | [],s=>Nat.le_add_right _ _
 | a :: l,s=>by
   have h1:=tyW_len (m:=m) l (s:=tyW m s a)
   have h2:(tyW m s a).who.length≤s.who.length+1:=by
     unfold tyW
     split
     · omega
     split
     · exact Nat.le_succ _
     · show (s.who++[a]).length≤_
       rw [List.length_append,List.length_singleton]; omega
   rw [List.foldl_cons,List.length_cons]; omega
theorem rank_len {c:Int→Int→Int}:∀ (l:List Int) {o:List Int},(l.foldl (insV c) o).length=o.length+l.length
 | [],o=>rfl
 | a :: l,o=>by rw [List.foldl_cons,rank_len l,insV_len,List.length_cons]; omega
theorem chosG_len {sd:ByteArray} {n:Nat} {G:List (List (List Int))} {k rt:Int} {m:Int→Int} {me:Int} {W V:List Int} (hn:n≤9) (h:chosG sd n G k rt m me=(W,V)):W.length≤100:=by
 have ho:=othV_len n me
 unfold chosG at h
 split at h
 · obtain ⟨rfl,rfl⟩:=Prod.mk.inj h
   unfold fairR
   have hl:((othV n me).map (rvR G me)).length≤19:=by rw [List.length_map]; omega
   rw [← way1_eq hl (by rw [rvR_ids]; exact oth_nodup n me),sortI_len,List.length_map]
   have h1:=way1_len G.length 4 ((sd++⟨#[32]⟩)++itS me) ((othV n me).map (rvR G me))
   omega
 split at h
 · obtain ⟨rfl,rfl⟩:=Prod.mk.inj h
   exact Nat.zero_le _
 split at h
 · obtain ⟨rfl,rfl⟩:=Prod.mk.inj h
   omega
 split at h
 · obtain ⟨rfl,rfl⟩:=Prod.mk.inj h
   have h1:=keepS_len (grimB G me) (othV n me)
   omega
 split at h
 · obtain ⟨rfl,rfl⟩:=Prod.mk.inj h
   exact Nat.le_trans (Nat.le_refl 1) (by decide)
 split at h
 · obtain ⟨rfl,rfl⟩:=Prod.mk.inj h
   have h1:=tyW_len (m:=m) (rankV (tyrCm G m me) (othV n me)) (s:=⟨[],[],rt,false⟩)
   have h2:(rankV (tyrCm G m me) (othV n me)).length=0+(othV n me).length:=rank_len _
   have h3:(([]:List Int)).length=0:=rfl
   dsimp only at h1
   omega
 split at h
 · obtain ⟨rfl,rfl⟩:=Prod.mk.inj h
   omega
 · obtain ⟨rfl,rfl⟩:=Prod.mk.inj h
   rw [mirW_who,List.nil_append]
   omega
def wasV (n:Nat) (W:List Int):List Bool:=W.foldl (fun o i=>o.set i.toNat true) (List.replicate n false)
theorem was_snoc (n:Nat) (W:List Int) (i:Int):wasV n (W++[i])=(wasV n W).set i.toNat true:=by unfold wasV; rw [List.foldl_append]; rfl
theorem was_aux:∀ (W:List Int) (o:List Bool),(W.foldl (fun o (i:Int)=>o.set i.toNat true) o).length=o.length
 | [],o=>rfl
 | a :: W,o=>by rw [List.foldl_cons,was_aux W,List.length_set]
theorem was_len (n:Nat) (W:List Int):(wasV n W).length=n:=(was_aux W _).trans List.length_replicate
theorem was_at {n:Nat}:∀ (W:List Int) {o:List Bool} {j:Nat},j<o.length→(∀ i∈W,0≤i)→(W.foldl (fun o (i:Int)=>o.set i.toNat true) o).getD j false=(decide ((j:Int)∈W) || o.getD j false)
 | [],o,j,_,_=>by simp
 | a :: W,o,j,h,hW=>by
   have ha:=hW a List.mem_cons_self
   rw [List.foldl_cons,was_at (n:=n) W (by rw [List.length_set]; exact h) fun i hi=>hW i (List.mem_cons_of_mem _ hi)]
   by_cases e:(j:Int)=a
   · have e2:a.toNat=j:=by omega
     have:(o.set a.toNat true).getD j false=true:=getD_atT (by rw [e2,List.getElem?_set_self h])
     rw [this,e]; simp
   · have:(o.set a.toNat true).getD j false=o.getD j false:=by rw [List.getD_eq_getElem?_getD,List.getD_eq_getElem?_getD,List.getElem?_set_ne (by omega)]
     rw [this]; simp [e]
theorem was_is {n:Nat} {W:List Int} (hW:∀ i∈W,0≤i) {j:Nat} (hj:j<n):(wasV n W).getD j false=decide ((j:Int)∈W):=by
 have h:=was_at (n:=n) W (o:=List.replicate n false) (j:=j) (by rw [List.length_replicate]; exact hj) hW
 unfold wasV
 rw [h,List.getD_eq_getElem?_getD,List.getElem?_replicate,if_pos hj]; simp
theorem put_auxl:∀ (W:List (Int × Int)) (o:List Int),(W.foldl (fun o (p:Int × Int)=>o.set p.1.toNat p.2) o).length=o.length
 | [],o=>rfl
 | a :: W,o=>by rw [List.foldl_cons,put_auxl W,List.length_set]
theorem put_len (n:Nat) (W V:List Int):(putV n W V).length=n:=(put_auxl _ _).trans List.length_replicate
theorem chosen_all (g:Nat) (sd:ByteArray) (lp:Option Addr) (lc:Nat) (ps:List Pl) (rp:Option Addr) (rc:Nat) (gs:List Rd) (xp:Option Addr) (xc:Nat) (xs:List (Ro Int)) (yp:Option Addr) (yc:Nat) (ys:List (Ro Int)) (pl:List Rd) (hG:GsOK ps.length pl gs) (hgl:gs.length≤200) (hnp:ps.length≤9) (h2p:2≤ps.length) (hsd:sd.size≤100) (me:Int) (hme:0≤me∧me<ps.length) (pm:Pl) (hpm:ps[me.toNat]?=some pm) (hpr:(1≤pm.st∧pm.st≤7)∧0≤pm.rt∧pm.rt≤1000000) (px:Ro Int) (hpx:xs[me.toNat]?=some px) (hpl:px.l.length=ps.length) (m:Int→Int) (hm:∀ (j:Nat) y,px.l[j]?=some y→¬ (j:Int)=me→y=m j) (hmb:∀ i,0≤m i∧m i≤1000000) (W V:List Int) (hWV:chosG sd ps.length (gs.map Rd.v) pm.st pm.rt m me=(W,V)) (w:World) (HS:S w [Ob g (.cells #[.string sd,.slice lp ps.length lc,.slice rp gs.length rc,.slice xp xs.length xc,.slice yp ys.length yc] 66 (0,0)),Rw 27 2 lp ps.length lc (fl plL ps),Rw 39 1 rp gs.length rc (fl rowL gs),(Pool pl),Rw 43 1 xp xs.length xc (fl rowL xs),(Lst BwI xs)]) :
   Calls Tryz.prog 34 #[.pointer (some ⟨g,0,none⟩),.int .i64 me] w fun e w'=>∃ p' c' q' d',e=.returned (.tuple #[.slice p' W.length c',.slice q' V.length d'])∧S w' ([Rw 3 1 p' W.length c' (fl intL W),Rw 3 1 q' V.length d' (fl intL V),Ob g (.cells #[.string sd,.slice lp ps.length lc,.slice rp gs.length rc,.slice xp xs.length xc,.slice yp ys.length yc] 66 (0,0)),Rw 27 2 lp ps.length lc (fl plL ps),Rw 39 1 rp gs.length rc (fl rowL gs),(Pool pl),Rw 43 1 xp xs.length xc (fl rowL xs),(Lst BwI xs)]++[Old w (fps [Ob g (.cells #[.string sd,.slice lp ps.length lc,.slice rp gs.length rc,.slice xp xs.length xc,.slice yp ys.length yc] 66 (0,0)),Rw 27 2 lp ps.length lc (fl plL ps),Rw 39 1 rp gs.length rc (fl rowL gs),(Pool pl),Rw 43 1 xp xs.length xc (fl rowL xs),(Lst BwI xs)])]):=by
 obtain ⟨st,hst⟩:∃ st,pm.st=st:=⟨_,rfl⟩
 rw [hst] at hWV
 have hr:=hpr.2
 rcases (show st=1∨st=2∨st=3∨st=4∨st=5∨st=6∨st=7 by omega) with h | h | h | h | h | h | h
 · subst h
   unfold chosG at hWV
   rw [if_pos rfl] at hWV
   obtain ⟨rfl,rfl⟩:=Prod.mk.inj hWV
   exact chosen_1 g sd lp lc ps rp rc gs xp xc xs yp yc ys pl hG hgl hnp h2p hsd me hme pm hpm pm.rt rfl hr hst w HS
 · subst h
   unfold chosG at hWV
   rw [if_neg (by decide),if_pos rfl] at hWV
   obtain ⟨rfl,rfl⟩:=Prod.mk.inj hWV
   exact chosen_2 g sd lp lc ps rp rc gs xp xc xs yp yc ys pl hG hgl hnp me hme pm hpm pm.rt rfl hr hst w HS
 · subst h
   unfold chosG at hWV
   rw [if_neg (by decide),if_neg (by decide),if_pos rfl] at hWV
   obtain ⟨rfl,rfl⟩:=Prod.mk.inj hWV
   exact chosen_3 g sd lp lc ps rp rc gs xp xc xs yp yc ys pl hG hgl hnp h2p hsd me hme pm hpm pm.rt rfl hr hst w HS
 · subst h
   unfold chosG at hWV
   rw [if_neg (by decide),if_neg (by decide),if_neg (by decide),if_pos rfl] at hWV
   obtain ⟨rfl,rfl⟩:=Prod.mk.inj hWV
   exact chosen_4 g sd lp lc ps rp rc gs xp xc xs yp yc ys pl hG hgl hnp h2p hsd me hme pm hpm pm.rt rfl hr hst w HS
 · subst h
   unfold chosG at hWV
   rw [if_neg (by decide),if_neg (by decide),if_neg (by decide),if_neg (by decide),if_pos rfl] at hWV
   obtain ⟨rfl,rfl⟩:=Prod.mk.inj hWV
   exact chosen_5 g sd lp lc ps rp rc gs xp xc xs yp yc ys pl hG hgl hnp h2p hsd me hme pm hpm pm.rt rfl hr hst w HS
 · subst h
   unfold chosG at hWV
   rw [if_neg (by decide),if_neg (by decide),if_neg (by decide),if_neg (by decide),if_neg (by decide),if_pos rfl] at hWV
   obtain ⟨rfl,rfl⟩:=Prod.mk.inj hWV
   exact chosen_6 g sd lp lc ps rp rc gs xp xc xs yp yc ys pl hG hgl hnp me hme pm hpm pm.rt rfl hr hst px hpx hpl m hm hmb w HS
 · subst h
   unfold chosG at hWV
   rw [if_neg (by decide),if_neg (by decide),if_neg (by decide),if_neg (by decide),if_neg (by decide),if_neg (by decide)] at hWV
   by_cases h0:gs.length=0
   · rw [if_pos (by rw [List.length_map]; exact h0)] at hWV
     obtain ⟨rfl,rfl⟩:=Prod.mk.inj hWV
     exact chosen_7n g sd lp lc ps rp rc gs xp xc xs yp yc ys pl hG hgl hnp me hme pm hpm pm.rt rfl hr hst h0 w HS
   · rw [if_neg (by rw [List.length_map]; exact h0)] at hWV
     obtain ⟨rfl,rfl⟩:=Prod.mk.inj hWV
     exact chosen_7 g sd lp lc ps rp rc gs xp xc xs yp yc ys pl hG hgl hnp me hme pm hpm pm.rt rfl hr hst (by omega) w HS
end Go.Proofs.YtpbjekdjebjbkaaGreatDoor
