import Derived.Test.YthmmfhdpkddniaaGreatDoorRb
set_option maxRecDepth 20000
set_option maxHeartbeats 4000000
set_option linter.all false
namespace Go.Proofs.YthmmfhdpkddniaaGreatDoor
open Go.RowKit
theorem Ev:u_ Tryz.prog 125 1=some 1:=by kernel_rfl
theorem Eu:u_ Tryz.prog 125 2=some 2:=by kernel_rfl
theorem KT:u_ Tryz.prog 125 3=some 3:=by kernel_rfl
theorem Et:u_ Tryz.prog 125 5=some 5:=by kernel_rfl
theorem vv:jW Tryz.prog 4=some 1:=by kernel_rfl
theorem Hu (n:Nat):(Array.replicate n (Value.bool false)).toList=fl cG (List.replicate n false):=by
 rw [Array.toList_replicate]
 unfold fl
 induction n with
 | zero=>rfl
 | succ n ih=>rw [List.replicate_succ,List.replicate_succ,List.flatMap_cons,← ih]; rfl
theorem gk {P:Program} {N:Nat} {Q:Exit→Act→World→Prop} {f:Fr} {ds:List Deferred} {w:World} {o:Oper} {ops:Array Oper} {L:List aD} {K:Act→World→Prop} {d t e bytes:Nat} {x y:Operand} {kx ky:IntKind} {i j:Int} (n:Nat) (H:S w L) (hw:Wt ops f o) (hd:o.dst=some d) (hN:Nat.blt d N=true) (ho:o.op=.makeSlice t x y) (hx:cy f x=some (.int kx i)) (hy:cy f y=some (.int ky j))
   (hu:P.underlying t=some (.slice e)) (hi:kf P e=some (some (.bool false),1,bytes)) (hn:i=(n:Int)∧j=(n:Int)∧bytes * n≤281474976710656∧n≤4611686018427387904)
   (h:∀ g w',S w' (Rw e 1 (some ⟨g,0,none⟩) (List.replicate n false).length n (fl cG (List.replicate n false)) :: L)→G N K ((d,.slice (some ⟨g,0,none⟩) (List.replicate n false).length n) :: f) ds w'):G N (bH P ops Q o K) f ds w:=
 vE n H hw hd hN ho hx hy hu hi rfl ⟨hn.1,hn.2.1,hn.2.2.1,by omega⟩ fun g w' h9=>by
   have h1:=h g w'
   rw [List.length_replicate] at h1
   exact h1 (S.obFl (l:=List.replicate n false) cP h9 (k:=0) rfl List.length_replicate.symm (by unfold maxLen; omega) (Hu n))
theorem S.lstDrop {α:Type} {F:α→aD} {l:List α} {w:World} {L:List aD} {x:α} {j:Nat} (h:S w (bM F l :: L)) (hj:l[j]?=some x):S w (bM F (l.eraseIdx j) :: L):=(S.lstOut h hj).sublist (List.sublist_cons_self ..)
theorem uE {ps:List fV} (hn:(ps.map fV.k).Nodup) {i:Nat} {p:fV} (h:ps[i]?=some p):ps.eraseIdx i=ps.filter fun q=>decide (q.k ≠ p.k):=by
 obtain ⟨hi,e⟩:=List.getElem?_eq_some_iff.1 h
 have key:∀ (l:List fV),(∀ q∈l,q.k ≠ p.k)→l.filter (fun q=>decide (q.k ≠ p.k))=l:=fun l hl=>List.filter_eq_self.2 fun q hq=>decide_eq_true (hl q hq)
 rw [List.eraseIdx_eq_take_drop_succ]
 conv=>rhs; rw [← List.take_append_drop i ps,List.drop_eq_getElem_cons hi,e]
 rw [List.filter_append,List.filter_cons,if_neg (by simp),key _ (fun q hq he=>?_),key _ (fun q hq he=>?_)]
 · obtain ⟨j,hj⟩:=List.getElem?_of_mem hq
   rw [List.getElem?_drop] at hj
   have:=qp hn hj h he
   omega
 · obtain ⟨j,hj⟩:=List.getElem?_of_mem hq
   have hlt:=(List.getElem?_eq_some_iff.1 hj).1
   rw [List.length_take] at hlt
   rw [List.getElem?_take_of_lt (by omega)] at hj
   have:=qp hn hj h he
   omega
theorem fU.set {Z:ZP} {A:PK} (hZ:fU Z A) (hI:(A.peers.map fV.k).Nodup) {i:Nat} {x x':Rp} {f:fV→fV} (hx:Z.rs[i]?=some x) (hf:x'.pe=f x.pe):(Z.rs.set i x').map Rp.pe=(A.upd x.k f).peers:=by
 have h1:=fU.at hZ hx
 have h2:=GT hI h1 f
 have h3:(A.upd x.k f).peers=A.peers.set i (f x.pe):=by rw [show x.k=x.pe.k from rfl,h2]
 rw [h3,List.map_set,hf,← hZ]
theorem Nl (Z:ZP) (A:PK) (j:Nat) (hZ:fU Z A) (hI:bQ j A) (k:Int) (b:Bool)  (w:World) (HS:S w [(ZI Z A)]):Calls Tryz.prog 74 #[vP Z.g,vI k,.bool b] w fun e w'=>∃ (Y:ZP),Y.g=Z.g∧fU Y (A.snubA k b)∧e=.returned (vI (A.peE k))∧S w' ([(ZI Y (A.snubA k b))]++[aB w (aT [(ZI Z A)])]):=by
 have H0:=HS.bu
 have h8:=hI.a8
 have hrs9:Z.rs.length≤100:=by have h9:=hI.pl; rw [← hZ,List.length_map] at h9; exact h9
 refine en Tryz.func74 ?_
 refine ah [0,1,2] ?_
 refine a_ ?_
 refine l_of (fZ H0 [0,1,2,3,4,5,6,7] (oQ Z A j hZ hI k _) ?_)
 intro h4 H4
 refine cp ?_
 by_cases H5:((A.peE k):Int)=0
 ·
  refine bm H5 ?_
  refine g_aM [] [0] [10] H4 (fun h3 H7=>?_)
  have H2:=H7.tk [0]
  refine aU 0 H2 ?_
  refine aU 1 H2 ?_
  refine aU 2 H2 ?_
  refine eY 3 0 H2 ?_
  refine aU 4 H2 ?_
  refine aU 5 H2 ?_
  refine aU 7 H2 ?_
  refine bG (i:=6) ?_
  have H9:=H7.b7 [0,1,2,3,4,5,6,7]
  refine aG (jL Z A j hZ hI k _ (H9.tk [0])) ?_
  rintro _ h0 ⟨fi8,rfl,hfi9,H8⟩
  replace H8:=H9.aI1 [0] H8
  obtain ⟨fi,fx,rfl,hfx,hfk⟩:=iC.is hZ H5 hfi9
  have hfl:=fU.at hZ hfx
  have hln:fx.fld.length=A.n∧fx.alw.length=A.n∧fx.sug.length=A.n:=hI.fl _ (List.mem_of_getElem? hfl)
  have hfi9:=(List.getElem?_eq_some_iff.1 hfx).1
  have H3:=H8.ub [0,1]
  refine bW ?_
  refine bF (H3.tk [0]) ?_
  refine bG (i:=8) ?_
  refine iW (iH fi (H3.rr 5)) ?_
  refine bF (H3.tk [0]) ?_
  refine bG (i:=9) ?_
  refine iW (v:=.pointer ((Z.pp).map fun q=>q.add (fi * 6+5))) (aH (bJ (m:=fi * 6) ((H3.rr 5).some (by omega)) rfl rfl Et) rfl) ?_
  refine bF (H3.tk [0]) ?_
  refine bG (i:=10) ?_
  refine zI (i:=5) (j:=fi) mR ({ fx with sn:=b }:Rp) H3 5 (bh rfl) rfl rfl rfl rfl rfl hfx rfl (by decide) vv rfl rfl ?_
  intro H6 h2
  have h1:S H6 [(bM gW (Z.rs.set fi ({ fx with sn:=b }:Rp))),Ob Z.g (.cells #[vI A.n,vI A.pz,vI A.la,.string (A.seed),.bool A.ino,.slice Z.hp A.had.length Z.hc,.slice Z.wp A.wish.length Z.wc,.slice Z.ep A.here.length Z.ec,.slice Z.ap A.asked.length Z.ac,.slice Z.pp ((Z.rs.set fi ({ fx with sn:=b }:Rp)).length) Z.pc] 97 (0,0)),Z1 Z A,Z2 Z A,Z3 Z A,Z4 Z A,Rw 125 6 Z.pp ((Z.rs.set fi ({ fx with sn:=b }:Rp)).length) Z.pc (fl mQ (Z.rs.set fi ({ fx with sn:=b }:Rp))),aB w (aT [(ZI Z A)])]:=by rw [show (Z.rs.set fi ({ fx with sn:=b }:Rp)).length=Z.rs.length from List.length_set]; exact S.rpPut (h2.tk [6,0,1,2,3,4,5,7]) hfx rfl
  refine m_ rfl ?_
  refine fP ?_
  refine aR ?_
  refine ah [7] ?_
  refine aQ ?_
  refine af ?_
  have hA9:A.snubA k b=A.upd k (fun p=>{ p with sn:=b }):=by unfold PK.snubA; exact if_pos H5
  rw [hA9]
  exact ⟨({ Z with rs:=(Z.rs.set fi ({ fx with sn:=b }:Rp)) }:ZP),rfl,(by subst hfk; exact fU.set hZ hI.nd hfx rfl),rfl,(h1.b7 [1,2,3,4,5,6,0,7])⟩
 refine br H5 ?_
 refine cp ?_
 refine af ?_
 have hA9:A.snubA k b=A:=by unfold PK.snubA; exact if_neg H5
 rw [hA9]
 exact ⟨Z,rfl,hZ,rfl,(H4.b7 [0,1,2,3,4,5,6,7])⟩
theorem Mb (Z:ZP) (A:PK) (j:Nat) (hZ:fU Z A) (hI:bQ j A) (k i:Int) (hi:i ≠ -2)  (w:World) (HS:S w [(ZI Z A)]):Calls Tryz.prog 70 #[vP Z.g,vI k,vI i] w fun e w'=>∃ (Y:ZP),Y.g=Z.g∧fU Y (A.allowA k i)∧e=.returned (vI (A.boE k i))∧S w' ([(ZI Y (A.allowA k i))]++[aB w (aT [(ZI Z A)])]):=by
 have H0:=HS.bu
 have h8:=hI.a8
 have hrs9:Z.rs.length≤100:=by have h9:=hI.pl; rw [← hZ,List.length_map] at h9; exact h9
 refine en Tryz.func70 ?_
 refine ah [0,1,2] ?_
 refine cp ?_
 refine l_of (fZ H0 [0,1,2,3,4,5,6,7] (vQ Z A j hZ hI k i hi _) ?_)
 intro h3 H4
 refine cp ?_
 by_cases H3:((A.boE k i):Int)=0
 ·
  have hbo9:=fQ H3
  refine bm H3 ?_
  refine g_aS [] [12] H4 (fun h2 H7=>?_)
  refine aU 0 H7 ?_
  refine aU 1 H7 ?_
  refine aU 2 H7 ?_
  refine eY 3 0 H7 ?_
  refine aU 4 H7 ?_
  refine aU 5 H7 ?_
  refine aU 10 H7 ?_
  refine bG (i:=6) ?_
  have H9:=H7.b7 [0,1,2,3,4,5,6,7]
  refine aG (jL Z A j hZ hI k _ (H9.tk [0])) ?_
  rintro _ h0 ⟨fi8,rfl,hfi9,H8⟩
  replace H8:=H9.aI1 [0] H8
  obtain ⟨fi,fx,rfl,hfx,hfk⟩:=iC.is hZ (fQ H3).1 hfi9
  have hfl:=fU.at hZ hfx
  have hln:fx.fld.length=A.n∧fx.alw.length=A.n∧fx.sug.length=A.n:=hI.fl _ (List.mem_of_getElem? hfl)
  have hfi9:=(List.getElem?_eq_some_iff.1 hfx).1
  have H2:=H8.ub [0,1]
  refine bW ?_
  refine bF (H2.tk [0,1,2,3,4,5,6,7]) ?_
  refine bT (v:=.pointer ((Z.pp).map fun q=>q.add (fi * 6))) 7 rfl (H2.tk [0,1,2,3,4,5,6,7]) (fun _ _=>eZ fi ((H2.rr 5).some (by omega))) ?_
  refine bT (v:=.pointer ((Z.pp).map fun q=>q.add (fi * 6+2))) 8 rfl (H2.tk [0,1,2,3,4,5,6,7]) (fun _ _=>aH (bJ (m:=fi * 6) ((H2.rr 5).some (by omega)) rfl rfl Eu) rfl) ?_
  refine bT (v:=.slice fx.ap fx.alw.length fx.ac) 9 rfl (H2.tk [0,1,2,3,4,5,6,7]) (fun _ H=>eX (i:=2) (j:=fi) mR (H.rr 5) hfx rfl rfl Tryz.underlying38 rfl rfl) ?_
  refine bG (i:=11) ?_
  refine iW (iH ((i).toNat) (H2.rdA (k:=6) rfl hfx)) ?_
  refine bF (H2.tk [0,1,2,3,4,5,6,7]) ?_
  refine bG (i:=12) ?_
  have h1:=S.unbig (L:=[_,_,_]) (S.lstOut (F:=gW) (H2.tk [6,5,0,1,2,3,4,7]) hfx)
  refine mH (j:=((i).toNat)) cP true h1 1 (bh rfl) rfl rfl rfl rfl rfl rfl vv (by omega) ?_
  intro H5 H6
  replace H6:S H5 [(bM gW (Z.rs.set fi ({ fx with alw:=fx.alw.set ((i).toNat) true }:Rp))),Rw 125 6 Z.pp ((Z.rs.set fi ({ fx with alw:=fx.alw.set ((i).toNat) true }:Rp)).length) Z.pc (fl mQ (Z.rs.set fi ({ fx with alw:=fx.alw.set ((i).toNat) true }:Rp))),Ob Z.g (.cells #[vI A.n,vI A.pz,vI A.la,.string (A.seed),.bool A.ino,.slice Z.hp A.had.length Z.hc,.slice Z.wp A.wish.length Z.wc,.slice Z.ep A.here.length Z.ec,.slice Z.ap A.asked.length Z.ac,.slice Z.pp ((Z.rs.set fi ({ fx with alw:=fx.alw.set ((i).toNat) true }:Rp)).length) Z.pc] 97 (0,0)),Z1 Z A,Z2 Z A,Z3 Z A,Z4 Z A,aB w (aT [(ZI Z A)])]:=by rw [show (Z.rs.set fi ({ fx with alw:=fx.alw.set ((i).toNat) true }:Rp)).length=Z.rs.length from List.length_set]; exact Fu (((i).toNat)) true hfx H6
  refine m_ rfl ?_
  refine fP ?_
  refine aR ?_
  refine ah [7] ?_
  refine aQ ?_
  refine af ?_
  have hA9:A.allowA k i=A.upd k (fun p=>{ p with alw:=p.alw.set i.toNat true }):=by unfold PK.allowA; exact if_pos H3
  rw [hA9]
  exact ⟨({ Z with rs:=(Z.rs.set fi ({ fx with alw:=fx.alw.set ((i).toNat) true }:Rp)) }:ZP),rfl,(by subst hfk; exact fU.set hZ hI.nd hfx rfl),rfl,(H6.b7 [2,3,4,5,6,1,0,7])⟩
 refine br H3 ?_
 refine cp ?_
 refine af ?_
 have hA9:A.allowA k i=A:=by unfold PK.allowA; exact if_neg H3
 rw [hA9]
 exact ⟨Z,rfl,hZ,rfl,(H4.b7 [0,1,2,3,4,5,6,7])⟩
theorem Fe (Z:ZP) (A:PK) (j:Nat) (hZ:fU Z A) (hI:bQ j A) (k i:Int) (hi:i ≠ -2)  (w:World) (HS:S w [(ZI Z A)]):Calls Tryz.prog 72 #[vP Z.g,vI k,vI i] w fun e w'=>∃ (Y:ZP),Y.g=Z.g∧fU Y (A.suggA k i)∧e=.returned (vI (A.boE k i))∧S w' ([(ZI Y (A.suggA k i))]++[aB w (aT [(ZI Z A)])]):=by
 have H0:=HS.bu
 have h8:=hI.a8
 have hrs9:Z.rs.length≤100:=by have h9:=hI.pl; rw [← hZ,List.length_map] at h9; exact h9
 refine en Tryz.func72 ?_
 refine ah [0,1,2] ?_
 refine cp ?_
 refine l_of (fZ H0 [0,1,2,3,4,5,6,7] (vQ Z A j hZ hI k i hi _) ?_)
 intro h3 H4
 refine cp ?_
 by_cases H3:((A.boE k i):Int)=0
 ·
  have hbo9:=fQ H3
  refine bm H3 ?_
  refine g_aS [] [12] H4 (fun h2 H7=>?_)
  refine aU 0 H7 ?_
  refine aU 1 H7 ?_
  refine aU 2 H7 ?_
  refine eY 3 0 H7 ?_
  refine aU 4 H7 ?_
  refine aU 5 H7 ?_
  refine aU 10 H7 ?_
  refine bG (i:=6) ?_
  have H9:=H7.b7 [0,1,2,3,4,5,6,7]
  refine aG (jL Z A j hZ hI k _ (H9.tk [0])) ?_
  rintro _ h0 ⟨fi8,rfl,hfi9,H8⟩
  replace H8:=H9.aI1 [0] H8
  obtain ⟨fi,fx,rfl,hfx,hfk⟩:=iC.is hZ (fQ H3).1 hfi9
  have hfl:=fU.at hZ hfx
  have hln:fx.fld.length=A.n∧fx.alw.length=A.n∧fx.sug.length=A.n:=hI.fl _ (List.mem_of_getElem? hfl)
  have hfi9:=(List.getElem?_eq_some_iff.1 hfx).1
  have H2:=H8.ub [0,1]
  refine bW ?_
  refine bF (H2.tk [0,1,2,3,4,5,6,7]) ?_
  refine bT (v:=.pointer ((Z.pp).map fun q=>q.add (fi * 6))) 7 rfl (H2.tk [0,1,2,3,4,5,6,7]) (fun _ _=>eZ fi ((H2.rr 5).some (by omega))) ?_
  refine bT (v:=.pointer ((Z.pp).map fun q=>q.add (fi * 6+3))) 8 rfl (H2.tk [0,1,2,3,4,5,6,7]) (fun _ _=>aH (bJ (m:=fi * 6) ((H2.rr 5).some (by omega)) rfl rfl KT) rfl) ?_
  refine bT (v:=.slice fx.sp fx.sug.length fx.sc) 9 rfl (H2.tk [0,1,2,3,4,5,6,7]) (fun _ H=>eX (i:=3) (j:=fi) mR (H.rr 5) hfx rfl rfl Tryz.underlying38 rfl rfl) ?_
  refine bG (i:=11) ?_
  refine iW (iH ((i).toNat) (H2.rdS (k:=6) rfl hfx)) ?_
  refine bF (H2.tk [0,1,2,3,4,5,6,7]) ?_
  refine bG (i:=12) ?_
  have h1:=S.unbig (L:=[_,_,_]) (S.lstOut (F:=gW) (H2.tk [6,5,0,1,2,3,4,7]) hfx)
  refine mH (j:=((i).toNat)) cP true h1 2 (bh rfl) rfl rfl rfl rfl rfl rfl vv (by omega) ?_
  intro H5 H6
  replace H6:S H5 [(bM gW (Z.rs.set fi ({ fx with sug:=fx.sug.set ((i).toNat) true }:Rp))),Rw 125 6 Z.pp ((Z.rs.set fi ({ fx with sug:=fx.sug.set ((i).toNat) true }:Rp)).length) Z.pc (fl mQ (Z.rs.set fi ({ fx with sug:=fx.sug.set ((i).toNat) true }:Rp))),Ob Z.g (.cells #[vI A.n,vI A.pz,vI A.la,.string (A.seed),.bool A.ino,.slice Z.hp A.had.length Z.hc,.slice Z.wp A.wish.length Z.wc,.slice Z.ep A.here.length Z.ec,.slice Z.ap A.asked.length Z.ac,.slice Z.pp ((Z.rs.set fi ({ fx with sug:=fx.sug.set ((i).toNat) true }:Rp)).length) Z.pc] 97 (0,0)),Z1 Z A,Z2 Z A,Z3 Z A,Z4 Z A,aB w (aT [(ZI Z A)])]:=by rw [show (Z.rs.set fi ({ fx with sug:=fx.sug.set ((i).toNat) true }:Rp)).length=Z.rs.length from List.length_set]; exact Fq (((i).toNat)) true hfx H6
  refine m_ rfl ?_
  refine fP ?_
  refine aR ?_
  refine ah [7] ?_
  refine aQ ?_
  refine af ?_
  have hA9:A.suggA k i=A.upd k (fun p=>{ p with sug:=p.sug.set i.toNat true }):=by unfold PK.suggA; exact if_pos H3
  rw [hA9]
  exact ⟨({ Z with rs:=(Z.rs.set fi ({ fx with sug:=fx.sug.set ((i).toNat) true }:Rp)) }:ZP),rfl,(by subst hfk; exact fU.set hZ hI.nd hfx rfl),rfl,(H6.b7 [2,3,4,5,6,1,0,7])⟩
 refine br H3 ?_
 refine cp ?_
 refine af ?_
 have hA9:A.suggA k i=A:=by unfold PK.suggA; exact if_neg H3
 rw [hA9]
 exact ⟨Z,rfl,hZ,rfl,(H4.b7 [0,1,2,3,4,5,6,7])⟩
theorem OA (Z:ZP) (A:PK) (j:Nat) (hZ:fU Z A) (hI:bQ j A) (k i:Int) (b:Bool) (hi:i ≠ -2)  (w:World) (HS:S w [(ZI Z A)]):Calls Tryz.prog 65 #[vP Z.g,vI k,vI i,.bool b] w fun e w'=>∃ (Y:ZP),Y.g=Z.g∧fU Y (A.setA k i b)∧e=.returned (vI (A.boE k i))∧S w' ([(ZI Y (A.setA k i b))]++[aB w (aT [(ZI Z A)])]):=by
 have H0:=HS.bu
 have h8:=hI.a8
 have hrs9:Z.rs.length≤100:=by have h9:=hI.pl; rw [← hZ,List.length_map] at h9; exact h9
 refine en Tryz.func65 ?_
 refine ah [0,1,2,3] ?_
 refine dz ?_
 refine l_of (fZ H0 [0,1,2,3,4,5,6,7] (vQ Z A j hZ hI k i hi _) ?_)
 intro h3 H4
 refine aE ?_
 refine bP (v:=.bool (!decide (((A.boE k i):Int)=0))) (hb:=eh) ?_
 refine cD ?_
 by_cases H3:((A.boE k i):Int)=0
 ·
  have hbo9:=fQ H3
  refine kw H3 ?_
  refine ae ?_
  refine g_seq ?_
  refine g_aS [] [13] H4 (fun h2 H7=>?_)
  refine aU 0 H7 ?_
  refine aU 1 H7 ?_
  refine aU 2 H7 ?_
  refine eY 3 0 H7 ?_
  refine aU 4 H7 ?_
  refine aU 5 H7 ?_
  refine aU 10 H7 ?_
  refine aU 11 H7 ?_
  refine bG (i:=6) ?_
  have H9:=H7.b7 [0,1,2,3,4,5,6,7]
  refine aG (jL Z A j hZ hI k _ (H9.tk [0])) ?_
  rintro _ h0 ⟨fi8,rfl,hfi9,H8⟩
  replace H8:=H9.aI1 [0] H8
  obtain ⟨fi,fx,rfl,hfx,hfk⟩:=iC.is hZ (fQ H3).1 hfi9
  have hfl:=fU.at hZ hfx
  have hln:fx.fld.length=A.n∧fx.alw.length=A.n∧fx.sug.length=A.n:=hI.fl _ (List.mem_of_getElem? hfl)
  have hfi9:=(List.getElem?_eq_some_iff.1 hfx).1
  have H2:=H8.ub [0,1]
  refine bW ?_
  refine bF (H2.tk [0,1,2,3,4,5,6,7]) ?_
  refine bT (v:=.pointer ((Z.pp).map fun q=>q.add (fi * 6))) 7 rfl (H2.tk [0,1,2,3,4,5,6,7]) (fun _ _=>eZ fi ((H2.rr 5).some (by omega))) ?_
  refine bT (v:=.pointer ((Z.pp).map fun q=>q.add (fi * 6+1))) 8 rfl (H2.tk [0,1,2,3,4,5,6,7]) (fun _ _=>aH (bJ (m:=fi * 6) ((H2.rr 5).some (by omega)) rfl rfl Ev) rfl) ?_
  refine bT (v:=.slice fx.fp fx.fld.length fx.fc) 9 rfl (H2.tk [0,1,2,3,4,5,6,7]) (fun _ H=>eX (i:=1) (j:=fi) mR (H.rr 5) hfx rfl rfl Tryz.underlying38 rfl rfl) ?_
  refine bG (i:=12) ?_
  refine iW (iH ((i).toNat) (H2.rdF (k:=6) rfl hfx)) ?_
  refine bF (H2.tk [0,1,2,3,4,5,6,7]) ?_
  refine bG (i:=13) ?_
  have h1:=S.unbig (L:=[_,_,_]) (S.lstOut (F:=gW) (H2.tk [6,5,0,1,2,3,4,7]) hfx)
  refine mH (j:=((i).toNat)) cP b h1 0 (bh rfl) rfl rfl rfl rfl rfl rfl vv (by omega) ?_
  intro H5 H6
  replace H6:S H5 [(bM gW (Z.rs.set fi ({ fx with fld:=fx.fld.set ((i).toNat) b }:Rp))),Rw 125 6 Z.pp ((Z.rs.set fi ({ fx with fld:=fx.fld.set ((i).toNat) b }:Rp)).length) Z.pc (fl mQ (Z.rs.set fi ({ fx with fld:=fx.fld.set ((i).toNat) b }:Rp))),Ob Z.g (.cells #[vI A.n,vI A.pz,vI A.la,.string (A.seed),.bool A.ino,.slice Z.hp A.had.length Z.hc,.slice Z.wp A.wish.length Z.wc,.slice Z.ep A.here.length Z.ec,.slice Z.ap A.asked.length Z.ac,.slice Z.pp ((Z.rs.set fi ({ fx with fld:=fx.fld.set ((i).toNat) b }:Rp)).length) Z.pc] 97 (0,0)),Z1 Z A,Z2 Z A,Z3 Z A,Z4 Z A,aB w (aT [(ZI Z A)])]:=by rw [show (Z.rs.set fi ({ fx with fld:=fx.fld.set ((i).toNat) b }:Rp)).length=Z.rs.length from List.length_set]; exact Ft (((i).toNat)) b hfx H6
  refine m_ rfl ?_
  refine fP ?_
  refine aR ?_
  refine ah [] ?_
  refine aE ?_
  refine af ?_
  have hA9:A.setA k i b=A.upd k (fun p=>{ p with fld:=p.fld.set i.toNat b }):=by unfold PK.setA; exact if_pos H3
  rw [hA9]
  exact ⟨({ Z with rs:=(Z.rs.set fi ({ fx with fld:=fx.fld.set ((i).toNat) b }:Rp)) }:ZP),rfl,(by subst hfk; exact fU.set hZ hI.nd hfx rfl),(by rw [H3]; rfl),(H6.b7 [2,3,4,5,6,1,0,7])⟩
 refine mX H3 ?_
 refine aE ?_
 refine ah [8] ?_
 refine ae ?_
 refine af ?_
 have hA9:A.setA k i b=A:=by unfold PK.setA; exact if_neg H3
 rw [hA9]
 exact ⟨Z,rfl,hZ,rfl,(H4.b7 [0,1,2,3,4,5,6,7])⟩
end Go.Proofs.YthmmfhdpkddniaaGreatDoor
