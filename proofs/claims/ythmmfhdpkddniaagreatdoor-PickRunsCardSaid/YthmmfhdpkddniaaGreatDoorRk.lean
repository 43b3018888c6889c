import Derived.Test.YthmmfhdpkddniaaGreatDoorBl
import Derived.Test.YthmmfhdpkddniaaGreatDoorRi
set_option maxRecDepth 20000
set_option maxHeartbeats 4000000
set_option linter.all false
namespace Go.Proofs.YthmmfhdpkddniaaGreatDoor
open Go.RowKit
theorem Hq (l:List Bool):Gm l=fl cG l:=by
 induction l with
 | nil=>rfl
 | cons a l ih =>
   show Value.bool a :: Gm l=cG a++fl cG l
   rw [ih]; rfl
theorem Qt {m:Nat} {l:List Int} (hl:∀ i∈l,0≤i∧i<(m:Int)) (hd:l.Nodup) {ii:Nat} {x:Int} (hx:l[ii]?=some x):decide ((pW m (l.take ii)).getD (x.toNat / 8) 0 / 2 ^ (7 - x.toNat % 8) % 2=1)=false:=by
 have h1:=A_ (m:=m) (l.take ii) (fun i hi=>hl i (List.mem_of_mem_take hi)) x.toNat
 have H3:=hl x (List.mem_of_getElem? hx)
 unfold gP at h1
 rw [AG (vG m _)] at h1
 rw [h1,show ((x.toNat:Nat):Int)=x from by omega]
 refine df fun h2=>?_
 obtain ⟨q,hq⟩:=List.getElem?_of_mem h2
 have H2:=(List.getElem?_eq_some_iff.1 hq).1
 rw [List.length_take] at H2
 rw [List.getElem?_take_of_lt (by omega)] at hq
 have h3:=(List.getElem?_eq_some_iff.1 hx).1
 have:=(List.getElem?_inj (by omega) hd).1 (hq.trans hx.symm)
 omega
theorem Rx (m:Nat) (l:List Int) (lp:Option Addr) (lc:Nat) (hm:m≤4096) (hl:∀ i∈l,0≤i∧i<(m:Int)) (hd:l.Nodup) (hll:l.length≤1099511627776)  (w:World) (HS:S w [Rw 3 1 lp l.length lc (fl cg l)]):Calls Tryz.prog 56 #[vI m,.slice lp l.length lc] w fun e w'=>e=.returned (.tuple #[.string (nZ (pW m l)),vI 0])∧S w' ([Rw 3 1 lp l.length lc (fl cg l)]++[aB w (aT [Rw 3 1 lp l.length lc (fl cg l)])]):=by
 have H0:=HS.beginI
 have hlm:aL m≤512:=by unfold aL; omega
 refine mG Tryz.func56 ?_
 refine ah [0,1] ?_
 refine ae ?_
 refine l_of (cA H0 l_ ?_)
 intro g1 g8 H3
 refine ae ?_
 refine l_of (eM (bh rfl) rfl (dc rfl rfl rfl) ?_)
 refine aC ?_
 refine l_of (aG (Ez m hm _) ?_)
 rintro _ g6 ⟨gb4,rfl,H6⟩
 replace H6:=H3.ab1 H6
 refine bW ?_
 refine l_of (cA H6 vZ ?_)
 intro g7 g5 H9
 refine l_of (eu H9 0 ?_)
 intro g0 g4
 refine dz ?_
 refine cQ (ι:=Nat) (fun ii=>[(0,vI m),(5,vP g1),(6,vP g7),(11,.slice lp l.length lc),(12,vI l.length),(13,vI ii)]) (fun ii wx=>(ii≤l.length)∧S wx [Ob gb4 (.cells (yJ (pW m (l.take ii))) 5 (0,0)),Ob g7 (.cells #[vI m,.slice (some ⟨gb4,0,none⟩) ((aL m)) ((aL m))] 137 (0,0)),Ob g1 (.cells #[vI 0] 30 (0,0)),Rw 3 1 lp l.length lc (fl cg l),aB w (aT [Rw 3 1 lp l.length lc (fl cg l)])]) (fun ii=>l.length - ii) (0) ⟨Nat.zero_le _,(g4.tk [1,0,2,3,4])⟩ ?_
 rintro ii h9 ⟨hii,H5⟩
 refine ah [0,5,6,11,12,13] ?_
 refine aC ?_
 refine g_seq ?_
 by_cases H7:((ii:Int):Int)<(l.length:Int)
 ·
  refine bm H7 ?_
  refine aQ ?_
  refine w_v (iH ii (H5.rr 3)) ?_
  obtain ⟨H2,H4⟩:=(H5.rr 3).exL bE ii
  have hxq9:=hl H2 (List.mem_of_getElem? H4)
  refine w_v (nX ii (H5.rr 3) (bE.flAt1 H4 rfl)) ?_
  refine a_ ?_
  refine l_of (aJ (v:=.int .i64 H2) (cU rfl rfl rfl rfl (decide_eq_false (by omega))) rfl rfl (bY rfl rfl) ?_)
  refine l_of (aJ (v:=.int .i64 ((m:Int))) (cU rfl rfl rfl rfl (decide_eq_false (by omega))) rfl rfl (bY rfl rfl) ?_)
  refine l_of (aJ (v:=.bool (decide (((m:Int):Int)≤H2))) (cU rfl rfl rfl rfl (decide_eq_false (by omega))) rfl rfl (ai rfl rfl rfl nm) ?_)
  refine w_v (cH rfl rfl (decide_eq_false (by omega)) rfl) ?_
  refine l_of (bZ H5 (bh rfl) (aP rfl rfl AE) (sN _ _ (decide_eq_false (by omega)) _) rfl rfl ?_)
  intro h1 h4
  refine ae ?_
  refine w_v (fS h4 1) ?_
  refine cJ ?_
  have hxr9:=hl H2 (List.mem_of_getElem? H4)
  have hhs18:=GH m gb4 (aL m) (aL m) H2.toNat ((pW m (l.take ii)).getD (H2.toNat / 8) 0) h1 (vK (vG m _) _) (by unfold aL; omega) (by omega) (h4.cell (k:=0) rfl (zN (by rw [lV]; unfold aL; omega)))
  rw [show ((H2.toNat:Nat):Int)=H2 from by omega,Qt hl hd H4] at hhs18
  refine l_of (cz h4 (hhs18) ?_)
  intro h8 g3
  refine l_of (cz g3 (sN _ _ rfl _) ?_)
  intro h0 h3
  refine cD ?_
  refine ah [0,5,6,8,11,12,13] ?_
  refine aR ?_
  refine w_v (fS h3 1) ?_
  refine cJ ?_
  have hst23:=Qi m gb4 (aL m) H2.toNat (pW m (l.take ii)) (vG m _) (by rw [lV]; exact Nat.le_refl _) (by rw [lV]; unfold aL; omega) (by omega) h0 (h3.tk [0])
  rw [show ((H2.toNat:Nat):Int)=H2 from by omega,lV] at hst23
  refine l_of (aG (hst23) ?_)
  rintro _ h7 ⟨rfl,h2⟩
  replace h2:=h3.aI1 [0] h2
  refine bW ?_
  refine aE ?_
  refine gI ii ?_
  refine ae ?_
  refine bD (i:=(ii)) ((ii+1)) ⟨by omega,(by rw [FD H4]; exact h2.tk [0,1,2,3,4])⟩
 refine br H7 ?_
 refine dz ?_
 have hii9:l.take ii=l:=List.take_of_length_le (by omega)
 rw [hii9] at H5
 refine w_v (v:=.string ((nZ (pW m l)))) (oG (l:=(pW m l).map UInt8.ofNat) rfl rfl Tryz.underlying113 Tryz.underlying9 Tryz.underlying5 (by rw [List.length_map,lV]) (yP (k:=0) H5 rfl (uU (vG m _)))) ?_
 refine Gs ?_
 refine l_of (eu H5 2 ?_)
 intro h6 g2
 refine ae ?_
 refine cY ?_
 refine dV (q_ g1 _) ?_
 rintro _ _ h5 ⟨⟨rfl,H8⟩,rfl⟩
 replace H8:=g2.ab0 H8
 refine jb H8 2 ?_
 exact ⟨rfl,H8.tk [3,4]⟩
theorem Ry (n:Nat) (hn:n≤4096) (w:World):Calls Tryz.prog 40 #[.int .i64 (n:Int)] w fun e w'=>e=.returned (.tuple #[.string (fieldS (List.replicate n false)),.int .i64 0])∧S w' [aB w no]:=by
 have h:=Qv (n:Int) w
 rwa [N3 hn] at h
theorem M8 (n:Nat) (s:ByteArray) (w:World):Calls Tryz.prog 41 #[.int .i64 (n:Int),.string s] w fun e w'=>e=.returned (.bool (jK (n:Int) s))∧S w' [aB w no]:=JH (n:Int) s w
theorem RF (n:Nat) (l:List Bool) (i:Int) (hn:n≤4096) (hl:l.length=n) (hi:0≤i∧i<(n:Int)) (w:World):Calls Tryz.prog 153 #[.int .i64 (n:Int),.string (fieldS l),.int .i64 i] w fun e w'=>e=.returned (.tuple #[.bool (aF l i),.int .i64 0])∧S w' [aB w no]:=by
 have h:=IG n (fieldS l) i hn (Vf.fieldS hl) w
 have hln:aL l.length=(l.length+7) / 8:=rfl
 rw [(Ct (s:=fieldS l) hi).1,(Ct (s:=fieldS l) hi).2,ju (by omega)] at h
 exact h
theorem Rt (n:Nat) (l:List Bool) (i:Int) (b:Bool) (hn:n≤4096) (hl:l.length=n) (hi:0≤i∧i<(n:Int)) (w:World):Calls Tryz.prog 151 #[.int .i64 (n:Int),.string (fieldS l),.int .i64 i,.bool b] w fun e w'=>e=.returned (.tuple #[.string (fieldS (l.set i.toNat b)),.int .i64 0])∧S w' [aB w no]:=by
 have h:=HV n (fieldS l) i hn (Vf.fieldS hl) b hi w
 rwa [Ru b (by omega)] at h
theorem SJ (h:List Bool) (n:Nat) (hh:h.length=n) (hn:n≤4096) (lp:Option Addr) (lc:Nat) (w:World) (HS:S w [Rw 3 1 lp ((gj h).length) lc (fl cg (gj h))]):Calls Tryz.prog 56 #[.int .i64 (n:Int),.slice lp (gj h).length lc] w fun e w'=>e=.returned (.tuple #[.string (fieldS h),.int .i64 0])∧S w' ([Rw 3 1 lp ((gj h).length) lc (fl cg (gj h))]++[aB w (aT [Rw 3 1 lp ((gj h).length) lc (fl cg (gj h))])]):=by
 subst hh
 have hl:(gj h).length≤h.length:=by unfold gj; rw [List.length_map]; have:=List.length_filter_le (fun i=>h.getD i false) (List.range h.length); rw [List.length_range] at this; exact this
 have h9:=Rx h.length (gj h) lp lc hn xN (yC h) (by omega) w HS
 rwa [C3] at h9
theorem OT (l:List Bool) (n c:Nat) (p:Option Addr) (hn:n=l.length) (hm:n≤4096) (w:World) (hr:bz w p n c 1 (fl cG l)):Calls Tryz.prog 21 #[.slice p n c] w fun e w'=>e=.returned (.string (fieldS l))∧S w' [aB w no]:=by
 have h:=IQ l n c p hn hm w (by rw [Hq]; exact hr)
 rwa [zr] at h
theorem M_ (n:Nat) (s:ByteArray) (w:World):Calls Tryz.prog 120 #[.int .i64 (n:Int),.string s] w fun e w'=>e=.returned (.bool (jK (n:Int) s))∧S w' [aB w no]:=HG (n:Int) s w
theorem JK (n:Nat) (s:ByteArray) (hn:n≤4096) (hv:jK (n:Int) s=true) (w:World):Calls Tryz.prog 101 #[.int .i64 (n:Int),.string s] w fun e w'=>∃ p c,e=.returned (.slice p (cE n s).length c)∧S w' ([Rw 4 1 p (cE n s).length c (fl cG (cE n s))]++[aB w no]):=by
 have h:=Vf.of_valid (n:=(n:Int)) (s:=s) ⟨by omega,by omega⟩ hv
 have h2:=HH n s hn h.1 w
 rw [Hq] at h2
 rw [l5]; exact h2
def PK.hasFE (A:PK) (k:Int) (s:ByteArray):Int:=if jK (A.n:Int) s=true then A.peE k else 1
def PK.hasFA (A:PK) (k:Int) (s:ByteArray):PK:=if A.hasFE k s=0 then A.upd k (fun p=>{ p with fld:=cE A.n s }) else A
theorem bQ.hasF {j:Nat} {A:PK} (h:bQ j A) (k:Int) (s:ByteArray):bQ j (A.hasFA k s):=by
 unfold PK.hasFA
 split
 · exact h.upd k (fun p=>rfl) fun p hp=>by
     have:=h.fl p hp
     exact ⟨l5 _ _,this.2⟩
 · exact h
def gJ (n pz la:Int) (seed:ByteArray):Int:=
 if 100<(seed.size:Int) then 1 else if n<1∨4096<n∨pz<16∨1024<pz∨¬ pz % 16=0∨la<1∨pz<la then 7 else 0
def fa (n pz la:Nat) (seed:ByteArray) (ino:Bool):PK:=⟨n,pz,la,seed,ino,List.replicate n false,List.replicate n ⟨4,0⟩,[],[],[]⟩
def zQ (n pz:Int):Prop:=(n≤24∨4096<n)∧(pz≤128∨1024<pz)
theorem G5 {n pz la:Int} {seed:ByteArray} (h:gJ n pz la seed=0) (hl:zQ n pz):1≤n∧n≤24∧16≤pz∧pz≤128∧1≤la∧la≤pz∧seed.size≤100:=by
 unfold gJ at h
 unfold zQ at hl
 split at h
 · cases h
 · split at h
   · cases h
   · omega
theorem bQ.new {n pz la:Nat} {seed:ByteArray} {ino:Bool} (h:1≤n∧n≤24∧16≤pz∧pz≤128∧1≤la∧la≤pz∧seed.size≤100):bQ 0 (fa n pz la seed ino):=by
 obtain ⟨h1,h2,h3,h4,h5,h6,h7⟩:=h
 refine ⟨h1,h2,h3,h4,h5,h6,h7,List.length_replicate,List.length_replicate,fun x hx=>?_,List.nodup_nil,fun p hp=>?_,Nat.zero_le _,fun p hp=>?_,List.nodup_nil,fun p hp=>?_,fun p hp=>?_,Nat.le_refl _,Nat.le_refl _⟩
 · have:=List.eq_of_mem_replicate hx
   subst this
   decide
 all_goals cases hp
theorem Rr:jW Tryz.prog 38=some 1:=by kernel_rfl
theorem Qz (Z:ZP) (A:PK) (j:Nat) (hZ:fU Z A) (hI:bQ j A)  (w:World) (HS:S w [(ZI Z A)]):Calls Tryz.prog 88 #[vP Z.g] w fun e w'=>e=.returned (.string (fieldS A.had))∧S w' ([(ZI Z A)]++[aB w (aT [(ZI Z A)])]):=by
 have H0:=HS.bu
 have h8:=hI.a8
 refine en Tryz.func88 ?_
 refine ah [0] ?_
 refine dz ?_
 refine l_of (cz H0 (OT A.had A.had.length Z.hc Z.hp rfl (by omega) _ (H0.rr 1)) ?_)
 intro H3 H2
 refine aC ?_
 refine af ?_
 exact ⟨rfl,(H2.b7 [0,1,2,3,4,5,6,7])⟩
theorem OE (Z:ZP) (A:PK) (j:Nat) (hZ:fU Z A) (hI:bQ j A) (k:Int) (s:ByteArray)  (w:World) (HS:S w [(ZI Z A)]):Calls Tryz.prog 63 #[vP Z.g,vI k,.string s] w fun e w'=>∃ (Y:ZP),Y.g=Z.g∧fU Y (A.hasFA k s)∧e=.returned (vI (A.hasFE k s))∧S w' ([(ZI Y (A.hasFA k s))]++[aB w (aT [(ZI Z A)])]):=by
 have H0:=HS.bu
 have h8:=hI.a8
 have hrs9:Z.rs.length≤100:=by have h9:=hI.pl; rw [← hZ,List.length_map] at h9; exact h9
 refine en Tryz.func63 ?_
 refine ah [0,1,2] ?_
 refine cS ?_
 refine l_of (cz H0 (M_ A.n s _) ?_)
 intro g4 H2
 refine w_v (cj (b:=(jK (A.n:Int) s)) rfl rfl) ?_
 refine cD ?_
 rcases ef ((jK (A.n:Int) s)) with H8 | H8
 ·
  refine g_cond_f rfl (aa H8) ?_
  refine a_ ?_
  refine l_of (fZ H2 [0,1,2,3,4,5,6,7] (oQ Z A j hZ hI k _) ?_)
  intro g3 H7
  refine aE ?_
  refine bP (v:=.bool (!decide (((A.peE k):Int)=0))) (hb:=eh) ?_
  refine cD ?_
  refine ah [0,1,2,7,19] ?_
  by_cases H9:((A.peE k):Int)=0
  ·
   refine kw H9 ?_
   refine ae ?_
   refine g_seq ?_
   refine g_aM [] [0] [15] H7 (fun g2 h4=>?_)
   have H5:=h4.tk [0]
   refine aU 0 H5 ?_
   refine aU 1 H5 ?_
   refine aU 2 H5 ?_
   refine eY 3 0 H5 ?_
   refine aU 4 H5 ?_
   refine aU 5 H5 ?_
   refine aU 7 H5 ?_
   refine aU 8 H5 ?_
   refine aU 9 H5 ?_
   refine eY 10 0 H5 ?_
   refine aU 11 H5 ?_
   refine bG (i:=6) ?_
   have h3:=h4.b7 [0,1,2,3,4,5,6,7]
   refine aG (jL Z A j hZ hI k _ (h3.tk [0])) ?_
   rintro _ h6 ⟨fi11,rfl,hfi12,h1⟩
   replace h1:=h3.aI1 [0] h1
   obtain ⟨fi,fx,rfl,hfx,hfk⟩:=iC.is hZ H9 hfi12
   have hfl:=fU.at hZ hfx
   have hln:fx.fld.length=A.n∧fx.alw.length=A.n∧fx.sug.length=A.n:=hI.fl _ (List.mem_of_getElem? hfl)
   have hfi9:=(List.getElem?_eq_some_iff.1 hfx).1
   have h2:=h1.ub [0,1]
   refine bW ?_
   refine bF (h2.tk [0]) ?_
   refine bG (i:=12) ?_
   refine aG (JK A.n s (by omega) H8 _) ?_
   rintro _ h5 ⟨H3,H4,rfl,H6⟩
   replace H6:=h2.ab1 H6
   refine bW ?_
   refine bF (H6.tk [1]) ?_
   refine bG (i:=13) ?_
   refine iW (iH fi (H6.rr 6)) ?_
   refine bF (H6.tk [1]) ?_
   refine bG (i:=14) ?_
   refine iW (v:=.pointer ((Z.pp).map fun q=>q.add (fi * 6+1))) (aH (bJ (m:=fi * 6) ((H6.rr 6).some (by omega)) rfl rfl Ev) rfl) ?_
   refine bF (H6.tk [1]) ?_
   refine bG (i:=15) ?_
   refine zI (i:=1) (j:=fi) mR ({ fx with fp:=H3,fc:=H4,fld:=(cE A.n s) }:Rp) H6 6 (bh rfl) rfl rfl rfl rfl rfl hfx rfl (by decide) Rr rfl rfl ?_
   intro h0 g1
   have g0:=S.unbig (L:=[_,_,_]) (S.lstOut (F:=gW) (g1.tk [7,0,1,2,3,4,5,6,8]) hfx)
   have h7:S h0 [(bM gW (Z.rs.set fi ({ fx with fp:=H3,fc:=H4,fld:=(cE A.n s) }:Rp))),Ob Z.g (.cells #[vI A.n,vI A.pz,vI A.la,.string (A.seed),.bool A.ino,.slice Z.hp A.had.length Z.hc,.slice Z.wp A.wish.length Z.wc,.slice Z.ep A.here.length Z.ec,.slice Z.ap A.asked.length Z.ac,.slice Z.pp ((Z.rs.set fi ({ fx with fp:=H3,fc:=H4,fld:=(cE A.n s) }:Rp)).length) Z.pc] 97 (0,0)),Z1 Z A,Z2 Z A,Z3 Z A,Z4 Z A,Rw 125 6 Z.pp ((Z.rs.set fi ({ fx with fp:=H3,fc:=H4,fld:=(cE A.n s) }:Rp)).length) Z.pc (fl mQ (Z.rs.set fi ({ fx with fp:=H3,fc:=H4,fld:=(cE A.n s) }:Rp))),aB w (aT [(ZI Z A)])]:=by rw [show (Z.rs.set fi ({ fx with fp:=H3,fc:=H4,fld:=(cE A.n s) }:Rp)).length=Z.rs.length from List.length_set]; exact S.lstIn (F:=gW) (x:=({ fx with fp:=H3,fc:=H4,fld:=(cE A.n s) }:Rp)) (g0.b3 [4,1,2,3,5,6,7,8,9,10,11]) (List.getElem?_eq_some_iff.1 hfx).1
   refine m_ rfl ?_
   refine fP ?_
   refine aR ?_
   refine ah [] ?_
   refine aE ?_
   refine af ?_
   have hE:A.hasFE k s=0:=(if_pos H8).trans H9
   have hA9:A.hasFA k s=A.upd k (fun p=>{ p with fld:=cE A.n s }):=if_pos hE
   rw [hA9,hE]
   exact ⟨({ Z with rs:=(Z.rs.set fi ({ fx with fp:=H3,fc:=H4,fld:=(cE A.n s) }:Rp)) }:ZP),rfl,(by subst hfk; exact fU.set hZ hI.nd hfx rfl),rfl,(h7.b7 [1,2,3,4,5,6,0,7])⟩
  refine mX H9 ?_
  refine a_ ?_
  refine af ?_
  have hE:A.hasFE k s=A.peE k:=if_pos H8
  have hA9:A.hasFA k s=A:=by unfold PK.hasFA; rw [hE]; exact if_neg H9
  rw [hA9]
  exact ⟨Z,rfl,hZ,(by rw [hE]; rfl),(H7.b7 [0,1,2,3,4,5,6,7])⟩
 refine g_cond_t rfl (aa H8) ?_
 refine aQ ?_
 refine af ?_
 have hE:A.hasFE k s=1:=if_neg (by rw [H8]; decide)
 have hA9:A.hasFA k s=A:=by unfold PK.hasFA; rw [hE]; exact if_neg (by decide)
 rw [hA9]
 exact ⟨Z,rfl,hZ,(by rw [hE]; rfl),(H2.b7 [0,1,2,3,4,5,6,7])⟩
theorem My:kf Tryz.prog 40=some (some (.agg #[.int .i64 0,.int .i64 0]),2,16):=by kernel_rfl
theorem N5 (n pz la:Int) (seed:ByteArray) (ino:Bool) (hb:100<(seed.size:Int)∨n<1∨4096<n∨pz<16∨1024<pz∨¬ pz % 16=0∨la<1∨pz<la)  (w:World):Calls Tryz.prog 35 #[vI n,vI pz,vI la,.string seed,.bool ino] w fun e w'=>e=.returned (.tuple #[.pointer none,vI (gJ n pz la seed)])∧S w' [aB w no]:=by
 have H0:=S.old w
 refine en Tryz.func35 ?_
 refine ah [0,1,2,3,4] ?_
 refine dz ?_
 refine w_v (iJ rfl rfl Tryz.underlying9) ?_
 refine aC ?_
 by_cases H2:(100:Int)<(seed.size:Int)
 ·
  refine bm H2 ?_
  refine cp ?_
  refine af ?_
  have hE:gJ n pz la seed=1:=if_pos H2
  rw [hE]
  exact ⟨rfl,H0.tk [0]⟩
 refine br H2 ?_
 refine aE ?_
 by_cases H8:(n:Int)<1
 ·
  iterate 2 refine dh (dt H8) ?_
  refine w_v (pt (dt H8)) ?_
  refine cJ ?_
  iterate 2 refine dh rfl ?_
  refine w_v (pt rfl) ?_
  refine cJ ?_
  iterate 2 refine dh rfl ?_
  refine w_v (pt rfl) ?_
  refine cJ ?_
  iterate 3 refine dh rfl ?_
  refine w_v (pt rfl) ?_
  refine cJ ?_
  iterate 2 refine dh rfl ?_
  refine w_v (pt rfl) ?_
  refine cJ ?_
  iterate 3 refine dh rfl ?_
  refine w_v (pt rfl) ?_
  refine ae ?_
  refine ah [0,1,2,3,4,17] ?_
  refine g_cond_t rfl rfl ?_
  refine cp ?_
  refine af ?_
  have hE:gJ n pz la seed=7:=by unfold gJ; rw [if_neg H2,if_pos (by omega)]
  rw [hE]
  exact ⟨rfl,H0.tk [0]⟩
 refine aN (df H8) xm ?_
 refine aN (df H8) (ai rfl rfl rfl fK) ?_
 refine w_v (pf (df H8)) ?_
 refine cJ ?_
 by_cases H7:(4096:Int)<n
 ·
  iterate 2 refine dh (dt H7) ?_
  refine w_v (pt (dt H7)) ?_
  refine cJ ?_
  iterate 2 refine dh rfl ?_
  refine w_v (pt rfl) ?_
  refine cJ ?_
  iterate 3 refine dh rfl ?_
  refine w_v (pt rfl) ?_
  refine cJ ?_
  iterate 2 refine dh rfl ?_
  refine w_v (pt rfl) ?_
  refine cJ ?_
  iterate 3 refine dh rfl ?_
  refine w_v (pt rfl) ?_
  refine ae ?_
  refine ah [0,1,2,3,4,17] ?_
  refine g_cond_t rfl rfl ?_
  refine cp ?_
  refine af ?_
  have hE:gJ n pz la seed=7:=by unfold gJ; rw [if_neg H2,if_pos (by omega)]
  rw [hE]
  exact ⟨rfl,H0.tk [0]⟩
 refine aN (df H7) xm ?_
 refine aN (df H7) (ai rfl rfl rfl dG) ?_
 refine w_v (pf (df H7)) ?_
 refine cJ ?_
 by_cases H6:(pz:Int)<16
 ·
  iterate 2 refine dh (dt H6) ?_
  refine w_v (pt (dt H6)) ?_
  refine cJ ?_
  iterate 3 refine dh rfl ?_
  refine w_v (pt rfl) ?_
  refine cJ ?_
  iterate 2 refine dh rfl ?_
  refine w_v (pt rfl) ?_
  refine cJ ?_
  iterate 3 refine dh rfl ?_
  refine w_v (pt rfl) ?_
  refine ae ?_
  refine ah [0,1,2,3,4,17] ?_
  refine g_cond_t rfl rfl ?_
  refine cp ?_
  refine af ?_
  have hE:gJ n pz la seed=7:=by unfold gJ; rw [if_neg H2,if_pos (by omega)]
  rw [hE]
  exact ⟨rfl,H0.tk [0]⟩
 refine aN (df H6) xm ?_
 refine aN (df H6) (ai rfl rfl rfl fK) ?_
 refine w_v (pf (df H6)) ?_
 refine cJ ?_
 by_cases H3:(1024:Int)<pz
 ·
  iterate 3 refine dh (dt H3) ?_
  refine w_v (pt (dt H3)) ?_
  refine cJ ?_
  iterate 2 refine dh rfl ?_
  refine w_v (pt rfl) ?_
  refine cJ ?_
  iterate 3 refine dh rfl ?_
  refine w_v (pt rfl) ?_
  refine ae ?_
  refine ah [0,1,2,3,4,17] ?_
  refine g_cond_t rfl rfl ?_
  refine cp ?_
  refine af ?_
  have hE:gJ n pz la seed=7:=by unfold gJ; rw [if_neg H2,if_pos (by omega)]
  rw [hE]
  exact ⟨rfl,H0.tk [0]⟩
 refine aN (df H3) xm ?_
 refine aN (v:=vI (pz % 16)) (df H3) (ai rfl rfl rfl (yR (by omega) (EZ (by omega)))) ?_
 refine aN (df H3) (ai rfl rfl rfl eh) ?_
 refine w_v (pf (df H3)) ?_
 refine cJ ?_
 by_cases H5:(pz % 16:Int)=0
 ·
  refine aN (nf H5) xm ?_
  refine aN (nf H5) (ai rfl rfl rfl dG) ?_
  refine w_v (pf (nf H5)) ?_
  refine cJ ?_
  by_cases H4:(la:Int)<1
  ·
   iterate 3 refine dh (dt H4) ?_
   refine w_v (pt (dt H4)) ?_
   refine ae ?_
   refine ah [0,1,2,3,4,17] ?_
   refine g_cond_t rfl rfl ?_
   refine cp ?_
   refine af ?_
   have hE:gJ n pz la seed=7:=by unfold gJ; rw [if_neg H2,if_pos (by omega)]
   rw [hE]
   exact ⟨rfl,H0.tk [0]⟩
  iterate 2 refine aN (df H4) xm ?_
  refine aN (df H4) (ai rfl rfl rfl fK) ?_
  refine w_v (pf (df H4)) ?_
  refine ae ?_
  refine ah [0,1,2,3,4,17] ?_
  refine g_cond_t rfl (dt (by omega)) ?_
  refine cp ?_
  refine af ?_
  have hE:gJ n pz la seed=7:=by unfold gJ; rw [if_neg H2,if_pos (by omega)]
  rw [hE]
  exact ⟨rfl,H0.tk [0]⟩
 iterate 2 refine dh (nt H5) ?_
 refine w_v (pt (nt H5)) ?_
 refine cJ ?_
 iterate 3 refine dh rfl ?_
 refine w_v (pt rfl) ?_
 refine ae ?_
 refine ah [0,1,2,3,4,17] ?_
 refine g_cond_t rfl rfl ?_
 refine cp ?_
 refine af ?_
 have hE:gJ n pz la seed=7:=by unfold gJ; rw [if_neg H2,if_pos (by omega)]
 rw [hE]
 exact ⟨rfl,H0.tk [0]⟩
theorem N4 (n pz la:Nat) (seed:ByteArray) (ino:Bool) (h:(1≤n∧n≤24∧16≤pz∧pz≤128∧1≤la∧la≤pz∧seed.size≤100)∧(pz:Int) % 16=0)  (w:World):Calls Tryz.prog 35 #[vI n,vI pz,vI la,.string seed,.bool ino] w fun e w'=>∃ Z:ZP,fU Z (fa n pz la seed ino)∧e=.returned (.tuple #[vP Z.g,vI 0])∧S w' ([(ZI Z (fa n pz la seed ino))]++[aB w no]):=by
 have H0:=S.old w
 refine en Tryz.func35 ?_
 refine ah [0,1,2,3,4] ?_
 refine dz ?_
 refine w_v (iJ rfl rfl Tryz.underlying9) ?_
 refine aC ?_
 refine g_cond_f rfl (df (by omega)) ?_
 refine aE ?_
 refine l_of (aJ (v:=.int .i64 ((n:Int))) (cU rfl rfl rfl rfl (decide_eq_false (by omega))) rfl rfl (bY rfl rfl) ?_)
 refine l_of (aJ (v:=.bool (decide ((4096:Int)<(n:Int)))) (cU rfl rfl rfl rfl (decide_eq_false (by omega))) rfl rfl (ai rfl rfl rfl fK) ?_)
 refine w_v Ju ?_
 refine cJ ?_
 refine l_of (aJ (v:=.int .i64 ((pz:Int))) (cU rfl rfl rfl rfl (decide_eq_false (by omega))) rfl rfl (bY rfl rfl) ?_)
 refine l_of (aJ (v:=.bool (decide (((pz:Int):Int)<16))) (cU rfl rfl rfl rfl (decide_eq_false (by omega))) rfl rfl (ai rfl rfl rfl dG) ?_)
 refine w_v Ju ?_
 refine cJ ?_
 refine l_of (aJ (v:=.int .i64 ((pz:Int))) (cU rfl rfl rfl rfl (decide_eq_false (by omega))) rfl rfl (bY rfl rfl) ?_)
 refine l_of (aJ (v:=.bool (decide ((1024:Int)<(pz:Int)))) (cU rfl rfl rfl rfl (decide_eq_false (by omega))) rfl rfl (ai rfl rfl rfl fK) ?_)
 refine w_v Ju ?_
 refine cJ ?_
 refine l_of (aJ (v:=.int .i64 ((pz:Int))) (cU rfl rfl rfl rfl (decide_eq_false (by omega))) rfl rfl (bY rfl rfl) ?_)
 refine l_of (aJ (v:=.int .i64 ((pz:Int) % 16)) (cU rfl rfl rfl rfl (decide_eq_false (by omega))) rfl rfl (ai rfl rfl rfl (yR (by omega) (EZ (by omega)))) ?_)
 refine l_of (aJ (v:=.bool (!decide (((pz:Int) % 16:Int)=0))) (cU rfl rfl rfl rfl (decide_eq_false (by omega))) rfl rfl (ai rfl rfl rfl eh) ?_)
 refine w_v (cH rfl rfl (decide_eq_false (by omega)) rfl) ?_
 refine cJ ?_
 refine l_of (aJ (v:=.int .i64 ((la:Int))) (cU rfl rfl rfl rfl (nf (by omega))) rfl rfl (bY rfl rfl) ?_)
 refine l_of (aJ (v:=.bool (decide (((la:Int):Int)<1))) (cU rfl rfl rfl rfl (nf (by omega))) rfl rfl (ai rfl rfl rfl dG) ?_)
 refine w_v (cH rfl rfl (nf (by omega)) rfl) ?_
 refine cJ ?_
 refine l_of (aJ (v:=.int .i64 ((la:Int))) (cU rfl rfl rfl rfl (decide_eq_false (by omega))) rfl rfl (bY rfl rfl) ?_)
 refine l_of (aJ (v:=.int .i64 ((pz:Int))) (cU rfl rfl rfl rfl (decide_eq_false (by omega))) rfl rfl (bY rfl rfl) ?_)
 refine l_of (aJ (v:=.bool (decide (((pz:Int):Int)<(la:Int)))) (cU rfl rfl rfl rfl (decide_eq_false (by omega))) rfl rfl (ai rfl rfl rfl fK) ?_)
 refine w_v (cH rfl rfl (decide_eq_false (by omega)) rfl) ?_
 refine ae ?_
 refine ah [0,1,2,3,4,17] ?_
 refine g_cond_f rfl (df (by omega)) ?_
 refine cS ?_
 refine l_of (gk n H0 (bh rfl) rfl rfl rfl rfl rfl Tryz.underlying38 pO (by omega) ?_)
 intro g1 h6 H3
 refine w_v (v:=.agg #[vI n,vI pz,vI la,.string seed,.bool ino,.slice (some ⟨g1,0,none⟩) ((List.replicate n false).length) n,.slice none 0 0,.slice none 0 0,.slice none 0 0,.slice none 0 0]) (j4) ?_
 refine l_of (fq H3 ?_)
 intro g4 h5 H6
 refine ae ?_
 refine ah [0,12] ?_
 refine a_ ?_
 refine cQ (ι:=Nat × Option Addr × Nat × List o_) (fun (ii,wp,wc,wl)=>[(12,vP g4),(55,vI n),(56,vI ii)]) (fun (ii,wp,wc,wl) wx=>(ii≤n)∧(wl=List.replicate ii (⟨4,0⟩:o_))∧(wl.length=ii)∧S wx [Ob g4 (.cells #[vI n,vI pz,vI la,.string seed,.bool ino,.slice (some ⟨g1,0,none⟩) ((List.replicate n false).length) n,.slice wp wl.length wc,.slice none 0 0,.slice none 0 0,.slice none 0 0] 97 (0,0)),Rw 4 1 (some ⟨g1,0,none⟩) ((List.replicate n false).length) n (fl cG (List.replicate n false)),Rw 40 2 wp wl.length wc (fl jC wl),aB w no]) (fun (ii,wp,wc,wl)=>n - ii) (0,none,0,[]) ⟨Nat.zero_le _,rfl,rfl,((S.nilFl H6 40 2 jC).tk [1,2,0,3])⟩ ?_
 rintro ⟨ii,wp,wc,wl⟩ h4 ⟨hii,hwl,hww,H8⟩
 refine ah [12,55,56] ?_
 refine aC ?_
 refine g_seq ?_
 by_cases H2:((ii:Int):Int)<(n:Int)
 ·
  refine bm H2 ?_
  refine cS ?_
  refine w_v (v:=.agg #[vI 4,vI 0]) (j4) ?_
  refine l_of (fC MO #[vI 4,vI 0] H8 ?_)
  intro h7 H9 H4
  have hln17a:=(H4.rr 3).lenL lA
  have hln17:(wl++[(⟨4,0⟩:o_)]).length=wl.length+1:=by simp only [List.length_append,List.length_cons,List.length_nil] <;> omega
  refine l_of (fE My [(⟨4,0⟩:o_)] lA H4 3 0 ?_)
  intro h0 h1 H7 h3
  refine ru ?_
  refine l_of (eu h3 1 ?_)
  intro H5 h2
  refine aE ?_
  refine gI ii ?_
  refine ae ?_
  refine bD (i:=(ii,wp,wc,wl)) ((ii+1),h0,h1,(wl++[(⟨4,0⟩:o_)])) ⟨by omega,(by rw [List.replicate_succ',← hwl]),(by simp only [List.length_append,List.length_cons,List.length_nil]; omega),(h2.tk [1,2,3,4])⟩
 refine br H2 ?_
 refine io ?_
 refine af ?_
 obtain rfl:wl=List.replicate n ⟨4,0⟩:=by rw [hwl,show ii=n from by omega]
 have hQ:=S.nilFl (S.nilFl (S.nilFl (S.lstNil (H8.tk [0,1,2,3]) gW) 125 6 mQ) 150 4 askL) 44 3 aO
 refine ⟨(⟨g4,(some ⟨g1,0,none⟩),n,wp,wc,none,0,none,0,none,0,[]⟩:ZP),rfl,rfl,?_⟩
 exact S.big (L:=[_,_,_,_,_,_,_]) (hQ.tk [4,5,6,0,1,2,3,7])
end Go.Proofs.YthmmfhdpkddniaaGreatDoor
