import Derived.Test.YthmmfhdpkddniaaGreatDoorRd
set_option maxRecDepth 20000
set_option maxHeartbeats 4000000
set_option linter.all false
namespace Go.Proofs.YthmmfhdpkddniaaGreatDoor
open Go.RowKit
theorem QP:aI Tryz.prog 126=true:=by kernel_rfl
theorem MD:aI Tryz.prog 128=true:=by kernel_rfl
theorem KR:u_ Tryz.prog 125 4=some 4:=by kernel_rfl
theorem L8 {A:PK} (hI:(A.peers.map fV.k).Nodup) {i:Nat} {p:fV} (h:A.peers[i]?=some p) (c:aV):A.alwB p.k c=aF p.alw c.pc:=by
 unfold PK.alwB
 rw [jh hI h]
theorem gv {l:List Bool} {i:Int} {b:Bool} (h:l[i.toNat]?=some b):aF l i=b:=by
 unfold aF; rw [List.getD_eq_getElem?_getD,h]; rfl
def zC (al:AL) (c:aV) (l:List Int):AL:=l.foldl (fun al k=>cx al k fun x=>decide (x∈[c])) al
theorem qZ (al:AL) (c:aV) (l:List Int) (k:Int):zC al c (l++[k])=cx (zC al c l) k fun x=>decide (x∈[c]):=by unfold zC; rw [List.foldl_append]; rfl
theorem vr (al:AL) (c:aV):∀ l:List Int,zC al c l=al.filter fun a=>!(decide (a.1∈l) && decide (a.2=c)):=by
 intro l
 unfold zC
 induction l generalizing al with
 | nil=>exact (List.filter_eq_self.2 fun a _=>by simp).symm
 | cons k l ih =>
   rw [List.foldl_cons,ih]
   unfold cx
   rw [List.filter_filter]
   refine List.filter_congr fun a _=>?_
   by_cases h1:a.1=k <;> by_cases h2:a.2=c <;> by_cases h3:a.1∈l <;> simp [h1,h2,h3]
theorem BG (al:AL) (c:aV):zC al c (cn al c)=py al c:=by
 rw [vr]
 unfold py
 refine List.filter_congr fun a ha=>?_
 by_cases h2:a.2=c
 · have:a.1∈cn al c:=gp.2 (by rw [← h2]; exact ha)
   simp [h2,this]
 simp [h2]
theorem I4 (al:AL) (c:aV) (l:List Int):(zC al c l).Sublist al:=by rw [vr]; exact List.filter_sublist
theorem Lo (Z:ZP) (A:PK) (j:Nat) (hZ:fU Z A) (hI:bQ j A) (k:Int) (ch kp:Bool) (hj:j≤100000)  (w:World) (HS:S w [(ZI Z A)]):Calls Tryz.prog 68 #[vP Z.g,vI k,.bool ch,.bool kp] w fun e w'=>∃ (Y:ZP),Y.g=Z.g∧fU Y (A.chokeA k ch kp)∧∃ p' c',e=.returned (.tuple #[.slice p' (A.chokeL k ch kp).length c',vI (A.peE k)])∧S w' ([Rw 44 3 p' (A.chokeL k ch kp).length c' (fl aO (A.chokeL k ch kp)),(ZI Y (A.chokeA k ch kp))]++[aB w (aT [(ZI Z A)])]):=by
 have H0:=HS.bu
 have h8:=hI.a8
 have hrs9:Z.rs.length≤100:=by have h9:=hI.pl; rw [← hZ,List.length_map] at h9; exact h9
 refine en Tryz.func68 ?_
 refine ah [0,1,2,3] ?_
 refine dz ?_
 refine l_of (fZ H0 [0,1,2,3,4,5,6,7] (oQ Z A j hZ hI k _) ?_)
 intro k1 H4
 refine aE ?_
 refine bP (v:=.bool (!decide (((A.peE k):Int)=0))) (hb:=eh) ?_
 refine cD ?_
 by_cases H3:((A.peE k):Int)=0
 ·
  refine kw H3 ?_
  refine ae ?_
  refine g_seq ?_
  refine g_aM [] [0] [] H4 (fun k0 H7=>?_)
  have h1:=H7.tk [0]
  refine aU 0 h1 ?_
  refine aU 1 h1 ?_
  refine aU 2 h1 ?_
  refine eY 3 0 h1 ?_
  refine aU 4 h1 ?_
  refine aU 5 h1 ?_
  refine bG (i:=6) ?_
  have x3:=H7.b7 [0,1,2,3,4,5,6,7]
  refine aG (jL Z A j hZ hI k _ (x3.tk [0])) ?_
  rintro _ c8 ⟨fi8,rfl,hfi9,g9⟩
  replace g9:=x3.aI1 [0] g9
  obtain ⟨fi,fx,rfl,hfx,hfk⟩:=iC.is hZ H3 hfi9
  have hfl:=fU.at hZ hfx
  have hln:fx.fld.length=A.n∧fx.alw.length=A.n∧fx.sug.length=A.n:=hI.fl _ (List.mem_of_getElem? hfl)
  have hfi9:=(List.getElem?_eq_some_iff.1 hfx).1
  have h0:=g9.ub [0,1]
  refine bW ?_
  refine bF (h0.tk [0]) ?_
  refine bT (v:=.pointer ((Z.pp).map fun q=>q.add (fi * 6))) 7 rfl (h0.tk [0]) (fun _ _=>eZ fi ((h0.rr 5).some (by omega))) ?_
  refine bG (i:=8) ?_
  refine iW xa ?_
  refine bF (h0.tk [0]) ?_
  refine fP ?_
  refine aR ?_
  refine ah [0,1,2,3,11] ?_
  refine aC ?_
  refine w_v (cj (b:=ch) rfl rfl) ?_
  refine w_v (vm ((h0.rr 5).some (by omega)) rfl rfl) ?_
  refine w_v (v:=.pointer ((Z.pp).map fun q=>q.add (fi * 6+4))) (aH (bJ (m:=fi * 6) ((h0.rr 5).some (by omega)) rfl rfl KR) rfl) ?_
  refine l_of (zI (i:=4) (j:=fi) mR ({ fx with un:=!ch }:Rp) h0 5 (bh rfl) rfl rfl rfl rfl rfl hfx rfl (by decide) vv rfl rfl ?_)
  intro g2 b9
  have g8:S g2 [(bM gW (Z.rs.set fi ({ fx with un:=!ch }:Rp))),Ob Z.g (.cells #[vI A.n,vI A.pz,vI A.la,.string (A.seed),.bool A.ino,.slice Z.hp A.had.length Z.hc,.slice Z.wp A.wish.length Z.wc,.slice Z.ep A.here.length Z.ec,.slice Z.ap A.asked.length Z.ac,.slice Z.pp ((Z.rs.set fi ({ fx with un:=!ch }:Rp)).length) Z.pc] 97 (0,0)),Z1 Z A,Z2 Z A,Z3 Z A,Z4 Z A,Rw 125 6 Z.pp ((Z.rs.set fi ({ fx with un:=!ch }:Rp)).length) Z.pc (fl mQ (Z.rs.set fi ({ fx with un:=!ch }:Rp))),aB w (aT [(ZI Z A)])]:=by rw [show (Z.rs.set fi ({ fx with un:=!ch }:Rp)).length=Z.rs.length from List.length_set]; exact S.rpPut (b9.tk [6,0,1,2,3,4,5,7]) hfx rfl
  have hI2:bQ j ({ A with peers:=(A.upd k (fun p=>{ p with un:=!ch })).peers }:PK):=hI.upd k (fun p=>rfl) fun p hp=>hI.fl p hp
  have hZ2:fU ({ Z with rs:=(Z.rs.set fi ({ fx with un:=!ch }:Rp)) }:ZP) ({ A with peers:=(A.upd k (fun p=>{ p with un:=!ch })).peers }:PK):=by subst hfk; exact fU.set hZ hI.nd hfx rfl
  have hrl2:(Z.rs.set fi ({ fx with un:=!ch }:Rp)).length=Z.rs.length:=List.length_set
  have hal2:(({ fx with un:=!ch }:Rp)).alw.length=A.n:=hln.2.1
  have g1:(Z.rs.set fi ({ fx with un:=!ch }:Rp))[fi]?=some ({ fx with un:=!ch }:Rp):=Nw hfx
  refine aE ?_
  refine w_v (cj (b:=ch) rfl rfl) ?_
  refine cJ ?_
  rcases ef (ch) with H6 | H6
  ·
   refine aN (aa H6) xm ?_
   refine w_v (pf (aa H6)) ?_
   refine cD ?_
   rcases ef (kp) with H9 | H9
   ·
    refine g_cond_t rfl H9 ?_
    refine aE ?_
    refine ah [8,9] ?_
    refine ae ?_
    refine af ?_
    have hno9:¬ (ch=true∧kp=false):=fun h9=>by simp_all
    have hL9:(A.chokeL k ch kp)=[]:=if_neg (fun h9=>hno9 h9.2)
    have hA9:(A.chokeA k ch kp)={ A.upd k (fun p=>{ p with un:=!ch }) with asked:=A.asked }:=by unfold PK.chokeA; rw [if_pos H3,if_neg hno9]
    rw [hL9,hA9,H3]
    exact ⟨({ Z with rs:=(Z.rs.set fi ({ fx with un:=!ch }:Rp)) }:ZP),rfl,hZ2,none,0,rfl,(g8.b7 [1,2,3,4,5,6,0,7]).nilFl 44 3 aO⟩
   refine g_cond_f rfl H9 ?_
   refine ae ?_
   refine ah [0,1,11] ?_
   refine iF ?_
   have b8:=g8.nilFl 44 3 aO
   refine a_ ?_
   have x2:=b8.b7 [2,3,4,5,6,7,1,0,8]
   refine l_of (aG (qP ({ Z with rs:=(Z.rs.set fi ({ fx with un:=!ch }:Rp)) }:ZP) ({ A with peers:=(A.upd k (fun p=>{ p with un:=!ch })).peers }:PK) j hZ2 hI2 k (by omega) _ (x2.tk [0])) ?_)
   rintro _ c7 ⟨h2,h5,rfl,g7⟩
   replace g7:=x2.aI2 [0] g7
   have hmlpa20:=iK A.asked k
   have hal9:=hI.al
   have b6:=g7.ub [1,0,2,3]
   refine bW ?_
   refine aE ?_
   refine cQ (ι:=Nat × Option Addr × Nat × List aV) (fun (i,pq,cq,oz)=>[(0,vP Z.g),(1,vI k),(11,.pointer ((Z.pp).map fun q=>q.add (fi * 6))),(12,.slice pq oz.length cq),(41,.slice h2 ((bO A.asked k).length) h5),(42,vI (((bO A.asked k).length:Int))),(43,vI i)]) (fun (i,pq,cq,oz) wx=>(i≤(bO A.asked k).length)∧(oz=((bO A.asked k).take i).filter fun c=>!A.alwB k c)∧(oz.length≤i)∧S wx [Rw 44 3 pq oz.length cq (fl aO oz),Ob Z.g (.cells #[vI A.n,vI A.pz,vI A.la,.string (A.seed),.bool A.ino,.slice Z.hp A.had.length Z.hc,.slice Z.wp A.wish.length Z.wc,.slice Z.ep A.here.length Z.ec,.slice Z.ap A.asked.length Z.ac,.slice Z.pp ((Z.rs.set fi ({ fx with un:=!ch }:Rp)).length) Z.pc] 97 (0,0)),Z1 Z A,Z2 Z A,Z3 Z A,Z4 Z A,Rw 125 6 Z.pp ((Z.rs.set fi ({ fx with un:=!ch }:Rp)).length) Z.pc (fl mQ (Z.rs.set fi ({ fx with un:=!ch }:Rp))),(bM gW (Z.rs.set fi ({ fx with un:=!ch }:Rp))),Rw 44 3 h2 ((bO A.asked k).length) h5 (fl aO (bO A.asked k)),aB w (aT [(ZI Z A)])]) (fun (i,pq,cq,oz)=>((bO A.asked k).length) - i) (0,none,0,[]) ⟨Nat.zero_le _,rfl,(Nat.le_refl 0),(b6.tk [8,0,1,2,3,4,5,6,7,9])⟩ ?_
   rintro ⟨i,pq,cq,oz⟩ c6 ⟨hi,hoz,hol,h7⟩
   refine ah [0,1,11,12,41,42,43] ?_
   refine aC ?_
   refine g_seq ?_
   by_cases h4:((i:Int):Int)<((bO A.asked k).length:Int)
   ·
    refine bm h4 ?_
    refine aQ ?_
    refine w_v (iH i (h7.rr 8)) ?_
    obtain ⟨H2,H8⟩:=(h7.rr 8).exL cN i
    have hmm9:=hI.ak _ (gq.1 (vT H8))
    have hpc9:0≤H2.pc∧H2.pc<(A.n:Int):=⟨hmm9.2.1.1,hmm9.2.1.2.1⟩
    refine w_v (bc (vs:=aO H2) i (h7.rr 8) (by omega) rfl rfl Tryz.underlying44 rfl dE (by rfl) (cN.flAt H8)) ?_
    refine l_of (cA h7 gX ?_)
    intro k3 x9 b2
    refine l_of (eu b2 0 ?_)
    intro x8 h6
    refine cD ?_
    refine g_seq ?_
    refine oP (by kernel_rfl) (by kernel_rfl) h6 ?_
    refine kJ (fun _ _=>xm) ?_
    refine kJ (v:=.pointer ((Z.pp).map fun q=>q.add (fi * 6))) (fun _ _=>vm ((h6.rr 7).some (by omega)) rfl rfl) ?_
    refine kJ (v:=.pointer ((Z.pp).map fun q=>q.add (fi * 6+2))) (fun _ _=>aH (bJ (m:=fi * 6) ((h6.rr 7).some (by omega)) rfl rfl Eu) rfl) ?_
    refine kJ (v:=.slice ({ fx with un:=!ch }:Rp).ap (({ fx with un:=!ch }:Rp).alw.length) (({ fx with un:=!ch }:Rp).ac)) (fun _ H=>eX (i:=2) (j:=fi) mR (H.rr 7) g1 rfl rfl Tryz.underlying38 rfl rfl) ?_
    refine kJ (fun _ _=>yq) ?_
    refine kJ (fun _ H=>xl H 0) ?_
    refine kJ (fun _ _=>eZ ((H2.pc).toNat) ((h6.rdA (k:=8) rfl g1).some (by omega))) ?_
    obtain ⟨g0,h3⟩:=(h6.rdA (k:=8) rfl g1).exL cP ((H2.pc).toNat)
    have halw9:A.alwB k H2=g0:=by rw [← hfk,show fx.k=fx.pe.k from rfl,L8 hI.nd hfl]; exact gv h3
    refine kJ (fun _ H=>nX ((H2.pc).toNat) (H.rdA (k:=8) rfl g1) (cP.flAt1 h3 rfl)) ?_
    refine kJ (v:=.bool (!g0)) (fun _ _=>cj (b:=g0) rfl rfl) ?_
    refine tG (fun x7 g6=>?_)
    refine aR ?_
    rcases ef (g0) with H5 | H5
    ·
     refine g_cond_f rfl (aa H5) ?_
     refine aC ?_
     refine ah [0,1,11,12,41,42,43] ?_
     refine aR ?_
     refine gI i ?_
     refine ae ?_
     refine bD (i:=(i,pq,cq,oz)) ((i+1),pq,cq,oz) ⟨by omega,(by rw [aj H8,List.filter_append,List.filter_cons,if_neg (by rw [halw9,H5]; decide),List.filter_nil,List.append_nil]; exact hoz),(by first | omega | (simp only [List.length_append,List.length_cons,List.length_nil]; omega)),(g6.tk [1,2,3,4,5,6,7,8,9,10])⟩
    refine g_cond_t rfl (aa H5) ?_
    refine ae ?_
    refine w_v (fS g6 0) ?_
    refine l_of (fC gX #[vI H2.pc,vI H2.bg,vI H2.ln] g6 ?_)
    intro k2 x6 x1
    have hln46a:=(x1.rr 2).lenL cN
    have hln46:(oz++[H2]).length=oz.length+1:=by simp only [List.length_append,List.length_cons,List.length_nil] <;> omega
    refine l_of (fE kN [H2] cN x1 2 0 ?_)
    intro c9 w9 x5 b1
    refine aE ?_
    refine ah [0,1,11,12,41,42,43] ?_
    refine aR ?_
    refine gI i ?_
    refine ae ?_
    refine bD (i:=(i,pq,cq,oz)) ((i+1),c9,w9,(oz++[H2])) ⟨by omega,(by rw [aj H8,List.filter_append,List.filter_cons,if_pos (by rw [halw9,H5]; decide),← hoz]; rfl),(by first | omega | (simp only [List.length_append,List.length_cons,List.length_nil]; omega)),(b1.tk [2,3,4,5,6,7,8,9,10,11])⟩
   refine br h4 ?_
   refine eG ?_
   have x0:=h7.b7 [1,2,3,4,5,6,7,0,8,9]
   refine l_of (aG (wM ({ Z with rs:=(Z.rs.set fi ({ fx with un:=!ch }:Rp)) }:ZP) ({ A with peers:=(A.upd k (fun p=>{ p with un:=!ch })).peers }:PK) j hZ2 hI2 k oz pq (oz.length) cq (by omega) (by omega) _ (x0.tk [0,1])) ?_)
   rintro _ x4 ⟨g3,g4,rfl,g5⟩
   replace g5:=x0.aI2 [0,1] g5
   have b0:=g5.ub [0,1,2,3]
   refine bW ?_
   refine a_ ?_
   refine ah [8,9] ?_
   refine aR ?_
   refine af ?_
   rw [List.take_of_length_le (by omega)] at hoz
   have hyes9:ch=true∧kp=false:=by constructor <;> simp_all
   have hL9:(A.chokeL k ch kp)=oz:=by rw [hoz]; exact if_pos ⟨H3,hyes9⟩
   have w8:cx A.asked k (fun x=>decide (x∈oz))=cx A.asked k (fun c=>!A.alwB k c):=by rw [hoz]; exact BJ _ _ _
   have hA9:(A.chokeA k ch kp)={ A.upd k (fun p=>{ p with un:=!ch }) with asked:=cx A.asked k (fun x=>decide (x∈oz)) }:=by unfold PK.chokeA; rw [if_pos H3,if_pos hyes9,w8]
   rw [hL9,hA9,H3]
   exact ⟨({ Z with rs:=(Z.rs.set fi ({ fx with un:=!ch }:Rp)),ap:=g3,ac:=g4 }:ZP),rfl,hZ2,_,_,rfl,((S.big (L:=[_,_,_,_,_,_,_]) (b0.tk [0,1,2,3,4,5,6,7,9])).tk [1,0,2])⟩
  refine dh (aa H6) ?_
  refine w_v (pt (aa H6)) ?_
  refine cD ?_
  refine g_cond_t rfl rfl ?_
  refine aE ?_
  refine ah [8,9] ?_
  refine ae ?_
  refine af ?_
  have hno9:¬ (ch=true∧kp=false):=fun h9=>by simp_all
  have hL9:(A.chokeL k ch kp)=[]:=if_neg (fun h9=>hno9 h9.2)
  have hA9:(A.chokeA k ch kp)={ A.upd k (fun p=>{ p with un:=!ch }) with asked:=A.asked }:=by unfold PK.chokeA; rw [if_pos H3,if_neg hno9]
  rw [hL9,hA9,H3]
  exact ⟨({ Z with rs:=(Z.rs.set fi ({ fx with un:=!ch }:Rp)) }:ZP),rfl,hZ2,none,0,rfl,(g8.b7 [1,2,3,4,5,6,0,7]).nilFl 44 3 aO⟩
 refine mX H3 ?_
 refine cp ?_
 refine af ?_
 have hL9:(A.chokeL k ch kp)=[]:=if_neg (fun h9=>H3 h9.1)
 have hA9:(A.chokeA k ch kp)=A:=if_neg H3
 rw [hL9,hA9]
 exact ⟨Z,rfl,hZ,none,0,rfl,(H4.b7 [0,1,2,3,4,5,6,7]).nilFl 44 3 aO⟩
theorem O4 (Z:ZP) (A:PK) (j:Nat) (hZ:fU Z A) (hI:bQ j A) (i:Int) (b:Bool) (hj:j≤100000)  (w:World) (HS:S w [(ZI Z A)]):Calls Tryz.prog 81 #[vP Z.g,vI i,.bool b] w fun e w'=>∃ (Y:ZP),Y.g=Z.g∧fU Y (A.doneA i b)∧e=.returned (vI (A.doneE i))∧S w' ([(ZI Y (A.doneA i b))]++[aB w (aT [(ZI Z A)])]):=by
 have H0:=HS.bu
 have h8:=hI.a8
 refine en Tryz.func81 ?_
 refine ah [0,1,2] ?_
 refine eG ?_
 by_cases H4:(i:Int)<0
 ·
  iterate 6 refine dh (dt H4) ?_
  refine w_v (pt (dt H4)) ?_
  refine ae ?_
  refine g_cond_t rfl rfl ?_
  refine aC ?_
  refine ah [6] ?_
  refine aC ?_
  refine af ?_
  have h7:(i<0∨(A.n:Int)≤i):=by omega
  have hE:A.doneE i=7:=if_pos h7
  have hA9:A.doneA i b=A:=by unfold PK.doneA; rw [hE]; exact if_neg (by decide)
  rw [hA9]
  exact ⟨Z,rfl,hZ,(by rw [hE]; rfl),(H0.b7 [0,1,2,3,4,5,6,7])⟩
 iterate 2 refine aN (df H4) xm ?_
 refine aN (df H4) xn ?_
 refine aN (df H4) (xf 0) ?_
 refine aN (df H4) (xl H0 0) ?_
 refine aN (df H4) (ai rfl rfl rfl nm) ?_
 refine w_v (pf (df H4)) ?_
 refine ae ?_
 by_cases h4:((A.n:Int):Int)≤i
 ·
  refine bm h4 ?_
  refine aC ?_
  refine ah [6] ?_
  refine aC ?_
  refine af ?_
  have h7:(i<0∨(A.n:Int)≤i):=by omega
  have hE:A.doneE i=7:=if_pos h7
  have hA9:A.doneA i b=A:=by unfold PK.doneA; rw [hE]; exact if_neg (by decide)
  rw [hA9]
  exact ⟨Z,rfl,hZ,(by rw [hE]; rfl),(H0.b7 [0,1,2,3,4,5,6,7])⟩
 refine br h4 ?_
 refine a_ ?_
 refine w_v (iH ((i).toNat) (H0.rr 1)) ?_
 obtain ⟨x3,h3⟩:=(H0.rr 1).exL cP ((i).toNat)
 have hhad9:aF A.had i=x3:=gv h3
 refine w_v (nX ((i).toNat) (H0.rr 1) (cP.flAt1 h3 rfl)) ?_
 refine cJ ?_
 rcases ef (x3) with H6 | H6
 ·
  iterate 4 refine dh H6 ?_
  refine w_v (dH rfl rfl H6 rfl) ?_
  refine ae ?_
  refine ah [0,1,2,18] ?_
  refine g_cond_t rfl rfl ?_
  refine a_ ?_
  refine af ?_
  have h7:¬ (i<0∨(A.n:Int)≤i):=by omega
  have hE:A.doneE i=9:=by unfold PK.doneE; rw [if_neg h7]; exact if_pos (by first | (left; rw [hhad9]; assumption) | (right; assumption))
  have hA9:A.doneA i b=A:=by unfold PK.doneA; rw [hE]; exact if_neg (by decide)
  rw [hA9]
  exact ⟨Z,rfl,hZ,(by rw [hE]; rfl),(H0.b7 [0,1,2,3,4,5,6,7])⟩
 iterate 2 refine aN H6 xm ?_
 have H5:=H0.b7 [0,1,2,3,4,5,6,7]
 refine l_of (bR (cU rfl rfl rfl rfl H6) (aP rfl rfl QP) (DU Z A j hZ hI i (by omega) (by omega) _ (H5.tk [0])) ?_)
 rintro _ g0 ⟨rfl,H7⟩
 have H8:=H5.au H7
 refine bW ?_
 refine aN (v:=.bool (!((A.wholeB i)))) H6 (cj (b:=(A.wholeB i)) rfl rfl) ?_
 refine w_v (v:=.bool (!((A.wholeB i)))) (cH rfl rfl H6 rfl) ?_
 refine ae ?_
 refine MU [(0,_),(1,_),(2,_),(18,_)] ?_
 rcases Bool.eq_false_or_eq_true ((A.wholeB i)) with h1 | h1
 ·
  refine g_cond_f rfl (aa h1) ?_
  refine a_ ?_
  have h6:S g0 [(ZI Z A),aB w (aT [(ZI Z A)])]:=S.big (L:=[_,_,_,_,_,_,_]) (H8.tk [0,1,2,3,4,5,6,7])
  refine l_of (bR (bh rfl) (aP rfl rfl MD) (Bv Z A j hZ hI i (by omega) _ (h6.takes [0] (by decide))) ?_)
  rintro _ H9 ⟨ep10,ec11,H2,H3,rfl,h2⟩
  replace h2:S H9 [(ZI ({ Z with ep:=ep10,ec:=ec11,ap:=H2,ac:=H3 }:ZP) ({ A with here:=(A.forget i).here,asked:=(A.forget i).asked }:PK)),aB w (aT [(ZI Z A)])]:=h6.absorbI (new:=[(ZI ({ Z with ep:=ep10,ec:=ec11,ap:=H2,ac:=H3 }:ZP) ({ A with here:=(A.forget i).here,asked:=(A.forget i).asked }:PK))]) [0] h2
  have h5:S H9 [Ob Z.g (.cells #[.int .i64 ((A.n:Int)),.int .i64 ((A.pz:Int)),.int .i64 ((A.la:Int)),.string (A.seed),.bool A.ino,.slice Z.hp A.had.length Z.hc,.slice Z.wp A.wish.length Z.wc,.slice ep10 (((A.forget i).here).length) ec11,.slice H2 (((A.forget i).asked).length) H3,.slice Z.pp Z.rs.length Z.pc] 97 (0,0)),Rw 4 1 Z.hp A.had.length Z.hc (fl cG A.had),Rw 40 2 Z.wp A.wish.length Z.wc (fl jC A.wish),Rw 44 3 ep10 (((A.forget i).here).length) ec11 (fl aO ((A.forget i).here)),Rw 150 4 H2 (((A.forget i).asked).length) H3 (fl askL ((A.forget i).asked)),Rw 125 6 Z.pp Z.rs.length Z.pc (fl mQ Z.rs),(bM gW Z.rs),aB w (aT [(ZI Z A)])]:=S.unbig (L:=[_,_,_,_,_,_,_]) (h2.takes [0,1] (by decide))
  refine wm rfl rfl ?_
  refine dz ?_
  refine w_v (v:=.pointer ((Z.hp).map fun q=>q.add (((i).toNat) * 1))) (Ch ((i).toNat) (h5.rwReads (k:=1) rfl) rfl rfl rfl Tryz.underlying38 vv (by omega)) ?_
  refine l_of (mH (j:=((i).toNat)) cP b h5 1 (bh rfl) rfl rfl rfl rfl rfl rfl vv (by omega) ?_)
  intro h0 g2
  have g1:S h0 [Ob Z.g (.cells #[vI A.n,vI A.pz,vI A.la,.string (A.seed),.bool A.ino,.slice Z.hp ((A.had.set (i).toNat b).length) Z.hc,.slice Z.wp A.wish.length Z.wc,.slice ep10 (((A.forget i).here).length) ec11,.slice H2 (((A.forget i).asked).length) H3,.slice Z.pp Z.rs.length Z.pc] 97 (0,0)),Rw 4 1 Z.hp ((A.had.set (i).toNat b).length) Z.hc (fl cG (A.had.set (i).toNat b)),Z2 Z A,Rw 44 3 ep10 (((A.forget i).here).length) ec11 (fl aO ((A.forget i).here)),Rw 150 4 H2 (((A.forget i).asked).length) H3 (fl askL ((A.forget i).asked)),Z5 Z,bM gW Z.rs,aB w (aT [(ZI Z A)])]:=by rw [show (A.had.set (i).toNat b).length=A.had.length from List.length_set]; exact g2
  refine cD ?_
  refine ah [] ?_
  refine aE ?_
  refine af ?_
  have h7:¬ (i<0∨(A.n:Int)≤i):=by omega
  have hE:A.doneE i=0:=(by unfold PK.doneE; rw [if_neg h7]; exact if_neg (by rintro (h9 | h9) <;> simp_all))
  have hA9:A.doneA i b=A.putA i b:=if_pos hE
  rw [hA9,hE]
  exact ⟨({ Z with ep:=ep10,ec:=ec11,ap:=H2,ac:=H3 }:ZP),rfl,hZ,rfl,(g1.b7 [0,1,2,3,4,5,6,7])⟩
 refine g_cond_t rfl (aa h1) ?_
 refine a_ ?_
 refine af ?_
 have h7:¬ (i<0∨(A.n:Int)≤i):=by omega
 have hE:A.doneE i=9:=by unfold PK.doneE; rw [if_neg h7]; exact if_pos (by first | (left; rw [hhad9]; assumption) | (right; assumption))
 have hA9:A.doneA i b=A:=by unfold PK.doneA; rw [hE]; exact if_neg (by decide)
 rw [hA9]
 exact ⟨Z,rfl,hZ,(by rw [hE]; rfl),(H8.b7 [0,1,2,3,4,5,6,7])⟩
theorem Nu (Z:ZP) (A:PK) (j:Nat) (hZ:fU Z A) (hI:bQ j A) (i:Int) (b:Bool) (hj:j≤100000)  (w:World) (HS:S w [(ZI Z A)]):Calls Tryz.prog 83 #[vP Z.g,vI i,.bool b] w fun e w'=>∃ (Y:ZP),Y.g=Z.g∧fU Y (A.setHA i b)∧e=.returned (vI (A.inE i))∧S w' ([(ZI Y (A.setHA i b))]++[aB w (aT [(ZI Z A)])]):=by
 have H0:=HS.bu
 have h8:=hI.a8
 refine en Tryz.func83 ?_
 refine ah [0,1,2] ?_
 refine dz ?_
 by_cases H2:(i:Int)<0
 ·
  iterate 6 refine dh (dt H2) ?_
  refine w_v (pt (dt H2)) ?_
  refine cD ?_
  refine g_cond_t rfl rfl ?_
  refine aC ?_
  refine ah [6] ?_
  refine ae ?_
  refine af ?_
  have h7:(i<0∨(A.n:Int)≤i):=by omega
  have hE:A.inE i=7:=if_pos h7
  have hA9:A.setHA i b=A:=by unfold PK.setHA; rw [hE]; exact if_neg (by decide)
  rw [hA9]
  exact ⟨Z,rfl,hZ,(by rw [hE]; rfl),(H0.b7 [0,1,2,3,4,5,6,7])⟩
 iterate 2 refine aN (df H2) xm ?_
 refine aN (df H2) xn ?_
 refine aN (df H2) (xf 0) ?_
 refine aN (df H2) (xl H0 0) ?_
 refine aN (df H2) (ai rfl rfl rfl nm) ?_
 refine w_v (pf (df H2)) ?_
 refine cD ?_
 by_cases H8:((A.n:Int):Int)≤i
 ·
  refine bm H8 ?_
  refine aC ?_
  refine ah [6] ?_
  refine ae ?_
  refine QC [.tmp 6] [.int .i64 7] ?_
  have h7:(i<0∨(A.n:Int)≤i):=by omega
  have hE:A.inE i=7:=if_pos h7
  have hA9:A.setHA i b=A:=by unfold PK.setHA; rw [hE]; exact if_neg (by decide)
  rw [hA9]
  exact ⟨Z,rfl,hZ,(by rw [hE]; rfl),((S.big (L:=[_,_,_,_,_,_,_]) (H0.tk [0,1,2,3,4,5,6,7])).tk [0,1])⟩
 refine g_cond_f rfl (decide_eq_false H8) ?_
 refine aQ ?_
 have H7:S w [(ZI Z A),aB w (aT [(ZI Z A)])]:=S.big (L:=[_,_,_,_,_,_,_]) (H0.tk [0,1,2,3,4,5,6,7])
 refine l_of (bR (bh rfl) (aP rfl rfl MD) (Bv Z A j hZ hI i (by omega) _ (H7.takes [0] (by decide))) ?_)
 rintro _ H6 ⟨ep3,ec4,H3,H4,rfl,H9⟩
 replace H9:S H6 [(ZI ({ Z with ep:=ep3,ec:=ec4,ap:=H3,ac:=H4 }:ZP) ({ A with here:=(A.forget i).here,asked:=(A.forget i).asked }:PK)),aB w (aT [(ZI Z A)])]:=H7.absorbI (new:=[(ZI ({ Z with ep:=ep3,ec:=ec4,ap:=H3,ac:=H4 }:ZP) ({ A with here:=(A.forget i).here,asked:=(A.forget i).asked }:PK))]) [0] H9
 have h0:S H6 [Ob Z.g (.cells #[.int .i64 ((A.n:Int)),.int .i64 ((A.pz:Int)),.int .i64 ((A.la:Int)),.string (A.seed),.bool A.ino,.slice Z.hp A.had.length Z.hc,.slice Z.wp A.wish.length Z.wc,.slice ep3 (((A.forget i).here).length) ec4,.slice H3 (((A.forget i).asked).length) H4,.slice Z.pp Z.rs.length Z.pc] 97 (0,0)),Rw 4 1 Z.hp A.had.length Z.hc (fl cG A.had),Rw 40 2 Z.wp A.wish.length Z.wc (fl jC A.wish),Rw 44 3 ep3 (((A.forget i).here).length) ec4 (fl aO ((A.forget i).here)),Rw 150 4 H3 (((A.forget i).asked).length) H4 (fl askL ((A.forget i).asked)),Rw 125 6 Z.pp Z.rs.length Z.pc (fl mQ Z.rs),(bM gW Z.rs),aB w (aT [(ZI Z A)])]:=S.unbig (L:=[_,_,_,_,_,_,_]) (H9.takes [0,1] (by decide))
 refine wm rfl rfl ?_
 refine cD ?_
 refine sG [(0,.pointer (some ⟨Z.g,0,none⟩)),(1,.int .i64 i),(2,.bool b)] ⟨rfl,rfl,rfl,trivial⟩ ?_
 refine iF ?_
 refine a_ ?_
 refine w_v (v:=.pointer ((Z.hp).map fun q=>q.add (((i).toNat) * 1))) (Ch ((i).toNat) (h0.rwReads (k:=1) rfl) rfl rfl rfl Tryz.underlying38 vv (by omega)) ?_
 refine l_of (mH (j:=((i).toNat)) cP b h0 1 (bh rfl) rfl rfl rfl rfl rfl rfl vv (by omega) ?_)
 intro H5 h2
 have h1:S H5 [Ob Z.g (.cells #[vI A.n,vI A.pz,vI A.la,.string (A.seed),.bool A.ino,.slice Z.hp ((A.had.set (i).toNat b).length) Z.hc,.slice Z.wp A.wish.length Z.wc,.slice ep3 (((A.forget i).here).length) ec4,.slice H3 (((A.forget i).asked).length) H4,.slice Z.pp Z.rs.length Z.pc] 97 (0,0)),Rw 4 1 Z.hp ((A.had.set (i).toNat b).length) Z.hc (fl cG (A.had.set (i).toNat b)),Z2 Z A,Rw 44 3 ep3 (((A.forget i).here).length) ec4 (fl aO ((A.forget i).here)),Rw 150 4 H3 (((A.forget i).asked).length) H4 (fl askL ((A.forget i).asked)),Z5 Z,bM gW Z.rs,aB w (aT [(ZI Z A)])]:=by rw [show (A.had.set (i).toNat b).length=A.had.length from List.length_set]; exact h2
 refine aQ ?_
 refine af ?_
 have h7:¬ (i<0∨(A.n:Int)≤i):=by omega
 have hE:A.inE i=0:=if_neg h7
 have hA9:A.setHA i b=A.putA i b:=if_pos hE
 rw [hA9,hE]
 exact ⟨({ Z with ep:=ep3,ec:=ec4,ap:=H3,ac:=H4 }:ZP),rfl,hZ,rfl,(h1.b7 [0,1,2,3,4,5,6,7])⟩
theorem Qo (Z:ZP) (A:PK) (j:Nat) (hZ:fU Z A) (hI:bQ j A) (k:Int) (c:aV) (hj:j≤100000)  (w:World) (HS:S w [(ZI Z A)]):Calls Tryz.prog 80 #[vP Z.g,vI k,.agg #[vI c.pc,vI c.bg,vI c.ln]] w fun e w'=>∃ (Y:ZP),Y.g=Z.g∧fU Y (A.rejA k c)∧e=.returned (vI (A.rejE k c))∧S w' ([(ZI Y (A.rejA k c))]++[aB w (aT [(ZI Z A)])]):=by
 have H0:=HS.bu
 have h8:=hI.a8
 refine en Tryz.func80 ?_
 refine ah [0,1,2] ?_
 refine iF ?_
 refine l_of (fq H0 ?_)
 intro g1 x7 H3
 refine dz ?_
 by_cases H6:(c.pc:Int)<0
 ·
  refine bm H6 ?_
  refine aQ ?_
  refine af ?_
  have hE:A.rejE k c=7:=if_pos H6
  have hA9:A.rejA k c=A:=by unfold PK.rejA; rw [hE]; exact if_neg (by decide)
  rw [hA9]
  exact ⟨Z,rfl,hZ,(by rw [hE]; rfl),(H3.b7 [1,2,3,4,5,6,7,8])⟩
 refine br H6 ?_
 refine dz ?_
 refine l_of (fZ H3 [1,2,3,4,5,6,7,0,8] (vQ Z A j hZ hI k c.pc (by omega) _) ?_)
 intro x6 H8
 refine aE ?_
 refine bP (v:=.bool (!decide (((A.boE k c.pc):Int)=0))) (hb:=eh) ?_
 refine cD ?_
 by_cases H5:((A.boE k c.pc):Int)=0
 ·
  refine kw H5 ?_
  refine ae ?_
  refine ah [0,1,5] ?_
  refine aE ?_
  refine w_v (fS H8 7) ?_
  refine l_of (fZ H8 [0,1,2,3,4,5,6,7,8] (EK Z A j hZ hI c _) ?_)
  intro x0 g4
  refine w_v (cj (b:=(decide (A.isB c))) rfl rfl) ?_
  refine ae ?_
  rcases ef ((decide (A.isB c))) with H2 | H2
  ·
   refine g_cond_f rfl (aa H2) ?_
   refine g_seq ?_
   refine g_aM [] [7] [] g4 (fun g9 g3=>?_)
   have h1:=g3.tk [7]
   refine aU 0 h1 ?_
   refine aU 1 h1 ?_
   refine bT 3 rfl h1 (fun _ H=>fS H 0) ?_
   refine bG (i:=2) ?_
   have g2:=g3.b7 [0,1,2,3,4,5,6,7,8]
   refine aG (qP Z A j hZ hI k (by omega) _ (g2.tk [0])) ?_
   rintro _ g8 ⟨H9,h2,rfl,h7⟩
   replace h7:=g2.aI2 [0] h7
   have hmlpa17:=iK A.asked k
   have hal9:=hI.al
   have h6:=h7.ub [1,0,2,3]
   refine bW ?_
   refine bF (h6.tk [8]) ?_
   refine bG (i:=4) ?_
   refine cz h6 (zB (bO A.asked k) H9 ((bO A.asked k).length) h2 c (by omega) _ (h6.rr 7)) ?_
   intro g7 H7
   have h0:=H7.tk [8]
   refine bF h0 ?_
   refine bT (v:=.bool (!((decide (c∈(bO A.asked k)))))) 5 rfl h0 (fun _ _=>cj (b:=(decide (c∈(bO A.asked k)))) rfl rfl) ?_
   refine aU 6 h0 ?_
   refine fP ?_
   refine aR ?_
   rcases ef ((decide (c∈(bO A.asked k)))) with H4 | H4
   ·
    refine g_cond_f rfl (aa H4) ?_
    refine aC ?_
    refine ah [0,1,5] ?_
    refine aC ?_
    refine w_v (fS H7 8) ?_
    refine l_of (fC gX #[vI c.pc,vI c.bg,vI c.ln] H7 ?_)
    intro x2 g6 x5
    have x4:=S.oF cN 1 [c] x5
    have g0:=x4.b7 [1,2,3,4,5,6,7,0,8,9,10]
    refine l_of (aG (wM Z A j hZ hI k ([c]) (some ⟨x2,0,none⟩) 1 1 (by omega) (by omega) _ (g0.tk [0,1])) ?_)
    rintro _ g5 ⟨h3,h4,rfl,h5⟩
    replace h5:=g0.aI2 [0,1] h5
    have x3:=h5.ub [0,1,2,3,4]
    refine bW ?_
    refine aQ ?_
    refine af ?_
    have hnb:¬ A.boE k c.pc ≠ 0:=fun h9=>h9 H5
    have hE:A.rejE k c=0:=by unfold PK.rejE; rw [if_neg H6,if_neg hnb,if_neg (fun h9=>h9 (of_decide_eq_true H2))]; exact if_neg (fun h9=>h9 (gp.2 (gq.1 (of_decide_eq_true H4))))
    have x1:cx A.asked k (fun x=>decide (x∈[c]))=cx A.asked k (fun x=>decide (x=c)):=o0 fun d _=>by simp
    have hA9:A.rejA k c={ A with asked:=cx A.asked k (fun x=>decide (x∈[c])) }:=by rw [x1]; exact if_pos hE
    rw [hA9,hE]
    exact ⟨({ Z with ap:=h3,ac:=h4 }:ZP),rfl,hZ,rfl,(x3.b7 [0,1,2,3,4,5,6,10])⟩
   refine g_cond_t rfl (aa H4) ?_
   refine aC ?_
   refine ah [6] ?_
   refine aC ?_
   refine af ?_
   have hnb:¬ A.boE k c.pc ≠ 0:=fun h9=>h9 H5
   have hE:A.rejE k c=20:=by unfold PK.rejE; rw [if_neg H6,if_neg hnb,if_neg (fun h9=>h9 (of_decide_eq_true H2))]; exact if_pos (fun h9=>of_decide_eq_false H4 (gq.2 (gp.1 h9)))
   have hA9:A.rejA k c=A:=by unfold PK.rejA; rw [hE]; exact if_neg (by decide)
   rw [hA9]
   exact ⟨Z,rfl,hZ,(by rw [hE]; rfl),(H7.b7 [0,1,2,3,4,5,6,9])⟩
  refine g_cond_t rfl (aa H2) ?_
  refine a_ ?_
  refine af ?_
  have hnb:¬ A.boE k c.pc ≠ 0:=fun h9=>h9 H5
  have hE:A.rejE k c=1:=by unfold PK.rejE; rw [if_neg H6,if_neg hnb]; exact if_pos (of_decide_eq_false H2)
  have hA9:A.rejA k c=A:=by unfold PK.rejA; rw [hE]; exact if_neg (by decide)
  rw [hA9]
  exact ⟨Z,rfl,hZ,(by rw [hE]; rfl),(g4.b7 [0,1,2,3,4,5,6,8])⟩
 refine mX H5 ?_
 refine aE ?_
 refine ah [6] ?_
 refine ae ?_
 refine af ?_
 have hE:A.rejE k c=A.boE k c.pc:=by unfold PK.rejE; rw [if_neg H6]; exact if_pos H5
 have hA9:A.rejA k c=A:=by unfold PK.rejA; rw [hE]; exact if_neg H5
 rw [hA9]
 exact ⟨Z,rfl,hZ,(by rw [hE]; rfl),(H8.b7 [0,1,2,3,4,5,6,8])⟩
end Go.Proofs.YthmmfhdpkddniaaGreatDoor
