import Derived.Test.YthmmfhdpkddniaaGreatDoorYc
set_option maxRecDepth 20000
set_option maxHeartbeats 4000000
set_option linter.all false
namespace Go.Proofs.YthmmfhdpkddniaaGreatDoor
open Go.RowKit
theorem RX:aI Tryz.prog 22=true:=by kernel_rfl
theorem RV:aI Tryz.prog 23=true:=by kernel_rfl
theorem RU:aI Tryz.prog 25=true:=by kernel_rfl
theorem RJ:aI Tryz.prog 90=true:=by kernel_rfl
theorem Ia {A:PK} {j:Nat} (h:bQ j A):∀ x∈A.peers.map fV.k,0≤x∧x≤1001:=fun x hx=>by
 obtain ⟨p,hp,rfl⟩:=List.mem_map.1 hx
 have:=h.kr p hp
 omega
theorem Kw {pl:List Int} (h:∀ x∈pl,0≤x∧x≤1001) {i:Nat} {x:Int} (hx:([0,1001]++pl)[i]?=some x):0≤x∧x≤1001:=by
 rcases List.mem_append.1 (List.mem_of_getElem? hx) with h1 | h1
 · simp at h1; omega
 · exact h x h1
theorem Nz {gx gz j:Nat} {X:XP} {Z:ZP} {A:PK} (hX:OX gx X A j) (hZ:OZ gz Z A j) (hj:j≤80000) (nn:Int) (hnn:nn≤1000) (pl:List Int) (hpl:∀ x∈pl,0≤x∧x≤1001) (hpn:pl.length≤100) (pp:Option Addr) (pc:Nat)  (w:World) (HS:S w [(XI X A),(ZI Z A),Rw 3 1 pp pl.length pc (fl cg pl)]):Calls Tryz.prog 31 #[vP gx,vP gz,vI nn,.slice pp pl.length pc] w fun e w'=>e=.returned (.bool true)∧S w' ([(XI X A),(ZI Z A),Rw 3 1 pp pl.length pc (fl cg pl)]++[aB w (aT [(XI X A),(ZI Z A),Rw 3 1 pp pl.length pc (fl cg pl)])]):=by
 have H0:=HS.beginI
 refine en Tryz.func31 ?_
 refine ah [0,1,2,3] ?_
 refine a_ ?_
 refine l_of (aG (QA hX  (by omega) _ (H0.tk [0])) ?_)
 rintro _ b2 ⟨rfl,H2⟩
 replace H2:=H0.aI1 [0] H2
 refine bW ?_
 refine cJ ?_
 refine l_of (aG (Qx hZ  (by omega) _ (H2.tk [1])) ?_)
 rintro _ b1 ⟨rfl,H4⟩
 replace H4:=H2.aI1 [1] H4
 refine bW ?_
 refine bP (v:=.bool (!decide ((fieldS A.had)=(fieldS A.had)))) (hb:=QY) ?_
 refine cJ ?_
 refine aN (nf rfl) xm ?_
 refine l_of (bR (cU rfl rfl rfl rfl (nf rfl)) (aP rfl rfl RV) (IV hX  (by omega) _ (H4.tk [1])) ?_)
 rintro _ b0 ⟨rfl,H6⟩
 replace H6:=H4.aI1 [1] H6
 refine bW ?_
 refine aN (nf rfl) xm ?_
 refine l_of (bR (cU rfl rfl rfl rfl (nf rfl)) (aP rfl rfl RL) (IU hZ  (by omega) _ (H6.tk [1])) ?_)
 rintro _ w9 ⟨rfl,H8⟩
 replace H8:=H6.aI1 [1] H8
 refine bW ?_
 refine aN (v:=.bool (!((A.endB) == (A.endB)))) (nf rfl) (ai rfl rfl rfl (lG Tryz.underlying4 rfl)) ?_
 refine w_v (pf (nf rfl)) ?_
 refine cJ ?_
 refine aN (aa (beq_self_eq_true (A.endB))) xm ?_
 refine l_of (bR (cU rfl rfl rfl rfl (aa (beq_self_eq_true (A.endB)))) (aP rfl rfl RX) (Oh hX  (by omega) _ (H8.tk [1])) ?_)
 rintro _ w8 ⟨rfl,g0⟩
 replace g0:=H8.aI1 [1] g0
 refine bW ?_
 refine aN (aa (beq_self_eq_true (A.endB))) xm ?_
 refine l_of (bR (cU rfl rfl rfl rfl (aa (beq_self_eq_true (A.endB)))) (aP rfl rfl RJ) (Od hZ  (by omega) _ (g0.tk [1])) ?_)
 rintro _ c6 ⟨rfl,g2⟩
 replace g2:=g0.aI1 [1] g2
 refine bW ?_
 refine aN (aa (beq_self_eq_true (A.endB))) (ai rfl rfl rfl eh) ?_
 refine w_v (pf (aa (beq_self_eq_true (A.endB)))) ?_
 refine cD ?_
 refine ah [0,1,2,3,42] ?_
 refine kw rfl ?_
 refine cp ?_
 refine cQ (ι:=Int) (fun iv=>[(0,vP gx),(1,vP gz),(2,vI nn),(3,.slice pp pl.length pc),(9,vI iv)]) (fun iv wx=>(-1≤iv)∧S wx [(XI X A),(ZI Z A),Rw 3 1 pp pl.length pc (fl cg pl),aB w (aT [(XI X A),(ZI Z A),Rw 3 1 pp pl.length pc (fl cg pl)])]) (fun iv=>(nn+1 - iv).toNat) ((-1)) ⟨(by omega),(g2.tk [1,0,2,3])⟩ ?_
 rintro iv x9 ⟨hiv,g1⟩
 refine ah [0,1,2,3,9] ?_
 refine a_ ?_
 by_cases h0:(iv:Int)≤nn
 ·
  refine bm h0 ?_
  refine cp ?_
  refine l_of (aG (Le hX iv (by omega) _ (g1.tk [0])) ?_)
  rintro _ x8 ⟨rfl,h9⟩
  replace h9:=g1.aI1 [0] h9
  refine bW ?_
  refine eG ?_
  refine l_of (aG (Ld hZ iv (by omega) _ (h9.tk [1])) ?_)
  rintro _ x7 ⟨rfl,h8⟩
  replace h8:=h9.aI1 [1] h8
  refine bW ?_
  refine a_ ?_
  refine ah [0,1,2,3,9,10,11,12,13] ?_
  refine aC ?_
  refine l_of (aG (OM hX iv (by omega) _ (h8.tk [1])) ?_)
  rintro _ x6 ⟨pv22,cv23,rfl,h7⟩
  replace h7:=h8.aI2 [1] h7
  have hlr24:(A.freeV iv).length≤400 * j+400:=zi hX.inv _
  refine bW ?_
  refine eG ?_
  refine l_of (aG (OI hZ iv (by omega) _ (h7.tk [2])) ?_)
  rintro _ x5 ⟨pv27,cv28,rfl,h2⟩
  replace h2:=h7.aI2 [2] h2
  have hlr29:(A.freeV iv).length≤400 * j+400:=zi hZ.inv _
  refine bW ?_
  refine a_ ?_
  refine ah [0,1,2,3,9,10,11,12,13,14,15,16,17] ?_
  refine aC ?_
  refine bP (v:=.bool (!decide (((A.cntV iv):Int)=(A.cntV iv)))) (hb:=eh) ?_
  refine cJ ?_
  iterate 2 refine aN (nf rfl) xm ?_
  refine aN (nf rfl) (ai rfl rfl rfl eh) ?_
  refine w_v (pf (nf rfl)) ?_
  refine cJ ?_
  iterate 2 refine aN (nf rfl) xm ?_
  refine l_of (bZ h2 (cU rfl rfl rfl rfl (nf rfl)) (aP rfl rfl MV) (lz (A.freeV iv) (by omega) pv22 cv23 pv27 cv28 _ (h2.rr 2) (h2.rr 0)) rfl rfl ?_)
  intro x4 c9
  refine aN (nf rfl) (cj (b:=true) rfl rfl) ?_
  refine w_v (pf (nf rfl)) ?_
  refine cJ ?_
  iterate 2 refine aN rfl xm ?_
  refine aN rfl (ai rfl rfl rfl eh) ?_
  refine w_v (pf rfl) ?_
  refine cD ?_
  refine ah [0,1,2,3,9,90] ?_
  refine kw rfl ?_
  refine aQ ?_
  refine bP (v:=vI (iv+1)) (hb:=(dY (jD (by omega)))) ?_
  refine ae ?_
  refine bD (i:=(iv)) ((iv+1)) ⟨(by omega),(c9.tk [3,1,4,5])⟩
 refine br h0 ?_
 refine cp ?_
 refine l_of (fC Av #[vI 0,vI 1001] g1 ?_)
 intro b6 x3 c8
 refine cJ ?_
 have h6:=S.oF bE 2 [0,1001] c8
 have hln40a:=(h6.rr 0).lenL bE
 have hln40b:=(h6.rr 3).lenL bE
 have hln40:([0,1001]++pl).length=2+pl.length:=by simp only [List.length_append,List.length_cons,List.length_nil] <;> omega
 refine l_of (iO (l:=[0,1001]) (l2:=pl) bE h6 0 (bh rfl) rfl rfl rfl rfl rfl rfl Tryz.underlying59 oe rfl (by decide) (h6.rr 3) (by omega) ?_)
 intro g3 g4 x2 g5
 obtain ⟨ks,hks⟩:∃ ks:List Int,ks=[0,1001]++pl:=⟨_,rfl⟩
 rw [← hks] at g5 ⊢
 have hksl:ks.length=pl.length+2:=by rw [hks]; simp only [List.length_append,List.length_cons,List.length_nil]; omega
 refine aE ?_
 refine cQ (ι:=Nat) (fun iq=>[(0,vP gx),(1,vP gz),(93,.slice g3 ks.length g4),(94,vI ks.length),(95,vI iq)]) (fun iq wx=>(iq≤ks.length)∧S wx [Rw 3 1 g3 ks.length g4 (fl cg ks),(XI X A),(ZI Z A),Rw 3 1 pp pl.length pc (fl cg pl),aB w (aT [(XI X A),(ZI Z A),Rw 3 1 pp pl.length pc (fl cg pl)])]) (fun iq=>ks.length - iq) (0) ⟨Nat.zero_le _,(g5.tk [0,1,2,3,4])⟩ ?_
 rintro iq x1 ⟨hiq,H5⟩
 refine ah [0,1,93,94,95] ?_
 refine aC ?_
 refine g_seq ?_
 by_cases H9:((iq:Int):Int)<(ks.length:Int)
 ·
  refine bm H9 ?_
  refine aQ ?_
  refine w_v (iH iq (H5.rr 0)) ?_
  obtain ⟨H3,H7⟩:=(H5.rr 0).exL bE iq
  have hxo9:=Kw hpl (by rw [← hks]; exact H7)
  refine w_v (nX iq (H5.rr 0) (bE.flAt1 H7 rfl)) ?_
  refine aQ ?_
  refine l_of (aG (KD hX H3 (by omega) _ (H5.tk [1])) ?_)
  rintro _ x0 ⟨rfl,h5⟩
  replace h5:=H5.aI1 [1] h5
  refine bW ?_
  refine eG ?_
  refine l_of (aG (KB hZ H3 (by omega) _ (h5.tk [2])) ?_)
  rintro _ g9 ⟨rfl,h4⟩
  replace h4:=h5.aI1 [2] h4
  refine bW ?_
  refine a_ ?_
  refine ah [0,1,19,20,21,22,23,93,94,95] ?_
  refine aC ?_
  refine bP (v:=.bool (!(((A.intB H3)) == ((A.intB H3))))) (hb:=(lG Tryz.underlying4 rfl)) ?_
  refine cJ ?_
  iterate 2 refine aN (aa (beq_self_eq_true ((A.intB H3)))) xm ?_
  refine aN (aa (beq_self_eq_true ((A.intB H3)))) (ai rfl rfl rfl eh) ?_
  refine w_v (cH rfl rfl (aa (beq_self_eq_true ((A.intB H3)))) rfl) ?_
  refine cJ ?_
  iterate 2 refine aN (nf rfl) xm ?_
  refine l_of (bR (cU rfl rfl rfl rfl (nf rfl)) (aP rfl rfl RU) (LV hX H3 (by omega) (by first | assumption | (unfold cO; omega)) _ (h4.tk [1])) ?_)
  rintro _ g8 ⟨pv51,cv52,rfl,h3⟩
  replace h3:=h4.aI2 [1] h3
  have hlr53:(bO A.asked H3).length≤400 * j+400:=nO hX.inv _
  refine bW ?_
  iterate 2 refine aN (nf rfl) xm ?_
  refine l_of (bR (cU rfl rfl rfl rfl (nf rfl)) (aP rfl rfl RI) (EP hZ H3 (by omega) _ (h3.tk [2])) ?_)
  rintro _ g7 ⟨pv56,cv57,rfl,h1⟩
  replace h1:=h3.aI2 [2] h1
  have hlr58:(bO A.asked H3).length≤400 * j+400:=nO hZ.inv _
  refine bW ?_
  refine l_of (bZ h1 (cU rfl rfl rfl rfl (nf rfl)) (aP rfl rfl MV) (lz (bO A.asked H3) (by omega) pv51 cv52 pv56 cv57 _ (h1.rr 2) (h1.rr 0)) rfl rfl ?_)
  intro g6 c7
  refine aN (nf rfl) (cj (b:=true) rfl rfl) ?_
  refine w_v (pf (nf rfl)) ?_
  refine cD ?_
  refine ah [0,1,93,94,95,128] ?_
  refine g_cond_f rfl rfl ?_
  refine aE ?_
  refine gI iq ?_
  refine ae ?_
  refine bD (i:=(iq)) ((iq+1)) ⟨by omega,(c7.tk [4,3,1,5,6])⟩
 refine br H9 ?_
 refine eG ?_
 refine af ?_
 exact ⟨rfl,H5.tk [1,2,3,4]⟩
theorem Jn:((((fa 2 32 32 (⟨#[115]⟩:ByteArray) false).joinA 1).hasFA 1 (⟨#[192]⟩:ByteArray)).chokeA 1 false false)=(⟨2,32,32,(⟨#[115]⟩:ByteArray),false,[false,false],[⟨4,0⟩,⟨4,0⟩],[],[],[⟨1,[true,true],[false,false],[false,false],true,false⟩]⟩:PK):=by rfl
theorem LS:(fa 2 32 32 (⟨#[115]⟩:ByteArray) false).joinE 1=0∧((fa 2 32 32 (⟨#[115]⟩:ByteArray) false).joinA 1).hasFE 1 (⟨#[192]⟩:ByteArray)=0∧(((fa 2 32 32 (⟨#[115]⟩:ByteArray) false).joinA 1).hasFA 1 (⟨#[192]⟩:ByteArray)).peE 1=0∧((((fa 2 32 32 (⟨#[115]⟩:ByteArray) false).joinA 1).hasFA 1 (⟨#[192]⟩:ByteArray)).chokeA 1 false false).lookE 1 3=0:=⟨by rfl,by rfl,by rfl,by rfl⟩
theorem Dv:∃ i j:Int,i ≠ j∧((((fa 2 32 32 (⟨#[115]⟩:ByteArray) false).joinA 1).hasFA 1 (⟨#[192]⟩:ByteArray)).chokeA 1 false false).lookV 1 3=[⟨i,0,16⟩,⟨i,16,16⟩,⟨j,0,16⟩]:=by
 rw [Jn]
 generalize hA:(⟨2,32,32,(⟨#[115]⟩:ByteArray),false,[false,false],[⟨4,0⟩,⟨4,0⟩],[],[],[⟨1,[true,true],[false,false],[false,false],true,false⟩]⟩:PK)=A
 have hp:(A.cand ⟨1,[true,true],[false,false],[false,false],true,false⟩).Perm [0,1]:=by
   have h1:A.candL ⟨1,[true,true],[false,false],[false,false],true,false⟩=[0,1]:=by subst hA; rfl
   rw [← h1]
   exact qn _ _ _
 have hf:∀ i:Int,i=0∨i=1→A.freeL i=[⟨i,0,16⟩,⟨i,16,16⟩]:=fun i hi=>by
   subst hA
   rcases hi with rfl | rfl <;> rfl
 have hl:A.lookV 1 3=((A.cand ⟨1,[true,true],[false,false],[false,false],true,false⟩).flatMap A.freeL).take 3:=by
   have he:A.endB=false:=by subst hA; rfl
   have h1:A.lookE 1 3=0:=by subst hA; rfl
   have h2:fD A.peers 1=some ⟨1,[true,true],[false,false],[false,false],true,false⟩:=by subst hA; rfl
   unfold PK.lookV
   rw [if_pos h1,h2]
   show A.lookP _ 3=_
   unfold PK.lookP
   rw [if_neg (by rw [he]; decide)]
   rfl
 rw [hl]
 have h2:=hp.length_eq
 match hc:A.cand ⟨1,[true,true],[false,false],[false,false],true,false⟩,h2 with
 | [a,b],_ =>
   rw [hc] at hp
   have ha:a=0∨a=1:=by have:=hp.mem_iff.1 (List.mem_cons_self (a:=a) (l:=[b])); simpa using this
   have hb:b=0∨b=1:=by have:=hp.mem_iff.1 (List.mem_cons_of_mem a (List.mem_cons_self (a:=b) (l:=[]))); simpa using this
   have hab:a ≠ b:=by
     have h3:[a,b].Nodup:=hp.nodup_iff.2 (by decide)
     intro e
     subst e
     simp at h3
   exact ⟨a,b,hab,by rw [List.flatMap_cons,List.flatMap_cons,hf a ha,hf b hb]; rfl⟩
theorem uf  (w:World):Calls Tryz.prog 9 #[] w fun e w'=>e=.returned (.bool true)∧S w' [aB w no]:=by
 have H0:=S.old w
 refine en Tryz.func9 ?_
 refine ah [] ?_
 refine aE ?_
 refine l_of (aG (G4 2 32 32 (⟨#[115]⟩:ByteArray) false (by decide) _) ?_)
 rintro _ g9 ⟨X,hX0,rfl,H2⟩
 replace H2:=H0.ab1 H2
 have hX:OX X.g X (fa 2 32 32 (⟨#[115]⟩:ByteArray) false) 0:=⟨rfl,hX0,bQ.new (by decide)⟩
 obtain ⟨hE1,hE2,hE3,hE4⟩:=LS
 obtain ⟨ia,ja,hija,g1⟩:=Dv
 have hlen9:(((((fa 2 32 32 (⟨#[115]⟩:ByteArray) false).joinA 1).hasFA 1 (⟨#[192]⟩:ByteArray)).chokeA 1 false false).lookV 1 3).length=3:=by rw [g1]; rfl
 refine bW ?_
 refine eG ?_
 refine bP (v:=.bool (!decide ((0:Int)=0))) (hb:=eh) ?_
 refine cJ ?_
 refine aN (nf rfl) xm ?_
 refine l_of (bR (cU rfl rfl rfl rfl (nf rfl)) (aP rfl rfl Se) (G9 hX 1 (by omega) _ (H2.tk [0])) ?_)
 rintro _ g8 ⟨Y5,hY6,rfl,H4⟩
 replace H4:=H2.aI1 [0] H4
 refine bW ?_
 refine aN (nf rfl) (ai rfl rfl rfl eh) ?_
 refine w_v (pf (nf rfl)) ?_
 refine cJ ?_
 by_cases h7:(((fa 2 32 32 (⟨#[115]⟩:ByteArray) false).joinE 1):Int)=0
 ·
  refine aN (nf h7) xm ?_
  refine l_of (bR (cU rfl rfl rfl rfl (nf h7)) (aP rfl rfl R_) (Hf hY6 1 (⟨#[192]⟩:ByteArray) (by omega) _ (H4.tk [0])) ?_)
  rintro _ g7 ⟨Y10,hY11,rfl,H9⟩
  replace H9:=H4.aI1 [0] H9
  refine bW ?_
  refine aN (nf h7) (ai rfl rfl rfl eh) ?_
  refine w_v (pf (nf h7)) ?_
  refine cD ?_
  refine ah [1,21] ?_
  by_cases g0:((((fa 2 32 32 (⟨#[115]⟩:ByteArray) false).joinA 1).hasFE 1 (⟨#[192]⟩:ByteArray)):Int)=0
  ·
   refine kw g0 ?_
   refine aQ ?_
   refine l_of (aG (EG hY11 1 false false (by omega) _ (H9.tk [0])) ?_)
   rintro _ g6 ⟨Y15,hY16,pv17,cv18,rfl,g2⟩
   replace g2:=H9.aI2 [0] g2
   have hlr19:((((fa 2 32 32 (⟨#[115]⟩:ByteArray) false).joinA 1).hasFA 1 (⟨#[192]⟩:ByteArray)).chokeL 1 false false).length≤400 * ((0+1)+1)+400:=s8 hY11.inv _ _ _
   refine bW ?_
   refine dz ?_
   refine bP (v:=.bool (!decide ((((((fa 2 32 32 (⟨#[115]⟩:ByteArray) false).joinA 1).hasFA 1 (⟨#[192]⟩:ByteArray)).peE 1):Int)=0))) (hb:=eh) ?_
   refine cD ?_
   by_cases h8:(((((fa 2 32 32 (⟨#[115]⟩:ByteArray) false).joinA 1).hasFA 1 (⟨#[192]⟩:ByteArray)).peE 1):Int)=0
   ·
    refine kw h8 ?_
    refine aE ?_
    refine l_of (aG (G3 hY16 1 3 (by omega) (by first | assumption | (unfold cO; omega)) _ (g2.tk [1])) ?_)
    rintro _ g5 ⟨Y23,hY24,pv25,cv26,rfl,g3⟩
    replace g3:=g2.aI2 [1] g3
    have hlr27:(((((fa 2 32 32 (⟨#[115]⟩:ByteArray) false).joinA 1).hasFA 1 (⟨#[192]⟩:ByteArray)).chokeA 1 false false).lookV 1 3).length≤400 * (((0+1)+1)+1)+400:=qV hY16.inv _ _
    refine bW ?_
    refine a_ ?_
    refine ah [2,5] ?_
    refine g_seq ?_
    refine g_aS [] [] g3 (fun g4 H3=>?_)
    refine aU 0 H3 ?_
    refine bT 1 rfl H3 (fun _ _=>ai rfl rfl rfl f7) ?_
    refine aU 2 H3 ?_
    by_cases h0:((((((fa 2 32 32 (⟨#[115]⟩:ByteArray) false).joinA 1).hasFA 1 (⟨#[192]⟩:ByteArray)).chokeA 1 false false).lookE 1 3):Int)=0
    ·
     refine da 3 rfl (dt h0) H3 (fun _ _=>xm) ?_
     refine da (v:=vI (((((((fa 2 32 32 (⟨#[115]⟩:ByteArray) false).joinA 1).hasFA 1 (⟨#[192]⟩:ByteArray)).chokeA 1 false false).lookV 1 3).length:Int))) 4 rfl (dt h0) H3 (fun _ _=>Aw) ?_
     refine da 5 rfl (dt h0) H3 (fun _ _=>ai rfl rfl rfl f7) ?_
     refine bT 6 rfl H3 (fun _ _=>pt (dt h0)) ?_
     refine aU 7 H3 ?_
     by_cases H6:(((((((fa 2 32 32 (⟨#[115]⟩:ByteArray) false).joinA 1).hasFA 1 (⟨#[192]⟩:ByteArray)).chokeA 1 false false).lookV 1 3).length:Int):Int)=3
     ·
      refine da 8 rfl (dt H6) H3 (fun _ _=>xm) ?_
      refine da (v:=.pointer ((pv25).map fun q=>q.add (0 * 3))) 9 rfl (dt H6) H3 (fun _ _=>eZ 0 ((H3.rr 0).some (by omega))) ?_
      refine da (v:=.pointer ((pv25).map fun q=>q.add (0 * 3+0))) 10 rfl (dt H6) H3 (fun _ _=>aH (bJ (m:=0 * 3) ((H3.rr 0).some (by omega)) rfl rfl wC) rfl) ?_
      obtain ⟨h2,h6⟩:=(H3.rr 0).exL cN 0
      have ex32:h2=⟨ia,0,16⟩:=by have h9:=h6; rw [g1] at h9; exact (Option.some.inj h9).symm
      have ex32p:h2.pc=ia:=by rw [ex32]
      have ex32b:h2.bg=0:=by rw [ex32]
      refine da (v:=vI h2.pc) 11 rfl (dt H6) H3 (fun _ H=>eX (i:=0) (j:=0) cN (H.rr 0) h6 rfl rfl Tryz.underlying3 rfl rfl) ?_
      refine da 12 rfl (dt H6) H3 (fun _ _=>xm) ?_
      refine da (v:=.pointer ((pv25).map fun q=>q.add (1 * 3))) 13 rfl (dt H6) H3 (fun _ _=>eZ 1 ((H3.rr 0).some (by omega))) ?_
      refine da (v:=.pointer ((pv25).map fun q=>q.add (1 * 3+0))) 14 rfl (dt H6) H3 (fun _ _=>aH (bJ (m:=1 * 3) ((H3.rr 0).some (by omega)) rfl rfl wC) rfl) ?_
      obtain ⟨h3,h5⟩:=(H3.rr 0).exL cN 1
      have ex33:h3=⟨ia,16,16⟩:=by have h9:=h5; rw [g1] at h9; exact (Option.some.inj h9).symm
      have ex33p:h3.pc=ia:=by rw [ex33]
      have ex33b:h3.bg=16:=by rw [ex33]
      refine da (v:=vI h3.pc) 15 rfl (dt H6) H3 (fun _ H=>eX (i:=0) (j:=1) cN (H.rr 0) h5 rfl rfl Tryz.underlying3 rfl rfl) ?_
      refine da 16 rfl (dt H6) H3 (fun _ _=>ai rfl rfl rfl f7) ?_
      refine bT 17 rfl H3 (fun _ _=>pt (dt H6)) ?_
      refine aU 18 H3 ?_
      by_cases H5:(h2.pc:Int)=h3.pc
      ·
       refine da 19 rfl (dt H5) H3 (fun _ _=>xm) ?_
       refine da (v:=.pointer ((pv25).map fun q=>q.add (2 * 3))) 20 rfl (dt H5) H3 (fun _ _=>eZ 2 ((H3.rr 0).some (by omega))) ?_
       refine da (v:=.pointer ((pv25).map fun q=>q.add (2 * 3+0))) 21 rfl (dt H5) H3 (fun _ _=>aH (bJ (m:=2 * 3) ((H3.rr 0).some (by omega)) rfl rfl wC) rfl) ?_
       obtain ⟨h1,h4⟩:=(H3.rr 0).exL cN 2
       have ex35:h1=⟨ja,0,16⟩:=by have h9:=h4; rw [g1] at h9; exact (Option.some.inj h9).symm
       have ex35p:h1.pc=ja:=by rw [ex35]
       have ex35b:h1.bg=0:=by rw [ex35]
       refine da (v:=vI h1.pc) 22 rfl (dt H5) H3 (fun _ H=>eX (i:=0) (j:=2) cN (H.rr 0) h4 rfl rfl Tryz.underlying3 rfl rfl) ?_
       refine da 23 rfl (dt H5) H3 (fun _ _=>xm) ?_
       refine da (v:=.pointer ((pv25).map fun q=>q.add (0 * 3))) 24 rfl (dt H5) H3 (fun _ _=>eZ 0 ((H3.rr 0).some (by omega))) ?_
       refine da (v:=.pointer ((pv25).map fun q=>q.add (0 * 3+0))) 25 rfl (dt H5) H3 (fun _ _=>aH (bJ (m:=0 * 3) ((H3.rr 0).some (by omega)) rfl rfl wC) rfl) ?_
       refine da (v:=vI h2.pc) 26 rfl (dt H5) H3 (fun _ H=>eX (i:=0) (j:=0) cN (H.rr 0) h6 rfl rfl Tryz.underlying3 rfl rfl) ?_
       refine da (v:=.bool (!decide ((h1.pc:Int)=h2.pc))) 27 rfl (dt H5) H3 (fun _ _=>ai rfl rfl rfl eh) ?_
       refine bT 28 rfl H3 (fun _ _=>pt (dt H5)) ?_
       refine aU 29 H3 ?_
       by_cases H8:(h1.pc:Int)=h2.pc
       ·
        refine aZ 30 rfl (nf H8) H3 ?_
        refine aZ 31 rfl (nf H8) H3 ?_
        refine aZ 32 rfl (nf H8) H3 ?_
        refine aZ 33 rfl (nf H8) H3 ?_
        refine aZ 34 rfl (nf H8) H3 ?_
        refine bT 35 rfl H3 (fun _ _=>pf (nf H8)) ?_
        refine aU 36 H3 ?_
        refine aZ 37 rfl rfl H3 ?_
        refine aZ 38 rfl rfl H3 ?_
        refine aZ 39 rfl rfl H3 ?_
        refine aZ 40 rfl rfl H3 ?_
        refine aZ 41 rfl rfl H3 ?_
        refine bT 42 rfl H3 (fun _ _=>pf rfl) ?_
        refine bG (i:=43) ?_
        refine iW xa ?_
        refine bF H3 ?_
        refine fP ?_
        refine aR ?_
        refine ah [0] ?_
        refine aR ?_
        refine af ?_
        exfalso
        omega
       refine da 30 rfl (nt H8) H3 (fun _ _=>xm) ?_
       refine da (v:=.pointer ((pv25).map fun q=>q.add (2 * 3))) 31 rfl (nt H8) H3 (fun _ _=>eZ 2 ((H3.rr 0).some (by omega))) ?_
       refine da (v:=.pointer ((pv25).map fun q=>q.add (2 * 3+1))) 32 rfl (nt H8) H3 (fun _ _=>aH (bJ (m:=2 * 3) ((H3.rr 0).some (by omega)) rfl rfl Hj) rfl) ?_
       refine da (v:=vI h1.bg) 33 rfl (nt H8) H3 (fun _ H=>eX (i:=1) (j:=2) cN (H.rr 0) h4 rfl rfl Tryz.underlying3 rfl rfl) ?_
       refine da 34 rfl (nt H8) H3 (fun _ _=>ai rfl rfl rfl f7) ?_
       refine bT 35 rfl H3 (fun _ _=>pt (nt H8)) ?_
       refine aU 36 H3 ?_
       by_cases H7:(h1.bg:Int)=0
       ·
        refine da 37 rfl (dt H7) H3 (fun _ _=>xm) ?_
        refine da (v:=.pointer ((pv25).map fun q=>q.add (1 * 3))) 38 rfl (dt H7) H3 (fun _ _=>eZ 1 ((H3.rr 0).some (by omega))) ?_
        refine da (v:=.pointer ((pv25).map fun q=>q.add (1 * 3+1))) 39 rfl (dt H7) H3 (fun _ _=>aH (bJ (m:=1 * 3) ((H3.rr 0).some (by omega)) rfl rfl Hj) rfl) ?_
        refine da (v:=vI h3.bg) 40 rfl (dt H7) H3 (fun _ H=>eX (i:=1) (j:=1) cN (H.rr 0) h5 rfl rfl Tryz.underlying3 rfl rfl) ?_
        refine da 41 rfl (dt H7) H3 (fun _ _=>ai rfl rfl rfl f7) ?_
        refine bT 42 rfl H3 (fun _ _=>pt (dt H7)) ?_
        refine bG (i:=43) ?_
        refine iW xa ?_
        refine bF H3 ?_
        refine fP ?_
        refine aR ?_
        refine ah [0] ?_
        refine aR ?_
        refine af ?_
        have hV:(decide ((h3.bg:Int)=16))=true:=by first | rfl | exact dt (by omega)
        rw [hV]
        exact ⟨rfl,H3.tk [3]⟩
       refine aZ 37 rfl (df H7) H3 ?_
       refine aZ 38 rfl (df H7) H3 ?_
       refine aZ 39 rfl (df H7) H3 ?_
       refine aZ 40 rfl (df H7) H3 ?_
       refine aZ 41 rfl (df H7) H3 ?_
       refine bT 42 rfl H3 (fun _ _=>pf (df H7)) ?_
       refine bG (i:=43) ?_
       refine iW xa ?_
       refine bF H3 ?_
       refine fP ?_
       refine aR ?_
       refine ah [0] ?_
       refine aR ?_
       refine af ?_
       exfalso
       omega
      refine aZ 19 rfl (df H5) H3 ?_
      refine aZ 20 rfl (df H5) H3 ?_
      refine aZ 21 rfl (df H5) H3 ?_
      refine aZ 22 rfl (df H5) H3 ?_
      refine aZ 23 rfl (df H5) H3 ?_
      refine aZ 24 rfl (df H5) H3 ?_
      refine aZ 25 rfl (df H5) H3 ?_
      refine aZ 26 rfl (df H5) H3 ?_
      refine aZ 27 rfl (df H5) H3 ?_
      refine bT 28 rfl H3 (fun _ _=>pf (df H5)) ?_
      refine aU 29 H3 ?_
      refine aZ 30 rfl rfl H3 ?_
      refine aZ 31 rfl rfl H3 ?_
      refine aZ 32 rfl rfl H3 ?_
      refine aZ 33 rfl rfl H3 ?_
      refine aZ 34 rfl rfl H3 ?_
      refine bT 35 rfl H3 (fun _ _=>pf rfl) ?_
      refine aU 36 H3 ?_
      refine aZ 37 rfl rfl H3 ?_
      refine aZ 38 rfl rfl H3 ?_
      refine aZ 39 rfl rfl H3 ?_
      refine aZ 40 rfl rfl H3 ?_
      refine aZ 41 rfl rfl H3 ?_
      refine bT 42 rfl H3 (fun _ _=>pf rfl) ?_
      refine bG (i:=43) ?_
      refine iW xa ?_
      refine bF H3 ?_
      refine fP ?_
      refine aR ?_
      refine ah [0] ?_
      refine aR ?_
      refine af ?_
      exfalso
      omega
     refine aZ 8 rfl (df H6) H3 ?_
     refine aZ 9 rfl (df H6) H3 ?_
     refine aZ 10 rfl (df H6) H3 ?_
     refine aZ 11 rfl (df H6) H3 ?_
     refine aZ 12 rfl (df H6) H3 ?_
     refine aZ 13 rfl (df H6) H3 ?_
     refine aZ 14 rfl (df H6) H3 ?_
     refine aZ 15 rfl (df H6) H3 ?_
     refine aZ 16 rfl (df H6) H3 ?_
     refine bT 17 rfl H3 (fun _ _=>pf (df H6)) ?_
     refine aU 18 H3 ?_
     refine aZ 19 rfl rfl H3 ?_
     refine aZ 20 rfl rfl H3 ?_
     refine aZ 21 rfl rfl H3 ?_
     refine aZ 22 rfl rfl H3 ?_
     refine aZ 23 rfl rfl H3 ?_
     refine aZ 24 rfl rfl H3 ?_
     refine aZ 25 rfl rfl H3 ?_
     refine aZ 26 rfl rfl H3 ?_
     refine aZ 27 rfl rfl H3 ?_
     refine bT 28 rfl H3 (fun _ _=>pf rfl) ?_
     refine aU 29 H3 ?_
     refine aZ 30 rfl rfl H3 ?_
     refine aZ 31 rfl rfl H3 ?_
     refine aZ 32 rfl rfl H3 ?_
     refine aZ 33 rfl rfl H3 ?_
     refine aZ 34 rfl rfl H3 ?_
     refine bT 35 rfl H3 (fun _ _=>pf rfl) ?_
     refine aU 36 H3 ?_
     refine aZ 37 rfl rfl H3 ?_
     refine aZ 38 rfl rfl H3 ?_
     refine aZ 39 rfl rfl H3 ?_
     refine aZ 40 rfl rfl H3 ?_
     refine aZ 41 rfl rfl H3 ?_
     refine bT 42 rfl H3 (fun _ _=>pf rfl) ?_
     refine bG (i:=43) ?_
     refine iW xa ?_
     refine bF H3 ?_
     refine fP ?_
     refine aR ?_
     refine ah [0] ?_
     refine aR ?_
     refine af ?_
     exfalso
     omega
    refine aZ 3 rfl (df h0) H3 ?_
    refine aZ 4 rfl (df h0) H3 ?_
    refine aZ 5 rfl (df h0) H3 ?_
    refine bT 6 rfl H3 (fun _ _=>pf (df h0)) ?_
    refine aU 7 H3 ?_
    refine aZ 8 rfl rfl H3 ?_
    refine aZ 9 rfl rfl H3 ?_
    refine aZ 10 rfl rfl H3 ?_
    refine aZ 11 rfl rfl H3 ?_
    refine aZ 12 rfl rfl H3 ?_
    refine aZ 13 rfl rfl H3 ?_
    refine aZ 14 rfl rfl H3 ?_
    refine aZ 15 rfl rfl H3 ?_
    refine aZ 16 rfl rfl H3 ?_
    refine bT 17 rfl H3 (fun _ _=>pf rfl) ?_
    refine aU 18 H3 ?_
    refine aZ 19 rfl rfl H3 ?_
    refine aZ 20 rfl rfl H3 ?_
    refine aZ 21 rfl rfl H3 ?_
    refine aZ 22 rfl rfl H3 ?_
    refine aZ 23 rfl rfl H3 ?_
    refine aZ 24 rfl rfl H3 ?_
    refine aZ 25 rfl rfl H3 ?_
    refine aZ 26 rfl rfl H3 ?_
    refine aZ 27 rfl rfl H3 ?_
    refine bT 28 rfl H3 (fun _ _=>pf rfl) ?_
    refine aU 29 H3 ?_
    refine aZ 30 rfl rfl H3 ?_
    refine aZ 31 rfl rfl H3 ?_
    refine aZ 32 rfl rfl H3 ?_
    refine aZ 33 rfl rfl H3 ?_
    refine aZ 34 rfl rfl H3 ?_
    refine bT 35 rfl H3 (fun _ _=>pf rfl) ?_
    refine aU 36 H3 ?_
    refine aZ 37 rfl rfl H3 ?_
    refine aZ 38 rfl rfl H3 ?_
    refine aZ 39 rfl rfl H3 ?_
    refine aZ 40 rfl rfl H3 ?_
    refine aZ 41 rfl rfl H3 ?_
    refine bT 42 rfl H3 (fun _ _=>pf rfl) ?_
    refine bG (i:=43) ?_
    refine iW xa ?_
    refine bF H3 ?_
    refine fP ?_
    refine aR ?_
    refine ah [0] ?_
    refine aR ?_
    refine af ?_
    exfalso
    omega
   refine mX h8 ?_
   refine aQ ?_
   refine af ?_
   exfalso
   omega
  refine mX g0 ?_
  refine aQ ?_
  refine af ?_
  exfalso
  omega
 iterate 3 refine dh (nt h7) ?_
 refine w_v (pt (nt h7)) ?_
 refine cD ?_
 refine ah [1,21] ?_
 refine g_cond_t rfl rfl ?_
 refine aQ ?_
 refine af ?_
 exfalso
 omega
end Go.Proofs.YthmmfhdpkddniaaGreatDoor
