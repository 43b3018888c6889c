import Derived.Test.YthmmfhdpkddniaaGreatDoorXg
import Derived.Test.YthmmfhdpkddniaaGreatDoorSb
set_option maxRecDepth 20000
set_option maxHeartbeats 4000000
set_option linter.all false
namespace Go.Proofs.YthmmfhdpkddniaaGreatDoor
open Go.RowKit
theorem MC:aI Tryz.prog 132=true:=by kernel_rfl
theorem Dp {α:Type} {key:α→Int} {l:List α} (hn:(l.map key).Nodup) {P P' B:α→Bool} {x:α} (hx:x∈l) (hp:∀ y∈l,P' y=(P y || decide (key y=key x))) (h0:P x=false):(l.filter fun y=>P' y && B y).length=(l.filter fun y=>P y && B y).length+if B x=true then 1 else 0:=by
 induction l with
 | nil=>cases hx
 | cons a l ih =>
   rw [List.map_cons,List.nodup_cons] at hn
   simp only [List.filter_cons]
   rcases List.mem_cons.1 hx with rfl | hx
   · have hr:(l.filter fun y=>P' y && B y)=l.filter fun y=>P y && B y:=List.filter_congr fun y hy=>by
       have hne:¬ key y=key x:=fun e=>hn.1 (by rw [← e]; exact List.mem_map.2 ⟨y,hy,rfl⟩)
       rw [hp y (List.mem_cons_of_mem _ hy),decide_eq_false hne,Bool.or_false]
     rw [hp x List.mem_cons_self,decide_eq_true rfl,Bool.or_true,h0,hr]
     cases B x <;> simp
   · have hne:¬ key a=key x:=fun e=>hn.1 (by rw [e]; exact List.mem_map.2 ⟨x,hx,rfl⟩)
     rw [hp a List.mem_cons_self,decide_eq_false hne,Bool.or_false]
     have:=ih hn.2 hx fun y hy=>hp y (List.mem_cons_of_mem _ hy)
     split
     · simp only [List.length_cons]; omega
     · exact this
def zE (ms:List Mt) (rem:List (Int × Nat)) (i:Int):Nat:=(ms.filter fun m=>!decide ((m.k,m.b)∈rem) && aF m.fld i).length
theorem Ga {X:XP} {A:PK} {j:Nat} (hX:di X A) (hI:bQ j A) {rem:List (Int × Nat)} (h:∀ p:Int × Nat,p∈rem ↔ cO p.1∧gV X.ms p.1=some p.2) (i:Int):zE X.ms rem i=0:=by
 unfold zE
 rw [List.length_eq_zero_iff,List.filter_eq_nil_iff]
 intro m hm
 obtain ⟨q,hq⟩:=List.getElem?_of_mem hm
 have h1:=hI.kr m.pe (List.mem_of_getElem? (hX.at hq))
 have h2:(m.k,m.b)∈rem:=(h _).2 ⟨⟨by have:1≤m.k:=h1.1; show _≤m.k; omega,by have:m.k≤1000:=h1.2; show m.k≤_; omega⟩,by
   unfold gV; rw [kD (hX.nd hI) hq]; rfl⟩
 rw [decide_eq_true h2]; simp
theorem zv {X:XP} {A:PK} {j:Nat} (hX:di X A) (hI:bQ j A) {rem rem':List (Int × Nat)} {p:Int × Nat} (hp:p∈rem) (hr:∀ q,q∈rem' ↔ q∈rem∧q ≠ p) {q:Nat} {m:Mt} (hm:X.ms[q]?=some m) (hk:m.k=p.1) (hb:m.b=p.2) (i:Int):zE X.ms rem' i=zE X.ms rem i+if aF m.fld i=true then 1 else 0:=by
 unfold zE
 have hpe:p=(m.k,m.b):=Prod.ext hk.symm hb.symm
 refine Dp (key:=Mt.k) (hX.nd hI) (P:=fun m=>!decide ((m.k,m.b)∈rem)) (P':=fun m=>!decide ((m.k,m.b)∈rem')) (B:=fun m=>aF m.fld i) (List.mem_of_getElem? hm) (fun y hy=>?_) (by simp [← hpe,hp])
 by_cases e:y.k=m.k
 · obtain ⟨q2,H2⟩:=List.getElem?_of_mem hy
   have:=sw (hX.nd hI) H2 hm e
   subst this
   rw [hm] at H2; cases H2
   have:¬ (m.k,m.b)∈rem':=fun h=>((hr _).1 h).2 hpe.symm
   simp [this]
 have h1:(y.k,y.b) ≠ p:=fun h=>e (by rw [hpe] at h; exact congrArg Prod.fst h)
 have h2:((y.k,y.b)∈rem') ↔ ((y.k,y.b)∈rem):=⟨fun h=>((hr _).1 h).1,fun h=>(hr _).2 ⟨h,h1⟩⟩
 rw [decide_eq_decide.2 h2,df e,Bool.or_false]
theorem I8 {X:XP} {A:PK} (hX:di X A) (i:Int):zE X.ms [] i=A.countV i:=by
 unfold zE PK.countV
 rw [← hX.ms,List.filter_map,List.length_map]
 congr 1
theorem Lg (ms:List Mt) (rem:List (Int × Nat)) (i:Int):zE ms rem i≤ms.length:=List.length_filter_le _ _
theorem qM (X:XP) (A:PK) (j:Nat) (hX:di X A) (hI:bQ j A) (i:Int) (hi:0≤i∧i<(A.n:Int))  (w:World) (HS:S w [(XI X A)]):Calls Tryz.prog 130 #[vP X.g,vI i] w fun e w'=>e=.returned (vI (A.countV i:Int))∧S w' ([(XI X A)]++[aB w (aT [(XI X A)])]):=by
 have H0:=HS.bu
 have h8:=hI.a8
 have hpl9:X.ms.length≤100:=by have h9:=hI.pl; rw [← hX.ms,List.length_map] at h9; exact h9
 refine en Tryz.func130 ?_
 refine ah [0,1] ?_
 refine v_ ?_
 refine l_of (A5 (iG Tryz.underlying80 Tryz.underlying3) H0 3 (bh rfl) rfl rfl rfl rfl rfl ?_)
 intro rr1 rem2 h6 hnrem2 hrem2 H4
 refine ae ?_
 refine cQ (ι:=List (Int × Nat) × Option (Int × Nat) × Nat) (fun (rem,cur,s)=>[(0,vP X.g),(1,vI i),(5,vI s),(13,vP rr1)]) (fun (rem,cur,s) wx=>(s=zE X.ms rem i)∧(∀ z∈rem,z∈rem2)∧S wx [X0 X A,X1 X A,X2 X A,MN (Value.int .i64) j_ cO X.mg rr1 (gV X.ms) rem cur,bM fA X.ms,X5 X,bM g_ X.bs,aB w (aT [(XI X A)])]) (fun (rem,cur,s)=>rem.length) (rem2,none,0) ⟨(Ga hX hI hrem2 i).symm,(fun z hz=>hz),(H4.tk [0,1,2,3,4,5,6,7])⟩ ?_
 rintro ⟨rem,cur,s⟩ h5 ⟨hs,hsub,H6⟩
 refine ah [0,1,5,13] ?_
 have hsl9:=Lg X.ms rem i
 rw [← hs] at hsl9
 refine iF ?_
 refine l_of (GX H6 3 (bh rfl) rfl rfl rfl rfl rfl (fun hnil16=>?_) (fun q7 rem8 wx9 hp10 hok11 hN12 H3 H8 Hx15=>?_))
 ·
  subst hnil16
  have h4:S _ [_,_,_,_,_,_,_,_]:=H6.unR (k0:=3) rfl
  refine ae ?_
  refine g_seq ?_
  refine g_cond_f rfl rfl ?_
  refine cS ?_
  refine af ?_
  rw [I8 hX] at hs
  rw [← hs]
  exact ⟨rfl,(h4.b7 [0,1,2,3,4,5,6,7])⟩
 have h1:S _ [_,_,_,_,_,_,_,_]:=Hx15
 refine ae ?_
 refine g_seq ?_
 refine g_cond_t rfl rfl ?_
 refine aE ?_
 refine w_v (v:=.tuple #[vI q7.1,vP q7.2]) (DO (k:=0) (t:=0) (e0:=0) h1 3 rfl rfl rfl) ?_
 refine aE ?_
 obtain ⟨iq19,h2,H5,H9,H7,hf24⟩:=uk hN12
 rw [← H7]
 refine vV ?_
 refine l_of (aG (Cu X A j hX hI iq19 h2 H5 i (by omega) _ (h1.tk [0,4])) ?_)
 rintro _ h3 ⟨rfl,h0⟩
 replace h0:=h1.aI2 [0,4] h0
 refine bW ?_
 refine cD ?_
 rcases ef ((aF h2.fld i)) with H2 | H2
 ·
  refine g_cond_t rfl H2 ?_
  refine ae ?_
  refine bP (v:=vI ((s:Int)+1)) (hb:=(dY (jD (by omega)))) ?_
  refine aE ?_
  refine qI (i:=(rem,cur,s)) (rem8,(some q7),(s+1)) ?_ ?_ ?_
  · exact ⟨rfl,rfl,rfl,rfl,trivial⟩
  · exact ⟨(by rw [zv hX hI hp10 H3 H5 H9 H7,← hs]; simp [H2]),(fun z hz=>hsub z ((H3 z).1 hz).1),(h0.tk [0,2,3,4,1,5,6,7])⟩
  exact H8
 refine g_cond_f rfl H2 ?_
 refine aC ?_
 refine qI (i:=(rem,cur,s)) (rem8,(some q7),s) ?_ ?_ ?_
 · exact ⟨rfl,rfl,rfl,rfl,trivial⟩
 · exact ⟨(by rw [zv hX hI hp10 H3 H5 H9 H7,← hs]; simp [H2]),(fun z hz=>hsub z ((H3 z).1 hz).1),(h0.tk [0,2,3,4,1,5,6,7])⟩
 exact H8
theorem zF.perm {P:Program} {g:Nat} {fi ca:Array Value} {X:aD} {β:Type} {ev:β→Value} {c:β→β→Int} {l l':List β} (h:zF P g fi ca X ev c l) (hp:l'.Perm l):zF P g fi ca X ev c l':=
 ⟨h.ok,fun x hx y hy w HS=>h.does x ((hp.mem_iff).1 hx) y ((hp.mem_iff).1 hy) w HS⟩
theorem KE {β:Type} {d:β} {c:β→β→Int} {s n k a:Nat} {l:List β} (h:a+s≤n) (hk:1≤k):mF d c s n k a l=mF d c s n (k - 1) (a+s) (kU d c a (a+s) l):=by
 obtain ⟨j,rfl⟩:∃ j,k=j+1:=⟨k - 1,by omega⟩
 conv=>lhs; unfold mF
 rw [if_pos h]; rfl
theorem IC {β:Type} {d:β} {c:β→β→Int} {s n k a:Nat} {l:List β} (h:¬ a+s≤n):mF d c s n k a l=kU d c a n l:=by
 cases k with
 | zero=>rfl
 | succ k=>unfold mF; rw [if_neg h]
theorem JO {β:Type} {d:β} {c:β→β→Int} {s n k a:Nat} {l:List β} (h:a+2 * s≤n) (hk:1≤k):oa d c s n k a l=oa d c s n (k - 1) (a+2 * s) (iI d c (2 * s) a (a+s) (a+2 * s) l):=by
 obtain ⟨j,rfl⟩:∃ j,k=j+1:=⟨k - 1,by omega⟩
 conv=>lhs; unfold oa
 rw [if_pos h]; rfl
theorem AX {β:Type} {d:β} {c:β→β→Int} {s n k a:Nat} {l:List β} (h:¬ a+2 * s≤n):oa d c s n k a l=if a+s<n then iI d c (n - a) a (a+s) n l else l:=by
 cases k with
 | zero=>rfl
 | succ k=>unfold oa; rw [if_neg h]
theorem DX {β:Type} {d:β} {c:β→β→Int} {n k s:Nat} {l:List β} (h:s<n) (hk:1≤k):mW d c n k s l=mW d c n (k - 1) (2 * s) (oa d c s n n 0 l):=by
 obtain ⟨j,rfl⟩:∃ j,k=j+1:=⟨k - 1,by omega⟩
 conv=>lhs; unfold mW
 rw [if_pos h]; rfl
theorem HM {β:Type} {d:β} {c:β→β→Int} {n k s:Nat} {l:List β} (h:¬ s<n):mW d c n k s l=l:=by
 cases k with
 | zero=>rfl
 | succ k=>unfold mW; rw [if_neg h]
theorem Fg {β:Type} (d:β) (ev:β→Value) (cs:β→Array Value) (hcs:∀ x,ev x=.agg (cs x)) (hsz:∀ x,(ev x).cells.size=3) (ho:∀ x,(ev x).cells.toList.all (·.oneCell')=true) (z:List β) (nn:Nat) (hz:z.length=nn) (p:Option Addr) (cc:Nat) (hm:nn≤1099511627776) (c:β→β→Int) (gc:Nat) (fi ca:Array Value) (X:aD) (hc:zF Tryz.prog gc fi ca X ev c z)  (w:World) (HS:S w [Rw 44 3 p nn cc (mV ev z),X]):Calls Tryz.prog 158 #[.slice p nn cc,vI nn,.func (.func gc) fi ca] w fun e w'=>e=.returned (.tuple #[])∧S w' ([Rw 44 3 p nn cc (mV ev (hU d c z)),X]++[aB w (aT [Rw 44 3 p nn cc (mV ev z),X])]):=by
 have H0:=HS.beginI
 refine en Tryz.func158 ?_
 refine ah [0,1,2] ?_
 refine cS ?_
 refine cQ (ι:=Nat × Nat × List β) (fun (k,a,cur)=>[(0,.slice p nn cc),(1,vI nn),(2,.func (.func gc) fi ca),(6,vI 20),(7,vI a),(8,vI (((a+20:Nat):Int)))]) (fun (k,a,cur) wx=>(a≤nn)∧(nn≤a+k)∧(cur.length=nn)∧(cur.Perm z)∧(mF d c 20 nn k a cur=mF d c 20 nn nn 0 z)∧S wx [Rw 44 3 p nn cc (mV ev cur),X,aB w (aT [Rw 44 3 p nn cc (mV ev z),X])]) (fun (k,a,cur)=>nn - a) (nn,0,z) ⟨(Nat.zero_le _),(by omega),hz,(.refl _),rfl,(H0.tk [0,1,2])⟩ ?_
 rintro ⟨k,a,cur⟩ g4 ⟨ha,hk,hcl,hpp,hR,H2⟩
 refine ah [0,1,2,6,7,8] ?_
 refine a_ ?_
 by_cases h4:(((a+20:Nat):Int):Int)≤(nn:Int)
 ·
  refine bm h4 ?_
  refine dz ?_
  have g1:(kU d c a (a+20) cur).length=nn:=by rw [(oJ (d:=d) (c:=c) (a:=a) (by rw [hcl]; omega)).len]; exact hcl
  have hp7:(kU d c a (a+20) cur).Perm z:=(oJ (d:=d) (c:=c) (a:=a) (by rw [hcl]; omega)).1.trans (hpp)
  refine l_of (aG (Hb d ev cs hcs hsz ho cur nn hcl p cc hm c gc fi ca X (hc.perm (hpp)) a (a+20) (by omega) (by omega) _ (H2.tk [0,1])) ?_)
  rintro _ g3 ⟨rfl,H5⟩
  replace H5:=H2.aI2 [0,1] H5
  refine bW ?_
  refine dz ?_
  refine bP (v:=vI (((a+20+20:Nat):Int))) (hb:=(dq (a:=a+20) (b:=20) (by omega))) ?_
  refine aE ?_
  refine bD (i:=(k,a,cur)) ((k - 1),(a+20),(kU d c a (a+20) cur)) ⟨(by omega),(by omega),g1,hp7,((KE (by omega) (by omega)).symm.trans hR),(H5.tk [0,1,2])⟩
 refine br h4 ?_
 refine aR ?_
 have hRB:=(IC (by omega)).symm.trans hR
 refine eG ?_
 have h1:(kU d c a nn cur).length=nn:=by rw [(oJ (d:=d) (c:=c) (a:=a) (by rw [hcl]; omega)).len]; exact hcl
 have hp11:(kU d c a nn cur).Perm z:=(oJ (d:=d) (c:=c) (a:=a) (by rw [hcl]; omega)).1.trans (hpp)
 refine l_of (aG (Hb d ev cs hcs hsz ho cur nn hcl p cc hm c gc fi ca X (hc.perm (hpp)) a nn (by omega) (by omega) _ (H2.tk [0,1])) ?_)
 rintro _ g2 ⟨rfl,H9⟩
 replace H9:=H2.aI2 [0,1] H9
 refine bW ?_
 refine ae ?_
 refine cQ (ι:=Nat × Nat × List β) (fun (k,s,cw)=>[(0,.slice p nn cc),(1,vI nn),(2,.func (.func gc) fi ca),(6,vI s)]) (fun (k,s,cw) wx=>(1≤s∧s≤2 * nn+20)∧(nn≤s+k)∧(cw.length=nn)∧(cw.Perm z)∧(mW d c nn k s cw=mW d c nn nn 20 (kU d c a nn cur))∧S wx [Rw 44 3 p nn cc (mV ev cw),X,aB w (aT [Rw 44 3 p nn cc (mV ev z),X])]) (fun (k,s,cw)=>nn - s) (nn,20,(kU d c a nn cur)) ⟨(by omega),(by omega),h1,hp11,rfl,(H9.tk [0,1,2])⟩ ?_
 rintro ⟨k,s,cw⟩ g0 ⟨hs,hk,hclw,hppw,hR,h5⟩
 refine ah [0,1,2,6] ?_
 refine a_ ?_
 by_cases H6:((s:Int):Int)<(nn:Int)
 ·
  refine bm H6 ?_
  refine aQ ?_
  refine bP (v:=vI (((0+2 * s:Nat):Int))) (hb:=(tO (r:=((0+2 * s:Nat):Int)) (by rw [show (2:Int) * (s:Int)=((0+2 * s:Nat):Int) from by omega]; exact jD (by omega)))) ?_
  refine aQ ?_
  refine cQ (ι:=Nat × Nat × List β) (fun (k2,a,cur2)=>[(0,.slice p nn cc),(1,vI nn),(2,.func (.func gc) fi ca),(6,vI s),(7,vI a),(8,vI (((a+2 * s:Nat):Int)))]) (fun (k2,a,cur2) wx=>(a≤nn)∧(nn≤a+k2)∧(cur2.length=nn)∧(cur2.Perm z)∧(oa d c s nn k2 a cur2=oa d c s nn nn 0 cw)∧S wx [Rw 44 3 p nn cc (mV ev cur2),X,aB w (aT [Rw 44 3 p nn cc (mV ev z),X])]) (fun (k2,a,cur2)=>nn - a) (nn,0,cw) ⟨(Nat.zero_le _),(by omega),hclw,hppw,rfl,(h5.tk [0,1,2])⟩ ?_
  rintro ⟨k2,a,cur2⟩ h8 ⟨ha,g5,hcl2,hpp2,hR2,H7⟩
  refine ah [0,1,2,6,7,8] ?_
  refine a_ ?_
  by_cases H4:(((a+2 * s:Nat):Int):Int)≤(nn:Int)
  ·
   refine bm H4 ?_
   refine dz ?_
   refine bP (v:=vI (((a+s:Nat):Int))) (hb:=(dq (a:=a) (b:=s) (by omega))) ?_
   refine ru ?_
   have h0:(iI d c (2 * s) a (a+s) (a+2 * s) cur2).length=nn:=by rw [(jP (d:=d) (c:=c) (n:=(2 * s)) (a:=a) (m:=(a+s)) (b:=(a+2 * s)) (by rw [hcl2]; omega) (by omega) (by omega) (by omega)).len]; exact hcl2
   have hp21:(iI d c (2 * s) a (a+s) (a+2 * s) cur2).Perm z:=(jP (d:=d) (c:=c) (n:=(2 * s)) (a:=a) (m:=(a+s)) (b:=(a+2 * s)) (by rw [hcl2]; omega) (by omega) (by omega) (by omega)).1.trans (hpp2)
   refine l_of (aG (Cj d ev cs hcs hsz ho z nn p cc hm c gc fi ca X hc (2 * s) cur2 hcl2 (hpp2) a (a+s) (a+2 * s) (by omega) (by omega) (by omega) (by omega) _ (H7.tk [0,1])) ?_)
   rintro _ h7 ⟨rfl,h3⟩
   replace h3:=H7.aI2 [0,1] h3
   refine bW ?_
   refine cD ?_
   refine ah [0,1,2,6,8] ?_
   refine cp ?_
   refine bP (v:=vI (((2 * s:Nat):Int))) (hb:=(tO (r:=((2 * s:Nat):Int)) (by rw [show (2:Int) * (s:Int)=((2 * s:Nat):Int) from by omega]; exact jD (by omega)))) ?_
   refine bP (v:=vI (((a+2 * s+2 * s:Nat):Int))) (hb:=(dq (a:=a+2 * s) (b:=2 * s) (by omega))) ?_
   refine aE ?_
   refine bD (i:=(k2,a,cur2)) ((k2 - 1),(a+2 * s),(iI d c (2 * s) a (a+s) (a+2 * s) cur2)) ⟨(by omega),(by omega),h0,hp21,((JO (by omega) (by omega)).symm.trans hR2),(h3.tk [0,1,2])⟩
  refine br H4 ?_
  refine eG ?_
  refine bP (v:=vI (((a+s:Nat):Int))) (hb:=(dq (a:=a) (b:=s) (by omega))) ?_
  refine cp ?_
  by_cases H3:(((a+s:Nat):Int):Int)<(nn:Int)
  ·
   refine bm H3 ?_
   refine a_ ?_
   have H8:(iI d c (nn - a) a (a+s) nn cur2).length=nn:=by rw [(jP (d:=d) (c:=c) (n:=(nn - a)) (a:=a) (m:=(a+s)) (b:=nn) (by rw [hcl2]; omega) (by omega) (by omega) (by omega)).len]; exact hcl2
   have hp26:(iI d c (nn - a) a (a+s) nn cur2).Perm z:=(jP (d:=d) (c:=c) (n:=(nn - a)) (a:=a) (m:=(a+s)) (b:=nn) (by rw [hcl2]; omega) (by omega) (by omega) (by omega)).1.trans (hpp2)
   refine l_of (aG (Cj d ev cs hcs hsz ho z nn p cc hm c gc fi ca X hc (nn - a) cur2 hcl2 (hpp2) a (a+s) nn (by omega) (by omega) (by omega) (by omega) _ (H7.tk [0,1])) ?_)
   rintro _ h6 ⟨rfl,h2⟩
   replace h2:=H7.aI2 [0,1] h2
   refine bW ?_
   refine cD ?_
   refine ah [0,1,2,6] ?_
   refine ae ?_
   refine bP (v:=vI (((2 * s:Nat):Int))) (hb:=(tO (r:=((2 * s:Nat):Int)) (by rw [show (s:Int) * (2:Int)=((2 * s:Nat):Int) from by omega]; exact jD (by omega)))) ?_
   refine aE ?_
   refine bD (i:=(k,s,cw)) ((k - 1),(2 * s),(iI d c (nn - a) a (a+s) nn cur2)) ⟨(by omega),(by omega),H8,hp26,(by have h9:=(DX (l:=cw) (c:=c) (d:=d) (n:=nn) (k:=k) (s:=s) (by omega) (by omega)).symm.trans hR; rw [← hR2,AX (by omega),if_pos (by omega)] at h9; exact h9),(h2.tk [0,1,2])⟩
  refine br H3 ?_
  refine ae ?_
  refine ah [0,1,2,6] ?_
  refine ae ?_
  refine bP (v:=vI (((2 * s:Nat):Int))) (hb:=(tO (r:=((2 * s:Nat):Int)) (by rw [show (s:Int) * (2:Int)=((2 * s:Nat):Int) from by omega]; exact jD (by omega)))) ?_
  refine aE ?_
  refine bD (i:=(k,s,cw)) ((k - 1),(2 * s),cur2) ⟨(by omega),(by omega),hcl2,hpp2,(by have h9:=(DX (l:=cw) (c:=c) (d:=d) (n:=nn) (k:=k) (s:=s) (by omega) (by omega)).symm.trans hR; rw [← hR2,AX (by omega),if_neg (by omega)] at h9; exact h9),(H7.tk [0,1,2])⟩
 refine br H6 ?_
 refine aE ?_
 refine dO [] [] rfl trivial ?_
 exact ⟨rfl,by unfold hU; rw [hz]; rw [hRB,HM (by omega)] at hR; rw [← hR]; exact (h5.tk [0,1,2])⟩
theorem Ao {β:Type} (d:β) (ev:β→Value) (cs:β→Array Value) (hcs:∀ x,ev x=.agg (cs x)) (hsz:∀ x,(ev x).cells.size=3) (ho:∀ x,(ev x).cells.toList.all (·.oneCell')=true) (z:List β) (nn:Nat) (hz:z.length=nn) (p:Option Addr) (cc:Nat) (hm:nn≤1099511627776) (c:β→β→Int) (gc:Nat) (fi ca:Array Value) (X:aD) (hc:zF Tryz.prog gc fi ca X ev c z)  (w:World) (HS:S w [Rw 44 3 p nn cc (mV ev z),X]):Calls Tryz.prog 136 #[.slice p nn cc,.func (.func gc) fi ca] w fun e w'=>e=.returned (.tuple #[])∧S w' ([Rw 44 3 p nn cc (mV ev (hU d c z)),X]++[aB w (aT [Rw 44 3 p nn cc (mV ev z),X])]):=by
 have H0:=HS.beginI
 refine en Tryz.func136 ?_
 refine ah [0,1] ?_
 refine aQ ?_
 have H4:(hU d c z).length=nn:=by rw [(mw d c z).length_eq]; exact hz
 have hp4:(hU d c z).Perm z:=mw d c z
 refine l_of (aG (Fg d ev cs hcs hsz ho z nn hz p cc hm c gc fi ca X hc _ (H0.tk [0,1])) ?_)
 rintro _ H3 ⟨rfl,H2⟩
 replace H2:=H0.aI2 [0,1] H2
 refine bW ?_
 refine aR ?_
 refine dO [] [] rfl trivial ?_
 exact ⟨rfl,(H2.tk [0,1,2])⟩
end Go.Proofs.YthmmfhdpkddniaaGreatDoor
