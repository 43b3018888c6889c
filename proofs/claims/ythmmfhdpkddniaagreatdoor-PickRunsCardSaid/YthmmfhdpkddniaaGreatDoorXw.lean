import Derived.Test.YthmmfhdpkddniaaGreatDoorCi
set_option maxRecDepth 20000
set_option maxHeartbeats 4000000
set_option linter.all false
namespace Go.Proofs.YthmmfhdpkddniaaGreatDoor
open Go.RowKit
theorem P9:tw Tryz.prog 177=some (.map none):=by kernel_rfl
theorem yK (l:List Int):zV l=fl cg l:=G6 (fun _=>rfl) l
theorem Ji:aI Tryz.prog 156=true:=by kernel_rfl
theorem HT {A:PK} {p:fV} (b mg:Nat) (M:Int→Option Gp) (l:List Int) (hl:l=A.candL p) (hM:∀ y∈l,M y=some (Mf A p y)) (hn:A.n≤24) (po:Option Addr) (co:Nat) (w:World) (HS:S w [Rw 3 1 po l.length co (fl cg l),fN [Ob b (.cells #[.map (some mg)] 177 (0,0)),Mp (Value.int .i64) Cf cO mg M]]) :
   Calls Tryz.prog 155 #[.slice po l.length co,.func (.func 156) #[] #[vP b]] w fun e w'=>e=.returned (.tuple #[])∧S w' ([Rw 3 1 po l.length co (fl cg (A.cand p)),fN [Ob b (.cells #[.map (some mg)] 177 (0,0)),Mp (Value.int .i64) Cf cO mg M]]++[aB w (aT [Rw 3 1 po l.length co (fl cg l),fN [Ob b (.cells #[.map (some mg)] 177 (0,0)),Mp (Value.int .i64) Cf cO mg M]])]):=by
 have hnd:(A.candL p).Nodup:=(yd _).filter _
 have hlen:l.length≤24:=by rw [hl]; have:=u6 A p; omega
 have hok:∀ x∈l,cO x:=fun x hx=>by
   rw [hl] at hx
   have:=uq.1 (List.mem_filter.1 hx).1
   exact ⟨by omega,by omega⟩
 have h9:=JS l po l.length co (fN [Ob b (.cells #[.map (some mg)] 177 (0,0)),Mp (Value.int .i64) Cf cO mg M]) 156 #[vP b] (Dz A p) rfl (by omega) (fun args w=>jV Ji args) (fun x _=>Lv) (fun x _ y _ z _=>Pb) (fun x _ y _ z _=>Pe) (fun x _ y _=>Pf)
   (fun x hx y hy w1 h1=>LE b mg M x y (hok x hx) (hok y hy) (Mf A p x) (Mf A p y) (hM x hx) (hM y hy) w1 (by have h2:=S.unbig (L:=[_,_]) h1; exact h2)) w (by rw [yK]; exact HS)
 rw [yK] at h9
 refine h9.mono ?_
 rintro e w' ⟨rfl,m,⟨hp,hs⟩,h⟩
 have hm:m=A.cand p:=B_ hn (by rw [← hl]; exact hp) hs hnd
 subst hm
 rw [yK] at h
 exact ⟨rfl,h⟩
theorem Pg (X:XP) (A:PK) (j:Nat) (hX:di X A) (hI:bQ j A) (q:Nat) (m:Mt) (hm:X.ms[q]?=some m)  (w:World) (HS:S w [(XI X A)]):Calls Tryz.prog 135 #[vP X.g,vP m.b] w fun e w'=>∃ (po:Option Addr) (co:Nat),e=.returned (.slice po (A.cand m.pe).length co)∧S w' ([Rw 3 1 po (A.cand m.pe).length co (fl cg (A.cand m.pe)),(XI X A)]++[aB w (aT [(XI X A)])]):=by
 have H0:=HS.bu
 have h8:=hI.a8
 have hn24:=hI.n24
 refine en Tryz.func135 ?_
 refine ah [0,1] ?_
 refine aE ?_
 refine l_of (nG (α:=Gp) (Value.int .i64) Cf cO H0 (bh rfl) rfl rfl rfl ?_)
 intro h3 k0 H3
 refine l_of (cA H3 P9 ?_)
 intro g4 b9 H6
 refine l_of (eu H6 0 ?_)
 intro b8 H8
 refine v_ ?_
 refine cQ (ι:=Nat × Option Addr × Nat × List Int × (Int→Option Gp)) (fun (ii,ro,co,oz,MM)=>[(0,vP X.g),(1,vP m.b),(5,vP g4),(6,.slice ro oz.length co),(12,vI A.n),(13,vI ii)]) (fun (ii,ro,co,oz,MM) wx=>(ii≤A.n)∧(oz=((jo A.n).take ii).filter (A.candB m.pe))∧(∀ y∈oz,MM y=some (Mf A m.pe y))∧(oz.length≤ii)∧S wx [Rw 3 1 ro oz.length co (fl cg oz),Ob g4 (.cells #[.map (some h3)] 177 (0,0)),Mp (Value.int .i64) Cf cO h3 MM,X0 X A,X1 X A,X2 X A,X3 X,bM fA X.ms,X5 X,bM g_ X.bs,aB w (aT [(XI X A)])]) (fun (ii,ro,co,oz,MM)=>A.n - ii) (0,none,0,[],(fun _=>none)) ⟨(Nat.zero_le _),rfl,(fun y hy=>absurd hy List.not_mem_nil),(Nat.le_refl 0),((S.nilFl H8 3 1 cg).tk [0,1,2,3,4,5,6,7,8,9,10])⟩ ?_
 rintro ⟨ii,ro,co,oz,MM⟩ b7 ⟨hq,hoz,hMM,hol,g6⟩
 refine ah [0,1,5,6,12,13] ?_
 refine aC ?_
 refine g_seq ?_
 by_cases H7:((ii:Int):Int)<(A.n:Int)
 ·
  refine bm H7 ?_
  refine io ?_
  refine l_of (fZ g6 [3,4,5,6,7,8,9,0,1,2,10] (zK X A j hX hI (ii:Int) (by omega) _) ?_)
  intro x9 h5
  refine cJ ?_
  rcases ef ((A.openB (ii:Int))) with H5 | H5
  ·
   iterate 3 refine aN H5 xm ?_
   refine l_of (bR (cU rfl rfl rfl rfl H5) (aP rfl rfl MC) (Cu X A j hX hI q m hm (ii:Int) (by omega) _ (h5.tk [0,4])) ?_)
   rintro _ x8 ⟨rfl,h0⟩
   replace h0:=h5.aI2 [0,4] h0
   refine bW ?_
   refine w_v (dH rfl rfl H5 rfl) ?_
   refine cJ ?_
   rcases ef ((aF m.fld (ii:Int))) with H2 | H2
   ·
    refine aN H2 xm ?_
    refine aN H2 xn ?_
    refine aN H2 (xf 3) ?_
    refine aN (v:=.bool m.ch) H2 (f_ rfl rfl Tryz.underlying4 rfl (h0.mtCell (k:=1) rfl hm (c:=3) rfl)) ?_
    refine aN H2 (cj (b:=m.ch) rfl rfl) ?_
    refine aN H2 xm ?_
    rcases ef (m.ch) with H4 | H4
    ·
     refine aN (aa H4) xm ?_
     refine aN (aa H4) xn ?_
     refine aN (aa H4) (xf 1) ?_
     refine aN (v:=.map (some m.am)) (aa H4) (f_ rfl rfl Tryz.underlying86 rfl (h0.mtCell (k:=1) rfl hm (c:=1) rfl)) ?_
     refine aN (aa H4) xm ?_
     refine aN (v:=.bool ((aF m.alw (ii:Int)))) (aa H4) (aH (bU (x:=(ii:Int)) (iG Tryz.underlying86 Tryz.underlying3) (h0.mtAlw (k:=1) rfl hm) 0 rfl rfl rfl rfl (⟨by omega,by omega⟩) Jw) (by rw [Cq,xE (by omega)])) ?_
     refine aN H2 (pf (aa H4)) ?_
     refine w_v (dH rfl rfl H2 rfl) ?_
     refine cD ?_
     refine ah [0,1,5,6,7,12,13,39] ?_
     rcases ef ((aF m.alw (ii:Int))) with H9 | H9
     ·
      refine g_cond_t rfl H9 ?_
      refine aC ?_
      refine l_of (fC Av #[vI ii] h0 ?_)
      intro k2 x7 g5
      have hln29a:=(g5.rr 8).lenL bE
      have hln29:(oz++[(ii:Int)]).length=oz.length+1:=by simp only [List.length_append,List.length_cons,List.length_nil] <;> omega
      refine l_of (fE oe [(ii:Int)] bE g5 8 0 ?_)
      intro c7 w8 x6 b6
      refine ae ?_
      refine g_aM [] [9] [6] b6 (fun x5 g3=>?_)
      have h2:=g3.tk [9]
      refine eY 0 0 h2 ?_
      refine aU 1 h2 ?_
      refine aU 2 h2 ?_
      refine aU 3 h2 ?_
      refine aU 4 h2 ?_
      refine bG (i:=5) ?_
      refine fZ g3 [1,3,4,5,2,6,7,0,8,9,10,11] (A6 X A j hX hI q m hm (ii:Int) ⟨by omega,by omega⟩ _) ?_
      intro x4 g2
      refine bF (g2.tk [9]) ?_
      refine bG (i:=6) ?_
      refine jz (x:=(ii:Int)) (a:=(⟨(eo (decide (0<A.du (ii:Int)))),(A.du (ii:Int)),(eo (A.partB (ii:Int))),(eo (aF m.sug (ii:Int))),(0 - A.lv (ii:Int)),(if A.ino=true then 0 else (A.countV (ii:Int):Int)),(if A.ino=true then 0 else o8 A.seed (ii:Int)),(ii:Int)⟩:Gp)) (iG Tryz.underlying177 Tryz.underlying3) g2 10 (bh rfl) rfl rfl rfl rfl rfl rfl (⟨by omega,by omega⟩) ?_
      intro x3 b2
      refine m_ rfl ?_
      refine fP ?_
      refine ae ?_
      refine ah [0,1,5,6,12,13] ?_
      refine aR ?_
      refine gI ii ?_
      refine ae ?_
      refine bD (i:=(ii,ro,co,oz,MM)) ((ii+1),c7,w8,(oz++[(ii:Int)]),(upM MM (ii:Int) (⟨(eo (decide (0<A.du (ii:Int)))),(A.du (ii:Int)),(eo (A.partB (ii:Int))),(eo (aF m.sug (ii:Int))),(0 - A.lv (ii:Int)),(if A.ino=true then 0 else (A.countV (ii:Int):Int)),(if A.ino=true then 0 else o8 A.seed (ii:Int)),(ii:Int)⟩:Gp))) ⟨(by omega),(by rw [aj (cK (by omega)),List.filter_append,List.filter_cons,if_pos (show A.candB m.pe (ii:Int)=true from (by unfold PK.candB; simp [Mt.pe,H7,H5,H2,H4,H9])),List.filter_nil,← hoz]),(fun y hy=>if e:y=(ii:Int) then (if_pos e).trans (by rw [e]; rfl) else (if_neg e).trans (hMM y ((List.mem_append.1 hy).resolve_right fun h=>e (List.mem_singleton.1 h)))),(by first | omega | (simp only [List.length_append,List.length_cons,List.length_nil]; omega)),(b2.tk [8,9,10,0,1,2,3,4,5,6,11])⟩
     refine g_cond_f rfl H9 ?_
     refine aE ?_
     refine gI ii ?_
     refine ae ?_
     refine bD (i:=(ii,ro,co,oz,MM)) ((ii+1),ro,co,oz,MM) ⟨(by omega),(by rw [aj (cK (by omega)),List.filter_append,List.filter_cons,if_neg (show ¬ A.candB m.pe (ii:Int)=true from (by unfold PK.candB; simp [Mt.pe,H7,H5,H2,H4,H9])),List.filter_nil,List.append_nil,← hoz]),hMM,(by first | omega | (simp only [List.length_append,List.length_cons,List.length_nil]; omega)),(h0.tk [7,8,9,0,2,3,4,1,5,6,10])⟩
    iterate 6 refine dh (aa H4) ?_
    refine aN H2 (pt (aa H4)) ?_
    refine w_v (dH rfl rfl H2 rfl) ?_
    refine cD ?_
    refine ah [0,1,5,6,7,12,13,39] ?_
    refine g_cond_t rfl rfl ?_
    refine aC ?_
    refine l_of (fC Av #[vI ii] h0 ?_)
    intro k1 x2 g1
    have hln45a:=(g1.rr 8).lenL bE
    have hln45:(oz++[(ii:Int)]).length=oz.length+1:=by simp only [List.length_append,List.length_cons,List.length_nil] <;> omega
    refine l_of (fE oe [(ii:Int)] bE g1 8 0 ?_)
    intro c6 c9 x1 b1
    refine ae ?_
    refine g_aM [] [9] [6] b1 (fun x0 g0=>?_)
    have h1:=g0.tk [9]
    refine eY 0 0 h1 ?_
    refine aU 1 h1 ?_
    refine aU 2 h1 ?_
    refine aU 3 h1 ?_
    refine aU 4 h1 ?_
    refine bG (i:=5) ?_
    refine fZ g0 [1,3,4,5,2,6,7,0,8,9,10,11] (A6 X A j hX hI q m hm (ii:Int) ⟨by omega,by omega⟩ _) ?_
    intro g9 h9
    refine bF (h9.tk [9]) ?_
    refine bG (i:=6) ?_
    refine jz (x:=(ii:Int)) (a:=(⟨(eo (decide (0<A.du (ii:Int)))),(A.du (ii:Int)),(eo (A.partB (ii:Int))),(eo (aF m.sug (ii:Int))),(0 - A.lv (ii:Int)),(if A.ino=true then 0 else (A.countV (ii:Int):Int)),(if A.ino=true then 0 else o8 A.seed (ii:Int)),(ii:Int)⟩:Gp)) (iG Tryz.underlying177 Tryz.underlying3) h9 10 (bh rfl) rfl rfl rfl rfl rfl rfl (⟨by omega,by omega⟩) ?_
    intro g8 b0
    refine m_ rfl ?_
    refine fP ?_
    refine ae ?_
    refine ah [0,1,5,6,12,13] ?_
    refine aR ?_
    refine gI ii ?_
    refine ae ?_
    refine bD (i:=(ii,ro,co,oz,MM)) ((ii+1),c6,c9,(oz++[(ii:Int)]),(upM MM (ii:Int) (⟨(eo (decide (0<A.du (ii:Int)))),(A.du (ii:Int)),(eo (A.partB (ii:Int))),(eo (aF m.sug (ii:Int))),(0 - A.lv (ii:Int)),(if A.ino=true then 0 else (A.countV (ii:Int):Int)),(if A.ino=true then 0 else o8 A.seed (ii:Int)),(ii:Int)⟩:Gp))) ⟨(by omega),(by rw [aj (cK (by omega)),List.filter_append,List.filter_cons,if_pos (show A.candB m.pe (ii:Int)=true from (by unfold PK.candB; simp [Mt.pe,H7,H5,H2,H4])),List.filter_nil,← hoz]),(fun y hy=>if e:y=(ii:Int) then (if_pos e).trans (by rw [e]; rfl) else (if_neg e).trans (hMM y ((List.mem_append.1 hy).resolve_right fun h=>e (List.mem_singleton.1 h)))),(by first | omega | (simp only [List.length_append,List.length_cons,List.length_nil]; omega)),(b0.tk [8,9,10,0,1,2,3,4,5,6,11])⟩
   iterate 6 refine dh H2 ?_
   iterate 6 refine Gr ?_
   refine dh H2 ?_
   refine w_v (cH rfl rfl H2 rfl) ?_
   refine cD ?_
   refine ah [0,1,5,6,7,12,13,39] ?_
   refine g_cond_f rfl rfl ?_
   refine aE ?_
   refine gI ii ?_
   refine ae ?_
   refine bD (i:=(ii,ro,co,oz,MM)) ((ii+1),ro,co,oz,MM) ⟨(by omega),(by rw [aj (cK (by omega)),List.filter_append,List.filter_cons,if_neg (show ¬ A.candB m.pe (ii:Int)=true from (by unfold PK.candB; simp [Mt.pe,H7,H5,H2])),List.filter_nil,List.append_nil,← hoz]),hMM,(by first | omega | (simp only [List.length_append,List.length_cons,List.length_nil]; omega)),(h0.tk [7,8,9,0,2,3,4,1,5,6,10])⟩
  iterate 4 refine dh H5 ?_
  refine w_v (cH rfl rfl H5 rfl) ?_
  refine cJ ?_
  iterate 6 refine dh rfl ?_
  iterate 6 refine Gr ?_
  refine dh rfl ?_
  refine w_v (pf rfl) ?_
  refine cD ?_
  refine ah [0,1,5,6,7,12,13,39] ?_
  refine g_cond_f rfl rfl ?_
  refine aE ?_
  refine gI ii ?_
  refine ae ?_
  refine bD (i:=(ii,ro,co,oz,MM)) ((ii+1),ro,co,oz,MM) ⟨(by omega),(by rw [aj (cK (by omega)),List.filter_append,List.filter_cons,if_neg (show ¬ A.candB m.pe (ii:Int)=true from (by unfold PK.candB; simp [Mt.pe,H7,H5])),List.filter_nil,List.append_nil,← hoz]),hMM,(by first | omega | (simp only [List.length_append,List.length_cons,List.length_nil]; omega)),(h5.tk [7,8,9,0,1,2,3,4,5,6,10])⟩
 refine br H7 ?_
 refine cp ?_
 refine w_v (h_ rfl rfl rfl) ?_
 have c8:ii=A.n:=by omega
 have hoc:oz=A.candL m.pe:=by rw [hoz,c8,List.take_of_length_le (by rw [je]; exact Nat.le_refl _)]; rfl
 have h7:S _ [_,_,_,_,_,_,_,_,_,_]:=S.big (L:=[_,_]) (g6.tk [1,2,0,3,4,5,6,7,8,9,10])
 refine l_of (aG (HT (A:=A) (p:=m.pe) g4 h3 MM oz hoc hMM hn24 ro co _ (h7.tk [1,0])) ?_)
 rintro _ g7 ⟨rfl,h4⟩
 replace h4:=h7.aI2 [1,0] h4
 have w9:S _ [_,_,_,_,_,_,_,_,_,_,_]:=S.unbig (h4.tk [1,0,2,3,4,5,6,7,8,9])
 refine bW ?_
 refine a_ ?_
 refine af ?_
 have h6:(A.cand m.pe).length=oz.length:=by rw [hoc]; exact D3 _ _ _
 exact ⟨ro,co,by rw [h6]; rfl,by rw [h6]; exact ((S.big (L:=[_,_,_,_,_,_,_]) (w9.tk [3,4,5,6,7,8,9,2,10])).tk [1,0,2])⟩
end Go.Proofs.YthmmfhdpkddniaaGreatDoor
namespace Go.Proofs.YthmmfhdpkddniaaGreatDoor
section
variable {β:Type} {d:β} {c:β→β→Int} {R:β→β→Prop} {tag:β→Nat}
inductive Cc (R:β→β→Prop) (s:Nat):List β→List β→Prop
 | last {T M:List β}:T.length≤s→M.Perm T→M.Pairwise R→Cc R s T M
 | cons {T M M':List β}:s<T.length→M.Perm (T.take s)→M.Pairwise R→Cc R s (T.drop s) M'→Cc R s T (M++M')
theorem Cc.perm {s:Nat} {T M:List β} (h:Cc R s T M):M.Perm T:=by
 induction h with
 | last _ h _=>exact h
 | @cons T _ _ _ h1 _ _ ih=>rw [← List.take_append_drop s T]; exact h1.append ih
theorem Cc.cut {s:Nat} {T M:List β} (h:Cc R s T M) (hs:s≤T.length):∃ M1 M',M=M1++M'∧M1.Perm (T.take s)∧M1.Pairwise R∧Cc R s (T.drop s) M':=by
 cases h with
 | last h1 h2 h3 =>
   refine ⟨M,[],(List.append_nil _).symm,by rw [List.take_of_length_le h1]; exact h2,h3,.last (by rw [List.length_drop]; omega) ?_ .nil⟩
   rw [List.drop_of_length_le h1]
 | cons h1 h2 h3 h4=>exact ⟨_,_,rfl,h2,h3,h4⟩
theorem Cc.join {s:Nat} {T M M':List β} (hs:s≤T.length) (h1:M.Perm (T.take s)) (h2:M.Pairwise R) (h3:Cc R s (T.drop s) M'):Cc R s T (M++M'):=by
 by_cases h:s<T.length
 · exact .cons h h1 h2 h3
 · have hp:=h3.perm
   rw [List.drop_of_length_le (by omega)] at hp
   have hp:=hp.eq_nil
   subst hp
   rw [List.append_nil]
   rw [List.take_of_length_le (by omega)] at h1
   exact .last (by omega) h1 h2
theorem Bp {s n:Nat} (hs:0<s):∀ {k a:Nat} {A T:List β},a=A.length→n=A.length+T.length→n≤a+k→tz R tag c T→T.Pairwise (fun y z=>tag y<tag z)→∃ M,mF d c s n k a (A++T)=A++M∧Cc R s T M
 | 0,a,A,T,ha,hn,hk,hO,hT=>by
   obtain ⟨M,h1,h2,h3⟩:=nq (d:=d) (c:=c) (R:=R) (tag:=tag) (A:=A) (T:=T) (B:=[]) (a:=a) (b:=n) ha hn hO hT
   rw [List.append_nil,List.append_nil] at h1
   exact ⟨M,h1,.last (by omega) h2 h3⟩
 | k+1,a,A,T,ha,hn,hk,hO,hT=>by
   unfold mF
   split
   · have pt:=List.pairwise_append.1 ((List.take_append_drop s T).symm ▸ hT)
     obtain ⟨M,h1,h2,h3⟩:=nq (d:=d) (c:=c) (R:=R) (tag:=tag) (A:=A) (T:=T.take s) (B:=T.drop s) (a:=a) (b:=a+s) ha (by rw [List.length_take]; omega) (hO.sub fun y hy=>List.mem_of_mem_take hy) pt.1
     have h1:kU d c a (a+s) (A++T)=A++M++T.drop s:=by rw [List.append_assoc,List.take_append_drop] at h1; exact h1
     have hl:M.length=s:=by rw [h2.length_eq,List.length_take]; omega
     rw [h1]
     obtain ⟨M',h4,h5⟩:=Bp (s:=s) (n:=n) hs (k:=k) (a:=a+s) (A:=A++M) (T:=T.drop s) (by rw [List.length_append]; omega) (by rw [List.length_append,List.length_drop]; omega) (by omega) (hO.sub fun y hy=>List.mem_of_mem_drop hy) pt.2.1
     exact ⟨M++M',by rw [h4,List.append_assoc],.join (by omega) h2 h3 h5⟩
   · obtain ⟨M,h1,h2,h3⟩:=nq (d:=d) (c:=c) (R:=R) (tag:=tag) (A:=A) (T:=T) (B:=[]) (a:=a) (b:=n) ha hn hO hT
     rw [List.append_nil,List.append_nil] at h1
     exact ⟨M,h1,.last (by omega) h2 h3⟩
theorem AY {s n:Nat} (hs:0<s):∀ {k a:Nat} {A T M:List β},a=A.length→n=A.length+T.length→n≤a+k→tz R tag c T→T.Pairwise (fun y z=>tag y<tag z)→Cc R s T M→∃ M',oa d c s n k a (A++M)=A++M'∧Cc R (2 * s) T M'
 | 0,a,A,T,M,ha,hn,hk,hO,hT,hM=>by
   unfold oa
   rw [if_neg (by omega)]
   cases hM with
   | last h1 h2 h3=>exact ⟨M,rfl,.last (by omega) h2 h3⟩
   | cons h1=>omega
 | k+1,a,A,T,M,ha,hn,hk,hO,hT,hM=>by
   have hlM:=hM.perm.length_eq
   unfold oa
   by_cases h2s:a+2 * s≤n
   · rw [if_pos h2s]
     obtain ⟨M1,M',rfl,p1,q1,b1⟩:=hM.cut (by omega)
     obtain ⟨M2,M3,rfl,p2,q2,b2⟩:=b1.cut (by rw [List.length_drop]; omega)
     have l1:M1.length=s:=by rw [p1.length_eq,List.length_take]; omega
     have l2:M2.length=s:=by rw [p2.length_eq,List.length_take,List.length_drop]; omega
     have H3:T.take (2 * s)=T.take s++(T.drop s).take s:=by rw [show 2 * s=s+s by omega,List.take_add]
     have pt:=List.pairwise_append.1 ((List.take_append_drop s T).symm ▸ hT)
     have m1:∀ y,y∈M1→y∈T.take s:=fun y hy=>p1.mem_iff.1 hy
     have m2:∀ y,y∈M2→y∈T.drop s:=fun y hy=>List.mem_of_mem_take (p2.mem_iff.1 hy)
     obtain ⟨Q,g1,g2,g3⟩:=qj (d:=d) (c:=c) (R:=R) (tag:=tag) (n:=2 * s) (A:=A) (L:=M1) (K:=M2) (B:=M3) (a:=a) (m:=a+s) (b:=a+2 * s) ha (by omega) (by omega) (by omega) (by omega) (by omega)
       (hO.sub fun y hy=>by
         rcases List.mem_append.1 hy with h | h
         · exact List.mem_of_mem_take (m1 y h)
         · exact List.mem_of_mem_drop (m2 y h)) q1 q2 (fun y hy z hz=>pt.2.2 y (m1 y hy) z (m2 z hz))
     have e:A++(M1++(M2++M3))=A++M1++M2++M3:=by simp
     rw [e,g1]
     have ed:T.drop (2 * s)=(T.drop s).drop s:=by rw [List.drop_drop,show s+s=2 * s by omega]
     have lQ:Q.length=2 * s:=by rw [g2.length_eq,List.length_append]; omega
     have H2:=List.pairwise_append.1 ((List.take_append_drop (2 * s) T).symm ▸ hT)
     obtain ⟨M',h4,h5⟩:=AY (s:=s) (n:=n) hs (k:=k) (a:=a+2 * s) (A:=A++Q) (T:=T.drop (2 * s)) (M:=M3) (by rw [List.length_append]; omega) (by rw [List.length_append,List.length_drop]; omega) (by omega) (hO.sub fun y hy=>List.mem_of_mem_drop hy) H2.2.1 (by rw [ed]; exact b2)
     refine ⟨Q++M',by rw [h4,List.append_assoc],.join (by omega) ?_ g3 h5⟩
     rw [H3]
     exact g2.trans (p1.append p2)
   rw [if_neg h2s]
   by_cases h1s:a+s<n
   · rw [if_pos h1s]
     obtain ⟨M1,M2,rfl,p1,q1,b1⟩:=hM.cut (by omega)
     have l1:M1.length=s:=by rw [p1.length_eq,List.length_take]; omega
     have p2:=b1.perm
     have q2:M2.Pairwise R:=by
       cases b1 with
       | last _ _ h=>exact h
       | cons h=>rw [List.length_drop] at h; omega
     have l2:M2.length=T.length - s:=by rw [p2.length_eq,List.length_drop]
     have pt:=List.pairwise_append.1 ((List.take_append_drop s T).symm ▸ hT)
     obtain ⟨Q,g1,g2,g3⟩:=qj (d:=d) (c:=c) (R:=R) (tag:=tag) (n:=n - a) (A:=A) (L:=M1) (K:=M2) (B:=[]) (a:=a) (m:=a+s) (b:=n) ha (by omega) (by omega) (by omega) (by omega) (by omega)
       (hO.sub fun y hy=>by
         rcases List.mem_append.1 hy with h | h
         · exact List.mem_of_mem_take (p1.mem_iff.1 h)
         · exact List.mem_of_mem_drop (p2.mem_iff.1 h)) q1 q2 (fun y hy z hz=>pt.2.2 y (p1.mem_iff.1 hy) z (p2.mem_iff.1 hz))
     have e:A++(M1++M2)=A++M1++M2++[]:=by simp
     rw [e,g1,List.append_nil]
     refine ⟨Q,rfl,.last (by omega) ?_ g3⟩
     rw [← List.take_append_drop s T]
     exact g2.trans (p1.append p2)
   rw [if_neg h1s]
   cases hM with
   | last h1 h2 h3=>exact ⟨M,rfl,.last (by omega) h2 h3⟩
   | cons h1=>omega
theorem AZ {n:Nat}:∀ {k s:Nat} {T M:List β},0<s→n=T.length→n≤s+k→tz R tag c T→T.Pairwise (fun y z=>tag y<tag z)→Cc R s T M→(mW d c n k s M).Pairwise R
 | 0,s,T,M,hs,hn,hk,hO,hT,hM=>by
   unfold mW
   cases hM with
   | last _ _ h=>exact h
   | cons h=>omega
 | k+1,s,T,M,hs,hn,hk,hO,hT,hM=>by
   unfold mW
   by_cases h:s<n
   · rw [if_pos h]
     obtain ⟨M',h1,h2⟩:=AY (d:=d) (c:=c) (R:=R) (tag:=tag) (s:=s) (n:=n) hs (k:=n) (a:=0) (A:=[]) (T:=T) (M:=M) rfl (by simpa using hn) (by omega) hO hT hM
     rw [List.nil_append,List.nil_append] at h1
     rw [h1]
     exact AZ (k:=k) (s:=2 * s) (T:=T) (M:=M') (by omega) hn (by omega) hO hT h2
   · rw [if_neg h]
     cases hM with
     | last _ _ h=>exact h
     | cons h=>omega
theorem yj {l:List β} (hO:tz R tag c l) (ht:l.Pairwise (fun y z=>tag y<tag z)):(hU d c l).Pairwise R:=by
 obtain ⟨M,h1,h2⟩:=Bp (d:=d) (c:=c) (R:=R) (tag:=tag) (s:=20) (n:=l.length) (by decide) (k:=l.length) (a:=0) (A:=[]) (T:=l) rfl (by simp) (by omega) hO ht
 rw [List.nil_append,List.nil_append] at h1
 unfold hU
 rw [h1]
 exact AZ (by decide) rfl (by omega) hO ht h2
theorem CP [DecidableEq β] {l:List β} (key:β→Nat) (hn:l.Nodup) (hk:∀ x∈l,key x=1∨key x=2) (hc:∀ x∈l,∀ y∈l,(c x y<0 ↔ key x<key y)) :
   hU d c l=l.filter (fun x=>decide (key x=1))++l.filter fun x=>decide (key x=2):=by
 have htag:l.Pairwise fun x y=>l.idxOf x<l.idxOf y:=by
   rw [List.pairwise_iff_getElem]
   intro i j hi hj hij
   rw [hn.idxOf_getElem,hn.idxOf_getElem]
   exact hij
 have hO:tz (fun x y=>key x<key y∨key x=key y∧l.idxOf x<l.idxOf y) (fun x=>l.idxOf x) c l:=
   ⟨fun x y z _ _ _ h1 h2=>by omega,fun x _ h=>by omega,fun x y _ _ h1 h2=>by omega,fun x y hx hy h1=>by rw [hc y hy x hx]; omega⟩
 have h1:=yj (d:=d) hO htag
 have hf:∀ t,(l.filter fun x=>decide (key x=t)).Pairwise fun x y=>key x<key y∨key x=key y∧l.idxOf x<l.idxOf y:=fun t=>by
   refine (List.Pairwise.imp_of_mem (fun {a b} ha hb hab=>?_) (htag.sublist List.filter_sublist))
   have e1:=of_decide_eq_true (List.mem_filter.1 ha).2
   have e2:=of_decide_eq_true (List.mem_filter.1 hb).2
   exact .inr ⟨e1.trans e2.symm,hab⟩
 have h2:(l.filter (fun x=>decide (key x=1))++l.filter fun x=>decide (key x=2)).Pairwise fun x y=>key x<key y∨key x=key y∧l.idxOf x<l.idxOf y:=
   List.pairwise_append.2 ⟨hf 1,hf 2,fun a ha b hb=>by
     have e1:=of_decide_eq_true (List.mem_filter.1 ha).2
     have e2:=of_decide_eq_true (List.mem_filter.1 hb).2
     exact .inl (by omega)⟩
 have hp:(l.filter (fun x=>decide (key x=1))++l.filter fun x=>decide (key x=2)).Perm l:=by
   have h3:(l.filter fun x=>decide (key x=2))=l.filter fun x=>!decide (key x=1):=List.filter_congr fun x hx=>by
     rcases hk x hx with h | h <;> rw [h] <;> rfl
   rw [h3]
   exact List.filter_append_perm _ _
 exact List.Perm.eq_of_pairwise (fun a b _ _ h1 h2=>by omega) h1 h2 ((mw d c l).trans hp.symm)
end
end Go.Proofs.YthmmfhdpkddniaaGreatDoor
namespace Go.Proofs.YthmmfhdpkddniaaGreatDoor
open Go.RowKit
theorem O9 (X:XP) (A:PK) (j:Nat) (hX:di X A) (hI:bQ j A) (a b:aV) (hao:qE a.at) (hbo:qE b.at) (ia ib:Nat) (ra rb:Bk) (hraq:X.bs[ia]?=some ra) (hrab:gZ X.bs a.at=some ra.b) (hrbq:X.bs[ib]?=some rb) (hrbb:gZ X.bs b.at=some rb.b) (b0:Nat) (hla:ra.asked.length≤1000∧rb.asked.length≤1000)  (w:World) (HS:S w [(XI X A),Ob b0 (.cells #[vP X.g] 26 (0,0))]):Calls Tryz.prog 137 #[.agg #[vI a.pc,vI a.bg,vI a.ln],.agg #[vI b.pc,vI b.bg,vI b.ln],vP b0] w fun e w'=>e=.returned (vI (sg ((ra.asked.length:Nat):Int) ((rb.asked.length:Nat):Int)))∧S w' ([(XI X A),Ob b0 (.cells #[vP X.g] 26 (0,0))]++[aB w (aT [(XI X A),Ob b0 (.cells #[vP X.g] 26 (0,0))])]):=by
 have H0:=HS.beginI
 have h8:=hI.a8
 have hla1:=hI.la1
 replace H0:=H0.ub [0,1,2]
 obtain ⟨hla1,hlb1⟩:=hla
 refine en Tryz.func137 ?_
 refine ah [0,1,2] ?_
 refine iF ?_
 refine l_of (fq H0 ?_)
 intro g1 h3 H3
 refine l_of (fq H3 ?_)
 intro g4 h2 H6
 refine ae ?_
 refine g_seq ?_
 refine g_aS [] [] H6 (fun h1 H8=>?_)
 refine eY 0 9 H8 ?_
 refine aU 1 H8 ?_
 refine aU 2 H8 ?_
 refine eY 3 2 H8 ?_
 refine bT 4 rfl H8 (fun _ H=>fS H 1) ?_
 refine eY 11 9 H8 ?_
 refine aU 12 H8 ?_
 refine aU 13 H8 ?_
 refine eY 14 2 H8 ?_
 refine bT 15 rfl H8 (fun _ H=>fS H 0) ?_
 refine bG (i:=5) ?_
 refine cz H8 (sr a _) ?_
 intro h0 H4
 refine bF H4 ?_
 refine bT (v:=vP ra.b) 6 rfl H4 (fun _ H=>aH (bU (x:=a.at) jp H 7 rfl rfl rfl rfl (hao) vw) (hG hrab)) ?_
 refine aU 7 H4 ?_
 refine aU 8 H4 ?_
 refine bT (v:=.slice ra.ap ra.asked.length ra.ac) 9 rfl H4 (fun _ H=>f_ rfl rfl Tryz.underlying59 rfl (H.bkCell (k:=8) rfl hraq (c:=1) rfl)) ?_
 refine bT 10 rfl H4 (fun _ _=>Aw) ?_
 refine bG (i:=16) ?_
 refine cz H4 (sr b _) ?_
 intro H9 H2
 refine bF H2 ?_
 refine bT (v:=vP rb.b) 17 rfl H2 (fun _ H=>aH (bU (x:=b.at) jp H 7 rfl rfl rfl rfl (hbo) vw) (hG hrbb)) ?_
 refine aU 18 H2 ?_
 refine aU 19 H2 ?_
 refine bT (v:=.slice rb.ap rb.asked.length rb.ac) 20 rfl H2 (fun _ H=>f_ rfl rfl Tryz.underlying59 rfl (H.bkCell (k:=8) rfl hrbq (c:=1) rfl)) ?_
 refine bT 21 rfl H2 (fun _ _=>Aw) ?_
 refine bG (i:=22) ?_
 refine aG (MB (ra.asked.length:Int) (rb.asked.length:Int) _) ?_
 rintro _ H7 ⟨rfl,H5⟩
 replace H5:=H2.ab0 H5
 have hsg9:=Mq (ra.asked.length:Int) (rb.asked.length:Int)
 refine bW ?_
 refine bF H5 ?_
 refine bG (i:=23) ?_
 refine iW xa ?_
 refine bF H5 ?_
 refine fP ?_
 refine aR ?_
 refine ah [5] ?_
 refine aR ?_
 refine af ?_
 exact ⟨rfl,((S.big (L:=[_,_,_,_,_,_,_]) (H5.tk [2,3,4,5,6,7,8,9,10])).tk [1,0,2]).tk [1,0,2]⟩
theorem Cp (l:List aV):mV MW l=fl aO l:=by
 unfold mV fl
 rfl
theorem Lj:aI Tryz.prog 137=true:=by kernel_rfl
theorem JZ {a b:Nat}:sg (a:Int) (b:Int)<0 ↔ a<b:=by
 unfold sg
 split
 · omega
 · split <;> omega
theorem JU {X:XP} {A:PK} {j:Nat} (hX:di X A) (hI:bQ j A) (b0:Nat) (z:List aV) (hn:z.Nodup) (hz:∀ x∈z,A.isB x∧A.freeC x=false∧((cn A.asked x).length=1∨(cn A.asked x).length=2)) (hl:z.length≤100000) (po:Option Addr) (co:Nat) (w:World) (HS:S w [Rw 44 3 po z.length co (fl aO z),fN [(XI X A),Ob b0 (.cells #[vP X.g] 26 (0,0))]]) :
   Calls Tryz.prog 136 #[.slice po z.length co,.func (.func 137) #[] #[vP b0]] w fun e w'=>e=.returned (.tuple #[])∧S w' ([Rw 44 3 po z.length co (fl aO (z.filter (fun c=>decide ((cn A.asked c).length=1))++z.filter fun c=>decide ((cn A.asked c).length=2))),fN [(XI X A),Ob b0 (.cells #[vP X.g] 26 (0,0))]]++[aB w (aT [Rw 44 3 po z.length co (fl aO z),fN [(XI X A),Ob b0 (.cells #[vP X.g] 26 (0,0))]])]):=by
 have hc:zF Tryz.prog 137 #[] #[vP b0] (fN [(XI X A),Ob b0 (.cells #[vP X.g] 26 (0,0))]) MW (fun x y=>sg (((cn A.asked x).length:Nat):Int) (((cn A.asked y).length:Nat):Int)) z:=by
   refine ⟨Lj,fun x hx y hy w1 h1=>?_⟩
   obtain ⟨hxB,hxf,hxl⟩:=hz x hx
   obtain ⟨hyB,hyf,hyl⟩:=hz y hy
   obtain ⟨ia,ra,hraq,hrak,hrab,_⟩:=hX.bok.get hxB hxf
   obtain ⟨ib,rb,hrbq,hrbk,hrbb,_⟩:=hX.bok.get hyB hyf
   have ea:=(hX.bok.ent hxB hraq hrak).2
   have eb:=(hX.bok.ent hyB hrbq hrbk).2
   have h2:=S.unbig (L:=[_,_]) h1
   have h3:=O9 X A j hX hI x y (jQ hI ⟨hxB.1,hxB.2.1⟩ hxB.2.2) (jQ hI ⟨hyB.1,hyB.2.1⟩ hyB.2.2) ia ib ra rb hraq hrab hrbq hrbb b0 (by rw [ea,eb]; omega) w1 (by exact h2)
   rw [ea,eb] at h3
   refine h3.mono ?_
   rintro e w' ⟨rfl,hs⟩
   refine ⟨rfl,?_⟩
   have e2:aT [fN [(XI X A),Ob b0 (.cells #[vP X.g] 26 (0,0))]]=aT [(XI X A),Ob b0 (.cells #[vP X.g] 26 (0,0))]:=by
     funext g
     refine propext ⟨fun ⟨it,h1,h3⟩=>?_,fun h=>⟨fN [(XI X A),Ob b0 (.cells #[vP X.g] 26 (0,0))],List.mem_singleton.2 rfl,h⟩⟩
     rw [List.mem_singleton] at h1; subst h1; exact h3
   rw [e2]
   exact S.big (L:=[_,_]) hs
 have h:=Ao (⟨0,0,0⟩:aV) MW (fun c=>#[vI c.pc,vI c.bg,vI c.ln]) (fun _=>rfl) (fun _=>rfl) (fun _=>rfl) z z.length rfl po co (by omega) _ 137 #[] #[vP b0] (fN [(XI X A),Ob b0 (.cells #[vP X.g] 26 (0,0))]) hc w (by rw [Cp]; exact HS)
 rw [Cp,Cp,CP (fun c=>(cn A.asked c).length) hn (fun x hx=>(hz x hx).2.2) (fun x _ y _=>JZ)] at h
 exact h
end Go.Proofs.YthmmfhdpkddniaaGreatDoor
