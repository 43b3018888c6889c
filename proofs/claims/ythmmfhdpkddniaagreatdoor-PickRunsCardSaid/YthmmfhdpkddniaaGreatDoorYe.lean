import Derived.Deep.Slices
import Derived.Test.YthmmfhdpkddniaaGreatDoorYd
set_option maxRecDepth 20000
set_option maxHeartbeats 4000000
set_option linter.all false
/- What the arguments of the laws hold. -/
namespace Go.Proofs.YthmmfhdpkddniaaGreatDoor
open Go.ChangeShapes Go.WideShapes Go.ChangeAt Go.RowKit Go.Joins Go.Deep
structure SuT where
 n:Int
 pz:Int
 la:Int
 sd:ByteArray
 ino:Bool
def P3 (l:List De):List Value:=l.flatMap PN
def SL (l:List o_):List Value:=l.flatMap jC
section
variable {H:Type} {enc:TypeId × Value→H} {w:World} {base:Nat} {spare:Nat→Bool} {held:Bool}
theorem Bz {α:Type} {f:α→List Value} {size:Nat}:∀ {l:List α} {j:Nat} {u:Value},(∀ a∈l,(f a).length=size)→(l.flatMap f)[j]?=some u→∃ i k a,i<l.length∧l[i]?=some a∧j=i * size+k∧k<size∧(f a)[k]?=some u
 | [],j,u,_,h=>by simp at h
 | a :: l,j,u,hs,h=>by
   have ha:=hs a (List.mem_cons_self ..)
   rw [List.flatMap_cons,List.getElem?_append] at h
   split at h
   · rename_i hj
     exact ⟨0,j,a,by simp,rfl,by omega,by omega,h⟩
   rename_i hj
   obtain ⟨i,k,b,h1,h2,h3,h4,h5⟩:=Bz (fun b hb=>hs b (List.mem_cons_of_mem _ hb)) h
   refine ⟨i+1,k,b,by simp; omega,by simpa using h2,?_,h4,h5⟩
   rw [Nat.add_mul]; omega
theorem iR {fuel:Nat} {cs:List Value} {x:DataW H × List MemPlace} (h:DataW.trod enc Tryz.prog w base spare held fuel 3 cs=some x) (hl:cs.length=1):∃ (x0:Int),cs=[.int .i64 x0]∧cO x0:=by
 obtain ⟨a,e,_,hw⟩:=DataW.trod_int Tryz.underlying3 h
 exact ⟨a,e,M7 hw⟩
theorem EH {fuel:Nat} {cs:List Value} {x:DataW H × List MemPlace} (h:DataW.trod enc Tryz.prog w base spare held fuel 9 cs=some x) (hl:cs.length=1):∃ (x0:ByteArray),cs=[.string x0]∧True:=by
 obtain ⟨a,e,_⟩:=DataW.trod_string Tryz.underlying9 h
 exact ⟨a,e,trivial⟩
theorem Al {fuel:Nat} {cs:List Value} {x:DataW H × List MemPlace} (h:DataW.trod enc Tryz.prog w base spare held fuel 4 cs=some x) (hl:cs.length=1):∃ (x0:Bool),cs=[.bool x0]∧True:=by
 obtain ⟨a,e,_⟩:=DataW.trod_bool Tryz.underlying4 h
 exact ⟨a,e,trivial⟩
set_option maxRecDepth 100000 in
theorem Jg {fuel:Nat} {cs:List Value} {x:DataW H × List MemPlace} (h:DataW.trod enc Tryz.prog w base spare held fuel 40 cs=some x) (hl:cs.length=2):∃ (x0:Int) (x1:Int),cs=[.int .i64 x0,.int .i64 x1]∧cO x0∧cO x1:=by
 obtain ⟨xs,k,_,hx,_,hlen,hg⟩:=DataW.trod_struct Tryz.underlying40 h
 match cs,hl with
 | [v0,v1],_ =>
   match xs,hlen with
   | [y0,y1],_ =>
     have hc0:Tryz.prog.cellsOf 3=1:=by kernel_rfl
     have g0:DataW.trod enc Tryz.prog w base spare held k 3 [v0]=some y0:=by simpa [hc0] using hg 0 _ rfl
     obtain ⟨a0,e0,w0⟩:=iR g0 rfl
     have hc1:Tryz.prog.cellsOf 3=1:=by kernel_rfl
     have g1:DataW.trod enc Tryz.prog w base spare held k 3 [v1]=some y1:=by simpa [hc1] using hg 1 _ rfl
     obtain ⟨a1,e1,w1⟩:=iR g1 rfl
     simp only [List.cons.injEq,and_true] at e0 e1
     subst e0
     subst e1
     exact ⟨a0,a1,rfl,w0,w1⟩
set_option maxRecDepth 100000 in
theorem Jf {fuel:Nat} {cs:List Value} {x:DataW H × List MemPlace} (h:DataW.trod enc Tryz.prog w base spare held fuel 44 cs=some x) (hl:cs.length=3):∃ (x0:Int) (x1:Int) (x2:Int),cs=[.int .i64 x0,.int .i64 x1,.int .i64 x2]∧cO x0∧cO x1∧cO x2:=by
 obtain ⟨xs,k,_,hx,_,hlen,hg⟩:=DataW.trod_struct Tryz.underlying44 h
 match cs,hl with
 | [v0,v1,v2],_ =>
   match xs,hlen with
   | [y0,y1,y2],_ =>
     have hc0:Tryz.prog.cellsOf 3=1:=by kernel_rfl
     have g0:DataW.trod enc Tryz.prog w base spare held k 3 [v0]=some y0:=by simpa [hc0] using hg 0 _ rfl
     obtain ⟨a0,e0,w0⟩:=iR g0 rfl
     have hc1:Tryz.prog.cellsOf 3=1:=by kernel_rfl
     have g1:DataW.trod enc Tryz.prog w base spare held k 3 [v1]=some y1:=by simpa [hc1] using hg 1 _ rfl
     obtain ⟨a1,e1,w1⟩:=iR g1 rfl
     have hc2:Tryz.prog.cellsOf 3=1:=by kernel_rfl
     have g2:DataW.trod enc Tryz.prog w base spare held k 3 [v2]=some y2:=by simpa [hc2] using hg 2 _ rfl
     obtain ⟨a2,e2,w2⟩:=iR g2 rfl
     simp only [List.cons.injEq,and_true] at e0 e1 e2
     subst e0
     subst e1
     subst e2
     exact ⟨a0,a1,a2,rfl,w0,w1,w2⟩
set_option maxRecDepth 100000 in
theorem Je {fuel:Nat} {cs:List Value} {x:DataW H × List MemPlace} (h:DataW.trod enc Tryz.prog w base spare held fuel 55 cs=some x) (hl:cs.length=13):∃ (x0:Int) (x1:Int) (x2:Int) (x3:Int) (x4:Int) (x5:ByteArray) (x6:Bool) (x7:Bool) (x8:Int) (x9:Int) (x10:Int) (x11:Int) (x12:Int),cs=[.int .i64 x0,.int .i64 x1,.int .i64 x2,.int .i64 x3,.int .i64 x4,.string x5,.bool x6,.bool x7,.int .i64 x8,.int .i64 x9,.int .i64 x10,.int .i64 x11,.int .i64 x12]∧cO x0∧cO x1∧cO x2∧cO x3∧cO x4∧True∧True∧True∧cO x8∧cO x9∧cO x10∧cO x11∧cO x12:=by
 obtain ⟨xs,k,_,hx,_,hlen,hg⟩:=DataW.trod_struct Tryz.underlying55 h
 match cs,hl with
 | [v0,v1,v2,v3,v4,v5,v6,v7,v8,v9,v10,v11,v12],_ =>
   match xs,hlen with
   | [y0,y1,y2,y3,y4,y5,y6,y7,y8,y9],_ =>
     have hc0:Tryz.prog.cellsOf 3=1:=by kernel_rfl
     have g0:DataW.trod enc Tryz.prog w base spare held k 3 [v0]=some y0:=by simpa [hc0] using hg 0 _ rfl
     obtain ⟨a0,e0,w0⟩:=iR g0 rfl
     have hc1:Tryz.prog.cellsOf 3=1:=by kernel_rfl
     have g1:DataW.trod enc Tryz.prog w base spare held k 3 [v1]=some y1:=by simpa [hc1] using hg 1 _ rfl
     obtain ⟨a1,e1,w1⟩:=iR g1 rfl
     have hc2:Tryz.prog.cellsOf 3=1:=by kernel_rfl
     have g2:DataW.trod enc Tryz.prog w base spare held k 3 [v2]=some y2:=by simpa [hc2] using hg 2 _ rfl
     obtain ⟨a2,e2,w2⟩:=iR g2 rfl
     have hc3:Tryz.prog.cellsOf 3=1:=by kernel_rfl
     have g3:DataW.trod enc Tryz.prog w base spare held k 3 [v3]=some y3:=by simpa [hc3] using hg 3 _ rfl
     obtain ⟨a3,e3,w3⟩:=iR g3 rfl
     have hc4:Tryz.prog.cellsOf 3=1:=by kernel_rfl
     have g4:DataW.trod enc Tryz.prog w base spare held k 3 [v4]=some y4:=by simpa [hc4] using hg 4 _ rfl
     obtain ⟨a4,e4,w4⟩:=iR g4 rfl
     have hc5:Tryz.prog.cellsOf 9=1:=by kernel_rfl
     have g5:DataW.trod enc Tryz.prog w base spare held k 9 [v5]=some y5:=by simpa [hc5] using hg 5 _ rfl
     obtain ⟨a5,e5,w5⟩:=EH g5 rfl
     have hc6:Tryz.prog.cellsOf 4=1:=by kernel_rfl
     have g6:DataW.trod enc Tryz.prog w base spare held k 4 [v6]=some y6:=by simpa [hc6] using hg 6 _ rfl
     obtain ⟨a6,e6,w6⟩:=Al g6 rfl
     have hc7:Tryz.prog.cellsOf 4=1:=by kernel_rfl
     have g7:DataW.trod enc Tryz.prog w base spare held k 4 [v7]=some y7:=by simpa [hc7] using hg 7 _ rfl
     obtain ⟨a7,e7,w7⟩:=Al g7 rfl
     have hc8:Tryz.prog.cellsOf 40=2:=by kernel_rfl
     have g8:DataW.trod enc Tryz.prog w base spare held k 40 [v8,v9]=some y8:=by simpa [hc8] using hg 8 _ rfl
     obtain ⟨a8,a9,e8,w8,w9⟩:=Jg g8 rfl
     have hc9:Tryz.prog.cellsOf 44=3:=by kernel_rfl
     have g9:DataW.trod enc Tryz.prog w base spare held k 44 [v10,v11,v12]=some y9:=by simpa [hc9] using hg 9 _ rfl
     obtain ⟨a10,a11,a12,e9,w10,w11,w12⟩:=Jf g9 rfl
     simp only [List.cons.injEq,and_true] at e0 e1 e2 e3 e4 e5 e6 e7 e8 e9
     obtain ⟨q8_0,q8_1⟩:=e8
     obtain ⟨q9_0,q9_1,q9_2⟩:=e9
     subst e0
     subst e1
     subst e2
     subst e3
     subst e4
     subst e5
     subst e6
     subst e7
     subst q8_0
     subst q8_1
     subst q9_0
     subst q9_1
     subst q9_2
     exact ⟨a0,a1,a2,a3,a4,a5,a6,a7,a8,a9,a10,a11,a12,rfl,w0,w1,w2,w3,w4,w5,w6,w7,w8,w9,w10,w11,w12⟩
set_option maxRecDepth 100000 in
theorem C2 {v:Value} {d:DataW H} {ps:List MemPlace} {b0:Nat} (hv:Value.okWide Tryz.prog w .any b0 53 v) (h:DataW.Trod enc Tryz.prog w base spare held 53 v d ps) :
   ∃ (p:Option Addr) (c:Nat) (l:List (Go.Proofs.YthmmfhdpkddniaaGreatDoor.De)),v=.slice p l.length c∧l.length≤9223372036854775807∧bz w p l.length c 13 (P3 l)∧∀ x∈l,cO x.n:=by
 obtain ⟨fuel,hf⟩:=h
 obtain ⟨p,n,c,rfl⟩:∃ p n c,v=.slice p n c:=okWide_slice Tryz.underlying53 hv
 have hC:Tryz.prog.cellsOf 55=13:=by kernel_rfl
 rcases open_slice Tryz.underlying53 hf with ⟨h1,_⟩ | ⟨a,len,cap,m,k,D,Pl,h1,_,hl,hm,hmm,_,hx⟩
 · simp only [Value.cells,List.cons.injEq,Value.slice.injEq,and_true] at h1
   obtain ⟨rfl,rfl,rfl⟩:=h1
   exact ⟨none,0,[],rfl,Nat.zero_le _,⟨rfl,Nat.le_refl _,fun h=>absurd h (Nat.lt_irrefl _)⟩,fun x hx=>by cases hx⟩
 simp only [Value.cells,List.cons.injEq,Value.slice.injEq,and_true] at h1
 obtain ⟨rfl,rfl,rfl⟩:=h1
 have hlm:n≤m:=by rw [hmm]; split <;> omega
 rw [hC] at hx
 have:Inhabited (Go.Proofs.YthmmfhdpkddniaaGreatDoor.De):=⟨(⟨0,0,0,0,0,⟨#[]⟩,false,false,⟨0,0⟩,⟨0,0,0⟩⟩:Go.Proofs.YthmmfhdpkddniaaGreatDoor.De)⟩
 obtain ⟨f,hf⟩:=choose_lt (α:=Go.Proofs.YthmmfhdpkddniaaGreatDoor.De) (n:=n) (p:=fun i x=>(∀ (j:Nat) (u:Value),(PN x)[j]?=some u→w.cell? (a.add (i * 13+j))=some u)∧cO x.n) (fun i hi=>by
   obtain ⟨cs',q1,q2⟩:=hx i (by omega)
   obtain ⟨_,hlen,hcell⟩:=World.cells?_some q1
   obtain ⟨x0,x1,x2,x3,x4,x5,x6,x7,x8,x9,H4,H3,H2,ee,w0,w1,w2,w3,w4,w5,w6,w7,w8,w9,H7,H6,H5⟩:=Je q2 hlen
   subst ee
   refine ⟨⟨x0,x1,x2,x3,x4,x5,x6,x7,⟨x8,x9⟩,⟨H4,H3,H2⟩⟩,fun j u hu=>?_,w3⟩
   have hj:j<13:=(List.getElem?_eq_some_iff.1 hu).1
   have:=hcell j hj
   rw [qz] at this
   rw [this]; exact hu)
 have hlen:((List.range n).map f).length=n:=by simp
 refine ⟨some a,c,(List.range n).map f,by rw [hlen],by rw [hlen]; unfold maxLen at hm; omega,?_,fun x hx=>?_⟩
 · rw [hlen]
   refine ⟨?_,hl,fun hn=>⟨a,rfl,fun j u hu=>?_⟩⟩
   · unfold P3; rw [qC (size:=13) (fun _ _=>rfl),hlen]
   obtain ⟨i,k,x,h1,h2,rfl,h4,h5⟩:=Bz (size:=13) (fun _ _=>rfl) hu
   rw [hlen] at h1
   rw [List.getElem?_map,List.getElem?_range h1] at h2
   simp only [Option.map_some,Option.some.injEq] at h2
   rw [← h2] at h5
   exact (hf i h1).1 k u h5
 obtain ⟨i,hi,rfl⟩:=List.mem_map.1 hx
 exact (hf i (List.mem_range.1 hi)).2
set_option maxRecDepth 100000 in
theorem Jh {fuel:Nat} {cs:List Value} {x:DataW H × List MemPlace} (h:DataW.trod enc Tryz.prog w base spare held fuel 23 cs=some x) (hl:cs.length=5):∃ (x0:Int) (x1:Int) (x2:Int) (x3:ByteArray) (x4:Bool),cs=[.int .i64 x0,.int .i64 x1,.int .i64 x2,.string x3,.bool x4]∧cO x0∧cO x1∧cO x2∧True∧True:=by
 obtain ⟨xs,k,_,hx,_,hlen,hg⟩:=DataW.trod_struct Tryz.underlying23 h
 match cs,hl with
 | [v0,v1,v2,v3,v4],_ =>
   match xs,hlen with
   | [y0,y1,y2,y3,y4],_ =>
     have hc0:Tryz.prog.cellsOf 3=1:=by kernel_rfl
     have g0:DataW.trod enc Tryz.prog w base spare held k 3 [v0]=some y0:=by simpa [hc0] using hg 0 _ rfl
     obtain ⟨a0,e0,w0⟩:=iR g0 rfl
     have hc1:Tryz.prog.cellsOf 3=1:=by kernel_rfl
     have g1:DataW.trod enc Tryz.prog w base spare held k 3 [v1]=some y1:=by simpa [hc1] using hg 1 _ rfl
     obtain ⟨a1,e1,w1⟩:=iR g1 rfl
     have hc2:Tryz.prog.cellsOf 3=1:=by kernel_rfl
     have g2:DataW.trod enc Tryz.prog w base spare held k 3 [v2]=some y2:=by simpa [hc2] using hg 2 _ rfl
     obtain ⟨a2,e2,w2⟩:=iR g2 rfl
     have hc3:Tryz.prog.cellsOf 9=1:=by kernel_rfl
     have g3:DataW.trod enc Tryz.prog w base spare held k 9 [v3]=some y3:=by simpa [hc3] using hg 3 _ rfl
     obtain ⟨a3,e3,w3⟩:=EH g3 rfl
     have hc4:Tryz.prog.cellsOf 4=1:=by kernel_rfl
     have g4:DataW.trod enc Tryz.prog w base spare held k 4 [v4]=some y4:=by simpa [hc4] using hg 4 _ rfl
     obtain ⟨a4,e4,w4⟩:=Al g4 rfl
     simp only [List.cons.injEq,and_true] at e0 e1 e2 e3 e4
     subst e0
     subst e1
     subst e2
     subst e3
     subst e4
     exact ⟨a0,a1,a2,a3,a4,rfl,w0,w1,w2,w3,w4⟩
set_option maxRecDepth 100000 in
theorem CZ {v:Value} {d:DataW H} {ps:List MemPlace} {b0:Nat} (hv:Value.okWide Tryz.prog w .any b0 23 v) (h:DataW.Trod enc Tryz.prog w base spare held 23 v d ps):∃ x:Go.Proofs.YthmmfhdpkddniaaGreatDoor.SuT,v=.agg #[.int .i64 x.n,.int .i64 x.pz,.int .i64 x.la,.string x.sd,.bool x.ino]∧cO x.n:=by
 obtain ⟨cs,rfl,hsz⟩:=okWide_struct Tryz.underlying23 hv
 obtain ⟨l⟩:=cs
 obtain ⟨fuel,hf⟩:=h
 have hC:Tryz.prog.cellsOf 23=5:=by kernel_rfl
 rw [hC] at hsz
 obtain ⟨x0,x1,x2,x3,x4,e,w0,w1,w2,w3,w4⟩:=Jh (cs:=l) hf hsz
 subst e
 exact ⟨⟨x0,x1,x2,x3,x4⟩,rfl,w0⟩
end
end Go.Proofs.YthmmfhdpkddniaaGreatDoor
namespace Go.Proofs.YthmmfhdpkddniaaGreatDoor
open Go.RowKit
theorem Sx:aI Tryz.prog 9=true:=by kernel_rfl
theorem Rm:tw Tryz.prog 55=some (.agg #[.int .i64 0,.int .i64 0,.int .i64 0,.int .i64 0,.int .i64 0,.string (⟨#[]⟩),.bool false,.bool false,.int .i64 0,.int .i64 0,.int .i64 0,.int .i64 0,.int .i64 0]):=by kernel_rfl
theorem HZ (n pz la:Int) (sd:ByteArray) (ino:Bool) (hni:cO n) (l:List De) (p:Option Addr) (nl c:Nat) (hl:nl≤9223372036854775807) (hok:∀ d∈l,cO d.n)  (w:World) (hr:bz w p nl c 13 (fl PN l)):Calls Tryz.prog 6 #[.agg #[vI n,vI pz,vI la,.string sd,.bool ino],.slice p nl c] w fun e w'=>e=.returned (.bool true)∧S w' [aB w no]:=by
 have H0:=S.old w
 have hnl:=hr.lenL Rj
 unfold cO at hni
 refine en Tryz.func6 ?_
 refine ah [0,1] ?_
 refine iF ?_
 refine l_of (fq H0 ?_)
 intro g1 c8 H3
 refine aE ?_
 refine w_v (fS H3 0) ?_
 refine l_of (cz H3 (Kn n pz la sd ino _) ?_)
 intro c7 H5
 refine w_v (cj (b:=decide ((gy n pz sd))) rfl rfl) ?_
 refine cJ ?_
 by_cases H2:(gy n pz sd)
 ·
  refine aN (nf H2) xm ?_
  refine aN (nf H2) Aw ?_
  refine aN (nf H2) (ai rfl rfl rfl fK) ?_
  refine w_v (pf (nf H2)) ?_
  refine cD ?_
  by_cases g0:(50:Int)<(nl:Int)
  ·
   refine bm g0 ?_
   refine iF ?_
   refine l_of (cz H5 (uf _) ?_)
   intro c6 H9
   refine ae ?_
   refine ah [4] ?_
   refine ae ?_
   refine af ?_
   exact ⟨rfl,H9.tk [1]⟩
  refine br g0 ?_
  refine aC ?_
  refine w_v (fS H5 0) ?_
  refine l_of (aG (LI n pz la sd ino H2 _) ?_)
  rintro ee12 x5 hor13
  rcases hor13 with ⟨hne,rfl,H4⟩ | ⟨X,Z,hne,hX,hZ,rfl,H4⟩
  ·
   replace H4:=H5.ab0 H4
   refine bW ?_
   refine dz ?_
   refine ah [1,2,5,6,7] ?_
   refine aC ?_
   refine w_v (cj (b:=true) rfl rfl) ?_
   refine cJ ?_
   refine aN rfl xm ?_
   refine aN (v:=.bool true) rfl (ai rfl rfl rfl (j3 (r:=true) Tryz.underlying26 rfl)) ?_
   refine w_v (pf rfl) ?_
   refine cD ?_
   refine g_cond_t rfl rfl ?_
   refine aC ?_
   refine l_of (bZ H4 (cU rfl rfl rfl rfl rfl) (aP rfl rfl Sx) (uf _) rfl rfl ?_)
   intro x4 x9
   refine w_v (pt rfl) ?_
   refine ae ?_
   refine ah [4] ?_
   refine ae ?_
   refine af ?_
   exact ⟨rfl,x9.tk [1]⟩
  replace H4:=H5.ab2 H4
  have hnn9:n≤1000:=by have h9:=G5 hne (show zQ n pz from ⟨(H2).2.1,(H2).2.2⟩); omega
  refine bW ?_
  refine dz ?_
  refine ah [1,2,5,6,7] ?_
  refine aC ?_
  refine w_v (cj (b:=true) rfl rfl) ?_
  refine cJ ?_
  refine aN rfl xm ?_
  refine aN (v:=.bool false) rfl (ai rfl rfl rfl (j3 (r:=false) Tryz.underlying26 rfl)) ?_
  refine w_v (pf rfl) ?_
  refine cD ?_
  refine g_cond_f rfl rfl ?_
  refine eG ?_
  refine cQ (ι:=Nat × XP × ZP × PK) (fun (i,Xi,Zi,Ai)=>[(2,vP g1),(5,vP X.g),(6,vP Z.g),(35,.slice p nl c),(36,vI nl),(37,vI i)]) (fun (i,Xi,Zi,Ai) wx=>(i≤nl)∧(OX X.g Xi Ai i)∧(OZ Z.g Zi Ai i)∧S wx [(XI Xi Ai),(ZI Zi Ai),Ob g1 (.cells #[vI n,vI pz,vI la,.string sd,.bool ino] 23 (0,0)),aB w no]) (fun (i,Xi,Zi,Ai)=>nl - i) (0,X,Z,(fa n.toNat pz.toNat la.toNat sd ino)) ⟨Nat.zero_le _,hX,hZ,(H4.tk [0,1,2,3])⟩ ?_
  rintro ⟨i,Xi,Zi,Ai⟩ x3 ⟨hi,hXi,hZi,h3⟩
  refine ah [2,5,6,35,36,37] ?_
  refine aC ?_
  refine g_seq ?_
  by_cases h0:((i:Int):Int)<(nl:Int)
  ·
   refine bm h0 ?_
   refine aQ ?_
   refine w_v (iH i (h3.exReads (k:=3) rfl hr (fun _ _ _ h=>h))) ?_
   obtain ⟨H6,H7⟩:=(h3.exReads (k:=3) rfl hr (fun _ _ _ h=>h)).exL Rj i
   refine w_v (bc (vs:=PN H6) i (h3.exReads (k:=3) rfl hr (fun _ _ _ h=>h)) (by omega) rfl rfl Tryz.underlying55 rfl Rq (by rfl) (Rj.flAt H7)) ?_
   refine l_of (cA h3 Rm ?_)
   intro c9 x2 x8
   refine l_of (eu x8 0 ?_)
   intro x1 h5
   refine aQ ?_
   refine w_v (iJ rfl rfl Tryz.underlying9) ?_
   refine ae ?_
   by_cases H8:(1000:Int)<(H6.fl.size:Int)
   ·
    refine bm H8 ?_
    refine iF ?_
    refine l_of (cz h5 (uf _) ?_)
    intro x0 x7
    refine ae ?_
    refine ah [4] ?_
    refine cp ?_
    refine af ?_
    exact ⟨rfl,x7.tk [4]⟩
   refine br H8 ?_
   refine aQ ?_
   refine w_v (fS h5 0) ?_
   refine l_of (aG (O6 hXi hZi H6 (hok H6 (List.mem_of_getElem? H7)) (by omega) _ (h5.tk [1,2])) ?_)
   rintro _ g9 ⟨Y28,V29,hY30,hV31,rfl,h8⟩
   replace h8:=h5.aI2 [1,2] h8
   refine bW ?_
   refine w_v (cj (b:=true) rfl rfl) ?_
   refine cD ?_
   refine ah [2,5,6,35,36,37,50] ?_
   refine g_cond_f rfl rfl ?_
   refine aE ?_
   refine gI i ?_
   refine ae ?_
   refine bD (i:=(i,Xi,Zi,Ai)) ((i+1),Y28,V29,(Ai.deed H6)) ⟨by omega,hY30,hV31,(h8.tk [0,1,3,4])⟩
  refine br h0 ?_
  refine aQ ?_
  refine g_seq ?_
  refine g_aM [] [2] [] h3 (fun g8 h7=>?_)
  have h1:=h7.tk [2]
  refine aU 0 h1 ?_
  refine aU 1 h1 ?_
  refine aU 2 h1 ?_
  refine eY 3 0 h1 ?_
  refine aU 4 h1 ?_
  refine bG (i:=5) ?_
  refine aG (Kb hZi  (by omega) _ (h7.tk [1])) ?_
  rintro _ g7 ⟨pv38,cv39,rfl,h2⟩
  replace h2:=h7.aI2 [1] h2
  have hlr40:(Ai.peers.map fV.k).length≤100:=by rw [List.length_map]; exact hZi.inv.pl
  refine bW ?_
  refine bF (h2.tk [3]) ?_
  refine bG (i:=6) ?_
  refine aG (Nz hXi hZi (by omega) n hnn9 (Ai.peers.map fV.k) (Ia hZi.inv) (by rw [List.length_map]; exact hZi.inv.pl) pv38 cv39 _ (h2.tk [2,1,0])) ?_
  rintro _ g6 ⟨rfl,h4⟩
  replace h4:=h2.aI3 [2,1,0] h4
  refine bW ?_
  have g2:=h4.tk [3]
  refine bF g2 ?_
  refine aU 7 g2 ?_
  refine bG (i:=8) ?_
  refine bZ h4 (cU rfl rfl rfl rfl rfl) (aP rfl rfl Sx) (uf _) rfl rfl ?_
  intro g5 g3
  have h6:=g3.tk [3]
  refine bF h6 ?_
  refine bT 9 rfl h6 (fun _ _=>pt rfl) ?_
  refine bG (i:=10) ?_
  refine iW xa ?_
  refine bF h6 ?_
  refine fP ?_
  refine aR ?_
  refine ah [4] ?_
  refine aR ?_
  refine af ?_
  exact ⟨rfl,g3.tk [4]⟩
 iterate 3 refine dh (nt H2) ?_
 refine w_v (pt (nt H2)) ?_
 refine cD ?_
 refine g_cond_t rfl rfl ?_
 refine iF ?_
 refine l_of (cz H5 (uf _) ?_)
 intro g4 x6
 refine ae ?_
 refine ah [4] ?_
 refine ae ?_
 refine af ?_
 exact ⟨rfl,x6.tk [1]⟩
end Go.Proofs.YthmmfhdpkddniaaGreatDoor
