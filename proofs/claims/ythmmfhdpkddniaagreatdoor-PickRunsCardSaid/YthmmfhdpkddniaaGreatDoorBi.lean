import Derived.Test.YthmmfhdpkddniaaGreatDoorRd
set_option maxRecDepth 20000
set_option maxHeartbeats 4000000
set_option linter.all false
namespace Go.Proofs.YthmmfhdpkddniaaGreatDoor
open Go.RowKit
theorem AE:aI Tryz.prog 112=true:=by kernel_rfl
theorem Gv:aI Tryz.prog 57=true:=by kernel_rfl
theorem P4:aI Tryz.prog 87=true:=by kernel_rfl
theorem DG:Tryz.prog.underlying 20=some (.interface (Tryz.prog.methodsAt 20)):=by kernel_rfl
theorem Gy:jW Tryz.prog 137=some 2:=by kernel_rfl
theorem Rs:jW Tryz.prog 30=some 1:=by kernel_rfl
theorem vZ:tw Tryz.prog 137=some (.agg #[.int .i64 0,.slice none 0 0]):=by kernel_rfl
theorem l_:tw Tryz.prog 30=some (.int .i64 0):=by kernel_rfl
theorem Jw:tw Tryz.prog 4=some (.bool false):=by kernel_rfl
def aL (n:Nat):Nat:=(n+7) / 8
def gP (s:ByteArray) (i:Nat):Bool:=decide (jY s (i / 8) / 2 ^ (7 - i % 8) % 2=1)
def l4 (m:Nat) (s:ByteArray):Option Nat:=(List.range (8 * aL m)).find? (fun i=>decide (m≤i) && gP s i)
def jJ (m:Nat) (s:ByteArray):Int × Int:=
 if s.size=aL m then match l4 m s with | some i=>((i:Int),12) | none=>(-1,0)
 else (min (s.size:Int) (aL m:Int),11)
def i6 (n:Int):Bool:=decide (0≤n) && decide (n≤4096)
def gR (n:Int) (s:ByteArray):Int × Int:=if i6 n=true then jJ n.toNat s else (0,7)
def jK (n:Int) (s:ByteArray):Bool:=decide ((gR n s).2=0)
theorem xJ {m:Nat} {s:ByteArray} {i:Nat} (hs:s.size=aL m) (h:∀ j,m≤j→j<i→gP s j=false) (hi:m≤i) (hl:i<8 * aL m) (hb:gP s i=true):jJ m s=((i:Int),12):=by
 have:l4 m s=some i:=by
   unfold l4
   refine List.find?_eq_some_iff_getElem.2 ⟨by simp [hb,hi],i,by simpa using hl,by simp,fun j hj=>?_⟩
   simp only [List.getElem_range,Bool.not_and,Bool.or_eq_true,Bool.not_eq_true',decide_eq_false_iff_not]
   by_cases hm:m≤j
   · right; exact h j hm hj
   · left; exact hm
 unfold jJ
 rw [if_pos hs,this]
theorem uN {m:Nat} {s:ByteArray} (hs:s.size=aL m) (h:∀ j,m≤j→j<8 * aL m→gP s j=false):jJ m s=(-1,0):=by
 have:l4 m s=none:=by
   unfold l4
   refine List.find?_eq_none.2 fun j hj=>?_
   rw [List.mem_range] at hj
   simp only [Bool.and_eq_true,decide_eq_true_eq,not_and,Bool.not_eq_true]
   exact fun hm=>h j hm hj
 unfold jJ
 rw [if_pos hs,this]
theorem qA {m:Nat} {s:ByteArray} (hs:¬ s.size=aL m):jJ m s=(min (s.size:Int) (aL m:Int),11):=by
 unfold jJ; rw [if_neg hs]
theorem xZ {s:ByteArray} {m i:Nat} (h:∀ j,m≤j→j<i→gP s j=false) (hb:gP s i=false):∀ j,m≤j→j<i+1→gP s j=false:=fun j h1 h2=>by
 rcases Nat.lt_succ_iff_lt_or_eq.1 h2 with h3 | rfl
 · exact h j h1 h3
 · exact hb
def k_ (l:List Bool) (b:List Nat) (i:Nat):List Nat:=
 let c:=b.set (i / 8) (2 * b.getD (i / 8) 0 % 256)
 if l.getD i false=true then c.set (i / 8) ((c.getD (i / 8) 0+1) % 256) else c
def ei (l:List Bool):Nat→List Nat
 | 0=>List.replicate (aL l.length) 0
 | i+1=>k_ l (ei l i) i
def oy (l:List Bool):ByteArray:=nZ (ei l (8 * aL l.length))
theorem B6 (l:List Bool) (b:List Nat) (i:Nat):(k_ l b i).length=b.length:=by
 unfold k_; split <;> simp
theorem jx (l:List Bool):∀ i,(ei l i).length=aL l.length
 | 0=>by simp [ei]
 | i+1=>by rw [ei,B6,jx l i]
theorem Dl {l:List Bool} {b:List Nat} {i:Nat} (h:∀ x∈b,x<256):∀ x∈k_ l b i,x<256:=by
 unfold k_
 have h1:∀ x∈b.set (i / 8) (2 * b.getD (i / 8) 0 % 256),x<256:=fun x hx=>by
   rcases List.mem_or_eq_of_mem_set hx with hx | rfl
   · exact h x hx
   · exact Nat.mod_lt _ (by omega)
 split
 · intro x hx
   rcases List.mem_or_eq_of_mem_set hx with hx | rfl
   · exact h1 x hx
   · exact Nat.mod_lt _ (by omega)
 · exact h1
theorem uy (l:List Bool):∀ i,∀ x∈ei l i,x<256
 | 0=>fun x hx=>by rw [ei] at hx; have:=List.eq_of_mem_replicate hx; omega
 | i+1=>by rw [ei]; exact Dl (uy l i)
theorem vK {b:List Nat} (h:∀ x∈b,x<256) (i:Nat):b.getD i 0<256:=by
 rw [List.getD_eq_getElem?_getD]
 cases hq:b[i]? with
 | none=>show (0:Nat)<256; omega
 | some x=>exact h x (List.mem_of_getElem? hq)
def jj (b:List Nat) (i:Nat):List Nat:=b.set (i / 8) (b.getD (i / 8) 0 ||| 128 / 2 ^ (i % 8))
def Hh (n:Nat):Nat→List Nat
 | 0=>List.replicate (aL n) 0
 | i+1=>jj (Hh n i) i
theorem tq {b:List Nat} (h:∀ x∈b,x<256) (i:Nat):∀ x∈jj b i,x<256:=fun x hx=>by
 rcases List.mem_or_eq_of_mem_set hx with hx | rfl
 · exact h x hx
 · have h1:=vK h (i / 8)
   have h2:128 / 2 ^ (i % 8)≤128:=Nat.div_le_self _ _
   exact Nat.or_lt_two_pow (n:=8) (by omega) (by omega)
def zA (n:Int):ByteArray × Int:=if i6 n=true then (nZ (List.replicate (aL n.toNat) 0),0) else (⟨#[]⟩,7)
def SG (n:Int):ByteArray × Int:=if i6 n=true then (nZ (Hh n.toNat n.toNat),0) else (⟨#[]⟩,7)
theorem Eb (n:Int)  (w:World):Calls Tryz.prog 100 #[vI n] w fun e w'=>e=.returned (.bool (i6 n))∧S w' [aB w no]:=by
 have H0:=S.old w
 refine en Tryz.func100 ?_
 refine ah [0] ?_
 refine cp ?_
 by_cases H2:(0:Int)≤n
 ·
  refine aN (dt H2) xm ?_
  refine aN (dt H2) (ai rfl rfl rfl pA) ?_
  refine w_v (pt (dt H2)) ?_
  refine aC ?_
  refine af ?_
  exact ⟨by simp only [dQ,i6]; simp [H2],H0.tk [0]⟩
 iterate 2 refine dh (df H2) ?_
 refine w_v (pf (df H2)) ?_
 refine aC ?_
 refine af ?_
 exact ⟨by simp only [dQ,i6]; simp [H2],H0.tk [0]⟩
theorem wz (n:Nat) (hn:n≤1099511627776) (w:World):Calls Tryz.prog 57 #[vI n] w fun e w'=>e=.returned (vI ((aL n:Nat):Int))∧S w' [aB w no]:=by
 have H0:=S.old w
 refine en Tryz.func57 ?_
 refine ah [0] ?_
 refine aQ ?_
 refine bP (v:=vI (((n+7:Nat):Int))) (hb:=(dq (a:=n) (b:=7) (by omega))) ?_
 refine bP (v:=vI ((((n+7) / 8:Nat):Int))) (hb:=(kH (a:=n+7) (b:=8) (by omega))) ?_
 refine aC ?_
 refine af ?_
 exact ⟨rfl,H0.tk [0]⟩
theorem LF {s:ByteArray} {i c:Nat} (hc:c=jY s (i / 8) / 2 ^ (7 - i % 8)):decide (((c % 2:Nat):Int)=1)=gP s i:=by
 subst hc; unfold gP; rw [decide_eq_decide]; omega
theorem sY {m:Nat} (h:m≤4096):i6 (m:Int)=true:=by unfold i6; simp; omega
theorem P8 (s:ByteArray) (i:Nat) (hi:i / 8<s.size) (hi2:i≤1099511627776) (w:World):Calls Tryz.prog 87 #[.string s,vI i] w fun e w'=>e=.returned (.bool (gP s i))∧S w' [aB w no]:=by
 have H0:=S.old w
 have H6:=iE s (i / 8)
 have hcl:∀ k:Nat,jY s (i / 8) / 2 ^ k≤jY s (i / 8):=fun k=>Nat.div_le_self _ _
 refine en Tryz.func87 ?_
 refine ah [0,1] ?_
 refine a_ ?_
 refine bP (v:=vI (((i / 8:Nat):Int))) (hb:=(kH (a:=i) (b:=8) (by omega))) ?_
 have hbt1:=iE s (i / 8)
 refine w_v (v:=.int .u8 ((jY s (i / 8):Int))) (tQ (i / 8) rfl rfl rfl Tryz.underlying9 (by omega)) ?_
 refine w_v (v:=vI ((jY s (i / 8):Int))) (fg rfl rfl Tryz.underlying5 Tryz.underlying3 (jD (by omega))) ?_
 refine aQ ?_
 refine bP (v:=vI (((i % 8:Nat):Int))) (hb:=(qh (a:=i) (b:=8) (by omega))) ?_
 refine bP (v:=vI (((7 - i % 8:Nat):Int))) (hb:=(fj (a:=7) (b:=i % 8) (by omega))) ?_
 refine aC ?_
 refine cQ (ι:=Nat × Nat) (fun (k,c)=>[(5,vI c),(13,vI (((7 - i % 8:Nat):Int))),(14,vI k)]) (fun (k,c) wx=>(k≤7 - i % 8)∧(c=jY s (i / 8) / 2 ^ k)∧S wx [aB w no]) (fun (k,c)=>7 - i % 8 - k) (0,jY s (i / 8)) ⟨Nat.zero_le _,(by rw [Nat.pow_zero,Nat.div_one]),H0⟩ ?_
 rintro ⟨k,c⟩ H5 ⟨hk,hc,H3⟩
 refine ah [5,13,14] ?_
 refine aC ?_
 refine g_seq ?_
 by_cases H2:((k:Int):Int)<((7 - i % 8:Nat):Int)
 ·
  refine bm H2 ?_
  refine a_ ?_
  refine bP (v:=vI (((c / 2:Nat):Int))) (hb:=(kH (a:=c) (b:=2) (by have:=hcl k; omega))) ?_
  refine aQ ?_
  refine bP (v:=vI ((k:Int)+1)) (hb:=(dY (jD (by omega)))) ?_
  refine ae ?_
  refine bD (i:=(k,c)) (k+1,c / 2) ⟨by omega,(by rw [hc,Nat.div_div_eq_div_mul,Nat.pow_succ]),H3⟩
 refine br H2 ?_
 refine cp ?_
 refine bP (v:=vI (((c % 2:Nat):Int))) (hb:=(qh (a:=c) (b:=2) (by omega))) ?_
 refine aE ?_
 refine af ?_
 have H4:k=7 - i % 8:=by omega
 rw [H4] at hc
 exact ⟨by rw [← LF hc]; rfl,H3.tk [0]⟩
theorem Hw (n:Int) (s:ByteArray) (h:i6 n=false) (w:World):Calls Tryz.prog 150 #[vI n,.string s] w fun e w'=>e=.returned (.tuple #[vI (gR n s).1,vI (gR n s).2])∧S w' [aB w no]:=by
 have H0:=S.old w
 refine en Tryz.func150 ?_
 refine ah [0,1] ?_
 refine dz ?_
 refine l_of (cz H0 (Eb _ _) ?_)
 intro H3 H2
 refine w_v (cj (b:=i6 n) rfl rfl) ?_
 refine ae ?_
 refine g_cond_t rfl (aa h) ?_
 refine cp ?_
 refine af ?_
 exact ⟨by unfold gR; rw [h,if_neg Bool.false_ne_true]; rfl,H2.tk [0]⟩
theorem Hx (m:Nat) (s:ByteArray) (hm:m≤4096) (w:World):Calls Tryz.prog 150 #[vI m,.string s] w fun e w'=>e=.returned (.tuple #[vI (jJ m s).1,vI (jJ m s).2])∧S w' [aB w no]:=by
 have H0:=S.old w
 have hlm:aL m≤512:=by unfold aL; omega
 refine en Tryz.func150 ?_
 refine ah [0,1] ?_
 refine dz ?_
 refine l_of (cz H0 (Eb _ _) ?_)
 intro g1 H2
 refine w_v (cj (b:=i6 (m:Int)) rfl rfl) ?_
 refine ae ?_
 refine g_cond_f rfl (aa (sY hm)) ?_
 refine ae ?_
 refine w_v (iJ rfl rfl Tryz.underlying9) ?_
 refine cJ ?_
 refine l_of (bZ H2 (bh rfl) (aP rfl rfl Gv) (wz _ (by omega) _) rfl rfl ?_)
 intro g0 H4
 refine aC ?_
 by_cases H8:((s.size:Int):Int)<((aL m:Nat):Int)
 ·
  refine g_cond_t rfl (decide_eq_true H8) ?_
  refine ae ?_
  refine w_v (iJ rfl rfl Tryz.underlying9) ?_
  refine aC ?_
  refine ah [4,5] ?_
  refine aC ?_
  refine af ?_
  exact ⟨by rw [qA (by omega)]; have hmn:min (s.size:Int) (aL m:Int)=((s.size:Int)):=(by omega); rw [hmn]; rfl,H4.tk [0]⟩
 refine g_cond_f rfl (decide_eq_false H8) ?_
 refine ae ?_
 refine w_v (iJ rfl rfl Tryz.underlying9) ?_
 refine cJ ?_
 refine l_of (bZ H4 (bh rfl) (aP rfl rfl Gv) (wz _ (by omega) _) rfl rfl ?_)
 intro h9 H7
 refine aC ?_
 refine ah [0,1,19] ?_
 by_cases H6:(((aL m:Nat):Int):Int)<(s.size:Int)
 ·
  refine g_cond_t rfl (decide_eq_true H6) ?_
  refine ae ?_
  refine l_of (bZ H7 (bh rfl) (aP rfl rfl Gv) (wz _ (by omega) _) rfl rfl ?_)
  intro h8 h7
  refine a_ ?_
  refine af ?_
  exact ⟨by rw [qA (by omega)]; have hmn:min (s.size:Int) (aL m:Int)=(((aL m:Nat):Int)):=(by omega); rw [hmn]; rfl,h7.tk [0]⟩
 refine g_cond_f rfl (decide_eq_false H6) ?_
 refine eG ?_
 refine cQ (ι:=Nat) (fun i=>[(0,vI m),(1,.string s),(6,vI i)]) (fun i wx=>(m≤i)∧(i≤8 * aL m)∧(∀ j,m≤j→j<i→gP s j=false)∧S wx [aB w no]) (fun i=>8 * aL m - i) (m) ⟨Nat.le_refl _,(by unfold aL; omega),(fun j h1 h2=>by omega),H7⟩ ?_
 rintro i h5 ⟨hmi,hil,hno,h6⟩
 refine ah [0,1,6] ?_
 refine aE ?_
 refine l_of (bZ h6 (bh rfl) (aP rfl rfl Gv) (wz _ (by omega) _) rfl rfl ?_)
 intro h4 h0
 refine bP (v:=.int .i64 (((8 * aL m:Nat):Int))) (hb:=(CB (a:=8) (b:=aL m) (by omega))) ?_
 refine ae ?_
 by_cases H5:((i:Int):Int)<((8 * aL m:Nat):Int)
 ·
  refine bm H5 ?_
  refine cp ?_
  refine l_of (bZ h0 (bh rfl) (aP rfl rfl P4) (P8 _ _ (by omega) (by omega) _) rfl rfl ?_)
  intro h3 H9
  refine cD ?_
  rcases ef (gP s i) with H3 | H3
  ·
   refine g_cond_t rfl H3 ?_
   refine aQ ?_
   refine ah [4,5] ?_
   refine a_ ?_
   refine af ?_
   exact ⟨by rw [xJ (by omega) hno hmi (by omega) H3]; rfl,H9.tk [0]⟩
  refine g_cond_f rfl H3 ?_
  refine aQ ?_
  refine bP (v:=vI ((i:Int)+1)) (hb:=(dY (jD (by omega)))) ?_
  refine ae ?_
  refine bD (i:=(i)) (i+1) ⟨by omega,by omega,(xZ hno H3),H9⟩
 refine br H5 ?_
 refine cS ?_
 refine af ?_
 exact ⟨by rw [uN (by omega) (fun j h1 h2=>hno j h1 (by omega))]; rfl,h0.tk [0]⟩
theorem HD (n:Int) (s:ByteArray) (w:World):Calls Tryz.prog 150 #[.int .i64 n,.string s] w fun e w'=>e=.returned (.tuple #[.int .i64 (gR n s).1,.int .i64 (gR n s).2])∧S w' [aB w no]:=by
 by_cases h:i6 n=true
 · have h1:0≤n∧n≤4096:=by unfold i6 at h; simpa using h
   obtain ⟨m,rfl⟩:∃ m:Nat,n=m:=⟨n.toNat,by omega⟩
   have e:gR (m:Int) s=jJ m s:=by unfold gR; rw [if_pos h,Int.toNat_natCast]
   rw [e]; exact Hx m s (by omega) w
 · exact Hw n s (by simpa using h) w
theorem HG (n:Int) (s:ByteArray)  (w:World):Calls Tryz.prog 120 #[vI n,.string s] w fun e w'=>e=.returned (.bool (jK n s))∧S w' [aB w no]:=by
 have H0:=S.old w
 refine en Tryz.func120 ?_
 refine ah [0,1] ?_
 refine a_ ?_
 refine l_of (cz H0 (HD _ _ _) ?_)
 intro H3 H2
 refine io ?_
 refine ah [4] ?_
 refine aR ?_
 refine af ?_
 exact ⟨rfl,H2.tk [0]⟩
def Hp (n:Int) (s:ByteArray):Int:=if i6 n=true then (if jK n s=true then 0 else 1) else 7
theorem zY (b:Bool) (n:Int) (hb:b=true) (w:World):Calls Tryz.prog 112 #[.bool b,vI n] w fun e w'=>e=.panicked [{ v:=.iface 155 (vI n),recovered:=false }]∧S w' [aB w no]:=by
 have H0:=S.old w
 refine en Tryz.func112 ?_
 refine ah [0,1] ?_
 refine aC ?_
 refine g_cond_t rfl hb ?_
 refine ae ?_
 refine w_v (v:=.iface 155 (vI n)) (pG rfl rfl Tryz.underlying155 rfl) ?_
 refine l_of (D7 (bh rfl) (AP rfl rfl) ?_)
 refine fJ ?_
 exact ⟨rfl,H0.tk [0]⟩
theorem sN (b:Bool) (n:Int) (hb:b=false) (w:World):Calls Tryz.prog 112 #[.bool b,vI n] w fun e w'=>e=.returned (.tuple #[])∧S w' [aB w no]:=by
 have H0:=S.old w
 refine en Tryz.func112 ?_
 refine ah [0,1] ?_
 refine aC ?_
 refine g_cond_f rfl hb ?_
 refine aR ?_
 refine dO [] [] rfl trivial ?_
 exact ⟨rfl,H0.tk [0]⟩
theorem GH (m gb n c i b:Nat) (w:World) (hb:b<256) (hi:i / 8<n) (hi2:i≤1099511627776) (hc:w.cell? ⟨gb,i / 8,none⟩=some (.int .u8 ((b:Nat):Int))):Calls Tryz.prog 113 #[.agg #[vI m,.slice (some ⟨gb,0,none⟩) (n) (c)],vI i] w fun e w'=>e=.returned (.bool (decide (b / 2 ^ (7 - i % 8) % 2=1)))∧S w' [aB w no]:=by
 have H0:=S.old w
 refine en Tryz.func113 ?_
 refine ah [0,1] ?_
 refine iF ?_
 refine l_of (fq H0 ?_)
 intro g1 H2 H3
 refine a_ ?_
 refine bP (v:=vI (((i / 8:Nat):Int))) (hb:=(kH (a:=i) (b:=8) (by omega))) ?_
 refine w_v (v:=.pointer (some ⟨gb,(i / 8),none⟩)) (dM (i / 8) rfl rfl rfl Tryz.underlying113 yI (by omega) (off':=i / 8) (by omega)) ?_
 refine w_v (v:=.int .u8 (((b:Nat):Int))) (f_ rfl rfl Tryz.underlying5 rfl (H3.oldCell (k:=1) rfl hc id)) ?_
 refine cJ ?_
 refine bP (v:=vI (((i % 8:Nat):Int))) (hb:=(qh (a:=i) (b:=8) (by omega))) ?_
 refine bP (v:=vI (((7 - i % 8:Nat):Int))) (hb:=(fj (a:=7) (b:=i % 8) (by omega))) ?_
 refine bP (v:=.int .u8 (((b / 2 ^ (7 - i % 8):Nat):Int))) (hb:=(mI (a:=b) (n:=7 - i % 8) (by show 7 - i % 8≤8; omega))) ?_
 refine bP (v:=.int .u8 (((b / 2 ^ (7 - i % 8) % 2:Nat):Int))) (hb:=(Pt (a:=b / 2 ^ (7 - i % 8)) (by have:=Nat.div_le_self b (2 ^ (7 - i % 8)); omega))) ?_
 refine aC ?_
 refine ah [4] ?_
 refine aR ?_
 refine af ?_
 have hdd:decide (b / 2 ^ (7 - i % 8) % 2=1)=decide (((b / 2 ^ (7 - i % 8) % 2:Nat):Int)=1):=by rw [decide_eq_decide]; omega
 exact ⟨by rw [hdd]; rfl,H3.tk [1]⟩
theorem jr {n:Int}:i6 n=true ↔ 0≤n∧n≤4096:=by unfold i6; simp
theorem Hy (n:Int) (s:ByteArray) (h:¬ (0≤n∧n≤4096)) (w:World):Calls Tryz.prog 104 #[vI n,.string s] w fun e w'=>e=.returned (.tuple #[vI (gR n s).1,vI (gR n s).2])∧S w' [aB w no]:=by
 have H0:=S.old w
 refine en Tryz.func104 ?_
 refine ah [0,1] ?_
 refine eG ?_
 by_cases H2:(n:Int)<0
 ·
  iterate 2 refine dh (dt H2) ?_
  refine w_v (pt (dt H2)) ?_
  refine cD ?_
  refine g_cond_t rfl rfl ?_
  refine a_ ?_
  refine af ?_
  exact ⟨by unfold gR; rw [if_neg (by rw [jr]; omega)]; rfl,H0.tk [0]⟩
 refine aN (df H2) xm ?_
 refine aN (df H2) (ai rfl rfl rfl fK) ?_
 refine w_v (pf (df H2)) ?_
 refine cD ?_
 refine g_cond_t rfl (dt (by omega)) ?_
 refine a_ ?_
 refine af ?_
 exact ⟨by unfold gR; rw [if_neg (by rw [jr]; omega)]; rfl,H0.tk [0]⟩
theorem Hz (m:Nat) (s:ByteArray) (hm:m≤4096) (w:World):Calls Tryz.prog 104 #[vI m,.string s] w fun e w'=>e=.returned (.tuple #[vI (jJ m s).1,vI (jJ m s).2])∧S w' [aB w no]:=by
 have H0:=S.old w
 have hlm:aL m≤512:=by unfold aL; omega
 refine en Tryz.func104 ?_
 refine ah [0,1] ?_
 refine eG ?_
 refine l_of (aJ (v:=.int .i64 ((m:Int))) (cU rfl rfl rfl rfl (decide_eq_false (by omega))) rfl rfl (bY rfl rfl) ?_)
 refine l_of (aJ (v:=.bool (decide ((4096:Int)<(m:Int)))) (cU rfl rfl rfl rfl (decide_eq_false (by omega))) rfl rfl (ai rfl rfl rfl fK) ?_)
 refine w_v Ju ?_
 refine cD ?_
 refine g_cond_f rfl (df (by omega)) ?_
 refine aE ?_
 refine bP (v:=vI (((m+7:Nat):Int))) (hb:=(dq (a:=m) (b:=7) (by omega))) ?_
 refine bP (v:=vI (((aL m:Nat):Int))) (hb:=(kH (a:=m+7) (b:=8) (by omega))) ?_
 refine aQ ?_
 refine w_v (iJ rfl rfl Tryz.underlying9) ?_
 refine cJ ?_
 refine bP (v:=.bool (!decide (((s.size:Int):Int)=((aL m:Nat):Int)))) (hb:=eh) ?_
 refine cD ?_
 refine ah [0,1,6,21] ?_
 by_cases H5:((s.size:Int):Int)=((aL m:Nat):Int)
 ·
  refine kw H5 ?_
  refine aQ ?_
  refine l_of (Fo H0 (bh rfl) rfl rfl rfl rfl Tryz.underlying9 Tryz.underlying113 Tryz.underlying5 ?_)
  intro g2 c3 fr4 cs5 h8 H9 hcs6 hcc7
  refine w_v (v:=.agg #[vI m,.slice (some ⟨g2,0,none⟩) (s.size) (c3)]) (j4) ?_
  refine l_of (cA H9 vZ ?_)
  intro H6 h4 h7
  refine l_of (eu h7 0 ?_)
  intro h3 h6
  refine cp ?_
  refine cQ (ι:=Nat) (fun i=>[(6,vI (((aL m:Nat):Int))),(7,vP H6),(8,vI i)]) (fun i wx=>(m≤i)∧(i≤8 * aL m)∧(∀ j,m≤j→j<i→gP s j=false)∧S wx [Ob H6 (.cells #[vI m,.slice (some ⟨g2,0,none⟩) (s.size) (c3)] 137 (0,0)),Ob g2 (.cells cs5 5 fr4),aB w no]) (fun i=>8 * aL m - i) (m) ⟨Nat.le_refl _,(by unfold aL; omega),(fun j h1 h2=>by omega),h6⟩ ?_
  rintro i h0 ⟨hmi,hil,hno,H4⟩
  refine ah [6,7,8] ?_
  refine aE ?_
  refine bP (v:=vI (((8 * aL m:Nat):Int))) (hb:=(CB (a:=8) (b:=aL m) (by omega))) ?_
  refine ae ?_
  by_cases H3:((i:Int):Int)<((8 * aL m:Nat):Int)
  ·
   refine bm H3 ?_
   refine aQ ?_
   refine w_v (fS H4 0) ?_
   refine cJ ?_
   have h5:=iE s (i / 8)
   refine l_of (cz H4 (GH m g2 s.size c3 i (jY s (i / 8)) _ h5 (by omega) (by omega) (H4.cell (k:=1) rfl (hcs6 (i / 8) (by omega)))) ?_)
   intro H8 H7
   refine cD ?_
   rcases ef (gP s i) with H2 | H2
   ·
    refine g_cond_t rfl H2 ?_
    refine io ?_
    refine af ?_
    exact ⟨by rw [xJ (by omega) hno hmi (by omega) H2]; rfl,H7.tk [2]⟩
   refine g_cond_f rfl H2 ?_
   refine aQ ?_
   refine bP (v:=vI ((i:Int)+1)) (hb:=(dY (jD (by omega)))) ?_
   refine ae ?_
   refine bD (i:=(i)) (i+1) ⟨by omega,by omega,(xZ hno H2),H7⟩
  refine br H3 ?_
  refine cS ?_
  refine af ?_
  exact ⟨by rw [uN (by omega) (fun j h1 h2=>hno j h1 (by omega))]; rfl,H4.tk [2]⟩
 refine mX H5 ?_
 refine ae ?_
 refine w_v (iJ rfl rfl Tryz.underlying9) ?_
 refine cJ ?_
 refine w_v (v:=vI (min (s.size:Int) ((aL m:Nat):Int))) (yL rfl rfl rfl) ?_
 refine aQ ?_
 refine af ?_
 exact ⟨by rw [qA (by omega)]; have hmn:min (s.size:Int) (aL m:Int)=(min (s.size:Int) ((aL m:Nat):Int)):=(by omega); rw [hmn]; rfl,H0.tk [0]⟩
theorem DR (n:Int) (s:ByteArray) (w:World):Calls Tryz.prog 104 #[.int .i64 n,.string s] w fun e w'=>e=.returned (.tuple #[.int .i64 (gR n s).1,.int .i64 (gR n s).2])∧S w' [aB w no]:=by
 by_cases h1:0≤n∧n≤4096
 · obtain ⟨m,rfl⟩:∃ m:Nat,n=m:=⟨n.toNat,by omega⟩
   have e:gR (m:Int) s=jJ m s:=by unfold gR; rw [if_pos (jr.2 h1),Int.toNat_natCast]
   rw [e]; exact Hz m s (by omega) w
 · exact Hy n s h1 w
theorem JH (n:Int) (s:ByteArray)  (w:World):Calls Tryz.prog 41 #[vI n,.string s] w fun e w'=>e=.returned (.bool (jK n s))∧S w' [aB w no]:=by
 have H0:=S.old w
 refine en Tryz.func41 ?_
 refine ah [0,1] ?_
 refine a_ ?_
 refine l_of (cz H0 (DR _ _ _) ?_)
 intro H3 H2
 refine io ?_
 refine ah [4] ?_
 refine aR ?_
 refine af ?_
 exact ⟨rfl,H2.tk [0]⟩
theorem uU {b:List Nat} (h:∀ x∈b,x<256):(yJ b).toList=fM (b.map UInt8.ofNat):=by
 unfold yJ fM
 rw [List.map_map]
 refine List.map_congr_left fun x hx=>?_
 have:=h x hx
 simp only [Function.comp]
 congr 1
 rw [UInt8.toNat_ofNat']
 omega
theorem wQ (n:Nat):∀ x∈List.replicate n 0,x<256:=fun x hx=>by have:=List.eq_of_mem_replicate hx; omega
theorem u4 (ge:Nat) (y e0:Int) (older:List PanicEntry) (w:World) (he:w.heap[ge]?=some (.cells #[vI e0] 30 (0,0))) :
  CallsD Tryz.prog 102 #[vP ge] (.panicking ({ v:=.iface 155 (vI y),recovered:=false } :: older)) w
   (fun e u' w'=>(e=.returned (.tuple #[])∧S w' [Ob ge (.cells #[vI y] 30 (0,0)),aB w (fun i=>i∈[ge])])∧u'=.panicking ({ v:=.iface 155 (vI y),recovered:=true } :: older)):=by
 have H0:=S.beginL [(ge,.cells #[vI e0] 30 (0,0))] (by intro p hp; rw [List.mem_singleton] at hp; subst hp; exact he) (by simp) (fun i=>i∈[ge]) (fun i=>Iff.rfl)
 refine o5 19 Tryz.func102 rfl rfl rfl rfl rfl rfl rfl rfl rfl ?_
 refine ah [0,2,5] ?_
 refine ae ?_
 refine bP (v:=.bool true) (hb:=(zx DG)) ?_
 refine cD ?_
 refine g_cond_t rfl rfl ?_
 refine ae ?_
 refine w_v (v:=.tuple #[vI y,.bool true]) (xG rfl rfl Tryz.underlying155 rfl) ?_
 refine eG ?_
 refine w_v (cj (b:=true) rfl rfl) ?_
 refine cD ?_
 refine g_cond_f rfl rfl ?_
 refine ae ?_
 refine ah [0,3] ?_
 refine aE ?_
 refine l_of (eu H0 0 ?_)
 intro H3 H2
 refine aR ?_
 refine dO [] [] rfl trivial ?_
 exact ⟨⟨rfl,H2.tk [0,1]⟩,rfl⟩
theorem q_ (ge:Nat) (w:World):CallsD Tryz.prog 102 #[vP ge] .returning w (fun e u' w'=>(e=.returned (.tuple #[])∧S w' [aB w no])∧u'=.returning):=by
 have H0:=S.old w
 refine o5 19 Tryz.func102 rfl rfl rfl rfl rfl rfl rfl rfl rfl ?_
 refine ah [0,2,5] ?_
 refine ae ?_
 refine bP (v:=.bool false) (hb:=(BM DG)) ?_
 refine cD ?_
 refine g_cond_f rfl rfl ?_
 refine aR ?_
 refine dO [] [] rfl trivial ?_
 exact ⟨⟨rfl,H0.tk [0]⟩,rfl⟩
theorem K5 (n:Int) (h:¬ (0≤n∧n≤4096)) (w:World):Calls Tryz.prog 103 #[vI n] w fun e w'=>e=.panicked [{ v:=.iface 155 (vI 7),recovered:=false }]∧S w' [aB w no]:=by
 have H0:=S.old w
 refine en Tryz.func103 ?_
 refine ah [0] ?_
 refine iF ?_
 refine l_of (cA H0 vZ ?_)
 intro g1 H7 H3
 refine aQ ?_
 by_cases H2:(n:Int)<0
 ·
  iterate 2 refine dh (dt H2) ?_
  refine w_v (pt (dt H2)) ?_
  refine l_of (aG (zY _ _ rfl _) ?_)
  rintro _ H5 ⟨rfl,H6⟩
  replace H6:=H3.ab0 H6
  refine bB ?_
  refine aA ?_
  refine fJ ?_
  exact ⟨rfl,H6.tk [1]⟩
 refine aN (df H2) xm ?_
 refine aN (df H2) (ai rfl rfl rfl fK) ?_
 refine w_v (pf (df H2)) ?_
 refine l_of (bR (bh rfl) (aP rfl rfl AE) (zY _ _ (decide_eq_true (by omega)) _) ?_)
 rintro _ H4 ⟨rfl,H8⟩
 replace H8:=H3.ab0 H8
 refine bB ?_
 refine aA ?_
 refine fJ ?_
 exact ⟨rfl,H8.tk [1]⟩
theorem Ez (m:Nat) (hm:m≤4096) (w:World):Calls Tryz.prog 103 #[vI m] w fun e w'=>∃ g,e=.returned (.agg #[vI (m:Int),.slice (some ⟨g,0,none⟩) (aL m) (aL m)])∧S w' ([Ob g (.cells (yJ (List.replicate (aL m) 0)) 5 (0,0))]++[aB w no]):=by
 have H0:=S.old w
 have hlm:aL m≤512:=by unfold aL; omega
 refine en Tryz.func103 ?_
 refine ah [0] ?_
 refine iF ?_
 refine l_of (cA H0 vZ ?_)
 intro g1 H9 H3
 refine aQ ?_
 refine l_of (aJ (v:=.int .i64 ((m:Int))) (cU rfl rfl rfl rfl (decide_eq_false (by omega))) rfl rfl (bY rfl rfl) ?_)
 refine l_of (aJ (v:=.bool (decide ((4096:Int)<(m:Int)))) (cU rfl rfl rfl rfl (decide_eq_false (by omega))) rfl rfl (ai rfl rfl rfl fK) ?_)
 refine w_v Ju ?_
 refine l_of (bZ H3 (bh rfl) (aP rfl rfl AE) (sN _ _ (decide_eq_false (by omega)) _) rfl rfl ?_)
 intro H7 H5
 refine aE ?_
 refine bP (v:=vI (((m+7:Nat):Int))) (hb:=(dq (a:=m) (b:=7) (by omega))) ?_
 refine bP (v:=vI (((aL m:Nat):Int))) (hb:=(kH (a:=m+7) (b:=8) (by omega))) ?_
 refine l_of (vE (aL m) H5 (bh rfl) rfl rfl rfl rfl rfl Tryz.underlying113 Gt rfl (by omega) ?_)
 intro g6 H6 H8
 rw [xd] at H8
 replace H8:S _ [_,_,_]:=H8
 refine w_v (v:=.agg #[vI m,.slice (some ⟨g6,0,none⟩) (aL m) (aL m)]) (j4) ?_
 refine l_of (eu H8 1 ?_)
 intro H4 H2
 refine cD ?_
 refine ah [2] ?_
 refine aR ?_
 refine d5 [.cell 2 137] [.agg #[vI m,.slice (some ⟨g6,0,none⟩) (aL m) (aL m)]] rfl ⟨⟨_,rfl,dK (H2.ob (k:=1) rfl) Tryz.underlying137 rfl Gy rfl rfl⟩,trivial⟩ ?_
 exact ⟨_,rfl,H2.tk [0,2]⟩
theorem Kh (n:Int) (h:¬ (0≤n∧n≤4096)) (w:World):Calls Tryz.prog 40 #[vI n] w fun e w'=>e=.returned (.tuple #[.string (zA n).1,vI (zA n).2])∧S w' [aB w no]:=by
 have H0:=S.old w
 refine mG Tryz.func40 ?_
 refine ah [0] ?_
 refine ae ?_
 refine l_of (cA H0 l_ ?_)
 intro g1 H6 H3
 refine ae ?_
 refine l_of (eM (bh rfl) rfl (dc rfl rfl rfl) ?_)
 refine aC ?_
 refine l_of (aG (K5 n h _) ?_)
 rintro _ H4 ⟨rfl,H5⟩
 replace H5:=H3.ab0 H5
 refine bB ?_
 refine aA ?_
 refine aX ?_
 refine dV (u4 g1 7 (0) [] _ (H5.ob (k:=0) rfl)) ?_
 rintro _ _ H2 ⟨⟨rfl,H7⟩,rfl⟩
 replace H7:=H5.aK 0 H7
 refine jb H7 0 ?_
 exact ⟨by unfold zA; rw [if_neg (by rw [jr]; exact h)]; rfl,H7.tk [1]⟩
theorem Ki (m:Nat) (hm:m≤4096) (w:World):Calls Tryz.prog 40 #[vI m] w fun e w'=>e=.returned (.tuple #[.string (nZ (List.replicate (aL m) 0)),vI 0])∧S w' [aB w no]:=by
 have H0:=S.old w
 have hlm:aL m≤512:=by unfold aL; omega
 refine mG Tryz.func40 ?_
 refine ah [0] ?_
 refine ae ?_
 refine l_of (cA H0 l_ ?_)
 intro g1 H9 H3
 refine ae ?_
 refine l_of (eM (bh rfl) rfl (dc rfl rfl rfl) ?_)
 refine aC ?_
 refine l_of (aG (Ez m hm _) ?_)
 rintro _ H7 ⟨g6,rfl,H5⟩
 replace H5:=H3.ab1 H5
 refine bW ?_
 refine w_v (v:=.slice (some ⟨g6,0,none⟩) (aL m) (aL m)) (JE (n:=0) (m:=0) rfl rfl Tryz.underlying137 rfl (za Tryz.underlying113 rfl rfl)) ?_
 refine w_v (v:=.string ((nZ (List.replicate (aL m) 0)))) (oG (l:=((List.replicate (aL m) 0)).map UInt8.ofNat) rfl rfl Tryz.underlying113 Tryz.underlying9 Tryz.underlying5 (by simp) (yP (k:=0) H5 rfl (uU (wQ _)))) ?_
 refine Gs ?_
 refine l_of (eu H5 1 ?_)
 intro H6 H8
 refine ae ?_
 refine cY ?_
 refine dV (q_ g1 _) ?_
 rintro _ _ H4 ⟨⟨rfl,H2⟩,rfl⟩
 replace H2:=H8.ab0 H2
 refine jb H2 1 ?_
 exact ⟨rfl,H2.tk [2]⟩
theorem Qv (n:Int) (w:World):Calls Tryz.prog 40 #[.int .i64 n] w fun e w'=>e=.returned (.tuple #[.string (zA n).1,.int .i64 (zA n).2])∧S w' [aB w no]:=by
 by_cases h1:0≤n∧n≤4096
 · obtain ⟨m,rfl⟩:∃ m:Nat,n=m:=⟨n.toNat,by omega⟩
   have e:zA (m:Int)=(nZ (List.replicate (aL m) 0),0):=by unfold zA; rw [if_pos (jr.2 h1),Int.toNat_natCast]
   rw [e]; exact Ki m (by omega) w
 · exact Kh n h1 w
theorem Qi (m gb c i:Nat) (b:List Nat) (hb:∀ x∈b,x<256) (hc:b.length≤c) (hi:i / 8<b.length) (hi2:i≤1099511627776) (w:World) (HB:S w [Ob gb (.cells (yJ b) 5 (0,0))]) :
  Calls Tryz.prog 114 #[.agg #[vI (m:Int),.slice (some ⟨gb,0,none⟩) b.length c],vI (i:Int),.bool true] w fun e w'=>e=.returned (.tuple #[])∧S w' ([Ob gb (.cells (yJ (jj b i)) 5 (0,0))]++[aB w (aT [Ob gb (.cells (yJ b) 5 (0,0))])]):=by
 have H0:S _ [_,_]:=HB.beginI
 have H7:=vK hb (i / 8)
 have H2:128 / 2 ^ (i % 8)≤128:=Nat.div_le_self _ _
 refine en Tryz.func114 ?_
 refine ah [0,1,2] ?_
 refine iF ?_
 refine l_of (fq H0 ?_)
 intro g1 H6 H3
 refine aC ?_
 refine bP (v:=vI (((i % 8:Nat):Int))) (hb:=(qh (a:=i) (b:=8) (by omega))) ?_
 refine bP (v:=.int .u8 (((128 / 2 ^ (i % 8):Nat):Int))) (hb:=(mI (a:=128) (n:=i % 8) (by show i % 8≤8; omega))) ?_
 refine aQ ?_
 refine g_cond_t rfl rfl ?_
 refine aE ?_
 refine bP (v:=vI (((i / 8:Nat):Int))) (hb:=(kH (a:=i) (b:=8) (by omega))) ?_
 refine w_v (v:=.pointer (some ⟨gb,(i / 8),none⟩)) (dM (i / 8) rfl rfl rfl Tryz.underlying113 yI (by omega) (off':=(i / 8)) (by omega)) ?_
 refine w_v (gi H3 1 rfl rfl Tryz.underlying5 rfl rfl (zN (by omega))) ?_
 refine cJ ?_
 refine bP (v:=.int .u8 (((b.getD (i / 8) 0 ||| 128 / 2 ^ (i % 8):Nat):Int))) (hb:=(MG (a:=b.getD (i / 8) 0) (b:=128 / 2 ^ (i % 8)) (by omega))) ?_
 refine w_v (v:=.pointer (some ⟨gb,(i / 8),none⟩)) (dM (i / 8) rfl rfl rfl Tryz.underlying113 yI (by omega) (off':=(i / 8)) (by omega)) ?_
 refine l_of (lP H3 1 (bh rfl) rfl rfl rfl rfl rfl yI rfl rfl (by rw [uj]; omega) ?_)
 intro H4 H5
 rw [vH b (i / 8) (b.getD (i / 8) 0 ||| 128 / 2 ^ (i % 8))] at H5
 replace H5:S _ [_,_,_]:=H5
 refine aR ?_
 refine dO [] [] rfl trivial ?_
 exact ⟨rfl,H5.tk [1,2]⟩
def Gm (l:List Bool):List Value:=l.map Value.bool
theorem Pk {l:List Bool} {j:Nat} (h:j<l.length):(Gm l)[j * 1]?=some (.bool (l.getD j false)):=by
 unfold Gm
 rw [Nat.mul_one]
 simp [List.getD,h]
theorem uw {l:List Bool} {i:Nat} (h:l.length≤i):l.getD i false=false:=by
 rw [List.getD_eq_getElem?_getD,List.getElem?_eq_none h]; rfl
theorem FZ {l:List Bool} {i:Nat} (h:l.getD i false=true):ei l (i+1)=((ei l i).set (i / 8) (2 * (ei l i).getD (i / 8) 0 % 256)).set (i / 8) ((((ei l i).set (i / 8) (2 * (ei l i).getD (i / 8) 0 % 256)).getD (i / 8) 0+1) % 256):=by
 rw [ei]; unfold k_; simp only [h,if_true]
theorem s_ {l:List Bool} {i:Nat} (h:l.getD i false=false):ei l (i+1)=(ei l i).set (i / 8) (2 * (ei l i).getD (i / 8) 0 % 256):=by
 rw [ei]; unfold k_; simp only [h,Bool.false_eq_true,if_false]
def cE (m:Nat) (s:ByteArray):List Bool:=(List.range m).map (gP s)
theorem l5 (m:Nat) (s:ByteArray):(cE m s).length=m:=by unfold cE; simp
theorem BQ (i:Nat) (s:ByteArray):Gm (cE (i+1) s)=Gm (cE i s)++[Value.bool (gP s i)]:=by
 unfold Gm cE; simp [List.range_succ]
def Sg (i:Nat) (l:List Bool):List Bool:=(l.take i).map (!·)++l.drop i
theorem HU {b:List Nat} {k:Nat}:b.set k (b.getD k 0)=b:=by
 apply List.ext_getElem?
 intro j
 rw [List.getElem?_set]
 by_cases h:k=j
 · subst h
   rw [if_pos rfl,List.getD_eq_getElem?_getD]
   by_cases hk:k<b.length
   · rw [if_pos hk,List.getElem?_eq_getElem hk]; rfl
   · rw [if_neg hk,List.getElem?_eq_none (by omega)]
 · rw [if_neg h]
theorem xu (n k:Nat):(List.replicate n 0).getD k 0=0:=by
 rw [List.getD_eq_getElem?_getD,List.getElem?_replicate]; split <;> rfl
theorem FW (n k:Nat):(List.replicate n false).getD k false=false:=by
 rw [List.getD_eq_getElem?_getD,List.getElem?_replicate]; split <;> rfl
theorem zq (m:Nat):∀ i,ei (List.replicate m false) i=List.replicate (aL m) 0
 | 0=>by rw [ei,List.length_replicate]
 | i+1=>by
   rw [s_ (FW m i),zq m i,xu]
   have:=HU (b:=List.replicate (aL m) 0) (k:=i / 8)
   rw [xu] at this
   exact this
theorem B8 (m:Nat):oy (List.replicate m false)=nZ (List.replicate (aL m) 0):=by unfold oy; rw [zq]
theorem Pi (n k:Nat):jY (nZ (List.replicate n 0)) k=0:=by
 unfold jY nZ
 simp only [List.map_replicate,List.getElem?_replicate]
 split <;> rfl
theorem Gj (n i:Nat):gP (nZ (List.replicate n 0)) i=false:=by
 unfold gP; rw [Pi,Nat.zero_div]; rfl
def SD (j o:Nat):Nat:=(2 ^ o - 1) * 2 ^ (j - o)
theorem qt {b:List Nat} {i k x:Nat} (h:i<b.length):(b.set i x).getD k 0=if k=i then x else b.getD k 0:=by
 rw [List.getD_eq_getElem?_getD,List.getElem?_set,List.getD_eq_getElem?_getD]
 by_cases hk:k=i
 · subst hk; rw [if_pos rfl,if_pos rfl,if_pos h]; rfl
 · rw [if_neg (fun e=>hk e.symm),if_neg hk]
theorem IQ (l:List Bool) (n c:Nat) (p:Option Addr) (hn:n=l.length) (hm:n≤4096) (w:World) (hr:bz w p n c 1 (Gm l)):Calls Tryz.prog 21 #[.slice p n c] w fun e w'=>e=.returned (.string (oy l))∧S w' [aB w no]:=by
 have H0:=S.old w
 have hlm:aL n≤512:=by unfold aL; omega
 refine en Tryz.func21 ?_
 refine ah [0] ?_
 refine a_ ?_
 refine l_of (bZ H0 (bh rfl) (aP rfl rfl Gv) (wz _ (by omega) _) rfl rfl ?_)
 intro h4 H2
 refine l_of (vE (aL n) H2 (bh rfl) rfl rfl rfl rfl rfl Tryz.underlying113 Gt rfl (by omega) ?_)
 intro g3 h3 H5
 rw [xd,show List.replicate (aL n) 0=ei l 0 from by rw [ei,hn]] at H5
 replace H5:S _ [_,_]:=H5
 refine a_ ?_
 refine bP (v:=vI (((8 * aL n:Nat):Int))) (hb:=(CB (a:=8) (b:=aL n) (by omega))) ?_
 refine aC ?_
 refine cQ (ι:=Nat) (fun i=>[(0,.slice p n c),(3,.slice (some ⟨g3,0,none⟩) (aL n) (aL n)),(11,vI (((8 * aL n:Nat):Int))),(12,vI i)]) (fun i wx=>(i≤8 * aL n)∧S wx [Ob g3 (.cells (yJ (ei l i)) 5 (0,0)),aB w no]) (fun i=>8 * aL n - i) (0) ⟨Nat.zero_le _,H5⟩ ?_
 rintro i h2 ⟨hi,H7⟩
 refine ah [0,3,11,12] ?_
 have hxlt:=vK (uy l i) (i / 8)
 have hln:aL l.length=aL n:=by rw [hn]
 refine aC ?_
 refine g_seq ?_
 by_cases H9:((i:Int):Int)<((8 * aL n:Nat):Int)
 ·
  refine bm H9 ?_
  refine io ?_
  refine bP (v:=vI (((i / 8:Nat):Int))) (hb:=(kH (a:=i) (b:=8) (by omega))) ?_
  refine w_v (v:=.pointer (some ⟨g3,(i / 8),none⟩)) (dM (i / 8) rfl rfl rfl Tryz.underlying113 yI (by omega) (off':=(i / 8)) (by omega)) ?_
  refine w_v (gi H7 0 rfl rfl Tryz.underlying5 rfl rfl (zN (by simp only [List.length_set,jx]; omega))) ?_
  refine bP (v:=.int .u8 (((2 * ((ei l i).getD (i / 8) 0) % 256:Nat):Int))) (hb:=(tO (by rw [IntKind.wrap_u8]; omega))) ?_
  refine w_v (v:=.pointer (some ⟨g3,(i / 8),none⟩)) (dM (i / 8) rfl rfl rfl Tryz.underlying113 yI (by omega) (off':=(i / 8)) (by omega)) ?_
  refine l_of (lP H7 0 (bh rfl) rfl rfl rfl rfl rfl yI rfl rfl (by rw [uj]; simp only [List.length_set,jx]; omega) ?_)
  intro h1 H6
  rw [vH (ei l i) (i / 8) (2 * ((ei l i).getD (i / 8) 0) % 256)] at H6
  replace H6:S _ [_,_]:=H6
  refine cp ?_
  by_cases H3:((i:Int):Int)<(n:Int)
  ·
   iterate 2 refine aN (dt H3) xm ?_
   refine aN (dt H3) (iH i (H6.oldReads (k:=1) rfl hr)) ?_
   refine aN (v:=.bool ((l.getD i false))) (dt H3) (nX i (H6.oldReads (k:=1) rfl hr) (Pk (by omega))) ?_
   refine w_v (pt (dt H3)) ?_
   refine cD ?_
   refine ah [0,3,4,11,12,31] ?_
   rcases ef ((l.getD i false)) with H4 | H4
   ·
    refine g_cond_t rfl H4 ?_
    refine aC ?_
    refine bP (v:=vI (((i / 8:Nat):Int))) (hb:=(kH (a:=i) (b:=8) (by omega))) ?_
    refine w_v (v:=.pointer (some ⟨g3,(i / 8),none⟩)) (dM (i / 8) rfl rfl rfl Tryz.underlying113 yI (by omega) (off':=(i / 8)) (by omega)) ?_
    refine w_v (gi H6 0 rfl rfl Tryz.underlying5 rfl rfl (zN (by simp only [List.length_set,jx]; omega))) ?_
    refine bP (v:=.int .u8 (((((((ei l i).set (i / 8) (2 * ((ei l i).getD (i / 8) 0) % 256)).getD (i / 8) 0)+1) % 256:Nat):Int))) (hb:=(dY (by rw [IntKind.wrap_u8]; omega))) ?_
    refine w_v (v:=.pointer (some ⟨g3,(i / 8),none⟩)) (dM (i / 8) rfl rfl rfl Tryz.underlying113 yI (by omega) (off':=(i / 8)) (by omega)) ?_
    refine l_of (lP H6 0 (bh rfl) rfl rfl rfl rfl rfl yI rfl rfl (by rw [uj]; simp only [List.length_set,jx]; omega) ?_)
    intro h0 H8
    rw [vH ((ei l i).set (i / 8) (2 * ((ei l i).getD (i / 8) 0) % 256)) (i / 8) (((((ei l i).set (i / 8) (2 * ((ei l i).getD (i / 8) 0) % 256)).getD (i / 8) 0)+1) % 256)] at H8
    replace H8:S _ [_,_]:=H8
    refine aE ?_
    refine bP (v:=vI ((i:Int)+1)) (hb:=(dY (jD (by omega)))) ?_
    refine ae ?_
    refine bD (i:=(i)) (i+1) ⟨by omega,(by rw [FZ H4]; exact H8)⟩
   refine g_cond_f rfl H4 ?_
   refine aE ?_
   refine bP (v:=vI ((i:Int)+1)) (hb:=(dY (jD (by omega)))) ?_
   refine ae ?_
   refine bD (i:=(i)) (i+1) ⟨by omega,(by rw [s_ H4]; exact H6)⟩
  iterate 4 refine dh (df H3) ?_
  refine w_v (pf (df H3)) ?_
  refine cD ?_
  refine ah [0,3,4,11,12,31] ?_
  refine g_cond_f rfl rfl ?_
  refine aE ?_
  refine bP (v:=vI ((i:Int)+1)) (hb:=(dY (jD (by omega)))) ?_
  refine ae ?_
  refine bD (i:=(i)) (i+1) ⟨by omega,(by rw [s_ (uw (by omega))]; exact H6)⟩
 refine br H9 ?_
 refine cp ?_
 refine w_v (v:=.string ((nZ (ei l i)))) (oG (l:=(ei l i).map UInt8.ofNat) rfl rfl Tryz.underlying113 Tryz.underlying9 Tryz.underlying5 (by simp [jx,hn]) (yP (k:=0) H7 rfl (uU (uy l i)))) ?_
 refine aC ?_
 refine af ?_
 have hii:i=8 * aL l.length:=by rw [← hn]; omega
 exact ⟨by unfold oy; rw [hii]; rfl,H7.tk [1]⟩
theorem HH (m:Nat) (s:ByteArray) (hm:m≤4096) (hs:s.size=aL m) (w:World):Calls Tryz.prog 101 #[vI m,.string s] w fun e w'=>∃ p c,e=.returned (.slice p m c)∧S w' ([Rw 4 1 p m c (Gm (cE m s))]++[aB w no]):=by
 have H0:=S.old w
 have hlm:m≤8 * aL m:=by unfold aL; omega
 refine en Tryz.func101 ?_
 refine ah [0,1] ?_
 refine aE ?_
 have H1:S _ [_,_]:=H0.nilRw 4 1
 refine dz ?_
 refine cQ (ι:=Nat × Option Addr × Nat) (fun (i,q,d)=>[(1,.string s),(5,.slice q i d),(7,vI m),(8,vI i)]) (fun (i,q,d) wx=>(i≤m)∧S wx [Rw 4 1 q i d (Gm (cE i s)),aB w no]) (fun (i,q,d)=>m - i) (0,none,0) ⟨Nat.zero_le _,(H1.tk [0,1])⟩ ?_
 rintro ⟨i,q,d⟩ h2 ⟨hi,H3⟩
 refine ah [1,5,7,8] ?_
 refine aC ?_
 refine g_seq ?_
 by_cases H5:((i:Int):Int)<(m:Int)
 ·
  refine bm H5 ?_
  refine jG ?_
  refine l_of (bZ H3 (bh rfl) (aP rfl rfl P4) (P8 _ _ (by omega) (by omega) _) rfl rfl ?_)
  intro h1 H6
  refine l_of (fC Jw #[.bool (gP s i)] H6 ?_)
  intro g7 h0 H9
  refine l_of (nH (n:=i) (m:=1) (sc:=d) (xs:=(Gm (cE i s))) (news:=[.bool (gP s i)]) (p:=q) (ad:=⟨g7,0,none⟩) H9 1 (bh rfl) rfl rfl rfl rfl rfl rfl Tryz.underlying38 pO rfl (by decide) (by decide) rfl (by decide) (ud H9 (j0:=0) rfl) rfl (by omega) ?_)
  intro H4 H7 H2 (H8:S H2 [Ob g7 (.cells #[.bool (gP s i)] 4 (0,0)),Rw 4 1 H4 (i+1) H7 ((Gm (cE i s))++[.bool (gP s i)]),aB w no])
  refine aQ ?_
  refine bP (v:=vI ((i:Int)+1)) (hb:=(dY (jD (by omega)))) ?_
  refine ae ?_
  refine bD (i:=(i,q,d)) (i+1,H4,H7) ⟨by omega,(by rw [BQ]; exact (H8.tk [1,2]))⟩
 refine br H5 ?_
 refine cS ?_
 refine af ?_
 have him:i=m:=by omega
 subst him
 exact ⟨q,d,rfl,H3⟩
end Go.Proofs.YthmmfhdpkddniaaGreatDoor
