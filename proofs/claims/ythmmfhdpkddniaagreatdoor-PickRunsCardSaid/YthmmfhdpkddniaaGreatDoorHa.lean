import Derived.Test.YthmmfhdpkddniaaGreatDoorFn
set_option maxRecDepth 20000
set_option maxHeartbeats 4000000
set_option linter.all false
namespace Go.Proofs.YthmmfhdpkddniaaGreatDoor
open Go.RowKit
def yx (h b:Nat):Nat:=(h ^^^ b) * 1099511628211 % 18446744073709551616 ^^^ ((h ^^^ b) * 1099511628211 % 18446744073709551616) / 536870912
def uF (h n:Nat):Nat:=((h ^^^ n) * 1099511628211 % 18446744073709551616 ^^^ ((h ^^^ n) * 1099511628211 % 18446744073709551616) / 4294967296) * 1099511628211 % 18446744073709551616
def fR (k:Nat):Nat:=(14695981039346656037+k * 11400714819323198485 % 18446744073709551616) % 18446744073709551616
def cM (s:ByteArray) (h:Nat):Nat→Nat
 | 0=>h
 | i+1=>yx (cM s h i) (jY s i)
theorem tU {a b:Nat} (ha:a<18446744073709551616) (hb:b<18446744073709551616):a ^^^ b<18446744073709551616:=Nat.xor_lt_two_pow (n:=64) ha hb
theorem Kl (h b:Nat):yx h b<18446744073709551616:=by
 have h1:(h ^^^ b) * 1099511628211 % 18446744073709551616<18446744073709551616:=Nat.mod_lt _ (by omega)
 have h2:(h ^^^ b) * 1099511628211 % 18446744073709551616 / 536870912≤(h ^^^ b) * 1099511628211 % 18446744073709551616:=Nat.div_le_self _ _
 exact tU h1 (by omega)
theorem Ey (h n:Nat):uF h n<18446744073709551616:=Nat.mod_lt _ (by omega)
theorem Ff (k:Nat):fR k<18446744073709551616:=Nat.mod_lt _ (by omega)
theorem Bf {s:ByteArray} {h:Nat} (hh:h<18446744073709551616):∀ i,cM s h i<18446744073709551616
 | 0=>hh
 | i+1=>Kl _ _
def yu (b:List Nat):List Value:=b.map (fun (x:Nat)=>Value.int .u8 (x:Int))
def yJ (b:List Nat):Array Value:=(yu b).toArray
theorem Eg (a b:List Nat):yu (a++b)=yu a++yu b:=by unfold yu; simp
theorem Kk (b:List Nat):(yu b).all (·.oneCell')=true:=by
 unfold yu; rw [List.all_eq_true]; intro v hv
 obtain ⟨x,_,rfl⟩:=List.mem_map.1 hv; rfl
theorem zN {b:List Nat} {i:Nat} (h:i<b.length):(yJ b)[i]?=some (.int .u8 ((b.getD i 0:Nat):Int)):=by
 unfold yJ yu
 simp [List.getD,h]
theorem vH (b:List Nat) (i x:Nat):(yJ b).setIfInBounds i (.int .u8 (x:Int))=yJ (b.set i x):=by
 unfold yJ yu
 apply Array.ext'
 simp [List.map_set]
theorem uj (b:List Nat):(yJ b).size=b.length:=by unfold yJ yu; simp
theorem xd (n:Nat):Array.replicate n (Value.int .u8 0)=yJ (List.replicate n 0):=by
 unfold yJ yu
 apply Array.ext'
 simp
def nZ (b:List Nat):ByteArray:=⟨(b.map UInt8.ofNat).toArray⟩
theorem lX (b:List Nat):(nZ b).size=b.length:=by show ((b.map UInt8.ofNat).toArray).size=_; simp
theorem Kj (a b:List Nat):nZ a++nZ b=nZ (a++b):=by
 apply ByteArray.ext
 unfold nZ
 simp
theorem zd {b:List Nat} (h:∀ x∈b,x<256):yu b=fM (b.map UInt8.ofNat):=by
 unfold yu fM
 rw [List.map_map]
 refine List.map_congr_left fun x hx=>?_
 have:=h x hx
 simp only [Function.comp]
 congr 1
 rw [UInt8.toNat_ofNat']
 omega
def iQ (n i:Nat):List Nat:=(List.range i).map (fun j=>n / 2 ^ (56 - 8 * j) % 256)
def jN (n:Nat):List Nat:=iQ n 8
theorem qD (n i:Nat):(iQ n i).length=i:=by unfold iQ; simp
theorem Ar (n i:Nat):iQ n (i+1)=iQ n i++[n / 2 ^ (56 - 8 * i) % 256]:=by unfold iQ; rw [List.range_succ,List.map_append]; rfl
theorem Dn (n i:Nat):∀ x∈iQ n i,x<256:=fun x hx=>by
 unfold iQ at hx
 obtain ⟨j,_,rfl⟩:=List.mem_map.1 hx
 exact Nat.mod_lt _ (by omega)
def lD (l:List Nat) (n k:Nat):List Nat:=(l.take k).flatMap (fun h=>jN (uF h n))
theorem yV (l:List Nat) (n:Nat):∀ k,k≤l.length→(lD l n k).length=8 * k:=fun k hk=>by
 unfold lD
 have:∀ q:List Nat,(q.flatMap (fun h=>jN (uF h n))).length=8 * q.length:=fun q=>by
   induction q with
   | nil=>rfl
   | cons a q ih=>rw [List.flatMap_cons,List.length_append,ih,List.length_cons]; unfold jN; rw [qD]; omega
 rw [this,List.length_take]; omega
theorem xO {l:List Nat} {n k:Nat} (hk:k<l.length):lD l n (k+1)=lD l n k++jN (uF (l.getD k 0) n):=by
 unfold lD
 rw [List.take_succ_eq_append_getElem hk,List.flatMap_append,List.getD_eq_getElem?_getD,List.getElem?_eq_getElem hk]
 simp
theorem HN (l:List Nat) (n k:Nat):∀ x∈lD l n k,x<256:=fun x hx=>by
 unfold lD at hx
 obtain ⟨h,_,hx⟩:=List.mem_flatMap.1 hx
 exact Dn _ _ x hx
def zR (s:ByteArray):List Nat:=[cM s (fR 0) s.size,cM s (fR 1) s.size,cM s (fR 2) s.size,cM s (fR 3) s.size]
def Az (s:ByteArray):ByteArray:=nZ (lD (zR s) s.size 4)
theorem yW (s:ByteArray):(Az s).size=32:=by unfold Az; rw [lX,yV _ _ 4 (by simp [zR])]
def SC (a b:ByteArray):ByteArray:=Az (a++b)
def SB:ByteArray:=nZ (List.replicate 32 0)
def uV (l:List Nat):List Value:=l.map (fun (x:Nat)=>Value.int .u64 (x:Int))
def fF (l:List Nat) (n:Nat):Array Value:=(uV l++[Value.int .i64 (n:Int)]).toArray
def kc (l:List Nat):Array Value:=(uV l).toArray
def lJ (k b:Nat) (l:List Nat):List Nat:=(l.take k).map (yx · b)++l.drop k
theorem oq (l:List Nat):(uV l).length=l.length:=by unfold uV; simp
theorem Qe {l:List Nat} {i:Nat} (h:i<l.length):(uV l)[i]?=some (.int .u64 ((l.getD i 0:Nat):Int)):=by
 unfold uV; simp [List.getD,h]
theorem Em {l:List Nat} {i:Nat} (h:i<l.length):(kc l)[i]?=some (.int .u64 ((l.getD i 0:Nat):Int)):=by
 unfold kc; rw [List.getElem?_toArray]; exact Qe h
theorem zo {l:List Nat} {n:Nat} (hl:l.length=4):(fF l n).extract 0 (0+4)=kc l:=by
 unfold fF kc
 apply Array.ext'
 have:=oq l
 simp [List.take_append_of_le_length,this,hl]
theorem Bq {l:List Nat} {n:Nat} (hl:l.length=4):(fF l n)[4]?=some (.int .i64 (n:Int)):=by
 unfold fF
 rw [List.getElem?_toArray,List.getElem?_append_right (by rw [oq]; omega),oq,hl]; rfl
theorem oZ (l:List Nat) (n:Nat):(fF l n).size=l.length+1:=by unfold fF; simp [oq]
theorem FT {l:List Nat} {n i x:Nat} (h:i<l.length):(fF l n).setIfInBounds i (.int .u64 (x:Int))=fF (l.set i x) n:=by
 unfold fF uV
 apply Array.ext'
 simp only [List.setIfInBounds_toArray]
 rw [List.set_append_left _ _ (by simpa using h),List.map_set]
theorem Di {l:List Nat} {n m:Nat} (hl:l.length=4):(fF l n).setIfInBounds 4 (.int .i64 (m:Int))=fF l m:=by
 unfold fF
 apply Array.ext'
 simp only [List.setIfInBounds_toArray]
 rw [List.set_append_right _ _ (by rw [oq]; omega),oq,hl]; rfl
theorem uY (l:List Nat):(kc l).size=l.length:=by unfold kc; simp [oq]
theorem Iw {l:List Nat} {i x:Nat} (h:i<l.length):(kc l).setIfInBounds i (.int .u64 (x:Int))=kc (l.set i x):=by
 unfold kc uV
 apply Array.ext'
 simp [List.map_set]
theorem j8 (k b:Nat) (l:List Nat):(lJ k b l).length=l.length:=by unfold lJ; simp; omega
theorem BR (b:Nat) (l:List Nat):lJ 0 b l=l:=by unfold lJ; simp
theorem CO (b:Nat) (l:List Nat):lJ l.length b l=l.map (yx · b):=by unfold lJ; simp
theorem BS {k b:Nat} {l:List Nat} (h:k<l.length):(lJ k b l).set k (yx (l.getD k 0) b)=lJ (k+1) b l:=by
 unfold lJ
 have e1:((l.take k).map (yx · b)).length=k:=by simp; omega
 have hx:l.drop k=l.getD k 0 :: l.drop (k+1):=by
   rw [List.getD_eq_getElem?_getD,List.getElem?_eq_getElem h,Option.getD_some]
   exact List.drop_eq_getElem_cons h
 rw [List.set_append_right _ _ (by omega),e1,Nat.sub_self,hx,List.set_cons_zero,List.take_succ_eq_append_getElem h]
 simp only [List.map_append,List.map_cons,List.map_nil,List.append_assoc,List.cons_append,List.nil_append]
 rw [List.getD_eq_getElem?_getD,List.getElem?_eq_getElem h,Option.getD_some]
theorem Gt:kf Tryz.prog 5=some (some (.int .u8 0),1,1):=by kernel_rfl
theorem yI:jW Tryz.prog 5=some 1:=by kernel_rfl
def eR (h i:Nat):List Nat:=(List.range 8).map (fun p=>if 8 - i≤p then h / 256 ^ (7 - p) % 256 else 0)
theorem wF (h i:Nat):(eR h i).length=8:=by unfold eR; simp
theorem K8 (h:Nat):eR h 0=List.replicate 8 0:=by
 unfold eR
 apply List.ext_getElem?
 intro p
 rw [List.getElem?_map,List.getElem?_replicate]
 by_cases hp:p<8
 · rw [List.getElem?_range hp,if_pos hp,Option.map_some,if_neg (by omega)]
 · rw [if_neg hp,List.getElem?_eq_none (by simp; omega)]; rfl
theorem MA {h i p:Nat} (hp:p<8):(eR h i)[p]?=some (if 8 - i≤p then h / 256 ^ (7 - p) % 256 else 0):=by
 unfold eR; rw [List.getElem?_map,List.getElem?_range hp]; rfl
theorem K9 {h i:Nat} (hi:i<8):(eR h i).set (7 - i) (h / 256 ^ i % 256)=eR h (i+1):=by
 apply List.ext_getElem?
 intro p
 rw [List.getElem?_set,wF]
 by_cases hp:p<8
 · rw [MA hp,MA hp]
   by_cases e:7 - i=p
   · rw [if_pos e,if_pos (by omega),if_pos (by omega),show 7 - p=i from by omega]
   · rw [if_neg e]
     by_cases e2:8 - i≤p
     · rw [if_pos e2,if_pos (by omega)]
     · rw [if_neg e2,if_neg (by omega)]
 · rw [if_neg (by omega),List.getElem?_eq_none (by rw [wF]; omega),List.getElem?_eq_none (by rw [wF]; omega)]
theorem OY (h:Nat):eR h 8=jN h:=by
 unfold eR jN iQ
 refine List.map_congr_left fun p hp=>?_
 rw [List.mem_range] at hp
 rw [if_pos (by omega)]
 have:(256:Nat) ^ (7 - p)=2 ^ (56 - 8 * p):=by
   rw [show (256:Nat)=2 ^ 8 from rfl,← Nat.pow_mul]; congr 1; omega
 rw [this]
theorem QE (h i:Nat):∀ x∈eR h i,x<256:=fun x hx=>by
 unfold eR at hx
 obtain ⟨p,_,rfl⟩:=List.mem_map.1 hx
 show (if _ then _ else _)<256
 split
 · exact Nat.mod_lt _ (by omega)
 · omega
theorem Qw {w:World} {L:List aD} {g k:Nat} {e:TypeId} {fr:Nat × Nat} {b:List Nat} (H:S w L) (hk:L[k]?=some (Ob g (.cells (yJ b) e fr))) (hb:∀ x∈b,x<256):∀ j u,(fM (b.map UInt8.ofNat))[j]?=some u→w.cell? ((⟨g,0,none⟩:Addr).add j)=some u:=
 yP H hk (by unfold yJ; rw [← zd hb])
theorem K6 (h:Nat) (hh:h<18446744073709551616) (w:World):Calls Tryz.prog 203 #[.int .u64 ((h:Int))] w fun e w'=>e=.returned (.string (nZ (jN h)))∧S w' [aB w no]:=by
 have H0:=S.old w
 refine en Tryz.func203 ?_
 refine ah [0] ?_
 refine aE ?_
 refine l_of (vE 8 H0 (bh rfl) rfl rfl rfl rfl rfl Tryz.underlying113 Gt rfl (by omega) ?_)
 intro g1 H7 H3
 rw [xd,← K8 h] at H3
 replace H3:S _ [_,_]:=H3
 refine cp ?_
 refine cQ (ι:=Nat × Nat) (fun (i,x)=>[(0,.int .u64 ((x:Int))),(3,.slice (some ⟨g1,0,none⟩) (8) (8)),(6,vI i)]) (fun (i,x) wx=>(i≤8)∧(x=h / 256 ^ i)∧S wx [Ob g1 (.cells (yJ (eR h i)) 5 (0,0)),aB w no]) (fun (i,x)=>8 - i) (0,h) ⟨Nat.zero_le _,(by rw [Nat.pow_zero,Nat.div_one]),H3⟩ ?_
 rintro ⟨i,x⟩ H6 ⟨hi,hx,H5⟩
 refine ah [0,3,6] ?_
 have H9:x<18446744073709551616:=by rw [hx]; exact Nat.lt_of_le_of_lt (Nat.div_le_self _ _) hh
 refine aC ?_
 refine g_seq ?_
 by_cases H2:((i:Int):Int)<8
 ·
  refine bm H2 ?_
  refine io ?_
  refine bP (v:=vI (((7 - i:Nat):Int))) (hb:=(fj (a:=7) (b:=i) (by omega))) ?_
  refine cJ ?_
  refine bP (v:=.int .u64 (((x % 256:Nat):Int))) (hb:=(Cy (a:=x) (b:=256) (by omega))) ?_
  refine w_v (v:=.int .u8 (((x % 256:Nat):Int))) (fg rfl rfl Tryz.underlying174 Tryz.underlying5 (by rw [Ml,Nat.mod_mod])) ?_
  refine w_v (v:=.pointer (some ⟨g1,(7 - i),none⟩)) (dM (7 - i) rfl rfl rfl Tryz.underlying113 yI (by omega) (off':=(7 - i)) (by omega)) ?_
  refine l_of (lP H5 0 (bh rfl) rfl rfl rfl rfl rfl yI rfl rfl (by rw [uj]; rw [wF]; omega) ?_)
  intro H4 H8
  rw [vH (eR h i) (7 - i) (x % 256)] at H8
  replace H8:S _ [_,_]:=H8
  refine aC ?_
  refine bP (v:=.int .u64 (((x / 256:Nat):Int))) (hb:=(Cz (a:=x) (b:=256) (by omega))) ?_
  refine aE ?_
  refine ah [0,3,6] ?_
  refine aR ?_
  refine bP (v:=vI ((i:Int)+1)) (hb:=(dY (jD (by omega)))) ?_
  refine ae ?_
  refine bD (i:=(i,x)) (i+1,x / 256) ⟨by omega,(by rw [hx,Nat.div_div_eq_div_mul,Nat.pow_succ]),(by rw [← K9 (by omega),← hx]; exact H8)⟩
 refine br H2 ?_
 refine cp ?_
 refine w_v (v:=.string ((nZ (eR h i)))) (oG (l:=(eR h i).map UInt8.ofNat) rfl rfl Tryz.underlying113 Tryz.underlying9 Tryz.underlying5 (by simp [wF]) (Qw (k:=0) H5 rfl (QE h i))) ?_
 refine aC ?_
 refine af ?_
 have hi8:i=8:=by omega
 exact ⟨by rw [hi8,OY]; rfl,H5.tk [1]⟩
theorem Qs (s:ByteArray) (h:Nat) (hs:s.size≤1099511627776) (hh:h<18446744073709551616) (w:World):Calls Tryz.prog 204 #[.string s,.int .u64 ((h:Int))] w fun e w'=>e=.returned (.int .u64 ((uF (cM s h s.size) s.size:Nat):Int))∧S w' [aB w no]:=by
 have H0:=S.old w
 refine en Tryz.func204 ?_
 refine ah [0,1] ?_
 refine a_ ?_
 refine w_v (iJ rfl rfl Tryz.underlying9) ?_
 refine aC ?_
 refine cQ (ι:=Nat) (fun i=>[(0,.string s),(1,.int .u64 (((cM s h i:Nat):Int))),(7,vI s.size),(8,vI i)]) (fun i wx=>(i≤s.size)∧S wx [aB w no]) (fun i=>s.size - i) (0) ⟨Nat.zero_le _,H0⟩ ?_
 rintro i H4 ⟨hi,H2⟩
 refine ah [0,1,7,8] ?_
 have hl:=Bf (s:=s) hh i
 have H5:=iE s i
 have hx:=tU hl (show jY s i<18446744073709551616 by omega)
 have hX:((cM s h i ^^^ jY s i) * 1099511628211 % 18446744073709551616)<18446744073709551616:=Nat.mod_lt _ (by omega)
 have hX2:((cM s h i ^^^ jY s i) * 1099511628211 % 18446744073709551616) / 536870912≤((cM s h i ^^^ jY s i) * 1099511628211 % 18446744073709551616):=Nat.div_le_self _ _
 have hz:=tU hl (show s.size<18446744073709551616 by omega)
 have hY:((cM s h i ^^^ s.size) * 1099511628211 % 18446744073709551616)<18446744073709551616:=Nat.mod_lt _ (by omega)
 have hY2:((cM s h i ^^^ s.size) * 1099511628211 % 18446744073709551616) / 4294967296≤((cM s h i ^^^ s.size) * 1099511628211 % 18446744073709551616):=Nat.div_le_self _ _
 refine aC ?_
 refine g_seq ?_
 by_cases H3:((i:Int):Int)<(s.size:Int)
 ·
  refine bm H3 ?_
  refine jG ?_
  have hbt4:=iE s i
  refine w_v (v:=.int .u8 ((jY s i:Int))) (tQ i rfl rfl rfl Tryz.underlying9 (by omega)) ?_
  refine w_v (v:=.int .u64 ((jY s i:Int))) (fg rfl rfl Tryz.underlying5 Tryz.underlying174 (kK (by omega))) ?_
  refine bP (v:=.int .u64 (((cM s h i ^^^ jY s i:Nat):Int))) (hb:=(qg (a:=cM s h i) (b:=jY s i) (by omega))) ?_
  refine bP (v:=.int .u64 (((((cM s h i ^^^ jY s i) * 1099511628211 % 18446744073709551616):Nat):Int))) (hb:=(oC (cM s h i ^^^ jY s i) 1099511628211)) ?_
  refine aQ ?_
  refine bP (v:=.int .u64 (((((cM s h i ^^^ jY s i) * 1099511628211 % 18446744073709551616) / 536870912:Nat):Int))) (hb:=(Cz (a:=((cM s h i ^^^ jY s i) * 1099511628211 % 18446744073709551616)) (b:=536870912) (by omega))) ?_
  refine bP (v:=.int .u64 (((cM s h (i+1):Nat):Int))) (hb:=(qg (a:=((cM s h i ^^^ jY s i) * 1099511628211 % 18446744073709551616)) (b:=((cM s h i ^^^ jY s i) * 1099511628211 % 18446744073709551616) / 536870912) (by omega))) ?_
  refine aE ?_
  refine ah [0,1,7,8] ?_
  refine aR ?_
  refine bP (v:=vI ((i:Int)+1)) (hb:=(dY (jD (by omega)))) ?_
  refine ae ?_
  refine bD (i:=(i)) (i+1) ⟨by omega,H2⟩
 refine br H3 ?_
 refine dz ?_
 refine w_v (iJ rfl rfl Tryz.underlying9) ?_
 refine w_v (v:=.int .u64 ((s.size:Int))) (fg rfl rfl Tryz.underlying3 Tryz.underlying174 (kK (by omega))) ?_
 refine bP (v:=.int .u64 (((cM s h i ^^^ s.size:Nat):Int))) (hb:=(qg (a:=cM s h i) (b:=s.size) (by omega))) ?_
 refine bP (v:=.int .u64 (((((cM s h i ^^^ s.size) * 1099511628211 % 18446744073709551616):Nat):Int))) (hb:=(oC (cM s h i ^^^ s.size) 1099511628211)) ?_
 refine aQ ?_
 refine bP (v:=.int .u64 (((((cM s h i ^^^ s.size) * 1099511628211 % 18446744073709551616) / 4294967296:Nat):Int))) (hb:=(Cz (a:=((cM s h i ^^^ s.size) * 1099511628211 % 18446744073709551616)) (b:=4294967296) (by omega))) ?_
 refine bP (v:=.int .u64 (((((cM s h i ^^^ s.size) * 1099511628211 % 18446744073709551616) ^^^ ((cM s h i ^^^ s.size) * 1099511628211 % 18446744073709551616) / 4294967296:Nat):Int))) (hb:=(qg (a:=((cM s h i ^^^ s.size) * 1099511628211 % 18446744073709551616)) (b:=((cM s h i ^^^ s.size) * 1099511628211 % 18446744073709551616) / 4294967296) (by omega))) ?_
 refine ae ?_
 refine ah [1] ?_
 refine ae ?_
 refine bP (v:=.int .u64 (((uF (cM s h i) s.size:Nat):Int))) (hb:=(oC (((cM s h i ^^^ s.size) * 1099511628211 % 18446744073709551616) ^^^ ((cM s h i ^^^ s.size) * 1099511628211 % 18446744073709551616) / 4294967296) 1099511628211)) ?_
 refine aC ?_
 refine af ?_
 have hii:i=s.size:=by omega
 exact ⟨by rw [hii]; rfl,H2.tk [0]⟩
theorem JQ (k:Nat)  (w:World):Calls Tryz.prog 205 #[.int .u64 ((k:Int))] w fun e w'=>e=.returned (.int .u64 ((fR k:Nat):Int))∧S w' [aB w no]:=by
 have H0:=S.old w
 refine en Tryz.func205 ?_
 refine ah [0] ?_
 refine aQ ?_
 refine bP (v:=.int .u64 (((k * 11400714819323198485 % 18446744073709551616:Nat):Int))) (hb:=(oC k 11400714819323198485)) ?_
 refine bP (v:=.int .u64 (((fR k:Nat):Int))) (hb:=(CE 14695981039346656037 (k * 11400714819323198485 % 18446744073709551616))) ?_
 refine aC ?_
 refine af ?_
 exact ⟨rfl,H0.tk [0]⟩
theorem Iv {s:ByteArray} {k:Nat} (h:k<4):(zR s).getD k 0=cM s (fR k) s.size:=by
 match k,h with
 | 0,_=>rfl
 | 1,_=>rfl
 | 2,_=>rfl
 | 3,_=>rfl
theorem Qg (s:ByteArray) (hs:s.size≤1099511627776) (w:World):Calls Tryz.prog 191 #[.string s] w fun e w'=>e=.returned (.string (Az s))∧S w' [aB w no]:=by
 have H0:=S.old w
 refine en Tryz.func191 ?_
 refine ah [0] ?_
 refine io ?_
 refine cQ (ι:=Nat × ByteArray) (fun (k,out)=>[(0,.string s),(3,.string out),(5,vI k)]) (fun (k,out) wx=>(k≤4)∧(out=nZ (lD (zR s) s.size k))∧(out.size=8 * k)∧S wx [aB w no]) (fun (k,out)=>4 - k) (0,⟨#[]⟩) ⟨Nat.zero_le _,rfl,rfl,H0⟩ ?_
 rintro ⟨k,out⟩ h1 ⟨hk,hout,hsz,H2⟩
 refine ah [0,3,5] ?_
 have he8:∀ n,(nZ (jN n)).size=8:=fun n=>by rw [lX]; exact qD n 8
 refine aC ?_
 refine g_seq ?_
 by_cases H3:((k:Int):Int)<4
 ·
  refine bm H3 ?_
  refine jG ?_
  refine w_v (v:=.int .u64 ((k:Int))) (fg rfl rfl Tryz.underlying3 Tryz.underlying174 (kK (by omega))) ?_
  refine l_of (cz H2 (JQ _ _) ?_)
  intro h0 H5
  refine l_of (cz H5 (Qs _ _ (by omega) (Ff _) _) ?_)
  intro H8 H7
  refine l_of (cz H7 (K6 _ (Ey _ _) _) ?_)
  intro H6 H9
  have h2:=he8 (uF (cM s (fR k) s.size) s.size)
  have hsz10:(out++(nZ (jN (uF (cM s (fR k) s.size) s.size)))).size=out.size+(nZ (jN (uF (cM s (fR k) s.size) s.size))).size:=ByteArray.size_append
  refine bP (v:=.string (out++(nZ (jN (uF (cM s (fR k) s.size) s.size))))) (hb:=(yS (by omega))) ?_
  refine aQ ?_
  refine bP (v:=vI ((k:Int)+1)) (hb:=(dY (jD (by omega)))) ?_
  refine ae ?_
  refine bD (i:=(k,out)) (k+1,out++(nZ (jN (uF (cM s (fR k) s.size) s.size)))) ⟨by omega,(by rw [hout,Kj,← Iv (by omega),← xO (by show k<4; omega)]),(by rw [ByteArray.size_append,lX,hsz]; show _+(iQ _ 8).length=_; rw [qD]; omega),H9⟩
 refine br H3 ?_
 refine cS ?_
 refine af ?_
 have H4:k=4:=by omega
 exact ⟨by rw [hout,H4]; rfl,H2.tk [0]⟩
end Go.Proofs.YthmmfhdpkddniaaGreatDoor
