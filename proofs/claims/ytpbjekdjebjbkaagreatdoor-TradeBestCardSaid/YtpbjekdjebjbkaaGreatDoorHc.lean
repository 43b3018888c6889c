import Derived.Test.YtpbjekdjebjbkaaGreatDoorFm
import Derived.Test.YtpbjekdjebjbkaaGreatDoorProg
import Derived.Test.YtpbjekdjebjbkaaGreatDoorFj
set_option maxRecDepth 20000
set_option maxHeartbeats 4000000
set_option linter.unusedSimpArgs false
set_option linter.unusedVariables false
namespace Go.Proofs.YtpbjekdjebjbkaaGreatDoor
open Go.RowKit
def mixT (h b:Nat):Nat:=(h ^^^ b) * 1099511628211 % 18446744073709551616 ^^^ ((h ^^^ b) * 1099511628211 % 18446744073709551616) / 536870912
def endT (h n:Nat):Nat:=((h ^^^ n) * 1099511628211 % 18446744073709551616 ^^^ ((h ^^^ n) * 1099511628211 % 18446744073709551616) / 4294967296) * 1099511628211 % 18446744073709551616
def startT (k:Nat):Nat:=(14695981039346656037+k * 11400714819323198485 % 18446744073709551616) % 18446744073709551616
def laneP (s:ByteArray) (h:Nat):Nat→Nat
 | 0=>h
 | i+1=>mixT (laneP s h i) (bt' s i)
theorem u64_xor {a b:Nat} (ha:a<18446744073709551616) (hb:b<18446744073709551616):a ^^^ b<18446744073709551616:=Nat.xor_lt_two_pow (n:=64) ha hb
theorem mixT_lt (h b:Nat):mixT h b<18446744073709551616:=by
 have h1:(h ^^^ b) * 1099511628211 % 18446744073709551616<18446744073709551616:=Nat.mod_lt _ (by omega)
 have h2:(h ^^^ b) * 1099511628211 % 18446744073709551616 / 536870912≤(h ^^^ b) * 1099511628211 % 18446744073709551616:=Nat.div_le_self _ _
 exact u64_xor h1 (by omega)
theorem endT_lt (h n:Nat):endT h n<18446744073709551616:=Nat.mod_lt _ (by omega)
theorem startT_lt (k:Nat):startT k<18446744073709551616:=Nat.mod_lt _ (by omega)
theorem laneP_lt {s:ByteArray} {h:Nat} (hh:h<18446744073709551616):∀ i,laneP s h i<18446744073709551616
 | 0=>hh
 | i+1=>mixT_lt _ _
def nbL (b:List Nat):List Value:=b.map (fun (x:Nat)=>Value.int .u8 (x:Int))
def nbV (b:List Nat):Array Value:=(nbL b).toArray
theorem nbL_app (a b:List Nat):nbL (a++b)=nbL a++nbL b:=by unfold nbL; simp
theorem nbL_one (b:List Nat):(nbL b).all (·.oneCell')=true:=by
 unfold nbL; rw [List.all_eq_true]; intro v hv
 obtain ⟨x,_,rfl⟩:=List.mem_map.1 hv; rfl
theorem nbV_set (b:List Nat) (i x:Nat):(nbV b).setIfInBounds i (.int .u8 (x:Int))=nbV (b.set i x):=by
 unfold nbV nbL
 apply Array.ext'
 simp [List.map_set]
theorem nbV_size (b:List Nat):(nbV b).size=b.length:=by unfold nbV nbL; simp
theorem nbV_zero (n:Nat):Array.replicate n (Value.int .u8 0)=nbV (List.replicate n 0):=by
 unfold nbV nbL
 apply Array.ext'
 simp
def nbS (b:List Nat):ByteArray:=⟨(b.map UInt8.ofNat).toArray⟩
theorem nbS_size (b:List Nat):(nbS b).size=b.length:=by show ((b.map UInt8.ofNat).toArray).size=_; simp
theorem nbS_app (a b:List Nat):nbS a++nbS b=nbS (a++b):=by
 apply ByteArray.ext
 unfold nbS
 simp
theorem nbL_bytes {b:List Nat} (h:∀ x∈b,x<256):nbL b=bytesV (b.map UInt8.ofNat):=by
 unfold nbL bytesV
 rw [List.map_map]
 refine List.map_congr_left fun x hx=>?_
 have:=h x hx
 simp only [Function.comp]
 congr 1
 rw [UInt8.toNat_ofNat']
 omega
def eightTo (n i:Nat):List Nat:=(List.range i).map (fun j=>n / 2 ^ (56 - 8 * j) % 256)
def eightT (n:Nat):List Nat:=eightTo n 8
theorem eightTo_len (n i:Nat):(eightTo n i).length=i:=by unfold eightTo; simp
theorem eightTo_next (n i:Nat):eightTo n (i+1)=eightTo n i++[n / 2 ^ (56 - 8 * i) % 256]:=by unfold eightTo; rw [List.range_succ,List.map_append]; rfl
theorem eightTo_lt (n i:Nat):∀ x∈eightTo n i,x<256:=fun x hx=>by
 unfold eightTo at hx
 obtain ⟨j,_,rfl⟩:=List.mem_map.1 hx
 exact Nat.mod_lt _ (by omega)
def sumTo (l:List Nat) (n k:Nat):List Nat:=(l.take k).flatMap (fun h=>eightT (endT h n))
theorem sumTo_len (l:List Nat) (n:Nat):∀ k,k≤l.length→(sumTo l n k).length=8 * k:=fun k hk=>by
 unfold sumTo
 have:∀ q:List Nat,(q.flatMap (fun h=>eightT (endT h n))).length=8 * q.length:=fun q=>by
   induction q with
   | nil=>rfl
   | cons a q ih=>rw [List.flatMap_cons,List.length_append,ih,List.length_cons]; unfold eightT; rw [eightTo_len]; omega
 rw [this,List.length_take]; omega
theorem sumTo_next {l:List Nat} {n k:Nat} (hk:k<l.length):sumTo l n (k+1)=sumTo l n k++eightT (endT (l.getD k 0) n):=by
 unfold sumTo
 rw [List.take_succ_eq_append_getElem hk,List.flatMap_append,List.getD_eq_getElem?_getD,List.getElem?_eq_getElem hk]
 simp
theorem sumTo_lt (l:List Nat) (n k:Nat):∀ x∈sumTo l n k,x<256:=fun x hx=>by
 unfold sumTo at hx
 obtain ⟨h,_,hx⟩:=List.mem_flatMap.1 hx
 exact eightTo_lt _ _ x hx
def lanesT (s:ByteArray):List Nat:=[laneP s (startT 0) s.size,laneP s (startT 1) s.size,laneP s (startT 2) s.size,laneP s (startT 3) s.size]
def sumS (s:ByteArray):ByteArray:=nbS (sumTo (lanesT s) s.size 4)
theorem sumS_size (s:ByteArray):(sumS s).size=32:=by unfold sumS; rw [nbS_size,sumTo_len _ _ 4 (by simp [lanesT])]
def pairS (a b:ByteArray):ByteArray:=sumS (a++b)
def zeroB:ByteArray:=nbS (List.replicate 32 0)
def uV (l:List Nat):List Value:=l.map (fun (x:Nat)=>Value.int .u64 (x:Int))
def hashV (l:List Nat) (n:Nat):Array Value:=(uV l++[Value.int .i64 (n:Int)]).toArray
def lanV (l:List Nat):Array Value:=(uV l).toArray
def takeTo (k b:Nat) (l:List Nat):List Nat:=(l.take k).map (mixT · b)++l.drop k
theorem uV_len (l:List Nat):(uV l).length=l.length:=by unfold uV; simp
theorem uV_at {l:List Nat} {i:Nat} (h:i<l.length):(uV l)[i]?=some (.int .u64 ((l.getD i 0:Nat):Int)):=by
 unfold uV; simp [List.getD,h]
theorem lanV_at {l:List Nat} {i:Nat} (h:i<l.length):(lanV l)[i]?=some (.int .u64 ((l.getD i 0:Nat):Int)):=by
 unfold lanV; rw [List.getElem?_toArray]; exact uV_at h
theorem hashV_ext {l:List Nat} {n:Nat} (hl:l.length=4):(hashV l n).extract 0 (0+4)=lanV l:=by
 unfold hashV lanV
 apply Array.ext'
 have:=uV_len l
 simp [List.take_append_of_le_length,this,hl]
theorem hashV_at {l:List Nat} {n:Nat} (hl:l.length=4):(hashV l n)[4]?=some (.int .i64 (n:Int)):=by
 unfold hashV
 rw [List.getElem?_toArray,List.getElem?_append_right (by rw [uV_len]; omega),uV_len,hl]; rfl
theorem hashV_size (l:List Nat) (n:Nat):(hashV l n).size=l.length+1:=by unfold hashV; simp [uV_len]
theorem hashV_set {l:List Nat} {n i x:Nat} (h:i<l.length):(hashV l n).setIfInBounds i (.int .u64 (x:Int))=hashV (l.set i x) n:=by
 unfold hashV uV
 apply Array.ext'
 simp only [List.setIfInBounds_toArray]
 rw [List.set_append_left _ _ (by simpa using h),List.map_set]
theorem hashV_setN {l:List Nat} {n m:Nat} (hl:l.length=4):(hashV l n).setIfInBounds 4 (.int .i64 (m:Int))=hashV l m:=by
 unfold hashV
 apply Array.ext'
 simp only [List.setIfInBounds_toArray]
 rw [List.set_append_right _ _ (by rw [uV_len]; omega),uV_len,hl]; rfl
theorem lanV_size (l:List Nat):(lanV l).size=l.length:=by unfold lanV; simp [uV_len]
theorem lanV_set {l:List Nat} {i x:Nat} (h:i<l.length):(lanV l).setIfInBounds i (.int .u64 (x:Int))=lanV (l.set i x):=by
 unfold lanV uV
 apply Array.ext'
 simp [List.map_set]
theorem takeTo_len (k b:Nat) (l:List Nat):(takeTo k b l).length=l.length:=by unfold takeTo; simp; omega
theorem takeTo_zero (b:Nat) (l:List Nat):takeTo 0 b l=l:=by unfold takeTo; simp
theorem takeTo_all (b:Nat) (l:List Nat):takeTo l.length b l=l.map (mixT · b):=by unfold takeTo; simp
theorem takeTo_next {k b:Nat} {l:List Nat} (h:k<l.length):(takeTo k b l).set k (mixT (l.getD k 0) b)=takeTo (k+1) b l:=by
 unfold takeTo
 have e1:((l.take k).map (mixT · b)).length=k:=by simp; omega
 have hx:l.drop k=l.getD k 0 :: l.drop (k+1):=by
   rw [List.getD_eq_getElem?_getD,List.getElem?_eq_getElem h,Option.getD_some]
   exact List.drop_eq_getElem_cons h
 rw [List.set_append_right _ _ (by omega),e1,Nat.sub_self,hx,List.set_cons_zero,List.take_succ_eq_append_getElem h]
 simp only [List.map_append,List.map_cons,List.map_nil,List.append_assoc,List.cons_append,List.nil_append]
 rw [List.getD_eq_getElem?_getD,List.getElem?_eq_getElem h,Option.getD_some]
theorem cl90:callable Tryz.prog 90=true:=by kernel_rfl
theorem cl91:callable Tryz.prog 91=true:=by kernel_rfl
theorem cl92:callable Tryz.prog 92=true:=by kernel_rfl
theorem inf5:infO Tryz.prog 5=some (some (.int .u8 0),1,1):=by kernel_rfl
theorem sz5:szO Tryz.prog 5=some 1:=by kernel_rfl
def eR (h i:Nat):List Nat:=(List.range 8).map (fun p=>if 8 - i≤p then h / 256 ^ (7 - p) % 256 else 0)
theorem eR_len (h i:Nat):(eR h i).length=8:=by unfold eR; simp
theorem eR_zero (h:Nat):eR h 0=List.replicate 8 0:=by
 unfold eR
 apply List.ext_getElem?
 intro p
 rw [List.getElem?_map,List.getElem?_replicate]
 by_cases hp:p<8
 · rw [List.getElem?_range hp,if_pos hp,Option.map_some,if_neg (by omega)]
 · rw [if_neg hp,List.getElem?_eq_none (by simp; omega)]; rfl
theorem eR_at {h i p:Nat} (hp:p<8):(eR h i)[p]?=some (if 8 - i≤p then h / 256 ^ (7 - p) % 256 else 0):=by
 unfold eR; rw [List.getElem?_map,List.getElem?_range hp]; rfl
theorem eR_next {h i:Nat} (hi:i<8):(eR h i).set (7 - i) (h / 256 ^ i % 256)=eR h (i+1):=by
 apply List.ext_getElem?
 intro p
 rw [List.getElem?_set,eR_len]
 by_cases hp:p<8
 · rw [eR_at hp,eR_at hp]
   by_cases e:7 - i=p
   · rw [if_pos e,if_pos (by omega),if_pos (by omega),show 7 - p=i from by omega]
   · rw [if_neg e]
     by_cases e2:8 - i≤p
     · rw [if_pos e2,if_pos (by omega)]
     · rw [if_neg e2,if_neg (by omega)]
 · rw [if_neg (by omega),List.getElem?_eq_none (by rw [eR_len]; omega),List.getElem?_eq_none (by rw [eR_len]; omega)]
theorem eR_all (h:Nat):eR h 8=eightT h:=by
 unfold eR eightT eightTo
 refine List.map_congr_left fun p hp=>?_
 rw [List.mem_range] at hp
 rw [if_pos (by omega)]
 have:(256:Nat) ^ (7 - p)=2 ^ (56 - 8 * p):=by
   rw [show (256:Nat)=2 ^ 8 from rfl,← Nat.pow_mul]; congr 1; omega
 rw [this]
theorem eR_lt (h i:Nat):∀ x∈eR h i,x<256:=fun x hx=>by
 unfold eR at hx
 obtain ⟨p,_,rfl⟩:=List.mem_map.1 hx
 show (if _ then _ else _)<256
 split
 · exact Nat.mod_lt _ (by omega)
 · omega
theorem hc_nb {w:World} {L:List Item} {g k:Nat} {e:TypeId} {fr:Nat × Nat} {b:List Nat} (H:S w L) (hk:L[k]?=some (Ob g (.cells (nbV b) e fr))) (hb:∀ x∈b,x<256):∀ j u,(bytesV (b.map UInt8.ofNat))[j]?=some u→w.cell? ((⟨g,0,none⟩:Addr).add j)=some u:=
 hc_ob H hk (by unfold nbV; rw [← nbL_bytes hb])
theorem eight_r (h:Nat) (hh:h<18446744073709551616) (w:World):Calls Tryz.prog 90 #[.int .u64 ((h:Int))] w fun e w'=>e=.returned (.string (nbS (eightT h)))∧S w' [Old w no]:=by
 have H0:=S.old w
 refine enter 21 Tryz.func90 rfl rfl rfl ?_
 refine g_wk [(0,_)] ?_
 refine w_s ?_
 refine w_k3 ?_
 refine l_of (s_make1 8 H0 (wt0 rfl) rfl rfl rfl rfl rfl Tryz.underlying140 inf5 rfl (by omega) ?_)
 intro g1 wq2 H3
 rw [nbV_zero,← eR_zero h] at H3
 replace H3:S wq2 [Ob g1 (.cells (nbV (eR h 0)) 5 (0,0)),Old w no]:=H3
 refine w_k7 ?_
 refine g_loop (ι:=Nat × Nat) (fun (i,x)=>[(0,.int .u64 ((x:Int))),(3,.slice (some ⟨g1,0,none⟩) (8) (8)),(6,.int .i64 ((i:Int)))]) (fun (i,x) wx=>(i≤8)∧(x=h / 256 ^ i)∧S wx [Ob g1 (.cells (nbV (eR h i)) 5 (0,0)),Old w no]) (fun (i,x)=>8 - i) (0,h) ⟨rfl,rfl,rfl,trivial⟩ ⟨Nat.zero_le _,(by rw [Nat.pow_zero,Nat.div_one]),H3⟩ ?_
 rintro ⟨i,x⟩ wq4 ⟨hi,hx,H5⟩
 refine g_wk [(0,_),(3,_),(6,_)] ?_
 have hx1:x<18446744073709551616:=by rw [hx]; exact Nat.lt_of_le_of_lt (Nat.div_le_self _ _) hh
 refine w_k3 ?_
 refine g_seq ?_
 by_cases hb6:((i:Int):Int)<8
 ·
  refine g_ct hb6 ?_
  refine w_k11 ?_
  refine w_b (v:=.int .i64 (((7 - i:Nat):Int))) (hb:=(b_subN (a:=7) (b:=i) (by omega))) ?_
  refine w_m ?_
  refine w_b (v:=.int .u64 (((x % 256:Nat):Int))) (hb:=(b_remU (a:=x) (b:=256) (by omega))) ?_
  refine w_v (v:=.int .u8 (((x % 256:Nat):Int))) (x_conv rfl rfl Tryz.underlying137 Tryz.underlying5 (by rw [wrapB,Nat.mod_mod])) ?_
  refine w_v (v:=.pointer (some ⟨g1,(7 - i),none⟩)) (x_indexAddr (7 - i) rfl rfl rfl Tryz.underlying140 sz5 (by omega) (off':=(7 - i)) (by omega)) ?_
  refine l_of (s_store1 H5 0 (wt0 rfl) rfl rfl rfl rfl rfl sz5 rfl rfl (by rw [nbV_size]; rw [eR_len]; omega) ?_)
  intro wq7 H8
  rw [nbV_set (eR h i) (7 - i) (x % 256)] at H8
  replace H8:S wq7 [Ob g1 (.cells (nbV ((eR h i).set (7 - i) (x % 256))) 5 (0,0)),Old w no]:=H8
  refine w_k3 ?_
  refine w_b (v:=.int .u64 (((x / 256:Nat):Int))) (hb:=(b_quoU (a:=x) (b:=256) (by omega))) ?_
  refine w_k5 ?_
  refine w_b (v:=.int .i64 ((i:Int)+1)) (hb:=(b_add (w64 (by omega)))) ?_
  refine w_k2 ?_
  refine g_rd (i:=(i,x)) (i+1,x / 256) ⟨by omega,(by rw [hx,Nat.div_div_eq_div_mul,Nat.pow_succ]),(by rw [← eR_next (by omega),← hx]; exact H8)⟩
 ·
  refine g_cf hb6 ?_
  refine w_k7 ?_
  refine w_v (v:=.string ((nbS (eR h i)))) (x_bytes (l:=(eR h i).map UInt8.ofNat) rfl rfl Tryz.underlying140 Tryz.underlying9 Tryz.underlying5 (by simp [eR_len]) (hc_nb (k:=0) H5 rfl (eR_lt h i))) ?_
  refine w_k3 ?_
  refine fin_r [.tmp 2] [.string ((nbS (eR h i)))] ?_
  have hi8:i=8:=by omega
  exact ⟨by rw [hi8,eR_all]; rfl,H5.mask [false,true]⟩
theorem one_r (s:ByteArray) (h:Nat) (hs:s.size≤1099511627776) (hh:h<18446744073709551616) (w:World):Calls Tryz.prog 91 #[.string s,.int .u64 ((h:Int))] w fun e w'=>e=.returned (.int .u64 ((endT (laneP s h s.size) s.size:Nat):Int))∧S w' [Old w no]:=by
 have H0:=S.old w
 refine enter 35 Tryz.func91 rfl rfl rfl ?_
 refine g_wk [(0,_),(1,_)] ?_
 refine w_s ?_
 refine w_k5 ?_
 refine w_v (x_lens rfl rfl Tryz.underlying9) ?_
 refine w_k3 ?_
 refine g_loop (ι:=Nat) (fun i=>[(0,.string s),(1,.int .u64 (((laneP s h i:Nat):Int))),(7,.int .i64 ((s.size:Int))),(8,.int .i64 ((i:Int)))]) (fun i wx=>(i≤s.size)∧S wx [Old w no]) (fun i=>s.size - i) (0) ⟨rfl,rfl,rfl,rfl,trivial⟩ ⟨Nat.zero_le _,H0⟩ ?_
 rintro i wq1 ⟨hi,H2⟩
 refine g_wk [(0,_),(1,_),(7,_),(8,_)] ?_
 have hl:=laneP_lt (s:=s) hh i
 have hb8:=bt'_lt s i
 have hx:=u64_xor hl (show bt' s i<18446744073709551616 by omega)
 have hX:((laneP s h i ^^^ bt' s i) * 1099511628211 % 18446744073709551616)<18446744073709551616:=Nat.mod_lt _ (by omega)
 have hX2:((laneP s h i ^^^ bt' s i) * 1099511628211 % 18446744073709551616) / 536870912≤((laneP s h i ^^^ bt' s i) * 1099511628211 % 18446744073709551616):=Nat.div_le_self _ _
 have hz:=u64_xor hl (show s.size<18446744073709551616 by omega)
 have hY:((laneP s h i ^^^ s.size) * 1099511628211 % 18446744073709551616)<18446744073709551616:=Nat.mod_lt _ (by omega)
 have hY2:((laneP s h i ^^^ s.size) * 1099511628211 % 18446744073709551616) / 4294967296≤((laneP s h i ^^^ s.size) * 1099511628211 % 18446744073709551616):=Nat.div_le_self _ _
 refine w_k3 ?_
 refine g_seq ?_
 by_cases hb3:((i:Int):Int)<(s.size:Int)
 ·
  refine g_ct hb3 ?_
  refine w_k12 ?_
  have hbt4:=bt'_lt s i
  refine w_v (v:=.int .u8 ((bt' s i:Int))) (x_index i rfl rfl rfl Tryz.underlying9 (by omega)) ?_
  refine w_v (v:=.int .u64 ((bt' s i:Int))) (x_conv rfl rfl Tryz.underlying5 Tryz.underlying137 (wrapU (by omega))) ?_
  refine w_b (v:=.int .u64 (((laneP s h i ^^^ bt' s i:Nat):Int))) (hb:=(b_xorU (a:=laneP s h i) (b:=bt' s i) (by omega))) ?_
  refine w_b (v:=.int .u64 (((((laneP s h i ^^^ bt' s i) * 1099511628211 % 18446744073709551616):Nat):Int))) (hb:=(b_mulU (laneP s h i ^^^ bt' s i) 1099511628211)) ?_
  refine w_k5 ?_
  refine w_b (v:=.int .u64 (((((laneP s h i ^^^ bt' s i) * 1099511628211 % 18446744073709551616) / 536870912:Nat):Int))) (hb:=(b_quoU (a:=((laneP s h i ^^^ bt' s i) * 1099511628211 % 18446744073709551616)) (b:=536870912) (by omega))) ?_
  refine w_b (v:=.int .u64 (((laneP s h (i+1):Nat):Int))) (hb:=(b_xorU (a:=((laneP s h i ^^^ bt' s i) * 1099511628211 % 18446744073709551616)) (b:=((laneP s h i ^^^ bt' s i) * 1099511628211 % 18446744073709551616) / 536870912) (by omega))) ?_
  refine w_k5 ?_
  refine w_b (v:=.int .i64 ((i:Int)+1)) (hb:=(b_add (w64 (by omega)))) ?_
  refine w_k2 ?_
  refine g_rd (i:=(i)) (i+1) ⟨by omega,H2⟩
 ·
  refine g_cf hb3 ?_
  refine w_k8 ?_
  refine w_v (x_lens rfl rfl Tryz.underlying9) ?_
  refine w_v (v:=.int .u64 ((s.size:Int))) (x_conv rfl rfl Tryz.underlying3 Tryz.underlying137 (wrapU (by omega))) ?_
  refine w_b (v:=.int .u64 (((laneP s h i ^^^ s.size:Nat):Int))) (hb:=(b_xorU (a:=laneP s h i) (b:=s.size) (by omega))) ?_
  refine w_b (v:=.int .u64 (((((laneP s h i ^^^ s.size) * 1099511628211 % 18446744073709551616):Nat):Int))) (hb:=(b_mulU (laneP s h i ^^^ s.size) 1099511628211)) ?_
  refine w_k5 ?_
  refine w_b (v:=.int .u64 (((((laneP s h i ^^^ s.size) * 1099511628211 % 18446744073709551616) / 4294967296:Nat):Int))) (hb:=(b_quoU (a:=((laneP s h i ^^^ s.size) * 1099511628211 % 18446744073709551616)) (b:=4294967296) (by omega))) ?_
  refine w_b (v:=.int .u64 (((((laneP s h i ^^^ s.size) * 1099511628211 % 18446744073709551616) ^^^ ((laneP s h i ^^^ s.size) * 1099511628211 % 18446744073709551616) / 4294967296:Nat):Int))) (hb:=(b_xorU (a:=((laneP s h i ^^^ s.size) * 1099511628211 % 18446744073709551616)) (b:=((laneP s h i ^^^ s.size) * 1099511628211 % 18446744073709551616) / 4294967296) (by omega))) ?_
  refine w_k4 ?_
  refine w_b (v:=.int .u64 (((endT (laneP s h i) s.size:Nat):Int))) (hb:=(b_mulU (((laneP s h i ^^^ s.size) * 1099511628211 % 18446744073709551616) ^^^ ((laneP s h i ^^^ s.size) * 1099511628211 % 18446744073709551616) / 4294967296) 1099511628211)) ?_
  refine w_k3 ?_
  refine fin_r [.tmp 4] [.int .u64 (((endT (laneP s h i) s.size:Nat):Int))] ?_
  have hii:i=s.size:=by omega
  exact ⟨by rw [hii]; rfl,H2.mask [true]⟩
theorem start_r (k:Nat)  (w:World):Calls Tryz.prog 92 #[.int .u64 ((k:Int))] w fun e w'=>e=.returned (.int .u64 ((startT k:Nat):Int))∧S w' [Old w no]:=by
 have H0:=S.old w
 refine enter 6 Tryz.func92 rfl rfl rfl ?_
 refine g_wk [(0,_)] ?_
 refine w_s ?_
 refine w_k4 ?_
 refine w_b (v:=.int .u64 (((k * 11400714819323198485 % 18446744073709551616:Nat):Int))) (hb:=(b_mulU k 11400714819323198485)) ?_
 refine w_b (v:=.int .u64 (((startT k:Nat):Int))) (hb:=(b_addU 14695981039346656037 (k * 11400714819323198485 % 18446744073709551616))) ?_
 refine w_k3 ?_
 refine fin_r [.tmp 2] [.int .u64 (((startT k:Nat):Int))] ?_
 exact ⟨rfl,H0.mask [true]⟩
theorem lanes_at {s:ByteArray} {k:Nat} (h:k<4):(lanesT s).getD k 0=laneP s (startT k) s.size:=by
 match k,h with
 | 0,_=>rfl
 | 1,_=>rfl
 | 2,_=>rfl
 | 3,_=>rfl
theorem sum_r (s:ByteArray) (hs:s.size≤1099511627776) (w:World):Calls Tryz.prog 84 #[.string s] w fun e w'=>e=.returned (.string (sumS s))∧S w' [Old w no]:=by
 have H0:=S.old w
 refine enter 18 Tryz.func84 rfl rfl rfl ?_
 refine g_wk [(0,_)] ?_
 refine w_s ?_
 refine w_k10 ?_
 refine g_loop (ι:=Nat × ByteArray) (fun (k,out)=>[(0,.string s),(3,.string out),(5,.int .i64 ((k:Int)))]) (fun (k,out) wx=>(k≤4)∧(out=nbS (sumTo (lanesT s) s.size k))∧(out.size=8 * k)∧S wx [Old w no]) (fun (k,out)=>4 - k) (0,⟨#[]⟩) ⟨rfl,rfl,rfl,trivial⟩ ⟨Nat.zero_le _,rfl,rfl,H0⟩ ?_
 rintro ⟨k,out⟩ wq1 ⟨hk,hout,hsz,H2⟩
 refine g_wk [(0,_),(3,_),(5,_)] ?_
 have he8:∀ n,(nbS (eightT n)).size=8:=fun n=>by rw [nbS_size]; exact eightTo_len n 8
 refine w_k3 ?_
 refine g_seq ?_
 by_cases hb3:((k:Int):Int)<4
 ·
  refine g_ct hb3 ?_
  refine w_k12 ?_
  refine w_v (v:=.int .u64 ((k:Int))) (x_conv rfl rfl Tryz.underlying3 Tryz.underlying137 (wrapU (by omega))) ?_
  refine l_of (s_call0 H2 (wt0 rfl) (x_call' rfl rfl cl92) (start_r _ _) rfl rfl ?_)
  intro wq4 H5
  refine l_of (s_call0 H5 (wt0 rfl) (x_call' rfl rfl cl91) (one_r _ _ (by omega) (startT_lt _) _) rfl rfl ?_)
  intro wq6 H7
  refine l_of (s_call0 H7 (wt0 rfl) (x_call' rfl rfl cl90) (eight_r _ (endT_lt _ _) _) rfl rfl ?_)
  intro wq8 H9
  have hq8:=he8 (endT (laneP s (startT k) s.size) s.size)
  have hsz10:(out++(nbS (eightT (endT (laneP s (startT k) s.size) s.size)))).size=out.size+(nbS (eightT (endT (laneP s (startT k) s.size) s.size))).size:=ByteArray.size_append
  refine w_b (v:=.string (out++(nbS (eightT (endT (laneP s (startT k) s.size) s.size))))) (hb:=(b_cat (by omega))) ?_
  refine w_k5 ?_
  refine w_b (v:=.int .i64 ((k:Int)+1)) (hb:=(b_add (w64 (by omega)))) ?_
  refine w_k2 ?_
  refine g_rd (i:=(k,out)) (k+1,out++(nbS (eightT (endT (laneP s (startT k) s.size) s.size)))) ⟨by omega,(by rw [hout,nbS_app,← lanes_at (by omega),← sumTo_next (by show k<4; omega)]),(by rw [ByteArray.size_append,nbS_size,hsz]; show _+(eightTo _ 8).length=_; rw [eightTo_len]; omega),H9⟩
 ·
  refine g_cf hb3 ?_
  refine w_k10 ?_
  refine fin_r [.tmp 2] [.string out] ?_
  have hk4:k=4:=by omega
  exact ⟨by rw [hout,hk4]; rfl,H2.mask [true]⟩
theorem cl193:callable Tryz.prog 193=true:=by kernel_rfl
theorem cl195:callable Tryz.prog 195=true:=by kernel_rfl
theorem sz137:szO Tryz.prog 137=some 1:=by kernel_rfl
theorem sz223:szO Tryz.prog 223=some 4:=by kernel_rfl
theorem sz225:szO Tryz.prog 225=some 4:=by kernel_rfl
theorem sz3:szO Tryz.prog 3=some 1:=by kernel_rfl
theorem ze225:zeO Tryz.prog 225=some (.agg #[.int .u64 0,.int .u64 0,.int .u64 0,.int .u64 0]):=by kernel_rfl
theorem begL_lt:∀ x∈[startT 0,startT 1,startT 2,startT 3],x<18446744073709551616:=by decide
def begTo (k:Nat):List Nat:=(List.range 4).map (fun i=>if i<k then startT i else 0)
theorem begTo_len (k:Nat):(begTo k).length=4:=by unfold begTo; simp
theorem begTo_at {k p:Nat} (hp:p<4):(begTo k)[p]?=some (if p<k then startT p else 0):=by
 unfold begTo; rw [List.getElem?_map,List.getElem?_range hp]; rfl
theorem begTo_next {k:Nat} (hk:k<4):(begTo k).set k (startT k)=begTo (k+1):=by
 apply List.ext_getElem?
 intro p
 rw [List.getElem?_set,begTo_len]
 by_cases hp:p<4
 · rw [begTo_at hp,begTo_at hp]
   by_cases e:k=p
   · subst e; rw [if_pos rfl,if_pos hk,if_pos (by omega)]
   · rw [if_neg e]
     by_cases e2:p<k
     · rw [if_pos e2,if_pos (by omega)]
     · rw [if_neg e2,if_neg (by omega)]
 · rw [if_neg (by omega),List.getElem?_eq_none (by rw [begTo_len]; omega),List.getElem?_eq_none (by rw [begTo_len]; omega)]
def begL:List Nat:=begTo 4
theorem begL_len:begL.length=4:=begTo_len 4
theorem lanV_ext {l:List Nat} (hl:l.length=4):(lanV l).extract 0 (0+4)=lanV l:=by
 apply Array.ext'
 have:=uV_len l
 unfold lanV
 simp
 exact List.take_of_length_le (by omega)
theorem begun_h   (w:World):Calls Tryz.prog 193 #[] w fun e w'=>e=.returned (.agg (lanV begL))∧S w' [Old w no]:=by
 have H0:=S.old w
 refine enter 15 Tryz.func193 rfl rfl rfl ?_
 refine g_wk [] ?_
 refine w_s ?_
 refine l_of (s_alloc H0 (wt0 rfl) rfl rfl rfl ze225 ?_)
 intro g1 wq2 H3
 refine w_k2 ?_
 refine l_of (s_alloc H3 (wt0 rfl) rfl rfl rfl ze225 ?_)
 intro g4 wq5 H6
 refine w_k6 ?_
 refine g_loop (ι:=Nat) (fun k=>[(0,.pointer (some ⟨g1,0,none⟩)),(1,.pointer (some ⟨g4,0,none⟩)),(3,.int .i64 ((k:Int)))]) (fun k wx=>(k≤4)∧S wx [Ob g4 (.cells (lanV (begTo k)) 225 (0,0)),Ob g1 (.cells (lanV (begTo 0)) 225 (0,0)),Old w no]) (fun k=>4 - k) (0) ⟨rfl,rfl,rfl,trivial⟩ ⟨Nat.zero_le _,(H6.tk [0,1,2])⟩ ?_
 rintro k wq7 ⟨hk,H8⟩
 refine g_wk [(0,_),(1,_),(3,_)] ?_
 refine w_s ?_
 refine w_k2 ?_
 refine g_seq ?_
 by_cases hb9:((k:Int):Int)<4
 ·
  refine g_ct hb9 ?_
  refine w_k11 ?_
  refine w_v (v:=.int .u64 ((k:Int))) (x_conv rfl rfl Tryz.underlying3 Tryz.underlying137 (wrapU (by omega))) ?_
  refine w_b (v:=.int .u64 (((k * 11400714819323198485 % 18446744073709551616:Nat):Int))) (hb:=(b_mulU k 11400714819323198485)) ?_
  refine w_b (v:=.int .u64 (((startT k:Nat):Int))) (hb:=(b_addU 14695981039346656037 (k * 11400714819323198485 % 18446744073709551616))) ?_
  refine w_0 ?_
  refine w_v (v:=.pointer (some ⟨g4,k,none⟩)) (x_indexAddrA k rfl rfl rfl Tryz.underlying223 sz137 (by omega) (off':=k) (by omega)) ?_
  refine l_of (s_store1 H8 0 (wt0 rfl) rfl rfl rfl rfl rfl sz137 rfl rfl (by rw [lanV_size]; simp [begTo_len]; omega) ?_)
  intro wq10 H11
  rw [lanV_set (l:=(begTo k)) (i:=k) (x:=(startT k)) (by simp [begTo_len]; omega)] at H11
  replace H11:S wq10 [Ob g4 (.cells (lanV ((begTo k).set k (startT k))) 225 (0,0)),Ob g1 (.cells (lanV (begTo 0)) 225 (0,0)),Old w no]:=H11
  refine w_k4 ?_
  refine w_b (v:=.int .i64 ((k:Int)+1)) (hb:=(b_add (w64 (by omega)))) ?_
  refine w_k2 ?_
  refine g_rd (i:=(k)) (k+1) ⟨by omega,(by rw [← begTo_next (by omega)]; exact (H11.tk [0,1,2]))⟩
 ·
  refine g_cf hb9 ?_
  refine w_k6 ?_
  refine w_v (v:=.agg (lanV (begTo k))) (x_loadA H8 0 rfl rfl Tryz.underlying225 rfl sz225 rfl (Nat.ble_eq_true_of_le (by rw [lanV_size,begTo_len]; omega)) (lanV_ext (begTo_len _))) ?_
  refine l_of (s_store H8 1 (wt0 rfl) rfl rfl rfl rfl rfl sz225 rfl rfl (cs':=lanV (begTo k)) (by simp [Value.cells,lanV,uV_len,begTo_len]) ?_)
  intro wq12 H13
  refine w_k2 ?_
  refine fin_ret [.cell 0 225] [.agg (lanV (begTo k))] rfl ⟨⟨_,rfl,run_loadA (H13.ob (k:=1) rfl) Tryz.underlying225 rfl sz225 rfl rfl⟩,trivial⟩ ?_
  have hk4:k=4:=by omega
  subst hk4
  exact ⟨rfl,H13.mask [false,false,true]⟩
theorem newh_h   (w:World):Calls Tryz.prog 190 #[] w fun e w'=>∃ g,e=.returned (.pointer (some ⟨g,0,none⟩))∧S w' ([Ob g (.cells (hashV begL 0) 228 (0,0))]++[Old w no]):=by
 have H0:=S.old w
 refine enter 4 Tryz.func190 rfl rfl rfl ?_
 refine g_wk [] ?_
 refine w_s ?_
 refine w_k3 ?_
 refine l_of (s_call0 H0 (wt0 rfl) (x_call' rfl rfl cl193) (begun_h _) rfl rfl ?_)
 intro wq1 H2
 refine w_v (v:=.agg (hashV begL 0)) (x_build (vs:=[.agg (lanV begL)]) rfl rfl (cells:=hashV begL 0) (by kernel_rfl)) ?_
 refine l_of (s_box H2 (wt0 rfl) rfl rfl rfl rfl ?_)
 intro g3 wq4 H5
 refine w_k3 ?_
 refine fin_r [.tmp 0] [.pointer (some ⟨g3,0,none⟩)] ?_
 exact ⟨_,rfl,H5⟩
theorem getD_u {l:List Nat} (h:∀ x∈l,x<18446744073709551616) (i:Nat):l.getD i 0<18446744073709551616:=by
 rw [List.getD_eq_getElem?_getD]
 cases hq:l[i]? with
 | none=>show (0:Nat)<_; omega
 | some x=>exact h x (List.mem_of_getElem? hq)
abbrev DHb0 (w:World) (gh:Nat) (l:List Nat) (n:Nat):=Old w (fps [Ob gh (.cells (hashV l n) 228 (0,0))])
theorem take_h (gh n:Nat) (l:List Nat) (hl:l.length=4) (hlt:∀ x∈l,x<18446744073709551616) (b:Nat) (hb:b<256) (w:World) (HB:S w [Ob gh (.cells (hashV l n) 228 (0,0))]):Calls Tryz.prog 195 #[.pointer (some ⟨gh,0,none⟩),.int .u8 (b:Int)] w fun e w'=>e=.returned (.tuple #[])∧S w' ([Ob gh (.cells (hashV (l.map (mixT · b)) n) 228 (0,0))]++[DHb0 w gh l n]):=by
 have H0:S _ [_,_]:=HB.beginI
 refine enter 29 Tryz.func195 rfl rfl rfl ?_
 refine g_wk [(0,_),(1,_)] ?_
 refine w_s ?_
 refine w_r3 ?_
 refine w_v (v:=.agg (lanV l)) (x_loadA H0 0 rfl rfl Tryz.underlying223 rfl sz223 rfl (Nat.ble_eq_true_of_le (by rw [hashV_size]; omega)) (hashV_ext hl)) ?_
 refine w_k3 ?_
 refine g_loop (ι:=Nat) (fun k=>[(0,.pointer (some ⟨gh,0,none⟩)),(1,.int .u8 ((b:Int))),(9,.agg (lanV l)),(10,.int .i64 ((k:Int)))]) (fun k wx=>(k≤4)∧S wx [Ob gh (.cells (hashV (takeTo k b l) n) 228 (0,0)),DHb0 w gh l n]) (fun k=>4 - k) (0) ⟨rfl,rfl,rfl,rfl,trivial⟩ ⟨Nat.zero_le _,(by rw [takeTo_zero]; exact H0)⟩ ?_
 rintro k wq1 ⟨hk,H2⟩
 refine g_wk [(0,_),(1,_),(9,_),(10,_)] ?_
 have hgl:l.getD k 0<18446744073709551616:=getD_u hlt k
 have hx:=u64_xor hgl (show b<18446744073709551616 by omega)
 have hX:((l.getD k 0 ^^^ b) * 1099511628211 % 18446744073709551616)<18446744073709551616:=Nat.mod_lt _ (by omega)
 have hX2:((l.getD k 0 ^^^ b) * 1099511628211 % 18446744073709551616) / 536870912≤((l.getD k 0 ^^^ b) * 1099511628211 % 18446744073709551616):=Nat.div_le_self _ _
 refine w_k3 ?_
 refine g_seq ?_
 by_cases hb3:((k:Int):Int)<4
 ·
  refine g_ct hb3 ?_
  refine w_k6 ?_
  refine w_v (v:=.int .u64 (((l.getD k 0:Nat):Int))) (x_indexW k rfl rfl rfl Tryz.underlying223 sz137 Tryz.underlying137 rfl (by omega) (lanV_at (by omega))) ?_
  refine w_k6 ?_
  refine w_v (v:=.int .u64 ((b:Int))) (x_conv rfl rfl Tryz.underlying5 Tryz.underlying137 (wrapU (by omega))) ?_
  refine w_b (v:=.int .u64 (((l.getD k 0 ^^^ b:Nat):Int))) (hb:=(b_xorU (a:=l.getD k 0) (b:=b) (by omega))) ?_
  refine w_b (v:=.int .u64 (((((l.getD k 0 ^^^ b) * 1099511628211 % 18446744073709551616):Nat):Int))) (hb:=(b_mulU (l.getD k 0 ^^^ b) 1099511628211)) ?_
  refine w_k7 ?_
  refine w_b (v:=.int .u64 (((((l.getD k 0 ^^^ b) * 1099511628211 % 18446744073709551616) / 536870912:Nat):Int))) (hb:=(b_shrN (a:=((l.getD k 0 ^^^ b) * 1099511628211 % 18446744073709551616)) (n:=29) (by decide))) ?_
  refine w_b (v:=.int .u64 (((mixT (l.getD k 0) b:Nat):Int))) (hb:=(b_xorU (a:=((l.getD k 0 ^^^ b) * 1099511628211 % 18446744073709551616)) (b:=((l.getD k 0 ^^^ b) * 1099511628211 % 18446744073709551616) / 536870912) (by omega))) ?_
  refine w_r2 ?_
  refine w_v (v:=.pointer (some ⟨gh,k,none⟩)) (x_indexAddrA k rfl rfl rfl Tryz.underlying223 sz137 (by omega) (off':=k) (by omega)) ?_
  refine l_of (s_store1 H2 0 (wt0 rfl) rfl rfl rfl rfl rfl sz137 rfl rfl (by rw [hashV_size,takeTo_len]; omega) ?_)
  intro wq4 H5
  rw [hashV_set (l:=(takeTo k b l)) (i:=k) (x:=(mixT (l.getD k 0) b)) (by rw [takeTo_len]; omega)] at H5
  replace H5:S wq4 [Ob gh (.cells (hashV ((takeTo k b l).set k (mixT (l.getD k 0) b)) n) 228 (0,0)),DHb0 w gh l n]:=H5
  refine w_k4 ?_
  refine w_b (v:=.int .i64 ((k:Int)+1)) (hb:=(b_add (w64 (by omega)))) ?_
  refine w_k2 ?_
  refine g_rd (i:=(k)) (k+1) ⟨by omega,(by rw [← takeTo_next (by omega)]; exact H5)⟩
 ·
  refine g_cf hb3 ?_
  refine w_k4 ?_
  refine fin_end [] [] rfl trivial ?_
  have hk4:k=l.length:=by omega
  subst hk4
  exact ⟨rfl,by rw [← takeTo_all]; exact H2.mask [true,true]⟩
theorem lanes_lt {s:ByteArray} {l:List Nat} (h:∀ x∈l,x<18446744073709551616) (i:Nat):∀ x∈l.map (laneP s · i),x<18446744073709551616:=fun x hx=>by
 obtain ⟨y,hy,rfl⟩:=List.mem_map.1 hx
 exact laneP_lt (h y hy) i
theorem lanes_next (s:ByteArray) (l:List Nat) (i:Nat):(l.map (laneP s · i)).map (mixT · (bt' s i))=l.map (laneP s · (i+1)):=by rw [List.map_map]; rfl
theorem lanes_zero (s:ByteArray) (l:List Nat):l.map (laneP s · 0)=l:=by
 conv=>rhs; rw [← List.map_id l]
 rfl
theorem each_h (gh n:Nat) (l:List Nat) (hl:l.length=4) (hlt:∀ x∈l,x<18446744073709551616) (s:ByteArray) (hs:s.size≤1099511627776) (w:World) (HB:S w [Ob gh (.cells (hashV l n) 228 (0,0))]):Calls Tryz.prog 194 #[.string s,.func (.func 195) #[.pointer (some ⟨gh,0,none⟩)] #[]] w fun e w'=>e=.returned (.tuple #[])∧S w' ([Ob gh (.cells (hashV (l.map (laneP s · s.size)) n) 228 (0,0))]++[DHb0 w gh l n]):=by
 have H0:S _ [_,_]:=HB.beginI
 refine enter 16 Tryz.func194 rfl rfl rfl ?_
 refine g_wk [(0,_),(1,_)] ?_
 refine w_s ?_
 refine w_m ?_
 refine w_v (x_lens rfl rfl Tryz.underlying9) ?_
 refine w_k3 ?_
 refine g_loop (ι:=Nat) (fun i=>[(0,.string s),(1,.func (.func 195) #[.pointer (some ⟨gh,0,none⟩)] #[]),(6,.int .i64 ((s.size:Int))),(7,.int .i64 ((i:Int)))]) (fun i wx=>(i≤s.size)∧S wx [Ob gh (.cells (hashV (l.map (laneP s · i)) n) 228 (0,0)),DHb0 w gh l n]) (fun i=>s.size - i) (0) ⟨rfl,rfl,rfl,rfl,trivial⟩ ⟨Nat.zero_le _,(by rw [lanes_zero]; exact H0)⟩ ?_
 rintro i wq1 ⟨hi,H2⟩
 refine g_wk [(0,_),(1,_),(6,_),(7,_)] ?_
 refine w_s ?_
 refine w_k2 ?_
 refine g_seq ?_
 by_cases hb3:((i:Int):Int)<(s.size:Int)
 ·
  refine g_ct hb3 ?_
  refine w_k12 ?_
  have hbt4:=bt'_lt s i
  refine w_v (v:=.int .u8 ((bt' s i:Int))) (x_index i rfl rfl rfl Tryz.underlying9 (by omega)) ?_
  refine l_of (s_call (wt0 rfl) (x_call rfl rfl rfl cl195) (take_h gh n (l.map (laneP s · i)) (by simp [hl]) (lanes_lt hlt i) (bt' s i) (bt'_lt s i) _ (H2.tk [0])) ?_)
  rintro _ wq5 ⟨rfl,H6⟩
  rw [lanes_next] at H6
  replace H6:S _ [_,_]:=H2.abI (new:=[_]) [0] H6 rfl
  refine b_ret rfl rfl ?_
  refine w_k4 ?_
  refine w_b (v:=.int .i64 ((i:Int)+1)) (hb:=(b_add (w64 (by omega)))) ?_
  refine w_k2 ?_
  refine g_rd (i:=(i)) (i+1) ⟨by omega,H6⟩
 ·
  refine g_cf hb3 ?_
  refine w_k4 ?_
  refine fin_end [] [] rfl trivial ?_
  have his:i=s.size:=by omega
  exact ⟨rfl,by rw [← his]; exact H2.mask [true,true]⟩
theorem addh_h (gh n:Nat) (l:List Nat) (hl:l.length=4) (hlt:∀ x∈l,x<18446744073709551616) (s:ByteArray) (hs:s.size≤1099511627776) (hn:n≤1099511627776) (w:World) (HB:S w [Ob gh (.cells (hashV l n) 228 (0,0))]):Calls Tryz.prog 191 #[.pointer (some ⟨gh,0,none⟩),.string s] w fun e w'=>e=.returned (.tuple #[])∧S w' ([Ob gh (.cells (hashV (l.map (laneP s · s.size)) (n+s.size)) 228 (0,0))]++[DHb0 w gh l n]):=by
 have H0:S _ [_,_]:=HB.beginI
 refine enter 21 Tryz.func191 rfl rfl rfl ?_
 refine g_wk [(0,_),(1,_)] ?_
 refine g_seq ?_
 refine w_k2 ?_
 refine w_b (v:=.bool false) (hb:=(b_eqN (r:=false) Tryz.underlying220 rfl)) ?_
 refine w_e ?_
 refine g_cond_f rfl rfl ?_
 refine w_k7 ?_
 refine w_v (x_makeFunc rfl rfl rfl) ?_
 refine l_of (s_cl (each_h gh n l hl hlt s hs _ (H0.tk [0])) ?_)
 rintro _ wq1 ⟨rfl,H2⟩
 replace H2:S _ [_,_]:=H0.abI (new:=[_]) [0] H2 rfl
 refine b_ret rfl rfl ?_
 refine w_k5 ?_
 refine w_v (x_load1 H2 0 rfl rfl Tryz.underlying3 rfl rfl (hashV_at (by first | omega | (simp only [List.length_map,takeTo_len]; omega)))) ?_
 refine w_m ?_
 refine w_v (x_lens rfl rfl Tryz.underlying9) ?_
 refine w_b (v:=.int .i64 (((n+s.size:Nat):Int))) (hb:=(b_addN (a:=n) (b:=s.size) (by omega))) ?_
 refine w_r2 ?_
 refine l_of (s_store1 H2 0 (wt0 rfl) rfl rfl rfl rfl rfl sz3 rfl rfl (by rw [hashV_size]; first | omega | (simp only [List.length_map,takeTo_len]; omega)) ?_)
 intro wq3 H4
 rw [hashV_setN (l:=(l.map (laneP s · s.size))) (n:=n) (m:=(n+s.size)) (by first | omega | (simp only [List.length_map,takeTo_len]; omega))] at H4
 replace H4:S wq3 [Ob gh (.cells (hashV (l.map (laneP s · s.size)) (n+s.size)) 228 (0,0)),DHb0 w gh l n]:=H4
 refine w_0 ?_
 refine fin_end [] [] rfl trivial ?_
 exact ⟨rfl,H4.mask [true,true]⟩
theorem cl196:callable Tryz.prog 196=true:=by kernel_rfl
theorem ze5:zeO Tryz.prog 5=some (.int .u8 0):=by kernel_rfl
theorem bytes_row {b:List Nat} (h:∀ x∈b,x<256) {w:World} {p:Option Addr} {n c:Nat} (hr:Reads w p n c 1 (nbL b)):Reads w p n c 1 (bytesV (b.map UInt8.ofNat)):=by rw [← nbL_bytes h]; exact hr
theorem eight_h (h:Nat) (hh:h<18446744073709551616) (w:World):Calls Tryz.prog 197 #[.int .u64 ((h:Int))] w fun e w'=>∃ p c,e=.returned (.slice p 8 c)∧S w' ([Rw 5 1 p 8 c (nbL (eightT h))]++[Old w no]):=by
 have H0:=S.old w
 refine enter 17 Tryz.func197 rfl rfl rfl ?_
 refine g_wk [(0,_)] ?_
 refine w_s ?_
 refine w_k3 ?_
 have H1:S _ [_,_]:=H0.nilRw 5 1
 refine w_k7 ?_
 refine g_loop (ι:=Nat × Int × Option Addr × Nat) (fun (i,x,q,d)=>[(0,.int .u64 ((h:Int))),(3,.slice q i d),(4,.int .i64 x)]) (fun (i,x,q,d) wx=>(i≤8)∧(x=56 - 8 * (i:Int))∧S wx [Rw 5 1 q i d (nbL (eightTo h i)),Old w no]) (fun (i,x,q,d)=>8 - i) (0,56,none,0) ⟨rfl,rfl,rfl,trivial⟩ ⟨Nat.zero_le _,rfl,(H1.tk [0,1])⟩ ?_
 rintro ⟨i,x,q,d⟩ wq2 ⟨hi,hx,H3⟩
 refine g_wk [(0,_),(3,_),(4,_)] ?_
 refine g_seq ?_
 refine w_k4 ?_
 by_cases hb4:(0:Int)≤x
 ·
  refine g_ct hb4 ?_
  refine w_k8 ?_
  refine w_b (v:=.int .u64 (((h / 2 ^ (56 - 8 * i):Nat):Int))) (hb:=(b_shrI (a:=h) (n:=56 - 8 * i) (by omega) (by show 56 - 8 * i≤64; omega))) ?_
  refine w_v (v:=.int .u8 (((h / 2 ^ (56 - 8 * i) % 256:Nat):Int))) (x_conv rfl rfl Tryz.underlying137 Tryz.underlying5 (wrapB _)) ?_
  refine l_of (s_b1 ze5 #[.int .u8 (((h / 2 ^ (56 - 8 * i) % 256:Nat):Int))] H3 ?_)
  intro g5 wq6 H7
  refine l_of (s_appendR (n:=i) (m:=1) (sc:=d) (xs:=(nbL (eightTo h i))) (news:=[.int .u8 (((h / 2 ^ (56 - 8 * i) % 256:Nat):Int))]) (p:=q) (ad:=⟨g5,0,none⟩) H7 1 (wt0 rfl) rfl rfl rfl rfl rfl rfl Tryz.underlying140 inf5 rfl (by decide) (by decide) rfl (by decide) (news_ob H7 (j0:=0) rfl) rfl (by omega) ?_)
  intro p8 c9 wq10 (H11:S wq10 [Ob g5 (.cells #[.int .u8 (((h / 2 ^ (56 - 8 * i) % 256:Nat):Int))] 5 (0,0)),Rw 5 1 p8 (i+1) c9 ((nbL (eightTo h i))++[.int .u8 (((h / 2 ^ (56 - 8 * i) % 256:Nat):Int))]),Old w no])
  refine w_k6 ?_
  refine w_b (v:=.int .i64 (x - 8)) (hb:=(b_sub (w64 (by omega)))) ?_
  refine w_k2 ?_
  refine g_rd (i:=(i,x,q,d)) (i+1,x - 8,p8,c9) ⟨by omega,by omega,(by rw [eightTo_next,nbL_app]; exact (H11.tk [1,2]))⟩
 ·
  refine g_cf hb4 ?_
  refine w_k10 ?_
  refine fin_r [.tmp 2] [.slice q i d] ?_
  have hi8:i=8:=by omega
  subst hi8
  exact ⟨_,_,rfl,H3⟩
theorem ended_h (n:Nat) (l:List Nat) (hl:l.length=4) (hlt:∀ x∈l,x<18446744073709551616) (hn:n≤1099511627776) (w:World):Calls Tryz.prog 196 #[.agg (lanV l),.int .i64 ((n:Int))] w fun e w'=>e=.returned (.string (nbS (sumTo l n 4)))∧S w' [Old w no]:=by
 have H0:=S.old w
 refine enter 30 Tryz.func196 rfl rfl rfl ?_
 refine g_wk [(0,_),(1,_)] ?_
 refine w_s ?_
 refine l_of (s_box H0 (wt0 rfl) rfl rfl rfl rfl ?_)
 intro g1 wq2 H3
 refine w_a ?_
 refine w_es ?_
 have H4:S wq2 [Rw 5 1 none 0 0 [],Ob g1 (.cells (lanV l) 225 (0,0)),Old w no]:=H3.nilRw 5 1
 refine w_a ?_
 refine w_e ?_
 refine g_seq ?_
 refine w_s ?_
 refine w_f 0 ?_
 refine w_v (v:=.agg (lanV l)) (x_loadA H4 1 rfl rfl Tryz.underlying223 rfl sz223 rfl (Nat.ble_eq_true_of_le (by rw [lanV_size]; omega)) (lanV_ext hl)) ?_
 refine w_m ?_
 refine w_e ?_
 refine g_block ?_
 refine g_loop (ι:=Nat × Option Addr × Nat) (fun (k,q,d)=>[(1,.int .i64 ((n:Int))),(5,.slice q ((8 * k):Nat) d),(9,.agg (lanV l)),(10,.int .i64 ((k:Int)))]) (fun (k,q,d) wx=>(k≤4)∧S wx [Rw 5 1 q (8 * k) d (nbL (sumTo l n k)),Old w no]) (fun (k,q,d)=>4 - k) (0,none,0) ⟨rfl,rfl,rfl,rfl,trivial⟩ ⟨Nat.zero_le _,(H4.tk [0,2])⟩ ?_
 rintro ⟨k,q,d⟩ wq5 ⟨hk,H6⟩
 refine g_wk [(1,_),(5,_),(9,_),(10,_)] ?_
 have hgl:(l.getD k 0)<18446744073709551616:=getD_u hlt k
 have hx:=u64_xor hgl (show n<18446744073709551616 by omega)
 have hX:(((l.getD k 0) ^^^ n) * 1099511628211 % 18446744073709551616)<18446744073709551616:=Nat.mod_lt _ (by omega)
 have hX2:(((l.getD k 0) ^^^ n) * 1099511628211 % 18446744073709551616) / 4294967296≤(((l.getD k 0) ^^^ n) * 1099511628211 % 18446744073709551616):=Nat.div_le_self _ _
 refine w_s ?_
 refine w_b ?_
 refine w_e ?_
 refine g_seq ?_
 by_cases hb7:((k:Int):Int)<4
 ·
  refine g_ct hb7 ?_
  refine w_ht ?_
  refine g_seq ?_
  refine w_bs ?_
  refine w_v (v:=.int .u64 ((((l.getD k 0):Nat):Int))) (x_indexW k rfl rfl rfl Tryz.underlying223 sz137 Tryz.underlying137 rfl (by omega) (lanV_at (by omega))) ?_
  refine w_a ?_
  refine w_es ?_
  refine w_r2 ?_
  refine w_v (v:=.int .u64 ((n:Int))) (x_conv rfl rfl Tryz.underlying3 Tryz.underlying137 (wrapU (by omega))) ?_
  refine w_b (v:=.int .u64 ((((l.getD k 0) ^^^ n:Nat):Int))) (hb:=(b_xorU (a:=(l.getD k 0)) (b:=n) (by omega))) ?_
  refine w_b (v:=.int .u64 ((((((l.getD k 0) ^^^ n) * 1099511628211 % 18446744073709551616):Nat):Int))) (hb:=(b_mulU ((l.getD k 0) ^^^ n) 1099511628211)) ?_
  refine w_a ?_
  refine w_es ?_
  refine w_r2 ?_
  refine w_b (v:=.int .u64 ((((((l.getD k 0) ^^^ n) * 1099511628211 % 18446744073709551616) / 4294967296:Nat):Int))) (hb:=(b_shrN (a:=(((l.getD k 0) ^^^ n) * 1099511628211 % 18446744073709551616)) (n:=32) (by decide))) ?_
  refine w_b (v:=.int .u64 ((((((l.getD k 0) ^^^ n) * 1099511628211 % 18446744073709551616) ^^^ (((l.getD k 0) ^^^ n) * 1099511628211 % 18446744073709551616) / 4294967296:Nat):Int))) (hb:=(b_xorU (a:=(((l.getD k 0) ^^^ n) * 1099511628211 % 18446744073709551616)) (b:=(((l.getD k 0) ^^^ n) * 1099511628211 % 18446744073709551616) / 4294967296) (by omega))) ?_
  refine w_a ?_
  refine w_er ?_
  refine w_r2 ?_
  refine w_b (v:=.int .u64 (((endT (l.getD k 0) n:Nat):Int))) (hb:=(b_mulU ((((l.getD k 0) ^^^ n) * 1099511628211 % 18446744073709551616) ^^^ (((l.getD k 0) ^^^ n) * 1099511628211 % 18446744073709551616) / 4294967296) 1099511628211)) ?_
  refine l_of (s_cl (eight_h _ (endT_lt _ _) _) ?_)
  rintro _ wq10 ⟨p8,c9,rfl,H11⟩
  replace H11:S _ [_,_,_]:=H6.ab (new:=[_]) H11 rfl
  refine b_ret rfl rfl ?_
  refine l_of (s_appendW (n:=8 * k) (m:=8) (sc:=d) (xs:=nbL (sumTo l n k)) (news:=nbL (eightT (endT (l.getD k 0) n))) (p:=q) (q:=p8) H11 1 (wt0 rfl) rfl rfl rfl rfl rfl rfl Tryz.underlying140 inf5 rfl (by decide) (by decide) (H11.rr 0) (nbL_one _) (by omega) ?_)
  intro p12 c13 wq14 H15
  refine w_a ?_
  refine g_nil ?_
  refine g_in ?_
  refine g_then ?_
  refine g_region ?_
  refine w_b (v:=.int .i64 ((k:Int)+1)) (hb:=(b_add (w64 (by omega)))) ?_
  refine w_m ?_
  refine w_e ?_
  refine g_rd (i:=(k,q,d)) (k+1,p12,c13) ⟨by omega,(by rw [show 8 * (k+1)=8 * k+8 from by omega,sumTo_next (by omega),nbL_app]; exact (H15.tk [1,2]))⟩
 ·
  refine g_cf hb7 ?_
  refine g_exit ?_
  iterate 2 refine g_then_exit ?_
  refine g_in_hit ?_
  refine g_then ?_
  refine w_s ?_
  refine w_m ?_
  refine w_v (v:=.string ((nbS (sumTo l n k)))) (x_bytesR (l:=(sumTo l n k).map UInt8.ofNat) rfl rfl Tryz.underlying140 Tryz.underlying9 Tryz.underlying5 (bytes_row (sumTo_lt l n k) (H6.rr 0)) (by rw [List.length_map,sumTo_len l n k (by omega)])) ?_
  refine w_a ?_
  refine w_e ?_
  refine g_ret ?_
  refine fin_r [.tmp 4] [.string ((nbS (sumTo l n k)))] ?_
  have hk4:k=4:=by omega
  subst hk4
  exact ⟨rfl,H6.mask [false,true]⟩
theorem sumh_h (gh n:Nat) (l:List Nat) (hl:l.length=4) (hlt:∀ x∈l,x<18446744073709551616) (hn:n≤1099511627776) (w:World) (HB:S w [Ob gh (.cells (hashV l n) 228 (0,0))]):Calls Tryz.prog 192 #[.pointer (some ⟨gh,0,none⟩)] w fun e w'=>e=.returned (.string (nbS (sumTo l n 4)))∧S w' ([Ob gh (.cells (hashV l n) 228 (0,0))]++[Old w (fps [Ob gh (.cells (hashV l n) 228 (0,0))])]):=by
 have H0:S _ [_,_]:=HB.beginI
 refine enter 14 Tryz.func192 rfl rfl rfl ?_
 refine g_wk [(0,_)] ?_
 refine w_s ?_
 refine w_k5 ?_
 refine w_b (v:=.bool false) (hb:=(b_eqN (r:=false) Tryz.underlying220 rfl)) ?_
 refine w_e ?_
 refine g_cond_f rfl rfl ?_
 refine w_k2 ?_
 refine g_seq ?_
 refine g_quiet (by kernel_rfl) (by kernel_rfl) H0 ?_
 refine q_v (fun _ _=>xm) ?_
 refine q_v (fun _ _=>xn) ?_
 refine q_v (fun _ _=>x_f) ?_
 refine q_v (v:=.agg (lanV l)) (fun _ H=>x_loadA H 0 rfl rfl Tryz.underlying225 rfl sz225 rfl (Nat.ble_eq_true_of_le (by rw [hashV_size]; omega)) (hashV_ext hl)) ?_
 refine q_v (fun _ _=>xm) ?_
 refine q_v (fun _ _=>xn) ?_
 refine q_v (fun _ _=>x_f) ?_
 refine q_v (v:=.int .i64 ((n:Int))) (fun _ H=>x_load1 H 0 rfl rfl Tryz.underlying3 rfl rfl (hashV_at (by first | omega | (simp only [List.length_map,takeTo_len]; omega)))) ?_
 refine q_call (wt0 rfl) rfl rfl (fun wx H=>x_call' rfl rfl cl196) (fun wx H=>(ended_h n l hl hlt hn _).mono (by rintro _ _ ⟨rfl,h⟩; exact ⟨rfl,H.absorb (new:=[]) h⟩)) ?_
 refine q_v (fun _ _=>xa) ?_
 refine q_nil (fun wq1 H2=>?_)
 refine w_k2 ?_
 refine fin_r [.tmp 2] [.string ((nbS (sumTo l n 4)))] ?_
 exact ⟨rfl,H2.mask [true,true]⟩
theorem sum_h (s:ByteArray) (hs:s.size≤1099511627776) (w:World):Calls Tryz.prog 187 #[.string s] w fun e w'=>e=.returned (.string (sumS s))∧S w' [Old w no]:=by
 have H0:=S.old w
 refine enter 10 Tryz.func187 rfl rfl rfl ?_
 refine g_wk [(0,_)] ?_
 refine w_s ?_
 refine w_k3 ?_
 refine l_of (s_cl (newh_h _) ?_)
 rintro _ wq1 ⟨gh,rfl,H2⟩
 replace H2:S _ [_,_]:=H0.ab (new:=[_]) H2 rfl
 refine b_ret rfl rfl ?_
 refine w_k5 ?_
 refine l_of (s_cl (addh_h gh 0 begL begL_len begL_lt s hs (by omega) _ (H2.tk [0])) ?_)
 rintro _ wq3 ⟨rfl,H4⟩
 replace H4:S _ [_,_]:=H2.abI (new:=[_]) [0] H4 rfl
 refine b_ret rfl rfl ?_
 refine w_k3 ?_
 refine l_of (s_cl (sumh_h gh (0+s.size) (begL.map (laneP s · s.size)) (by rw [List.length_map,begL_len]) (lanes_lt begL_lt s.size) (by omega) _ (H4.tk [0])) ?_)
 rintro _ wq5 ⟨rfl,H6⟩
 replace H6:S _ [_,_]:=H4.abI (new:=[_]) [0] H6 rfl
 refine b_ret rfl rfl ?_
 refine w_k3 ?_
 refine fin_r [.tmp 2] [.string ((nbS (sumTo (begL.map (laneP s · s.size)) (0+s.size) 4)))] ?_
 exact ⟨by rw [Nat.zero_add]; rfl,H6.mask [false,true]⟩
end Go.Proofs.YtpbjekdjebjbkaaGreatDoor
