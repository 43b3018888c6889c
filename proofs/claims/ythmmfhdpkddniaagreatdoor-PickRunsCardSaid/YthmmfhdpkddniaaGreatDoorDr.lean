import Derived.Test.YthmmfhdpkddniaaGreatDoorGi
set_option maxRecDepth 20000
set_option maxHeartbeats 4000000
set_option linter.all false
namespace Go.Proofs.YthmmfhdpkddniaaGreatDoor
open Go.RowKit
theorem QK:aI Tryz.prog 178=true:=by kernel_rfl
theorem QJ:aI Tryz.prog 179=true:=by kernel_rfl
theorem QI:aI Tryz.prog 190=true:=by kernel_rfl
theorem QH:aI Tryz.prog 191=true:=by kernel_rfl
theorem QG:aI Tryz.prog 192=true:=by kernel_rfl
def vU (s:ByteArray):Nat→Nat
 | 0=>0
 | i+1=>vU s i * 256+jY s i
theorem Hk (s:ByteArray):∀ i,vU s i<256 ^ i
 | 0=>by unfold vU; decide
 | i+1=>by
   have h1:=Hk s i
   have h2:=iE s i
   have h3:vU s (i+1)=vU s i * 256+jY s i:=rfl
   rw [h3,Nat.pow_succ]
   omega
theorem Hl {s:ByteArray} {i:Nat} (h:i<8):vU s i * 256+255<18446744073709551616:=by
 have h1:=Hk s i
 have h2:256 ^ i≤256 ^ 7:=Nat.pow_le_pow_right (by decide) (by omega)
 have h3:(256:Nat) ^ 7=72057594037927936:=by decide
 omega
def o8 (seed:ByteArray) (k:Int):Int:=((vU (Az ((seed++⟨#[58]⟩)++yr k)) 8 % 1000000:Nat):Int)
theorem Pq {P:Program} {w:World} {t:TypeId} {xo yo:Operand} {yk:IntKind} {a:Nat} (h:a * 256<18446744073709551616):iM P .shl t xo yo (.int .u64 (a:Int)) (.int yk 8) w (.int .u64 ((a * 256:Nat):Int)):=
 QW (n:=8) (by
   have e:(a:Int) * 2 ^ (min 8 IntKind.u64.bits)=((a * 256:Nat):Int):=by
     show (a:Int) * 256=_
     omega
   rw [e]; exact kK h)
theorem QX {P:Program} {w:World} {t:TypeId} {xo yo:Operand} {a b:Nat} (hb:b<256) (h:a * 256+255<18446744073709551616):iM P .or t xo yo (.int .u64 ((a * 256:Nat):Int)) (.int .u64 (b:Int)) w (.int .u64 ((a * 256+b:Nat):Int)):=by
 refine wP (.inr (.inl rfl)) ?_
 have h2:(a * 256) ||| b=a * 256+b:=by
   have h2:=Nat.shiftLeft_add_eq_or_of_lt (i:=8) (b:=b) hb a
   rw [Nat.shiftLeft_eq] at h2
   exact h2.symm
 have hm:a * 256+b<18446744073709551616:=Nat.lt_of_le_of_lt (Nat.add_le_add_left (Nat.le_of_lt_succ (show b<255+1 from hb)) _) h
 have H2:a * 256<18446744073709551616:=Nat.lt_of_le_of_lt (Nat.le_add_right _ _) h
 clear h
 generalize a * 256=m at *
 have e:(BitVec.ofInt IntKind.u64.bits (m:Int) ||| BitVec.ofInt IntKind.u64.bits (b:Int)).toNat=m+b:=by
   show (BitVec.ofInt 64 (m:Int) ||| BitVec.ofInt 64 (b:Int)).toNat=_
   rw [jw,jw,BitVec.toNat_or,BitVec.toNat_ofNat,BitVec.toNat_ofNat,Nat.mod_eq_of_lt (by omega),Nat.mod_eq_of_lt (by omega)]
   exact h2
 simp only [Op.intBits,e]
 rw [kK (by omega)]; rfl
theorem LR {P:Program} {w:World} {t:TypeId} {xo yo:Operand} {a b:Nat} (h:a+b<18446744073709551616):iM P .add t xo yo (.int .u64 (a:Int)) (.int .u64 (b:Int)) w (.int .u64 ((a+b:Nat):Int)):=by
 have:=CE (P:=P) (w:=w) (t:=t) (xo:=xo) (yo:=yo) a b
 rwa [Nat.mod_eq_of_lt h] at this
theorem LP {P:Program} {w:World} {t:TypeId} {xo yo:Operand} {a:Nat} (h:a * 256<18446744073709551616):iM P .mul t xo yo (.int .u64 (a:Int)) (.int .u64 256) w (.int .u64 ((a * 256:Nat):Int)):=by
 have:=oC (P:=P) (w:=w) (t:=t) (xo:=xo) (yo:=yo) a 256
 rwa [Nat.mod_eq_of_lt h] at this
theorem OH (s:ByteArray) (hs:8≤s.size) (hs2:s.size≤1099511627776)  (w:World):Calls Tryz.prog 193 #[.string s] w fun e w'=>e=.returned (.int .u64 ((vU s 8:Nat):Int))∧S w' [aB w no]:=by
 have H0:=S.old w
 refine en Tryz.func193 ?_
 refine ah [0] ?_
 refine io ?_
 refine cQ (ι:=Nat) (fun i=>[(0,.string s),(3,.int .u64 (((vU s i:Nat):Int))),(5,vI i)]) (fun i wx=>(i≤8)∧S wx [aB w no]) (fun i=>8 - i) (0) ⟨Nat.zero_le _,H0⟩ ?_
 rintro i H4 ⟨hi,H2⟩
 refine ah [0,3,5] ?_
 refine aC ?_
 refine g_seq ?_
 by_cases H3:((i:Int):Int)<8
 ·
  refine bm H3 ?_
  refine cS ?_
  have hbt:=iE s i
  have hfl:=Hl (s:=s) (i:=i) (by omega)
  refine bP (v:=.int .u64 (((vU s i * 256:Nat):Int))) (hb:=(Pq (by omega))) ?_
  refine ru ?_
  have hbt4:=iE s i
  refine w_v (v:=.int .u8 ((jY s i:Int))) (tQ i rfl rfl rfl Tryz.underlying9 (by omega)) ?_
  refine w_v (v:=.int .u64 (((jY s i:Nat):Int))) (fg rfl rfl Tryz.underlying5 Tryz.underlying174 (kK (by omega))) ?_
  refine bP (v:=.int .u64 (((vU s (i+1):Nat):Int))) (hb:=(QX (by omega) (by omega))) ?_
  refine aQ ?_
  refine gI i ?_
  refine ae ?_
  refine bD (i:=(i)) ((i+1)) ⟨by omega,H2⟩
 refine br H3 ?_
 refine cS ?_
 refine af ?_
 have he:i=8:=by omega
 subst he
 exact ⟨rfl,H2.tk [0]⟩
theorem OG (s:ByteArray) (hs:8≤s.size) (hs2:s.size≤1099511627776)  (w:World):Calls Tryz.prog 202 #[.string s] w fun e w'=>e=.returned (.int .u64 ((vU s 8:Nat):Int))∧S w' [aB w no]:=by
 have H0:=S.old w
 refine en Tryz.func202 ?_
 refine ah [0] ?_
 refine io ?_
 refine cQ (ι:=Nat) (fun i=>[(0,.string s),(3,.int .u64 (((vU s i:Nat):Int))),(5,vI i)]) (fun i wx=>(i≤8)∧S wx [aB w no]) (fun i=>8 - i) (0) ⟨Nat.zero_le _,H0⟩ ?_
 rintro i H4 ⟨hi,H2⟩
 refine ah [0,3,5] ?_
 refine aC ?_
 refine g_seq ?_
 by_cases H3:((i:Int):Int)<8
 ·
  refine bm H3 ?_
  refine cS ?_
  have hbt:=iE s i
  have hfl:=Hl (s:=s) (i:=i) (by omega)
  refine bP (v:=.int .u64 (((vU s i * 256:Nat):Int))) (hb:=(LP (by omega))) ?_
  refine ru ?_
  have hbt4:=iE s i
  refine w_v (v:=.int .u8 ((jY s i:Int))) (tQ i rfl rfl rfl Tryz.underlying9 (by omega)) ?_
  refine w_v (v:=.int .u64 (((jY s i:Nat):Int))) (fg rfl rfl Tryz.underlying5 Tryz.underlying174 (kK (by omega))) ?_
  refine bP (v:=.int .u64 (((vU s (i+1):Nat):Int))) (hb:=(LR (by omega))) ?_
  refine aQ ?_
  refine gI i ?_
  refine ae ?_
  refine bD (i:=(i)) ((i+1)) ⟨by omega,H2⟩
 refine br H3 ?_
 refine cS ?_
 refine af ?_
 have he:i=8:=by omega
 subst he
 exact ⟨rfl,H2.tk [0]⟩
theorem NU (s:ByteArray) (hs:s.size=32)  (w:World):Calls Tryz.prog 178 #[.string s,vI 1000000] w fun e w'=>e=.returned (.tuple #[vI ((vU s 8 % 1000000:Nat):Int),vI 0])∧S w' [aB w no]:=by
 have H0:=S.old w
 refine en Tryz.func178 ?_
 refine ah [0,1] ?_
 refine dz ?_
 refine w_v (iJ rfl rfl Tryz.underlying9) ?_
 refine aC ?_
 refine g_cond_f rfl (df (by omega)) ?_
 refine aQ ?_
 refine g_cond_f rfl (by decide) ?_
 refine aQ ?_
 refine l_of (cz H0 (OH s (by omega) (by omega) _) ?_)
 intro H3 H2
 refine cJ ?_
 refine w_v (v:=.int .u64 1000000) (fg rfl rfl Tryz.underlying3 Tryz.underlying174 (by decide)) ?_
 refine bP (v:=.int .u64 (((vU s 8 % 1000000:Nat):Int))) (hb:=(Cy (a:=vU s 8) (b:=1000000) (by omega))) ?_
 refine w_v (v:=vI (((vU s 8 % 1000000:Nat):Int))) (fg rfl rfl Tryz.underlying174 Tryz.underlying3 (jD (by omega))) ?_
 refine aC ?_
 refine ah [4,5] ?_
 refine aR ?_
 refine af ?_
 exact ⟨rfl,H2.tk [0]⟩
theorem NT (s:ByteArray) (hs:s.size=32)  (w:World):Calls Tryz.prog 190 #[.string s,vI 1000000] w fun e w'=>e=.returned (.tuple #[vI ((vU s 8 % 1000000:Nat):Int),vI 0])∧S w' [aB w no]:=by
 have H0:=S.old w
 refine en Tryz.func190 ?_
 refine ah [0,1] ?_
 refine dz ?_
 refine w_v (iJ rfl rfl Tryz.underlying9) ?_
 refine aC ?_
 refine g_cond_f rfl (df (by omega)) ?_
 refine aQ ?_
 refine g_cond_f rfl (by decide) ?_
 refine aQ ?_
 refine l_of (cz H0 (OG s (by omega) (by omega) _) ?_)
 intro H3 H2
 refine cJ ?_
 refine w_v (v:=.int .u64 1000000) (fg rfl rfl Tryz.underlying3 Tryz.underlying174 (by decide)) ?_
 refine bP (v:=.int .u64 (((vU s 8 % 1000000:Nat):Int))) (hb:=(Cy (a:=vU s 8) (b:=1000000) (by omega))) ?_
 refine w_v (v:=vI (((vU s 8 % 1000000:Nat):Int))) (fg rfl rfl Tryz.underlying174 Tryz.underlying3 (jD (by omega))) ?_
 refine aC ?_
 refine ah [4,5] ?_
 refine aR ?_
 refine af ?_
 exact ⟨rfl,H2.tk [0]⟩
def kW (n:Nat):ByteArray:=⟨[UInt8.ofNat (48+n % 10)].toArray⟩
theorem zu (n:Nat):(kW n).size=1:=rfl
theorem Hm {x:Nat} (h:x<256):(#[Value.int .u8 (x:Int)]:Array Value).toList=fM [UInt8.ofNat x]:=by
 have e:(UInt8.ofNat x).toNat=x:=by rw [UInt8.toNat_ofNat']; omega
 unfold fM
 simp only [List.map_cons,List.map_nil,e]
theorem Hn (n:Nat) (hn:n<10)  (w:World):Calls Tryz.prog 192 #[.int .i64 ((n:Int))] w fun e w'=>e=.returned (.string (kW n))∧S w' [aB w no]:=by
 have H0:=S.old w
 refine enter 35 Tryz.func192 rfl rfl rfl ?_
 refine sG [(0,.int .i64 ((n:Int)))] ⟨rfl,trivial⟩ ?_
 refine g_seq ?_
 refine g_region ?_
 refine l_of (aJ (v:=.string (⟨#[]⟩)) (bh rfl) rfl rfl (jS rfl rfl) ?_)
 refine g_nil ?_
 refine jq ?_
 refine g_seq ?_
 refine g_seq ?_
 refine g_region ?_
 refine l_of (aJ (v:=.int .i64 ((n:Int))) (bh rfl) rfl rfl (bY rfl rfl) ?_)
 refine l_of (aJ (v:=.bool (decide (((n:Int):Int)<0))) (bh rfl) rfl rfl (ai rfl rfl rfl dG) ?_)
 refine g_nil ?_
 refine jq ?_
 refine g_cond_f rfl (decide_eq_false (by omega)) ?_
 refine g_skip ?_
 refine jq ?_
 refine g_seq ?_
 refine g_region ?_
 refine l_of (aJ (v:=.int .i64 ((n:Int))) (bh rfl) rfl rfl (bY rfl rfl) ?_)
 refine l_of (aJ (v:=.int .i64 (((n % 10:Nat):Int))) (bh rfl) rfl rfl (ai rfl rfl rfl (qh (a:=n) (b:=10) (by omega))) ?_)
 refine l_of (aJ (v:=.int .i64 (((48+n % 10:Nat):Int))) (bh rfl) rfl rfl (ai rfl rfl rfl (dY (jD (by omega)))) ?_)
 refine l_of (aJ (v:=.int .u8 (((48+n % 10:Nat):Int))) (bh rfl) rfl rfl (fg rfl rfl Tryz.underlying3 Tryz.underlying5 (Q3 (by omega))) ?_)
 refine l_of (iU H0 (bh rfl) rfl rfl rfl (vs:=[.int .u8 (((48+n % 10:Nat):Int))]) rfl Tryz.underlying113 yI Q8 rfl rfl (cells:=#[.int .u8 (((48+n % 10:Nat):Int))]) (by kernel_rfl) ?_)
 intro g1 H2 H3
 refine l_of (aJ (v:=.string ((kW n))) (bh rfl) rfl rfl (oG (l:=[UInt8.ofNat (48+n % 10)]) rfl rfl Tryz.underlying113 Tryz.underlying9 Tryz.underlying5 rfl (yP (k:=0) H3 rfl (Hm (by omega)))) ?_)
 refine l_of (aJ (v:=.string ((kW n))) (bh rfl) rfl rfl (jS rfl rfl) ?_)
 refine g_nil ?_
 refine jq ?_
 refine g_seq ?_
 refine g_seq ?_
 refine g_region ?_
 refine l_of (aJ (v:=.int .i64 ((n:Int))) (bh rfl) rfl rfl (bY rfl rfl) ?_)
 refine l_of (aJ (v:=.bool (decide (((n:Int):Int)<10))) (bh rfl) rfl rfl (ai rfl rfl rfl dG) ?_)
 refine g_nil ?_
 refine jq ?_
 refine g_cond_t rfl (decide_eq_true (by omega)) ?_
 refine g_seq ?_
 refine g_region ?_
 refine l_of (aJ (v:=.string ((kW n))) (bh rfl) rfl rfl (bY rfl rfl) ?_)
 refine l_of (aJ (v:=.string ((kW n))) (bh rfl) rfl rfl (jS rfl rfl) ?_)
 refine g_nil ?_
 refine jq ?_
 refine sG [(2,.string ((kW n)))] ⟨rfl,trivial⟩ ?_
 refine g_ret ?_
 refine ye ?_
 refine d5 [.tmp 2] [.string ((kW n))] rfl ⟨rfl,trivial⟩ ?_
 exact ⟨rfl,H3.mask [false,true]⟩
theorem O8 (n:Nat) (h1:10≤n) (hn:n<100)  (w:World):Calls Tryz.prog 192 #[.int .i64 ((n:Int))] w fun e w'=>e=.returned (.string (kW (n / 10)++kW n))∧S w' [aB w no]:=by
 have H0:=S.old w
 refine enter 35 Tryz.func192 rfl rfl rfl ?_
 refine sG [(0,.int .i64 ((n:Int)))] ⟨rfl,trivial⟩ ?_
 refine g_seq ?_
 refine g_region ?_
 refine l_of (aJ (v:=.string (⟨#[]⟩)) (bh rfl) rfl rfl (jS rfl rfl) ?_)
 refine g_nil ?_
 refine jq ?_
 refine g_seq ?_
 refine g_seq ?_
 refine g_region ?_
 refine l_of (aJ (v:=.int .i64 ((n:Int))) (bh rfl) rfl rfl (bY rfl rfl) ?_)
 refine l_of (aJ (v:=.bool (decide (((n:Int):Int)<0))) (bh rfl) rfl rfl (ai rfl rfl rfl dG) ?_)
 refine g_nil ?_
 refine jq ?_
 refine g_cond_f rfl (decide_eq_false (by omega)) ?_
 refine g_skip ?_
 refine jq ?_
 refine g_seq ?_
 refine g_region ?_
 refine l_of (aJ (v:=.int .i64 ((n:Int))) (bh rfl) rfl rfl (bY rfl rfl) ?_)
 refine l_of (aJ (v:=.int .i64 (((n % 10:Nat):Int))) (bh rfl) rfl rfl (ai rfl rfl rfl (qh (a:=n) (b:=10) (by omega))) ?_)
 refine l_of (aJ (v:=.int .i64 (((48+n % 10:Nat):Int))) (bh rfl) rfl rfl (ai rfl rfl rfl (dY (jD (by omega)))) ?_)
 refine l_of (aJ (v:=.int .u8 (((48+n % 10:Nat):Int))) (bh rfl) rfl rfl (fg rfl rfl Tryz.underlying3 Tryz.underlying5 (Q3 (by omega))) ?_)
 refine l_of (iU H0 (bh rfl) rfl rfl rfl (vs:=[.int .u8 (((48+n % 10:Nat):Int))]) rfl Tryz.underlying113 yI Q8 rfl rfl (cells:=#[.int .u8 (((48+n % 10:Nat):Int))]) (by kernel_rfl) ?_)
 intro g1 H4 H3
 refine l_of (aJ (v:=.string ((kW n))) (bh rfl) rfl rfl (oG (l:=[UInt8.ofNat (48+n % 10)]) rfl rfl Tryz.underlying113 Tryz.underlying9 Tryz.underlying5 rfl (yP (k:=0) H3 rfl (Hm (by omega)))) ?_)
 refine l_of (aJ (v:=.string ((kW n))) (bh rfl) rfl rfl (jS rfl rfl) ?_)
 refine g_nil ?_
 refine jq ?_
 refine g_seq ?_
 refine g_seq ?_
 refine g_region ?_
 refine l_of (aJ (v:=.int .i64 ((n:Int))) (bh rfl) rfl rfl (bY rfl rfl) ?_)
 refine l_of (aJ (v:=.bool (decide (((n:Int):Int)<10))) (bh rfl) rfl rfl (ai rfl rfl rfl dG) ?_)
 refine g_nil ?_
 refine jq ?_
 refine g_cond_f rfl (decide_eq_false (by omega)) ?_
 refine g_skip ?_
 refine jq ?_
 refine g_seq ?_
 refine g_region ?_
 refine l_of (aJ (v:=.int .i64 ((n:Int))) (bh rfl) rfl rfl (bY rfl rfl) ?_)
 refine l_of (aJ (v:=.int .i64 (((n / 10:Nat):Int))) (bh rfl) rfl rfl (ai rfl rfl rfl (kH (a:=n) (b:=10) (by omega))) ?_)
 refine l_of (bR (bh rfl) (aP rfl rfl QG) (Hn (n / 10) (by omega) _) ?_)
 rintro _ H2 ⟨rfl,H5⟩
 replace H5:S H2 [Ob g1 (.cells #[.int .u8 (((48+n % 10:Nat):Int))] 5 (0,0)),aB w no]:=H3.absorb (new:=[]) H5
 refine wm rfl rfl ?_
 refine l_of (aJ (v:=.string ((kW n))) (bh rfl) rfl rfl (bY rfl rfl) ?_)
 refine l_of (aJ (v:=.string ((kW (n / 10))++(kW n))) (bh rfl) rfl rfl (ai rfl rfl rfl (yS (by rw [zu,zu]; omega))) ?_)
 refine l_of (aJ (v:=.string ((kW (n / 10))++(kW n))) (bh rfl) rfl rfl (jS rfl rfl) ?_)
 refine g_nil ?_
 refine jq ?_
 refine sG [(2,.string ((kW (n / 10))++(kW n)))] ⟨rfl,trivial⟩ ?_
 refine g_ret ?_
 refine d5 [.tmp 2] [.string ((kW (n / 10))++(kW n))] rfl ⟨rfl,trivial⟩ ?_
 exact ⟨rfl,H5.mask [false,true]⟩
theorem F8:∀ n:Nat,n<10→yr (n:Int)=kW n
 | 0,_ | 1,_ | 2,_ | 3,_ | 4,_ | 5,_ | 6,_ | 7,_ | 8,_ | 9,_=>by decide +kernel
 | n+10,h=>by omega
theorem Lc:∀ n:Nat,10≤n→n<24→yr (n:Int)=kW (n / 10)++kW n
 | 10,_,_ | 11,_,_ | 12,_,_ | 13,_,_ | 14,_,_ | 15,_,_ | 16,_,_ | 17,_,_ | 18,_,_ | 19,_,_ | 20,_,_ | 21,_,_ | 22,_,_ | 23,_,_=>by decide +kernel
 | n+24,_,h=>by omega
 | 0,h,_ | 1,h,_ | 2,h,_ | 3,h,_ | 4,h,_ | 5,h,_ | 6,h,_ | 7,h,_ | 8,h,_ | 9,h,_=>by omega
theorem F7 (k:Int) (h0:0≤k) (h1:k<24) (w:World):Calls Tryz.prog 192 #[.int .i64 k] w fun e w'=>e=.returned (.string (yr k))∧S w' [aB w no]:=by
 obtain ⟨n,rfl⟩:∃ n:Nat,k=(n:Int):=⟨k.toNat,by omega⟩
 by_cases hn:n<10
 · rw [F8 n hn]; exact Hn n hn w
 · rw [Lc n (by omega) (by omega)]; exact O8 n (by omega) (by omega) w
theorem wG (seed:ByteArray) (k:Int) (hs:seed.size≤100) (h0:0≤k) (h1:k<24)  (w:World):Calls Tryz.prog 170 #[.string seed,vI k,vI 1000000] w fun e w'=>e=.returned (.tuple #[vI (o8 seed k),vI 0])∧S w' [aB w no]:=by
 have H0:=S.old w
 have hz1:(⟨#[58]⟩:ByteArray).size=1:=rfl
 have hsz:=yW ((seed++⟨#[58]⟩)++yr k)
 refine en Tryz.func170 ?_
 refine ah [0,1,2] ?_
 refine eG ?_
 refine l_of (aJ (v:=.int .i64 k) (cU rfl rfl rfl rfl (by decide)) rfl rfl (bY rfl rfl) ?_)
 refine l_of (aJ (v:=.bool (decide ((k:Int)<0))) (cU rfl rfl rfl rfl (by decide)) rfl rfl (ai rfl rfl rfl dG) ?_)
 refine w_v (cH rfl rfl (by decide) rfl) ?_
 refine cD ?_
 refine g_cond_f rfl (df (by omega)) ?_
 refine aE ?_
 have hsz1:(seed++(⟨#[58]⟩:ByteArray)).size=seed.size+(⟨#[58]⟩:ByteArray).size:=ByteArray.size_append
 refine bP (v:=.string (seed++(⟨#[58]⟩:ByteArray))) (hb:=(yS (by omega))) ?_
 refine cJ ?_
 refine l_of (aG (Kz k (by omega) (by omega) _) ?_)
 rintro _ H5 ⟨rfl,H3⟩
 replace H3:=H0.ab0 H3
 have hiz:=Bj (n:=k) (by omega) (by omega)
 refine bW ?_
 have hsz4:((seed++(⟨#[58]⟩:ByteArray))++(yr k)).size=(seed++(⟨#[58]⟩:ByteArray)).size+(yr k).size:=ByteArray.size_append
 refine bP (v:=.string ((seed++(⟨#[58]⟩:ByteArray))++(yr k))) (hb:=(yS (by omega))) ?_
 refine l_of (bZ H3 (bh rfl) (aP rfl rfl QJ) (Qh _ (by omega) _) rfl rfl ?_)
 intro H4 H6
 refine cJ ?_
 refine l_of (bZ H6 (bh rfl) (aP rfl rfl QK) (NU (Az ((seed++(⟨#[58]⟩:ByteArray))++(yr k))) hsz _) rfl rfl ?_)
 intro H2 H8
 refine aQ ?_
 refine ah [6,7] ?_
 refine aR ?_
 refine af ?_
 exact ⟨rfl,H8.tk [0]⟩
theorem O0 (seed:ByteArray) (k:Int) (hs:seed.size≤100) (h0:0≤k) (h1:k<24)  (w:World):Calls Tryz.prog 177 #[.string seed,vI k,vI 1000000] w fun e w'=>e=.returned (.tuple #[vI (o8 seed k),vI 0])∧S w' [aB w no]:=by
 have H0:=S.old w
 have hz1:(⟨#[58]⟩:ByteArray).size=1:=rfl
 have hsz:=yW ((seed++⟨#[58]⟩)++yr k)
 refine en Tryz.func177 ?_
 refine ah [0,1,2] ?_
 refine eG ?_
 refine l_of (aJ (v:=.int .i64 k) (cU rfl rfl rfl rfl (by decide)) rfl rfl (bY rfl rfl) ?_)
 refine l_of (aJ (v:=.bool (decide ((k:Int)<0))) (cU rfl rfl rfl rfl (by decide)) rfl rfl (ai rfl rfl rfl dG) ?_)
 refine w_v (cH rfl rfl (by decide) rfl) ?_
 refine cD ?_
 refine g_cond_f rfl (df (by omega)) ?_
 refine aE ?_
 have hsz1:(seed++(⟨#[58]⟩:ByteArray)).size=seed.size+(⟨#[58]⟩:ByteArray).size:=ByteArray.size_append
 refine bP (v:=.string (seed++(⟨#[58]⟩:ByteArray))) (hb:=(yS (by omega))) ?_
 refine cJ ?_
 refine l_of (aG (F7 k (by omega) (by omega) _) ?_)
 rintro _ H5 ⟨rfl,H3⟩
 replace H3:=H0.ab0 H3
 have hiz:=Bj (n:=k) (by omega) (by omega)
 refine bW ?_
 have hsz4:((seed++(⟨#[58]⟩:ByteArray))++(yr k)).size=(seed++(⟨#[58]⟩:ByteArray)).size+(yr k).size:=ByteArray.size_append
 refine bP (v:=.string ((seed++(⟨#[58]⟩:ByteArray))++(yr k))) (hb:=(yS (by omega))) ?_
 refine l_of (bZ H3 (bh rfl) (aP rfl rfl QH) (Qg _ (by omega) _) rfl rfl ?_)
 intro H4 H6
 refine cJ ?_
 refine l_of (bZ H6 (bh rfl) (aP rfl rfl QI) (NT (Az ((seed++(⟨#[58]⟩:ByteArray))++(yr k))) hsz _) rfl rfl ?_)
 intro H2 H8
 refine aQ ?_
 refine ah [6,7] ?_
 refine aR ?_
 refine af ?_
 exact ⟨rfl,H8.tk [0]⟩
end Go.Proofs.YthmmfhdpkddniaaGreatDoor
