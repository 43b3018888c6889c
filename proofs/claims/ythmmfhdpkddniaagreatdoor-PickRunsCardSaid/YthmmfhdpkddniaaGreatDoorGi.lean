import Derived.Test.YthmmfhdpkddniaaGreatDoorHa
set_option maxRecDepth 20000
set_option maxHeartbeats 4000000
set_option linter.all false
namespace Go.Proofs.YthmmfhdpkddniaaGreatDoor
open Go.RowKit
theorem QF:aI Tryz.prog 208=true:=by kernel_rfl
theorem yN:jW Tryz.prog 174=some 1:=by kernel_rfl
theorem Mm:jW Tryz.prog 221=some 4:=by kernel_rfl
theorem DC:jW Tryz.prog 223=some 4:=by kernel_rfl
theorem si:jW Tryz.prog 3=some 1:=by kernel_rfl
theorem Mg:tw Tryz.prog 223=some (.agg #[.int .u64 0,.int .u64 0,.int .u64 0,.int .u64 0]):=by kernel_rfl
theorem EM:∀ x∈[fR 0,fR 1,fR 2,fR 3],x<18446744073709551616:=by decide
def nk (k:Nat):List Nat:=(List.range 4).map (fun i=>if i<k then fR i else 0)
theorem iT (k:Nat):(nk k).length=4:=by unfold nk; simp
theorem BK {k p:Nat} (hp:p<4):(nk k)[p]?=some (if p<k then fR p else 0):=by
 unfold nk; rw [List.getElem?_map,List.getElem?_range hp]; rfl
theorem Du {k:Nat} (hk:k<4):(nk k).set k (fR k)=nk (k+1):=by
 apply List.ext_getElem?
 intro p
 rw [List.getElem?_set,iT]
 by_cases hp:p<4
 · rw [BK hp,BK hp]
   by_cases e:k=p
   · subst e; rw [if_pos rfl,if_pos hk,if_pos (by omega)]
   · rw [if_neg e]
     by_cases e2:p<k
     · rw [if_pos e2,if_pos (by omega)]
     · rw [if_neg e2,if_neg (by omega)]
 · rw [if_neg (by omega),List.getElem?_eq_none (by rw [iT]; omega),List.getElem?_eq_none (by rw [iT]; omega)]
def E5:List Nat:=nk 4
theorem BL:E5.length=4:=iT 4
theorem Bg {l:List Nat} (hl:l.length=4):(kc l).extract 0 (0+4)=kc l:=by
 apply Array.ext'
 have:=oq l
 unfold kc
 simp
 exact List.take_of_length_le (by omega)
theorem LH   (w:World):Calls Tryz.prog 206 #[] w fun e w'=>e=.returned (.agg (kc E5))∧S w' [aB w no]:=by
 have H0:=S.old w
 refine en Tryz.func206 ?_
 refine ah [] ?_
 refine iF ?_
 refine l_of (cA H0 Mg ?_)
 intro g1 h3 H3
 refine ae ?_
 refine l_of (cA H3 Mg ?_)
 intro g4 h2 H6
 refine a_ ?_
 refine cQ (ι:=Nat) (fun k=>[(0,vP g1),(1,vP g4),(3,vI k)]) (fun k wx=>(k≤4)∧S wx [Ob g4 (.cells (kc (nk k)) 223 (0,0)),Ob g1 (.cells (kc (nk 0)) 223 (0,0)),aB w no]) (fun k=>4 - k) (0) ⟨Nat.zero_le _,(H6.tk [0,1,2])⟩ ?_
 rintro k h1 ⟨hk,H8⟩
 refine ah [0,1,3] ?_
 refine aC ?_
 refine g_seq ?_
 by_cases H4:((k:Int):Int)<4
 ·
  refine bm H4 ?_
  refine io ?_
  refine w_v (v:=.int .u64 ((k:Int))) (fg rfl rfl Tryz.underlying3 Tryz.underlying174 (kK (by omega))) ?_
  refine bP (v:=.int .u64 (((k * 11400714819323198485 % 18446744073709551616:Nat):Int))) (hb:=(oC k 11400714819323198485)) ?_
  refine bP (v:=.int .u64 (((fR k:Nat):Int))) (hb:=(CE 14695981039346656037 (k * 11400714819323198485 % 18446744073709551616))) ?_
  refine aR ?_
  refine w_v (v:=.pointer (some ⟨g4,k,none⟩)) (dw k rfl rfl rfl Tryz.underlying221 yN (by omega) (off':=k) (by omega)) ?_
  refine l_of (lP H8 0 (bh rfl) rfl rfl rfl rfl rfl yN rfl rfl (by rw [uY]; simp [iT]; omega) ?_)
  intro H9 H2
  rw [Iw (l:=(nk k)) (i:=k) (x:=(fR k)) (by simp [iT]; omega)] at H2
  replace H2:S _ [_,_,_]:=H2
  refine aE ?_
  refine bP (v:=vI ((k:Int)+1)) (hb:=(dY (jD (by omega)))) ?_
  refine ae ?_
  refine bD (i:=(k)) (k+1) ⟨by omega,(by rw [← Du (by omega)]; exact (H2.tk [0,1,2]))⟩
 refine br H4 ?_
 refine a_ ?_
 refine w_v (v:=.agg (kc (nk k))) (iN H8 0 rfl rfl Tryz.underlying223 rfl DC rfl (Nat.ble_eq_true_of_le (by rw [uY,iT]; omega)) (Bg (iT _))) ?_
 refine l_of (b_ H8 1 (bh rfl) rfl rfl rfl rfl rfl DC rfl rfl (cs':=kc (nk k)) (by simp [Value.cells,kc,oq,iT]) ?_)
 intro H7 H5
 refine ae ?_
 refine d5 [.cell 0 223] [.agg (kc (nk k))] rfl ⟨⟨_,rfl,dK (H5.ob (k:=1) rfl) Tryz.underlying223 rfl DC rfl rfl⟩,trivial⟩ ?_
 have h0:k=4:=by omega
 subst h0
 exact ⟨rfl,H5.tk [2]⟩
theorem NY   (w:World):Calls Tryz.prog 194 #[] w fun e w'=>∃ g,e=.returned (vP g)∧S w' ([Ob g (.cells (fF E5 0) 226 (0,0))]++[aB w no]):=by
 have H0:=S.old w
 refine en Tryz.func194 ?_
 refine ah [] ?_
 refine aE ?_
 refine l_of (cz H0 (LH _) ?_)
 intro H4 H2
 refine w_v (v:=.agg (fF E5 0)) (j4) ?_
 refine l_of (fq H2 ?_)
 intro g3 H3 H5
 refine aC ?_
 refine af ?_
 exact ⟨_,rfl,H5⟩
theorem Hg {l:List Nat} (h:∀ x∈l,x<18446744073709551616) (i:Nat):l.getD i 0<18446744073709551616:=by
 rw [List.getD_eq_getElem?_getD]
 cases hq:l[i]? with
 | none=>show (0:Nat)<_; omega
 | some x=>exact h x (List.mem_of_getElem? hq)
theorem Na (gh n:Nat) (l:List Nat) (hl:l.length=4) (hlt:∀ x∈l,x<18446744073709551616) (b:Nat) (hb:b<256) (w:World) (HB:S w [Ob gh (.cells (fF l n) 226 (0,0))]):Calls Tryz.prog 208 #[vP gh,.int .u8 (b:Int)] w fun e w'=>e=.returned (.tuple #[])∧S w' ([Ob gh (.cells (fF (l.map (yx · b)) n) 226 (0,0))]++[aB w (aT [Ob gh (.cells (fF l n) 226 (0,0))])]):=by
 have H0:S _ [_,_]:=HB.beginI
 refine en Tryz.func208 ?_
 refine ah [0,1] ?_
 refine aE ?_
 refine w_v (v:=.agg (kc l)) (iN H0 0 rfl rfl Tryz.underlying221 rfl Mm rfl (Nat.ble_eq_true_of_le (by rw [oZ]; omega)) (zo hl)) ?_
 refine aC ?_
 refine cQ (ι:=Nat) (fun k=>[(0,vP gh),(1,.int .u8 ((b:Int))),(9,.agg (kc l)),(10,vI k)]) (fun k wx=>(k≤4)∧S wx [Ob gh (.cells (fF (lJ k b l) n) 226 (0,0)),aB w (aT [Ob gh (.cells (fF l n) 226 (0,0))])]) (fun k=>4 - k) (0) ⟨Nat.zero_le _,(by rw [BR]; exact H0)⟩ ?_
 rintro k H7 ⟨hk,H2⟩
 refine ah [0,1,9,10] ?_
 have hgl:l.getD k 0<18446744073709551616:=Hg hlt k
 have hx:=tU hgl (show b<18446744073709551616 by omega)
 have hX:((l.getD k 0 ^^^ b) * 1099511628211 % 18446744073709551616)<18446744073709551616:=Nat.mod_lt _ (by omega)
 have hX2:((l.getD k 0 ^^^ b) * 1099511628211 % 18446744073709551616) / 536870912≤((l.getD k 0 ^^^ b) * 1099511628211 % 18446744073709551616):=Nat.div_le_self _ _
 refine aC ?_
 refine g_seq ?_
 by_cases H3:((k:Int):Int)<4
 ·
  refine bm H3 ?_
  refine a_ ?_
  refine w_v (v:=.int .u64 (((l.getD k 0:Nat):Int))) (AV k rfl rfl rfl Tryz.underlying221 yN Tryz.underlying174 rfl (by omega) (Em (by omega))) ?_
  refine a_ ?_
  refine w_v (v:=.int .u64 ((b:Int))) (fg rfl rfl Tryz.underlying5 Tryz.underlying174 (kK (by omega))) ?_
  refine bP (v:=.int .u64 (((l.getD k 0 ^^^ b:Nat):Int))) (hb:=(qg (a:=l.getD k 0) (b:=b) (by omega))) ?_
  refine bP (v:=.int .u64 (((((l.getD k 0 ^^^ b) * 1099511628211 % 18446744073709551616):Nat):Int))) (hb:=(oC (l.getD k 0 ^^^ b) 1099511628211)) ?_
  refine cp ?_
  refine bP (v:=.int .u64 (((((l.getD k 0 ^^^ b) * 1099511628211 % 18446744073709551616) / 536870912:Nat):Int))) (hb:=(mI (a:=((l.getD k 0 ^^^ b) * 1099511628211 % 18446744073709551616)) (n:=29) (by decide))) ?_
  refine bP (v:=.int .u64 (((yx (l.getD k 0) b:Nat):Int))) (hb:=(qg (a:=((l.getD k 0 ^^^ b) * 1099511628211 % 18446744073709551616)) (b:=((l.getD k 0 ^^^ b) * 1099511628211 % 18446744073709551616) / 536870912) (by omega))) ?_
  refine ru ?_
  refine w_v (v:=.pointer (some ⟨gh,k,none⟩)) (dw k rfl rfl rfl Tryz.underlying221 yN (by omega) (off':=k) (by omega)) ?_
  refine l_of (lP H2 0 (bh rfl) rfl rfl rfl rfl rfl yN rfl rfl (by rw [oZ,j8]; omega) ?_)
  intro H6 H5
  rw [FT (l:=(lJ k b l)) (i:=k) (x:=(yx (l.getD k 0) b)) (by rw [j8]; omega)] at H5
  replace H5:S _ [_,_]:=H5
  refine aC ?_
  refine ah [0,1,9,10] ?_
  refine aR ?_
  refine bP (v:=vI ((k:Int)+1)) (hb:=(dY (jD (by omega)))) ?_
  refine ae ?_
  refine bD (i:=(k)) (k+1) ⟨by omega,(by rw [← BS (by omega)]; exact H5)⟩
 refine br H3 ?_
 refine aE ?_
 refine dO [] [] rfl trivial ?_
 have H4:k=l.length:=by omega
 subst H4
 exact ⟨rfl,by rw [← CO]; exact H2.tk [0,1]⟩
theorem Be {s:ByteArray} {l:List Nat} (h:∀ x∈l,x<18446744073709551616) (i:Nat):∀ x∈l.map (cM s · i),x<18446744073709551616:=fun x hx=>by
 obtain ⟨y,hy,rfl⟩:=List.mem_map.1 hx
 exact Bf (h y hy) i
theorem Db (s:ByteArray) (l:List Nat) (i:Nat):(l.map (cM s · i)).map (yx · (jY s i))=l.map (cM s · (i+1)):=by rw [List.map_map]; rfl
theorem Da (s:ByteArray) (l:List Nat):l.map (cM s · 0)=l:=by
 conv=>rhs; rw [← List.map_id l]
 rfl
theorem OW (gh n:Nat) (l:List Nat) (hl:l.length=4) (hlt:∀ x∈l,x<18446744073709551616) (s:ByteArray) (hs:s.size≤1099511627776) (w:World) (HB:S w [Ob gh (.cells (fF l n) 226 (0,0))]):Calls Tryz.prog 207 #[.string s,.func (.func 208) #[vP gh] #[]] w fun e w'=>e=.returned (.tuple #[])∧S w' ([Ob gh (.cells (fF (l.map (cM s · s.size)) n) 226 (0,0))]++[aB w (aT [Ob gh (.cells (fF l n) 226 (0,0))])]):=by
 have H0:S _ [_,_]:=HB.beginI
 refine en Tryz.func207 ?_
 refine ah [0,1] ?_
 refine ae ?_
 refine w_v (iJ rfl rfl Tryz.underlying9) ?_
 refine aC ?_
 refine cQ (ι:=Nat) (fun i=>[(0,.string s),(1,.func (.func 208) #[vP gh] #[]),(6,vI s.size),(7,vI i)]) (fun i wx=>(i≤s.size)∧S wx [Ob gh (.cells (fF (l.map (cM s · i)) n) 226 (0,0)),aB w (aT [Ob gh (.cells (fF l n) 226 (0,0))])]) (fun i=>s.size - i) (0) ⟨Nat.zero_le _,(by rw [Da]; exact H0)⟩ ?_
 rintro i H5 ⟨hi,H2⟩
 refine ah [0,1,6,7] ?_
 refine aC ?_
 refine g_seq ?_
 by_cases H3:((i:Int):Int)<(s.size:Int)
 ·
  refine bm H3 ?_
  refine jG ?_
  have hbt4:=iE s i
  refine w_v (v:=.int .u8 ((jY s i:Int))) (tQ i rfl rfl rfl Tryz.underlying9 (by omega)) ?_
  refine l_of (bR (bh rfl) (gQ rfl rfl rfl QF) (Na gh n (l.map (cM s · i)) (by simp [hl]) (Be hlt i) (jY s i) (iE s i) _ (H2.tk [0])) ?_)
  rintro _ H4 ⟨rfl,H6⟩
  rw [Db] at H6
  replace H6:=H2.aI1 [0] H6
  refine bW ?_
  refine aE ?_
  refine bP (v:=vI ((i:Int)+1)) (hb:=(dY (jD (by omega)))) ?_
  refine ae ?_
  refine bD (i:=(i)) (i+1) ⟨by omega,H6⟩
 refine br H3 ?_
 refine aE ?_
 refine dO [] [] rfl trivial ?_
 have his:i=s.size:=by omega
 exact ⟨rfl,by rw [← his]; exact H2.tk [0,1]⟩
theorem Pv (gh n:Nat) (l:List Nat) (hl:l.length=4) (hlt:∀ x∈l,x<18446744073709551616) (s:ByteArray) (hs:s.size≤1099511627776) (hn:n≤1099511627776) (w:World) (HB:S w [Ob gh (.cells (fF l n) 226 (0,0))]):Calls Tryz.prog 195 #[vP gh,.string s] w fun e w'=>e=.returned (.tuple #[])∧S w' ([Ob gh (.cells (fF (l.map (cM s · s.size)) (n+s.size)) 226 (0,0))]++[aB w (aT [Ob gh (.cells (fF l n) 226 (0,0))])]):=by
 have H0:S _ [_,_]:=HB.beginI
 refine en Tryz.func195 ?_
 refine ah [0,1] ?_
 refine aC ?_
 refine bP (v:=.bool false) (hb:=(j3 (r:=false) Tryz.underlying213 rfl)) ?_
 refine cD ?_
 refine g_cond_f rfl rfl ?_
 refine cp ?_
 refine w_v (h_ rfl rfl rfl) ?_
 refine l_of (aG (OW gh n l hl hlt s hs _ (H0.tk [0])) ?_)
 rintro _ H5 ⟨rfl,H2⟩
 replace H2:=H0.aI1 [0] H2
 refine bW ?_
 refine aQ ?_
 refine w_v (gi H2 0 rfl rfl Tryz.underlying3 rfl rfl (Bq (by first | omega | (simp only [List.length_map,j8]; omega)))) ?_
 refine cJ ?_
 refine w_v (iJ rfl rfl Tryz.underlying9) ?_
 refine bP (v:=vI (((n+s.size:Nat):Int))) (hb:=(dq (a:=n) (b:=s.size) (by omega))) ?_
 refine ru ?_
 refine l_of (lP H2 0 (bh rfl) rfl rfl rfl rfl rfl si rfl rfl (by rw [oZ]; first | omega | (simp only [List.length_map,j8]; omega)) ?_)
 intro H3 H4
 rw [Di (l:=(l.map (cM s · s.size))) (n:=n) (m:=(n+s.size)) (by first | omega | (simp only [List.length_map,j8]; omega))] at H4
 replace H4:S _ [_,_]:=H4
 refine aR ?_
 refine dO [] [] rfl trivial ?_
 exact ⟨rfl,H4.tk [0,1]⟩
theorem Q8:tw Tryz.prog 5=some (.int .u8 0):=by kernel_rfl
theorem Gg {b:List Nat} (h:∀ x∈b,x<256) {w:World} {p:Option Addr} {n c:Nat} (hr:bz w p n c 1 (yu b)):bz w p n c 1 (fM (b.map UInt8.ofNat)):=by rw [← zd h]; exact hr
theorem K7 (h:Nat) (hh:h<18446744073709551616) (w:World):Calls Tryz.prog 212 #[.int .u64 ((h:Int))] w fun e w'=>∃ p c,e=.returned (.slice p 8 c)∧S w' ([Rw 5 1 p 8 c (yu (jN h))]++[aB w no]):=by
 have H0:=S.old w
 refine en Tryz.func212 ?_
 refine ah [0] ?_
 refine aE ?_
 have H1:S _ [_,_]:=H0.nilRw 5 1
 refine cp ?_
 refine cQ (ι:=Nat × Int × Option Addr × Nat) (fun (i,x,q,d)=>[(0,.int .u64 ((h:Int))),(3,.slice q i d),(4,vI x)]) (fun (i,x,q,d) wx=>(i≤8)∧(x=56 - 8 * (i:Int))∧S wx [Rw 5 1 q i d (yu (iQ h i)),aB w no]) (fun (i,x,q,d)=>8 - i) (0,56,none,0) ⟨Nat.zero_le _,rfl,(H1.tk [0,1])⟩ ?_
 rintro ⟨i,x,q,d⟩ H8 ⟨hi,hx,H3⟩
 refine ah [0,3,4] ?_
 refine aQ ?_
 by_cases H4:(0:Int)≤x
 ·
  refine bm H4 ?_
  refine dz ?_
  refine bP (v:=.int .u64 (((h / 2 ^ (56 - 8 * i):Nat):Int))) (hb:=(Pp (a:=h) (n:=56 - 8 * i) (by omega) (by show 56 - 8 * i≤64; omega))) ?_
  refine w_v (v:=.int .u8 (((h / 2 ^ (56 - 8 * i) % 256:Nat):Int))) (fg rfl rfl Tryz.underlying174 Tryz.underlying5 (Ml _)) ?_
  refine l_of (fC Q8 #[.int .u8 (((h / 2 ^ (56 - 8 * i) % 256:Nat):Int))] H3 ?_)
  intro g5 H6 H7
  refine l_of (nH (n:=i) (m:=1) (sc:=d) (xs:=(yu (iQ h i))) (news:=[.int .u8 (((h / 2 ^ (56 - 8 * i) % 256:Nat):Int))]) (p:=q) (ad:=⟨g5,0,none⟩) H7 1 (bh rfl) rfl rfl rfl rfl rfl rfl Tryz.underlying113 Gt rfl (by decide) (by decide) rfl (by decide) (ud H7 (j0:=0) rfl) rfl (by omega) ?_)
  intro p8 c9 H2 (H5:S H2 [Ob g5 (.cells #[.int .u8 (((h / 2 ^ (56 - 8 * i) % 256:Nat):Int))] 5 (0,0)),Rw 5 1 p8 (i+1) c9 ((yu (iQ h i))++[.int .u8 (((h / 2 ^ (56 - 8 * i) % 256:Nat):Int))]),aB w no])
  refine a_ ?_
  refine bP (v:=vI (x - 8)) (hb:=(vj (jD (by omega)))) ?_
  refine ae ?_
  refine bD (i:=(i,x,q,d)) (i+1,x - 8,p8,c9) ⟨by omega,by omega,(by rw [Ar,Eg]; exact (H5.tk [1,2]))⟩
 refine br H4 ?_
 refine cS ?_
 refine af ?_
 have hi8:i=8:=by omega
 subst hi8
 exact ⟨_,_,rfl,H3⟩
theorem KY (n:Nat) (l:List Nat) (hl:l.length=4) (hlt:∀ x∈l,x<18446744073709551616) (hn:n≤1099511627776) (w:World):Calls Tryz.prog 209 #[.agg (kc l),vI n] w fun e w'=>e=.returned (.string (nZ (lD l n 4)))∧S w' [aB w no]:=by
 have H0:=S.old w
 refine en Tryz.func209 ?_
 refine ah [0,1] ?_
 refine iF ?_
 refine l_of (fq H0 ?_)
 intro g1 H7 H3
 refine aC ?_
 have H4:S H7 [Rw 5 1 none 0 0 [],Ob g1 (.cells (kc l) 223 (0,0)),aB w no]:=H3.nilRw 5 1
 refine aQ ?_
 refine w_v (v:=.agg (kc l)) (iN H4 1 rfl rfl Tryz.underlying221 rfl Mm rfl (Nat.ble_eq_true_of_le (by rw [uY]; omega)) (Bg hl)) ?_
 refine aC ?_
 refine cQ (ι:=Nat × Option Addr × Nat) (fun (k,q,d)=>[(1,vI n),(5,.slice q ((8 * k):Nat) d),(9,.agg (kc l)),(10,vI k)]) (fun (k,q,d) wx=>(k≤4)∧S wx [Rw 5 1 q (8 * k) d (yu (lD l n k)),aB w no]) (fun (k,q,d)=>4 - k) (0,none,0) ⟨Nat.zero_le _,(H4.tk [0,2])⟩ ?_
 rintro ⟨k,q,d⟩ h4 ⟨hk,H6⟩
 refine ah [1,5,9,10] ?_
 have hgl:(l.getD k 0)<18446744073709551616:=Hg hlt k
 have hx:=tU hgl (show n<18446744073709551616 by omega)
 have hX:(((l.getD k 0) ^^^ n) * 1099511628211 % 18446744073709551616)<18446744073709551616:=Nat.mod_lt _ (by omega)
 have hX2:(((l.getD k 0) ^^^ n) * 1099511628211 % 18446744073709551616) / 4294967296≤(((l.getD k 0) ^^^ n) * 1099511628211 % 18446744073709551616):=Nat.div_le_self _ _
 refine aC ?_
 refine g_seq ?_
 by_cases H5:((k:Int):Int)<4
 ·
  refine bm H5 ?_
  refine aQ ?_
  refine w_v (v:=.int .u64 ((((l.getD k 0):Nat):Int))) (AV k rfl rfl rfl Tryz.underlying221 yN Tryz.underlying174 rfl (by omega) (Em (by omega))) ?_
  refine aQ ?_
  refine w_v (v:=.int .u64 ((n:Int))) (fg rfl rfl Tryz.underlying3 Tryz.underlying174 (kK (by omega))) ?_
  refine bP (v:=.int .u64 ((((l.getD k 0) ^^^ n:Nat):Int))) (hb:=(qg (a:=(l.getD k 0)) (b:=n) (by omega))) ?_
  refine bP (v:=.int .u64 ((((((l.getD k 0) ^^^ n) * 1099511628211 % 18446744073709551616):Nat):Int))) (hb:=(oC ((l.getD k 0) ^^^ n) 1099511628211)) ?_
  refine aQ ?_
  refine bP (v:=.int .u64 ((((((l.getD k 0) ^^^ n) * 1099511628211 % 18446744073709551616) / 4294967296:Nat):Int))) (hb:=(mI (a:=(((l.getD k 0) ^^^ n) * 1099511628211 % 18446744073709551616)) (n:=32) (by decide))) ?_
  refine bP (v:=.int .u64 ((((((l.getD k 0) ^^^ n) * 1099511628211 % 18446744073709551616) ^^^ (((l.getD k 0) ^^^ n) * 1099511628211 % 18446744073709551616) / 4294967296:Nat):Int))) (hb:=(qg (a:=(((l.getD k 0) ^^^ n) * 1099511628211 % 18446744073709551616)) (b:=(((l.getD k 0) ^^^ n) * 1099511628211 % 18446744073709551616) / 4294967296) (by omega))) ?_
  refine aQ ?_
  refine bP (v:=.int .u64 (((uF (l.getD k 0) n:Nat):Int))) (hb:=(oC ((((l.getD k 0) ^^^ n) * 1099511628211 % 18446744073709551616) ^^^ (((l.getD k 0) ^^^ n) * 1099511628211 % 18446744073709551616) / 4294967296) 1099511628211)) ?_
  refine l_of (aG (K7 _ (Ey _ _) _) ?_)
  rintro _ H9 ⟨p8,c9,rfl,H2⟩
  replace H2:=H6.ab1 H2
  refine bW ?_
  refine l_of (y_ (n:=8 * k) (m:=8) (sc:=d) (xs:=yu (lD l n k)) (news:=yu (jN (uF (l.getD k 0) n))) (p:=q) (q:=p8) H2 1 (bh rfl) rfl rfl rfl rfl rfl rfl Tryz.underlying113 Gt rfl (by decide) (by decide) (H2.rr 0) (Kk _) (by omega) ?_)
  intro h0 h2 H8 h3
  refine aE ?_
  refine ah [1,5,9,10] ?_
  refine aR ?_
  refine bP (v:=vI ((k:Int)+1)) (hb:=(dY (jD (by omega)))) ?_
  refine ae ?_
  refine bD (i:=(k,q,d)) (k+1,h0,h2) ⟨by omega,(by rw [show 8 * (k+1)=8 * k+8 from by omega,xO (by omega),Eg]; exact (h3.tk [1,2]))⟩
 refine br H5 ?_
 refine cp ?_
 refine w_v (v:=.string ((nZ (lD l n k)))) (AW (l:=(lD l n k).map UInt8.ofNat) rfl rfl Tryz.underlying113 Tryz.underlying9 Tryz.underlying5 (Gg (HN l n k) (H6.rr 0)) (by rw [List.length_map,yV l n k (by omega)])) ?_
 refine aC ?_
 refine af ?_
 have h1:k=4:=by omega
 subst h1
 exact ⟨rfl,H6.tk [1]⟩
theorem Nc (gh n:Nat) (l:List Nat) (hl:l.length=4) (hlt:∀ x∈l,x<18446744073709551616) (hn:n≤1099511627776) (w:World) (HB:S w [Ob gh (.cells (fF l n) 226 (0,0))]):Calls Tryz.prog 196 #[vP gh] w fun e w'=>e=.returned (.string (nZ (lD l n 4)))∧S w' ([Ob gh (.cells (fF l n) 226 (0,0))]++[aB w (aT [Ob gh (.cells (fF l n) 226 (0,0))])]):=by
 have H0:S _ [_,_]:=HB.beginI
 refine en Tryz.func196 ?_
 refine ah [0] ?_
 refine a_ ?_
 refine bP (v:=.bool false) (hb:=(j3 (r:=false) Tryz.underlying213 rfl)) ?_
 refine cD ?_
 refine g_cond_f rfl rfl ?_
 refine ae ?_
 refine g_seq ?_
 refine g_anyY [] (fun wx=>S wx [Ob gh (.cells (fF l n) 226 (0,0))]) (fun wx=>S wx [Ob gh (.cells (fF l n) 226 (0,0))]) [] (by kernel_rfl) H0 (fun H5 H2=>?_)
 refine fu 0 ?_
 refine fu 1 ?_
 refine fu 2 ?_
 refine yt (v:=.agg (kc l)) 3 rfl (H2.tk [0]) (fun _ H=>iN H 0 rfl rfl Tryz.underlying223 rfl DC rfl (Nat.ble_eq_true_of_le (by rw [oZ]; omega)) (zo hl)) ?_
 refine fu 4 ?_
 refine fu 5 ?_
 refine fu 6 ?_
 refine yt (v:=vI n) 7 rfl (H2.tk [0]) (fun _ H=>gi H 0 rfl rfl Tryz.underlying3 rfl rfl (Bq (by first | omega | (simp only [List.length_map,j8]; omega)))) ?_
 refine sf (i:=8) ?_
 refine cz H2 (KY n l hl hlt hn _) ?_
 intro H3 H4
 refine Ca (H4.tk [0]) (H4.tk [0]) ?_
 refine sf (i:=9) ?_
 refine iW xa ?_
 refine Ca (H4.tk [0]) (H4.tk [0]) ?_
 refine Cb ?_
 refine aR ?_
 refine ah [2] ?_
 refine aR ?_
 refine af ?_
 exact ⟨rfl,H4.tk [0,1]⟩
theorem Qh (s:ByteArray) (hs:s.size≤1099511627776) (w:World):Calls Tryz.prog 179 #[.string s] w fun e w'=>e=.returned (.string (Az s))∧S w' [aB w no]:=by
 have H0:=S.old w
 refine en Tryz.func179 ?_
 refine ah [0] ?_
 refine aE ?_
 refine l_of (aG (NY _) ?_)
 rintro _ H7 ⟨gh,rfl,H2⟩
 replace H2:=H0.ab1 H2
 refine bW ?_
 refine aQ ?_
 refine l_of (aG (Pv gh 0 E5 BL EM s hs (by omega) _ (H2.tk [0])) ?_)
 rintro _ H5 ⟨rfl,H4⟩
 replace H4:=H2.aI1 [0] H4
 refine bW ?_
 refine aC ?_
 refine l_of (aG (Nc gh (0+s.size) (E5.map (cM s · s.size)) (by rw [List.length_map,BL]) (Be EM s.size) (by omega) _ (H4.tk [0])) ?_)
 rintro _ H3 ⟨rfl,H6⟩
 replace H6:=H4.aI1 [0] H6
 refine bW ?_
 refine aC ?_
 refine af ?_
 exact ⟨by rw [Nat.zero_add]; rfl,H6.tk [1]⟩
def JC:ByteArray:=⟨#[48,49,50,51,52,53,54,55,56,57,97,98,99,100,101,102,103,104,105,106,107,108,109,110,111,112,113,114,115,116,117,118,119,120,121,122]⟩
def JB:ByteArray:=⟨#[48,48,48,49,48,50,48,51,48,52,48,53,48,54,48,55,48,56,48,57,49,48,49,49,49,50,49,51,49,52,49,53,49,54,49,55,49,56,49,57,50,48,50,49,50,50,50,51,50,52,50,53,50,54,50,55,50,56,50,57,51,48,51,49,51,50,51,51,51,52,51,53,51,54,51,55,51,56,51,57,52,48,52,49,52,50,52,51,52,52,52,53,52,54,52,55,52,56,52,57,53,48,53,49,53,50,53,51,53,52,53,53,53,54,53,55,53,56,53,57,54,48,54,49,54,50,54,51,54,52,54,53,54,54,54,55,54,56,54,57,55,48,55,49,55,50,55,51,55,52,55,53,55,54,55,55,55,56,55,57,56,48,56,49,56,50,56,51,56,52,56,53,56,54,56,55,56,56,56,57,57,48,57,49,57,50,57,51,57,52,57,53,57,54,57,55,57,56,57,57]⟩
theorem zt:JC.size=36:=rfl
theorem yZ:JB.size=200:=by kernel_rfl
def yr (n:Int):ByteArray:=if n<10 then JC.extract n.toNat (n+1).toNat else JB.extract (n * 2).toNat (n * 2+2).toNat
theorem Bj {n:Int} (h0:0≤n) (h1:n≤99):(yr n).size≤21:=by
 have e1:=zt
 have e2:=yZ
 unfold yr
 split
 · rw [ByteArray.size_extract]; omega
 · rw [ByteArray.size_extract]; omega
def Sl (w:World):Prop:=True
theorem JV (n:Int) (h0:0≤n) (h1:n≤99)  (w:World):Calls Tryz.prog 213 #[vI n] w fun e w'=>e=.returned (.string (yr n))∧S w' [aB w no]:=by
 have H0:=S.old w
 refine en Tryz.func213 ?_
 refine ah [0] ?_
 refine dz ?_
 by_cases H2:(n:Int)<10
 ·
  refine bm H2 ?_
  refine aC ?_
  refine bP (v:=vI (n+1)) (hb:=(dY (jD (by omega)))) ?_
  refine w_v (v:=.string ((JC.extract n.toNat (n+1).toNat))) (AQ (s:=JC) n.toNat (n+1).toNat rfl rfl Tryz.underlying9 (.inr ⟨_,_,_,rfl,rfl,by omega⟩) (.inr ⟨_,_,_,rfl,rfl,by omega⟩) (by rw [zt]; omega)) ?_
  refine aE ?_
  refine af ?_
  exact ⟨by unfold yr; first | (rw [if_pos (by omega)]; rfl) | (rw [if_neg (by omega)]; rfl),H0.tk [0]⟩
 refine br H2 ?_
 refine aE ?_
 refine bP (v:=vI (n * 2)) (hb:=(tO (jD (by omega)))) ?_
 refine cJ ?_
 refine bP (v:=vI (n * 2)) (hb:=(tO (jD (by omega)))) ?_
 refine bP (v:=vI ((n * 2)+2)) (hb:=(dY (jD (by omega)))) ?_
 refine w_v (v:=.string ((JB.extract (n * 2).toNat (n * 2+2).toNat))) (AQ (s:=JB) (n * 2).toNat (n * 2+2).toNat rfl rfl Tryz.underlying9 (.inr ⟨_,_,_,rfl,rfl,by omega⟩) (.inr ⟨_,_,_,rfl,rfl,by omega⟩) (by rw [yZ]; omega)) ?_
 refine aC ?_
 refine af ?_
 exact ⟨by unfold yr; first | (rw [if_pos (by omega)]; rfl) | (rw [if_neg (by omega)]; rfl),H0.tk [0]⟩
theorem QB (n:Int) (h0:0≤n) (h1:n≤99)  (w:World):Calls Tryz.prog 210 #[vI n,vI 10] w fun e w'=>e=.returned (.string (yr n))∧S w' [aB w no]:=by
 have H0:=S.old w
 refine en Tryz.func210 ?_
 refine ah [0,1] ?_
 refine dz ?_
 refine bm rfl ?_
 refine aQ ?_
 refine aN (dt h0) xm ?_
 refine aN (dt h0) (ai rfl rfl rfl dG) ?_
 refine w_v (pt (dt h0)) ?_
 refine cD ?_
 refine g_cond_t rfl (dt (by omega)) ?_
 refine ae ?_
 refine l_of (cz H0 (JV n h0 h1 _) ?_)
 intro H3 H2
 refine ae ?_
 refine ah [4] ?_
 refine aC ?_
 refine af ?_
 exact ⟨rfl,H2.tk [0]⟩
theorem KA (n:Int) (h0:0≤n) (h1:n≤99)  (w:World):Calls Tryz.prog 197 #[vI n] w fun e w'=>e=.returned (.string (yr n))∧S w' [aB w no]:=by
 have H0:=S.old w
 refine en Tryz.func197 ?_
 refine ah [0] ?_
 refine aQ ?_
 refine l_of (cz H0 (QB n h0 h1 _) ?_)
 intro H3 H2
 refine aC ?_
 refine af ?_
 exact ⟨rfl,H2.tk [0]⟩
theorem Kz (n:Int) (h0:0≤n) (h1:n≤99)  (w:World):Calls Tryz.prog 180 #[vI n] w fun e w'=>e=.returned (.string (yr n))∧S w' [aB w no]:=by
 have H0:=S.old w
 refine en Tryz.func180 ?_
 refine ah [0] ?_
 refine aQ ?_
 refine l_of (cz H0 (KA n h0 h1 _) ?_)
 intro H3 H2
 refine aC ?_
 refine af ?_
 exact ⟨rfl,H2.tk [0]⟩
end Go.Proofs.YthmmfhdpkddniaaGreatDoor
