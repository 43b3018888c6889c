import Derived.Test.YthmmfhdpkddniaaGreatDoorGn
import Derived.Test.YthmmfhdpkddniaaGreatDoorFm
import Derived.Test.YthmmfhdpkddniaaGreatDoorXa
set_option maxRecDepth 20000
set_option maxHeartbeats 4000000
set_option linter.unusedSimpArgs false
set_option linter.unusedVariables false
namespace Go.Proofs.YthmmfhdpkddniaaGreatDoor
open Go.RowKit
def bindsB (e:Edge):Bool:=Region.binds .any e
def barOK (l:List Oper) (y:Nat):Bool:=
 decide (y<l.length) && (l.take y).all (fun o=>o.guard.isNone)
 && (List.range y).all (fun i=>match l[i]? with | some o=>o.after.toList.all (fun e=>!bindsB e || decide (e.on<i)) | none=>false)
 && (List.range l.length).all (fun i=>decide (i≤y) || match l[i]? with | some o=>o.after.toList.any (fun e=>bindsB e && decide (y≤e.on) && decide (e.on<i)) | none=>false)
 && (List.range y).all (fun i=>(List.range (y+1)).any (fun k=>decide (i<k) && match l[k]? with | some o=>o.after.toList.any (fun e=>bindsB e && decide (e.on=i)) | none=>false))
def Bar (N:Nat) (r:Option Nat) (n:Nat) (P:Program) (ops:Array Oper) (f0:Fr) (ds:List Deferred) (m:Nat) (L:Array Bool) (Q:Exit→Act→World→Prop):Exit→Act→World→Prop
 | .normal,a,w=>∀ k,wpAnyIn (WF r) n P .any ops (PanP N f0 ds Q) (k+m) L a w
 | e,a,w=>Q e a w
theorem wp_bar {N:Nat} {r:Option Nat} {n:Nat} {P:Program} {ops:Array Oper} {f0:Fr} {ds:List Deferred} {m:Nat} {L:Array Bool} {Q:Exit→Act→World→Prop} {o:Oper} {a:Act} {w:World} {K:Act→World→Prop} (h:o.wp P a w K (PanP N f0 ds (Bar N r n P ops f0 ds m L Q))):o.wp P a w K (PanP N f0 ds Q):=by
 unfold Oper.wp at h ⊢
 generalize (execOp a.eval o).run P w=res at h ⊢
 cases res with
 | ok x w'=>cases x <;> exact h
 | halt x w'=>cases x <;> exact h
theorem letsOut_bar {N:Nat} {r:Option Nat} {n:Nat} {P:Program} {ops:Array Oper} {f0:Fr} {ds:List Deferred} {m:Nat} {L:Array Bool} {Q:Exit→Act→World→Prop} (hL:¬ LetsOut Q):¬ LetsOut (PanP N f0 ds (Bar N r n P ops f0 ds m L Q)):=fun ⟨a,w,h⟩=>hL ⟨a,w,h⟩
theorem any_bar {N:Nat} {r:Option Nat} {n:Nat} {P:Program} {l:List Oper} {f0:Fr} {ds:List Deferred} {y m:Nat} {Q:Exit→Act→World→Prop} {L:Array Bool} (hok:barOK l y=true) (hd:∀ o∈l,isDefer o=false) (hL:¬ LetsOut Q) (hLs:L.size=l.length)
   (hLt:∀ i,i<y→L.getD i false=true) (hLf:∀ i,y≤i→i<l.length→L.getD i true=false) :
   ∀ (fuel:Nat) (listed:Array Bool) (a:Act) (w:World),listed.size=l.length→(∀ i,y≤i→i<l.length→listed.getD i true=false)
     → (∀ (i:Nat) (o:Oper),l[i]?=some o→listed.getD i false=true→∀ e∈o.after,bindsB e=true→listed.getD e.on false=true)
     → wpAny P .any (l.take y).toArray (PanP N f0 ds (Bar N r n P l.toArray f0 ds m L Q)) fuel listed a w→wpAnyIn (WF r) n P .any l.toArray (PanP N f0 ds Q) (fuel+m) listed a w:=by
 unfold barOK at hok
 simp only [Bool.and_eq_true,decide_eq_true_eq] at hok
 obtain ⟨⟨⟨⟨hy,hg⟩,hlo⟩,hup⟩,hch⟩:=hok
 rw [List.all_eq_true] at hg hlo hup hch
 have hX:∀ i,i<y→(l.take y).toArray[i]?=l[i]?:=fun i hi=>by rw [List.getElem?_toArray,List.getElem?_take_of_lt hi]
 have hXn:∀ i,y≤i→(l.take y).toArray[i]?=none:=fun i hi=>by
   rw [List.getElem?_toArray]; exact List.getElem?_eq_none (by rw [List.length_take]; omega)
 have hO:∀ i,l.toArray[i]?=l[i]?:=fun i=>List.getElem?_toArray
 have tf:∀ (s:Array Bool) (i:Nat),i<s.size→s.getD i true=s.getD i false:=fun s i h=>by simp [h]
 -- all that comes ahead is listed: the array is L
 have isL:∀ listed:Array Bool,listed.size=l.length→(∀ i,y≤i→i<l.length→listed.getD i true=false)→(∀ i,i<y→listed.getD i false=true)→listed=L:=fun listed hs hf ht=>by
   refine Array.ext (by omega) fun i h1 h2=>?_
   have e1:listed.getD i true=listed[i]:=by simp [h1]
   have e2:L.getD i true=L[i]:=by simp [h2]
   rw [← e1,← e2]
   by_cases hi:i<y
   · rw [tf listed i h1,tf L i h2,ht i hi,hLt i hi]
   · rw [hf i (by omega) (by omega),hLf i (by omega) (by omega)]
 -- what is not listed: its first is ready
 have first:∀ listed:Array Bool,listed.size=l.length→(∃ i,i<y∧listed.getD i false=false)→∃ i,i<y∧i∈Region.ready .any (l.take y).toArray listed:=fun listed hs=>by
   rintro ⟨i,hi,hf⟩
   induction i using Nat.strongRecOn with
   | ind i ih =>
     by_cases hq:∃ j,j<i∧listed.getD j false=false
     · obtain ⟨j,hj,hjf⟩:=hq
       exact ih j hj (by omega) hjf
     · refine ⟨i,hi,mem_ready.2 ⟨by rw [tf _ _ (by omega)]; exact hf,l[i]'(by omega),by rw [hX i hi]; exact List.getElem?_eq_getElem _,fun e he hb=>?_⟩⟩
       have h1:=hlo i (List.mem_range.2 hi)
       rw [List.getElem?_eq_getElem (by omega)] at h1
       have h2:=List.all_eq_true.1 h1 e (by simpa using he)
       have hb':bindsB e=true:=hb
       rw [hb'] at h2
       have h3:e.on<i:=by simpa using h2
       cases hq2:listed.getD e.on false with
       | true=>rfl
       | false=>exact absurd ⟨e.on,h3,hq2⟩ hq
 intro fuel
 induction fuel with
 | zero =>
   intro listed a w hs hf hc h
   have hall:∀ i,i<y→listed.getD i false=true:=fun i hi=>by
     cases hq:listed.getD i false with
     | true=>rfl
     | false =>
       obtain ⟨j,_,hj⟩:=first listed hs ⟨i,hi,hq⟩
       rw [h.1] at hj; cases hj
   rw [isL listed hs hf hall]
   exact h.2 0
 | succ fuel ih =>
   intro listed a w hs hf hc h
   by_cases hall:∀ i,i<y→listed.getD i false=true
   · have hr:Region.ready .any (l.take y).toArray listed=[]:=by
       refine List.eq_nil_iff_forall_not_mem.2 fun j hj=>?_
       obtain ⟨h1,o,ho,_⟩:=mem_ready.1 hj
       by_cases hjy:j<y
       · rw [tf _ _ (by omega),hall j hjy] at h1; cases h1
       · rw [hXn j (by omega)] at ho; cases ho
     rw [isL listed hs hf hall]
     exact h.1 hr (fuel+1)
   · have hex:∃ i,i<y∧listed.getD i false=false:=by
       refine Classical.byContradiction fun h0=>hall fun i hi=>?_
       cases hq:listed.getD i false with
       | true=>rfl
       | false=>exact absurd ⟨i,hi,hq⟩ h0
     obtain ⟨i0,hi0,hr0⟩:=first listed hs hex
     have up:∀ i,i∈Region.ready .any (l.take y).toArray listed→i∈Region.ready .any l.toArray listed:=fun i hi=>by
       obtain ⟨h1,o,ho,h2⟩:=mem_ready.1 hi
       have hiy:i<y:=by
         rcases Nat.lt_or_ge i y with q | q
         · exact q
         · rw [hXn i q] at ho; cases ho
       exact mem_ready.2 ⟨h1,o,by rw [hO,← hX i hiy]; exact ho,h2⟩
     rw [show fuel+1+m=(fuel+m)+1 from by omega]
     refine ⟨fun h0=>absurd (up i0 hr0) (by rw [h0]; simp),fun i hi=>?_⟩
     obtain ⟨h1,o,ho,h2⟩:=mem_ready.1 hi
     rw [hO] at ho
     have hil:i<l.length:=(List.getElem?_eq_some_iff.1 ho).1
     have hiy:i<y:=by
       rcases Nat.lt_or_ge i y with q | q
       · exact q
       · exfalso
         rcases Nat.lt_or_eq_of_le q with q | q
         · have h3:=hup i (List.mem_range.2 hil)
           rw [decide_eq_false (by omega),Bool.false_or,ho] at h3
           obtain ⟨e,he,h4⟩:=List.any_eq_true.1 h3
           simp only [Bool.and_eq_true,decide_eq_true_eq] at h4
           have h5:=h2 e (by simpa using he) h4.1.1
           have h6:=hf e.on h4.1.2 (by omega)
           rw [tf _ _ (by omega),h5] at h6; cases h6
         · subst q
           have dn:∀ d i,y - i=d→i<y→listed.getD i false=true:=fun d=>by
             induction d using Nat.strongRecOn with
             | ind d ihd =>
               intro j hd2 hj
               have h3:=hch j (List.mem_range.2 hj)
               obtain ⟨k,hk,h4⟩:=List.any_eq_true.1 h3
               simp only [Bool.and_eq_true,decide_eq_true_eq] at h4
               have hk:=List.mem_range.1 hk
               cases hlk:l[k]? with
               | none=>rw [hlk] at h4; exact absurd h4.2 Bool.false_ne_true
               | some ok =>
                 rw [hlk] at h4
                 obtain ⟨e,he,h5⟩:=List.any_eq_true.1 h4.2
                 simp only [Bool.and_eq_true,decide_eq_true_eq] at h5
                 rcases Nat.lt_or_eq_of_le (show k≤y by omega) with hky | hky
                 · have:=hc k ok hlk (ihd (y - k) (by omega) k rfl hky) e (by simpa using he) h5.1
                   rwa [h5.2] at this
                 · subst hky
                   rw [hlk] at ho; cases ho
                   have:=h2 e (by simpa using he) h5.1
                   rwa [h5.2] at this
           exact hall fun j hj=>dn _ j rfl hj
     have hiX:i∈Region.ready .any (l.take y).toArray listed:=mem_ready.2 ⟨h1,o,by rw [hX i hiy]; exact ho,h2⟩
     have h3:=h.2 i hiX
     unfold wpOp at h3
     rw [hX i hiy,ho] at h3
     unfold wpOpIn
     rw [hO,ho]
     simp only at h3 ⊢
     have hgo:o.guard=none:=by
       have:=hg o (List.mem_of_getElem? (by rw [List.getElem?_take_of_lt hiy]; exact ho))
       cases hq:o.guard with
       | none=>rfl
       | some x=>rw [hq] at this; cases this
     have hw1:∀ t,Region.wanted o t=true:=fun t=>by unfold Region.wanted; rw [hgo]
     rw [if_pos (hw1 _)] at h3
     rw [if_pos (hw1 _)]
     have nxt:∀ a w,wpAny P .any (l.take y).toArray (PanP N f0 ds (Bar N r n P l.toArray f0 ds m L Q)) fuel (listed.setIfInBounds i true) a w→wpAnyIn (WF r) n P .any l.toArray (PanP N f0 ds Q) (fuel+m) (listed.setIfInBounds i true) a w:=fun a w h4=>by
       refine ih _ a w (by rw [Array.size_setIfInBounds]; exact hs) (fun j h5 h6=>by rw [getD_set_ne true (by omega)]; exact hf j h5 h6) (fun j oj hj hjt e he hb=>?_) h4
       by_cases hij:i=j
       · subst hij
         rw [ho] at hj; cases hj
         exact getD_set_true (h2 e he hb)
       · rw [getD_set_ne false hij] at hjt
         exact getD_set_true (hc j oj hj hjt e he hb)
     rcases h3 with h3 | ⟨_,h3⟩
     · exact Oper.wpIn_mono nxt (wpIn_of (hd o (List.mem_of_getElem? ho)) (wp_bar h3))
     · exact absurd h3 (letsOut_bar hL)
def barL (y m:Nat):Array Bool:=(List.replicate y true++List.replicate m false).toArray
section
variable {P:Program} {N:Nat} {Q:Exit→Act→World→Prop} {f:Fr} {ds:List Deferred} {w:World} {r:Option Nat} {n:Nat}
theorem R.g_bar {id:Nat} {l:List Oper} {L:List Item} (y m:Nat) (f0:Fr) (C:World→Prop) (T:List Nat) (hm:P.follows .mixedOrders=true) (hd:noDefer l=true) (hL:¬ LetsOut Q) (hok:barOK l y=true) (hym:l.length=y+m) (H:S w L)
   (h:∀ w,S w L→G N (wpAnyX P .any (l.take y).toArray (PanP N f0 ds (Bar N r n P l.toArray f0 ds m (barL y m) Q)) C T y (Array.replicate l.length false)) f ds w):G N ((Code.region id l.toArray true).wpIn (WF r) n P Q) f ds w:=fun a ha=>by
 refine wpIn_mono (Q:=PanP N f0 ds Q) (wpIn_region_any hm ?_) (fun e a w h=>by cases e <;> first | exact h | exact h.2 _ h.1)
 have h1:=wpAny_of_X _ _ _ _ (h _ (H.drawn (w.drawn+1) (Nat.le_succ _)) a ha)
 have hdl:∀ o∈l,isDefer o=false:=fun o ho=>by simpa using List.all_eq_true.1 hd o ho
 have hys:y<l.length:=by
   unfold barOK at hok
   simp only [Bool.and_eq_true,decide_eq_true_eq] at hok
   exact hok.1.1.1.1
 have hgd:∀ (i:Nat) (d:Bool),(barL y m).getD i d=if i<y then true else if i<y+m then false else d:=fun i d=>by
   unfold barL
   by_cases h1:i<y
   · rw [if_pos h1]; simp [List.getElem?_append_left,h1]
   · rw [if_neg h1]
     by_cases h2:i<y+m
     · rw [if_pos h2]
       have:i - y<m:=by omega
       simp [List.getElem?_append_right,h1,this,Nat.not_lt.1 h1]
     · rw [if_neg h2]
       simp [h2]
 have h2:=any_bar (m:=m) (L:=barL y m) hok hdl hL (by unfold barL; simp [hym]) (fun i hi=>by rw [hgd,if_pos hi]) (fun i hi hi2=>by rw [hgd,if_neg (by omega),if_pos (by omega)]) y (Array.replicate l.length false) a _ (by simp) (fun i _ hi=>by simp [hi]) (fun i o _ h0=>by
   have:(Array.replicate l.length false).getD i false=false:=by
     by_cases hi:i<l.length
     · simp [hi]
     · simp [hi]
   rw [this] at h0; cases h0) h1
 rw [← hym] at h2
 simpa using h2
theorem R.g_any {id:Nat} {l:List Oper} {L:List Item} (f0:Fr) (C:World→Prop) (T:List Nat) (hm:P.follows .mixedOrders=true) (hd:noDefer l=true) (hL:¬ LetsOut Q) (H:S w L) (h:∀ w,S w L→G N (wpAnyX P .any l.toArray (PanP N f0 ds Q) C T l.length (Array.replicate l.length false)) f ds w):G N ((Code.region id l.toArray true).wpIn (WF r) n P Q) f ds w:=fun a ha=>by
 refine wpIn_mono (Q:=PanP N f0 ds Q) (wpIn_region_any hm (R.any_in (Q:=PanP N f0 ds Q) (fun o ho=>?_) (fun hc=>hL hc) _ _ _ _ (wpAny_of_X (C:=C) (T:=T) _ _ _ _ ?_))) (fun e a w h=>by cases e <;> first | exact h | exact h.2 _ h.1)
 · have:=List.all_eq_true.1 hd o (by simpa using ho)
   simpa using this
 · have:=h _ (H.drawn (w.drawn+1) (Nat.le_succ _)) a ha
   simpa using this
theorem bar_in {ops:Array Oper} {f0:Fr} {m:Nat} {L:Array Bool} (h:∀ k,G N (wpAnyIn (WF r) n P .any ops (PanP N f0 ds Q) (k+m) L) f ds w):G N (Bar N r n P ops f0 ds m L Q .normal) f ds w:=fun a ha k=>h k a ha
theorem pan_nrm {f0:Fr} (h:G N (Q .normal) f ds w):G N (PanP N f0 ds Q .normal) f ds w:=h
theorem pan_lets {f0:Fr} (hL:¬ LetsOut Q):¬ LetsOut (PanP N f0 ds Q):=fun ⟨a,w,h⟩=>hL ⟨a,w,h⟩
end
theorem cl116:callable Tryz.prog 116=true:=by kernel_rfl
theorem S.noI {w:World} {a:Item} {L:List Item} (h:S w (a :: L)):S w (a :: Big [] :: L):=by
 have h2:S w (Big [] :: a :: L):=h.cons (S.nil w) (fun g hg=>by obtain ⟨_,h,_⟩:=hg; cases h) (fun _ _ g hg=>by obtain ⟨_,h,_⟩:=hg; cases h)
 exact h2.perm (List.Perm.swap ..)
def encC (c:Cho):Array Value:=#[.agg #[.int .i64 c.pc,.int .i64 c.bg,.int .i64 c.ln]]
abbrev DXb0 (X:XP) (A:PK):=[Ob X.g (.cells #[.map (some X.mg),.int .i64 ((A.n:Int)),.int .i64 ((A.pz:Int)),.int .i64 ((A.la:Int)),.string (A.seed),.bool A.ino,.slice X.hp A.had.length X.hc,.slice X.wp A.wish.length X.wc,.map (some X.bg)] 85 (0,0))]
theorem size_o (X:XP) (A:PK) {j:Nat} (hI:PKI j A) (i:Int)  (w:World) (HS:S w (DXb0 X A)):Calls Tryz.prog 116 #[.pointer (some ⟨X.g,0,none⟩),.int .i64 i] w fun e w'=>e=.returned (.int .i64 (A.size i:Int))∧S w' ((DXb0 X A)++[Old w (fps (DXb0 X A))]):=by
 have H0:=HS.beginI
 have hn24:=hI.n24
 have hn1:=hI.n1
 refine enter 20 Tryz.func116 rfl rfl rfl ?_
 refine g_wk [(0,_),(1,_)] ?_
 refine w_s ?_
 refine w_k9 ?_
 refine w_b (v:=.int .i64 ((A.n:Int) - 1)) (hb:=(b_sub (w64 (by omega)))) ?_
 refine w_k2 ?_
 by_cases hb1:(i:Int)=(A.n:Int) - 1
 ·
  refine g_ct hb1 ?_
  refine w_k7 ?_
  refine g_wk [(4,_)] ?_
  refine g_ret ?_
  refine w_0 ?_
  refine fin_r [.tmp 4] [.int .i64 ((A.la:Int))] ?_
  have he9:(A.size i:Int)=(A.la:Int):=by unfold PK.size; rw [if_pos hb1]
  rw [he9]
  exact ⟨rfl,H0.tk [0,1]⟩
 ·
  refine g_cf hb1 ?_
  refine w_k9 ?_
  refine g_wk [(4,_)] ?_
  refine g_ret ?_
  refine fin_r [.tmp 4] [.int .i64 ((A.pz:Int))] ?_
  have he9:(A.size i:Int)=(A.pz:Int):=by unfold PK.size; rw [if_neg hb1]
  rw [he9]
  exact ⟨rfl,H0.tk [0,1]⟩
theorem all_s (g:Nat) (i:Int)  (w:World):Calls Tryz.prog 59 #[.pointer (some ⟨g,0,none⟩),.int .i64 i] w fun e w'=>∃ b1 b2,e=.returned (.func (.func 115) #[] #[.pointer (some ⟨b1,0,none⟩),.pointer (some ⟨b2,0,none⟩)])∧S w' ([Ob b1 (.cells #[.pointer (some ⟨g,0,none⟩)] 26 (0,0)),Ob b2 (.cells #[.int .i64 i] 3 (0,0))]++[Old w no]):=by
 have H0:=S.old w
 refine enter 6 Tryz.func59 rfl rfl rfl ?_
 refine g_wk [(0,_),(1,_)] ?_
 refine w_s ?_
 refine l_of (s_box H0 (wt0 rfl) rfl rfl rfl rfl ?_)
 intro g1 wq2 H3
 refine l_of (s_box H3 (wt0 rfl) rfl rfl rfl rfl ?_)
 intro g4 wq5 H6
 refine w_k3 ?_
 refine w_v (x_makeFunc rfl rfl rfl) ?_
 refine w_k3 ?_
 refine fin_r [.tmp 4] [.func (.func 115) #[] #[.pointer (some ⟨g1,0,none⟩),.pointer (some ⟨g4,0,none⟩)]] ?_
 exact ⟨_,_,rfl,H6.tk [1,0,2]⟩
theorem all_it {n0 b1 b2 j:Nat} {X:XP} {A:PK} {i:Int} (hI:PKI j A) :
  IterW n0 Tryz.prog 115 #[.pointer (some ⟨b1,0,none⟩),.pointer (some ⟨b2,0,none⟩)] encC (Big [Ob b1 (.cells #[.pointer (some ⟨X.g,0,none⟩)] 26 (0,0)),Ob b2 (.cells #[.int .i64 i] 3 (0,0)),Ob X.g (.cells #[.map (some X.mg),.int .i64 ((A.n:Int)),.int .i64 ((A.pz:Int)),.int .i64 ((A.la:Int)),.string (A.seed),.bool A.ino,.slice X.hp A.had.length X.hc,.slice X.wp A.wish.length X.wc,.map (some X.bg)] 85 (0,0))]) (fun pre x _=>∃ q,pre=(A.blocks i).take q∧(A.blocks i)[q]?=some x) (fun _ _=>True) (fun xs=>xs=A.blocks i) (fun _=>True) (Big []):=by
 intro l1 J Jx W C0 hOk hY h0 HS
 have H0:S _ [_,_,_,_]:=(HS.tk [0,2]).unbig
 have hsz:=size_le hI i
 refine enter_ci 24 Tryz.func115 rfl rfl rfl ?_
 have hL:¬ LetsOut (bodyPost Tryz.prog Tryz.f115 fun e W'=>(∃ v,e=.returned v)∧((∃ xs CC,(fun xs=>xs=A.blocks i) xs∧J xs CC∧S W' [Big [Ob b1 (.cells #[.pointer (some ⟨X.g,0,none⟩)] 26 (0,0)),Ob b2 (.cells #[.int .i64 i] 3 (0,0)),Ob X.g (.cells #[.map (some X.mg),.int .i64 ((A.n:Int)),.int .i64 ((A.pz:Int)),.int .i64 ((A.la:Int)),.string (A.seed),.bool A.ino,.slice X.hp A.had.length X.hc,.slice X.wp A.wish.length X.wc,.map (some X.bg)] 85 (0,0))],CC])∨(∃ pre CC,True∧Jx pre CC∧S W' [Big [Ob b1 (.cells #[.pointer (some ⟨X.g,0,none⟩)] 26 (0,0)),Ob b2 (.cells #[.int .i64 i] 3 (0,0)),Ob X.g (.cells #[.map (some X.mg),.int .i64 ((A.n:Int)),.int .i64 ((A.pz:Int)),.int .i64 ((A.la:Int)),.string (A.seed),.bool A.ino,.slice X.hp A.had.length X.hc,.slice X.wp A.wish.length X.wc,.map (some X.bg)] 85 (0,0))],CC]))):=by
  rintro ⟨_,_,⟨_,h⟩,_⟩
  cases h
 refine g_wk [(0,_),(1,_),(2,_)] ?_
 refine R.g_seq ?_
 refine R.g_region ?_
 refine R.w_v (fun h=>hL h) xa ?_
 refine R.g_nil ?_
 refine w_0 ?_
 refine R.g_block ?_
 refine R.g_loop (ι:=Nat × Item) (fun (q,C1)=>[(0,.func (.yield l1) #[] #[]),(1,.pointer (some ⟨b1,0,none⟩)),(2,.pointer (some ⟨b2,0,none⟩)),(4,.int .i64 (((16 * q:Nat):Int)))]) (fun (q,C1) wx=>(q≤((A.size i)+15) / 16)∧(J ((A.blocks i).take q) C1)∧S wx [Ob b1 (.cells #[.pointer (some ⟨X.g,0,none⟩)] 26 (0,0)),Ob b2 (.cells #[.int .i64 i] 3 (0,0)),Ob X.g (.cells #[.map (some X.mg),.int .i64 ((A.n:Int)),.int .i64 ((A.pz:Int)),.int .i64 ((A.la:Int)),.string (A.seed),.bool A.ino,.slice X.hp A.had.length X.hc,.slice X.wp A.wish.length X.wc,.map (some X.bg)] 85 (0,0)),C1]) (fun (q,C1)=>((A.size i)+15) / 16 - q) (0,C0) ⟨rfl,rfl,rfl,rfl,trivial⟩ ⟨Nat.zero_le _,h0,(H0.tk [0,1,2,3])⟩ ?_
 rintro ⟨q,C1⟩ wq1 ⟨hq,hJq,H2⟩
 refine g_wk [(0,_),(1,_),(2,_),(4,_)] ?_
 iterate 2 refine R.g_seq ?_
 refine R.g_region ?_
 refine R.w_v (fun h=>hL h) xm ?_
 refine R.w_v (fun h=>hL h) (xl H2 0) ?_
 refine R.w_v (fun h=>hL h) (xl H2 1) ?_
 refine R.l_of rfl (fun h=>hL h) (s_call (wt0 rfl) (x_call' rfl rfl cl116) (size_o X A hI i _ (H2.tk [2])) ?_)
 rintro _ wq3 ⟨rfl,H4⟩
 replace H4:S _ [_,_,_,_]:=H2.abI (new:=[_]) [2] H4 rfl
 have hsz9:=size_le hI i
 refine b_ret rfl rfl ?_
 refine R.w_v (fun h=>hL h) (x_bin rfl rfl rfl b_lss) ?_
 refine R.g_nil ?_
 refine w_0 ?_
 by_cases hb5:(((16 * q:Nat):Int):Int)<(A.size i:Int)
 ·
  refine R.g_cond_t rfl (decide_eq_true hb5) ?_
  refine R.g_skip ?_
  refine w_0 ?_
  refine R.g_seq ?_
  refine R.g_block ?_
  refine R.g_seq ?_
  refine R.g_bar 10 2 [] (fun wx=>S wx [Ob X.g (.cells #[.map (some X.mg),.int .i64 ((A.n:Int)),.int .i64 ((A.pz:Int)),.int .i64 ((A.la:Int)),.string (A.seed),.bool A.ino,.slice X.hp A.had.length X.hc,.slice X.wp A.wish.length X.wc,.map (some X.bg)] 85 (0,0)),Ob b1 (.cells #[.pointer (some ⟨X.g,0,none⟩)] 26 (0,0)),Ob b2 (.cells #[.int .i64 i] 3 (0,0)),C1]) [] (by kernel_rfl) (by kernel_rfl) hL (by kernel_rfl) rfl H4 (fun wq6 H7=>?_)
  refine a_take (v:=.func (.yield l1) #[] #[]) 0 rfl (wt0 rfl) rfl rfl rfl (by kernel_rfl) (by kernel_rfl) (by kernel_rfl) (by kernel_rfl) H7 (fun wx H=>x_move rfl rfl) ?_
  refine a_take (v:=.int .i64 i) 1 rfl (wt0 rfl) rfl rfl rfl (by kernel_rfl) (by kernel_rfl) (by kernel_rfl) (by kernel_rfl) H7 (fun wx H=>x_load1 H 2 rfl rfl Tryz.underlying3 rfl rfl rfl) ?_
  refine a_take (v:=.int .i64 (((16 * q:Nat):Int))) 2 rfl (wt0 rfl) rfl rfl rfl (by kernel_rfl) (by kernel_rfl) (by kernel_rfl) (by kernel_rfl) H7 (fun wx H=>x_move rfl rfl) ?_
  refine a_take (v:=.pointer (some ⟨X.g,0,none⟩)) 3 rfl (wt0 rfl) rfl rfl rfl (by kernel_rfl) (by kernel_rfl) (by kernel_rfl) (by kernel_rfl) H7 (fun wx H=>x_load1 H 1 rfl rfl Tryz.underlying26 rfl rfl rfl) ?_
  refine a_take (v:=.int .i64 i) 4 rfl (wt0 rfl) rfl rfl rfl (by kernel_rfl) (by kernel_rfl) (by kernel_rfl) (by kernel_rfl) H7 (fun wx H=>x_load1 H 2 rfl rfl Tryz.underlying3 rfl rfl rfl) ?_
  refine a_take (v:=.int .i64 (((16 * q:Nat):Int))) 6 rfl (wt0 rfl) rfl rfl rfl (by kernel_rfl) (by kernel_rfl) (by kernel_rfl) (by kernel_rfl) H7 (fun wx H=>x_move rfl rfl) ?_
  refine a_one (i:=5) (by kernel_rfl) rfl ?_
  refine s_cl (size_o X A hI i _ (H7.tk [0])) ?_
  rintro _ wq8 ⟨rfl,H9⟩
  replace H9:S _ [_,_,_,_]:=H7.abI (new:=[_]) [0] H9 rfl
  have hsz9:=size_le hI i
  refine b_ret rfl rfl ?_
  refine a_k H9 ?_
  refine a_take (v:=.int .i64 ((A.size i:Int) - ((16 * q:Nat):Int))) 7 rfl (wt0 rfl) rfl rfl rfl (by kernel_rfl) (by kernel_rfl) (by kernel_rfl) (by kernel_rfl) H9 (fun wx H=>x_bin rfl rfl rfl (b_sub (w64 (by omega)))) ?_
  refine a_take (v:=.int .i64 (min 16 ((A.size i:Int) - ((16 * q:Nat):Int)))) 8 rfl (wt0 rfl) rfl rfl rfl (by kernel_rfl) (by kernel_rfl) (by kernel_rfl) (by kernel_rfl) H9 (fun wx H=>x_min rfl rfl rfl) ?_
  refine a_take (v:=.agg #[.int .i64 i,.int .i64 (((16 * q:Nat):Int)),.int .i64 (min 16 ((A.size i:Int) - ((16 * q:Nat):Int)))]) 9 rfl (wt0 rfl) rfl rfl rfl (by kernel_rfl) (by kernel_rfl) (by kernel_rfl) (by kernel_rfl) H9 (fun wx H=>x_build (vs:=[.int .i64 i,.int .i64 (((16 * q:Nat):Int)),.int .i64 (min 16 ((A.size i:Int) - ((16 * q:Nat):Int)))]) rfl rfl (cells:=#[.int .i64 i,.int .i64 (((16 * q:Nat):Int)),.int .i64 (min 16 ((A.size i:Int) - ((16 * q:Nat):Int)))]) (by kernel_rfl)) ?_
  refine a_done (by kernel_rfl) ?_
  refine bar_in (fun k9=>?_)
  refine r_one (i:=10) (by kernel_rfl) ?_
  have H10:S _ [_,_,_]:=S.noI (S.big (L:=[_,_,_]) (H9.tk [1,2,0,3]))
  refine r_yield rfl (wt0 rfl) rfl rfl rfl rfl rfl (hY ((A.blocks i).take q) (blkQ i (A.size i) q) wq8 _ C1 hJq ⟨q,rfl,blkL_at (by omega)⟩ H10) ?_
  rintro _ wq12 (⟨rfl,C9,hJ9,H11⟩ | ⟨rfl,C9,hJx9,H11⟩)
  ·
   refine ⟨_,rfl,?_⟩
   have H13:S _ [_,_,_,_]:=S.unbig ((H11).tk [0,2])
   refine r_one (i:=11) (by kernel_rfl) ?_
   refine r_of rfl rfl (pan_lets hL) ?_
   refine s_v (v:=.bool false) (x_not (b:=true) rfl rfl) ?_
   refine r_done (by kernel_rfl) ?_
   refine pan_nrm ?_
   refine w_0 ?_
   refine g_wk [(0,_),(1,_),(2,_),(4,_),(23,_)] ?_
   refine R.g_cond_f rfl rfl ?_
   refine R.g_skip ?_
   refine w_k2 ?_
   refine R.g_region ?_
   refine R.w_v (fun h=>hL h) xm ?_
   refine R.w_v (fun h=>hL h) (v:=.int .i64 (((16 * (q+1):Nat):Int))) (x_bin rfl rfl rfl (b_add (by rw [w64 (by omega)]; omega))) ?_
   refine R.w_v (fun h=>hL h) xa ?_
   refine R.g_nil ?_
   refine w_0 ?_
   refine g_rd (i:=(q,C1)) ((q+1),C9) ⟨(by omega),(by rw [take_snocL (show (A.blocks i)[q]?=some (blkQ i (A.size i) q) from blkL_at (by omega))]; exact hJ9),(H13.tk [0,1,2,3])⟩
  ·
   refine ⟨_,rfl,?_⟩
   have H14:S _ [_,_,_,_]:=S.unbig ((H11).tk [0,2])
   refine r_one (i:=11) (by kernel_rfl) ?_
   refine r_of rfl rfl (pan_lets hL) ?_
   refine s_v (v:=.bool true) (x_not (b:=false) rfl rfl) ?_
   refine r_done (by kernel_rfl) ?_
   refine pan_nrm ?_
   refine w_0 ?_
   refine g_wk [(0,_),(1,_),(2,_),(4,_),(23,_)] ?_
   refine R.g_cond_t rfl rfl ?_
   refine R.g_ret ?_
   refine w_k4 ?_
   refine fin_ret [] [] rfl trivial ?_
   exact ⟨⟨_,rfl⟩,.inr ⟨_,_,trivial,hJx9,(S.big (L:=[_,_,_]) (H14.tk [0,1,2,3]))⟩⟩
 ·
  refine R.g_cond_f rfl (decide_eq_false hb5) ?_
  refine R.g_exit ?_
  refine w_k3 ?_
  refine fin_end [] [] rfl trivial ?_
  rw [List.take_of_length_le (show (A.blocks i).length≤q by unfold PK.blocks; rw [blkL_len]; omega)] at hJq
  exact ⟨⟨_,rfl⟩,.inl ⟨_,_,rfl,hJq,(S.big (L:=[_,_,_]) (H4.tk [1,2,0,3]))⟩⟩
end Go.Proofs.YthmmfhdpkddniaaGreatDoor
