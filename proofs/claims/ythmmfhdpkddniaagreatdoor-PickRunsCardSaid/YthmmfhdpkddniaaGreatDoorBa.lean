import Derived.Test.YthmmfhdpkddniaaGreatDoorSj
set_option linter.all false
namespace Go.Proofs.YthmmfhdpkddniaaGreatDoor
open Go.RowKit
theorem NF {r r':Option Nat} {m m':Nat} {P:Program} {l:Nat} {g:FuncId} {tmps:Array Value} {assign body:Code} {w:World} {R:Ending→World→Prop} (h:RoundIn (WF r) m P l g tmps assign body w R):RoundIn (WF r') m' P l g tmps assign body w R:=
 ⟨trivial,fun c cs _=>let ⟨e,w',q,s⟩:=h.2 c cs (room_wide _); ⟨e,w',q,comesIn_wide.2 (comesIn_wide.1 s)⟩⟩
theorem E7 {r r':Option Nat} {m m':Nat} {P:Program} {l:Nat} {args:Array Value} {w:World} {R:Ending→World→Prop} (h:YieldAt (WF r) m P l args w R):YieldAt (WF r') m' P l args w R:=by
 obtain ⟨fn,tmps,assign,body,hy,hR⟩:=h
 exact ⟨fn,tmps,assign,body,hy,NF hR⟩
def CJ {α:Type} (J:List α→List aD→Prop) (Jx:Code→List α→List aD→Prop) (base I K:aD) (xs:List α):Exit→Act→World→Prop
 | .normal,_,W=>∃ Lx,J xs Lx∧S W (base :: I :: K :: Lx)
 | .ret,_,W=>∃ Lx,Jx .ret xs Lx∧S W (base :: I :: K :: Lx)
 | .exit i,_,W=>∃ Lx,Jx (.exit i) xs Lx∧S W (base :: I :: K :: Lx)
 | _,_,_=>False
section
variable {P:Program} {N:Nat} {Q:Exit→Act→World→Prop} {f:Fr} {ds:List Deferred} {w:World} {n:Nat} {ops:Array Oper} {rest:List Oper} {o:Oper} {L:List aD} {r:Option Nat} {md:Region.Mode} {listed:Array Bool} {fuel:Nat} {K:Act→World→Prop}
theorem fb {α:Type} {J:List α→List aD→Prop} {Jx:Code→List α→List aD→Prop} {base I K:aD} {xs:List α} {Lx:List aD} (hJ:J xs Lx) (H:S w (base :: I :: K :: Lx)):G N (CJ J Jx base I K xs .normal) f ds w:=fun _ _=>⟨Lx,hJ,H⟩
theorem wv {α:Type} {J:List α→List aD→Prop} {Jx:Code→List α→List aD→Prop} {base I K:aD} {xs:List α} {Lx:List aD} (hJ:Jx .ret xs Lx) (H:S w (base :: I :: K :: Lx)):G N (CJ J Jx base I K xs .ret) f ds w:=fun _ _=>⟨Lx,hJ,H⟩
theorem zX (h:G N (Q .ret) f ds w):G N (Code.ret.wpIn (WF r) n P Q) f ds w:=fun a ha=>wpIn_ret (h a ha)
theorem GZ (hr:Region.ready md ops listed=[]) (h:G N (Q .normal) f ds w):G N (wpAnyIn (WF r) n P md ops Q fuel listed) f ds w:=fun a ha=>wpAnyIn_done hr (h a ha) fuel
def PP (r:Option Nat) (n:Nat) (P:Program) (ops:Array Oper) (Q:Exit→Act→World→Prop) (i:Nat) (K:Act→World→Prop):Act→World→Prop:=fun a w=>wpOpIn (WF r) n P ops Q i K a w
theorem GF {i:Nat} (hr:Region.ready md ops listed=[i]) (h:G N (PP r n P ops Q i (wpAnyIn (WF r) n P md ops Q fuel (listed.setIfInBounds i true))) f ds w):G N (wpAnyIn (WF r) n P md ops Q (fuel+1) listed) f ds w:=fun a ha =>
 wpAnyIn_all hr (by simp) fun k hk=>by
   rw [List.mem_singleton] at hk; subst hk; exact h a ha
theorem PV {i:Nat} (hi:ops[i]?=some o) (hd:iP o=false) (hL:¬ LetsOut Q) (h:G N (bH P ops Q o K) f ds w):G N (PP r n P ops Q i K) f ds w:=fun a ha=>by
 have h1:=h a ha
 unfold bH at h1
 unfold PP wpOpIn
 rw [hi]
 simp only
 split
 · rename_i hw
   rw [if_pos hw] at h1
   rcases h1 with h1 | ⟨_,h1⟩
   · exact vB hd h1
   · exact absurd h1 hL
 · rename_i hw
   rw [if_neg hw] at h1
   exact ⟨fun _ _=>trivial,h1⟩
theorem J_ {d l i m:Nat} {x:Operand} {args:Array Operand} {ts:Array TypeId} {vs:List Value} {R':Ending→World→Prop} (hi:ops[i]?=some o) (hw:Wt ops f o) (hd:o.dst=some d) (hN:Nat.blt d N=true) (ho:o.op=.call { callee:=.value x,args:=args,argTypes:=ts }) (hx:cy f x=some (.func (.yield l) #[] #[])) (hv:rj f args.toList=some vs)
   (hY:YieldAt (WF none) m P l vs.toArray w R') (h:∀ e w',R' e w'→∃ v,e=.returned v∧G N K ((d,v) :: f) ds w'):G N (PP r n P ops Q i K) f ds w:=fun a ha=>by
 have hdf:iP o=false:=by unfold iP; rw [ho]
 unfold PP wpOpIn
 rw [hi]
 simp only
 rw [if_pos (hw.wanted ha)]
 refine ⟨fun _ _=>trivial,?_⟩
 rw [Oper.semAt_eq _ _ _ (uD hdf)]
 obtain ⟨fn,tmps,assign,body,hy,hR⟩:=E7 (r':=r) (m':=n - 1) hY
 have he:args.map a.eval=vs.toArray:=ha.evalsA hv
 have hrun:(execOp a.eval o).run P w=.ok (.round l fn tmps assign body) w:=by
   unfold execOp
   simp only [ho,resolve,ha.eval hx,Deferred.ofValue,Sem.run_bind,Sem.run_pure,Result.andThen_ok,invoke,he]
   simpa using hy
 rw [hrun,Oper.uponIn_round]
 refine ⟨(fun h0=>by cases h0),hR.mono fun e w' hr=>?_⟩
 obtain ⟨v,rfl,hg⟩:=h e w' hr
 show K (a.put o.dst v) w'
 rw [hd]
 exact hg _ (ha.put d hN v)
theorem jg {α ι:Type} {x:Operand} {ps:Array Tmp} {assign body:Code} {gf:Nat} {lb:Array Value} {encs:α→Array Value} {base I0:aD} {Φ:List α→α→aD→Prop} {Ok:List α→World→Prop} {S' Sp:List α→Prop} {L0:List aD}
   (hn:1≤n) (hx:cy f x=some (.func (.func gf) #[] lb)) (hc:aI P gf=true) (hit:MI (n - 1) P gf lb encs base Φ Ok S' Sp I0)
   (hps:∀ x,(encs x).size=ps.size) (hpN:(ps.toList.all fun p=>Nat.blt p N)=true) (J:List α→List aD→Prop) (Jx:Code→List α→List aD→Prop) (FA:α→ι→Fr) (LA:α→ι→List aD) (hOk:∀ pre Lx W,J pre Lx→S W Lx→Ok pre W) (h0:J [] L0) (H:S w (base :: I0 :: L0))
   (hassign:∀ (l:Nat) (x:α) (Lx:List aD) (W:World),S W Lx→G N (assign.wpIn (WF (some l)) (n - 1 - 1) P (Exit.then (EQ N (FA x) (LA x) Lx) (fun _ _ _=>False))) (PE ps.toList (encs x).toList f) [] W)
   (hbody:∀ (l:Nat) (pre:List α) (x:α) (i:ι) (I K:aD) (Lx:List aD) (W:World),J pre Lx→Φ pre x I→S W (base :: I :: K :: fN (LA x i) :: Lx)→G N (body.wpIn (WF (some l)) (n - 1 - 1) P (CJ J Jx base I K (pre++[x]))) (FA x i) [] W)
   (hdone:∀ (D:Nat) (xs:List α) (Lx:List aD) (W:World),S' xs→J xs Lx→S W (Ob D (.deferred (some [])) :: base :: Lx)→G N (Q .normal) f (vX D :: ds) W)
   (hstop:∀ (D:Nat) (c:Code) (pre:List α) (Lx:List aD) (W:World),Sp pre→Jx c pre Lx→S W (Ob D (.deferred (some [])) :: base :: Lx)→G N (c.wpIn (WF none) n P Q) f (vX D :: ds) W) :
   G N ((Code.rangeFunc x ps assign body).wpIn (WF none) n P Q) f ds w:=fun a ha=>by
 refine wpIn_rangeFunc ?_
 intro fn hfn
 obtain ⟨rec,hrec⟩:∃ rec:LoopState→Option Code→Loop,rec=fun st pe=>{ state:=st,pending:=pe,fn,tmps:=a.tmps,params:=ps,assign,body,defers:=w.heap.size }:=⟨_,rfl⟩
 have HW:=(H.alloc (.deferred (some []))).alloc (.loop (rec .ready none))
 rw [World.size_alloc] at HW
 let D:=w.heap.size
 let dI:=Ob D (.deferred (some []))
 let lI:=fun st pe=>Ob (D+1) (.loop (rec st pe))
 have HC:S ((w.alloc (.deferred (some []))).alloc (.loop (rec .ready none))) [base,I0,fN (dI :: lI .ready none :: L0)]:=by
   have h1:S ((w.alloc (.deferred (some []))).alloc (.loop (rec .ready none))) ((dI :: lI .ready none :: L0)++[base,I0]):=HW.perm (by
     refine List.Perm.trans (List.Perm.swap ..) ?_
     simp only [List.cons_append]
     refine .cons _ (.cons _ ?_)
     exact (List.perm_append_comm (l₁:=[base,I0]) (l₂:=L0)))
   exact h1.big.perm (List.perm_append_comm (l₁:=[_]) (l₂:=[base,I0]))
 obtain ⟨W1,hW1⟩:∃ W1,W1=(w.alloc (.deferred (some []))).alloc (.loop (rec .ready none)):=⟨_,rfl⟩
 rw [← hW1] at HC
 refine ⟨D+1,[vX D],W1,{ target:=.fn (.func gf) lb,args:=#[.func (.yield (D+1)) #[] #[]] },W1,gf,#[.func (.yield (D+1)) #[] #[]]++lb,W1,?_,?_,?_,?_,fun _=>hn,?_⟩
 · rw [hW1,hrec]; exact run_enterLoop_outer _ _ _ _ _
 · simp only [resolve,ha.eval hx]
   simp [go_sem]
 · intro f' hf'; simp [Target.leads] at hf'; subst hf'; trivial
 · simp [invoke,go_sem,jV hc]
 have eqK:∀ {W:World} {I:aD} {st:LoopState} {pe:Option Code} {Lx:List aD},S W [base,I,fN (dI :: lI st pe :: Lx)]→S W (base :: I :: fN [dI,lI st pe] :: Lx):=fun {W I st pe Lx} h=>by
   have h1:=(h.perm (List.perm_append_comm (l₁:=[base,I]) (l₂:=[_]))).unbig
   have h2:S W ([dI,lI st pe]++(Lx++[base,I])):=h1
   refine h2.big.perm ?_
   have:(fN [dI,lI st pe] :: (Lx++[base,I])).Perm ([base,I]++(fN [dI,lI st pe] :: Lx)):=List.perm_append_comm (l₁:=fN [dI,lI st pe] :: Lx) (l₂:=[base,I])
   exact this
 have eqK':∀ {W:World} {I:aD} {st:LoopState} {pe:Option Code} {Lx:List aD},S W (base :: I :: fN [dI,lI st pe] :: Lx)→S W [base,I,fN (dI :: lI st pe :: Lx)]:=fun {W I st pe Lx} h=>by
   have h1:S W (fN [dI,lI st pe] :: (Lx++[base,I])):=h.perm (List.perm_append_comm (l₁:=[base,I]) (l₂:=fN [dI,lI st pe] :: Lx))
   have h2:S W ((dI :: lI st pe :: Lx)++[base,I]):=h1.unbig
   exact h2.big.perm (List.perm_append_comm (l₁:=[_]) (l₂:=[base,I]))
 have eqO:∀ {W:World} {I:aD} {st:LoopState} {pe:Option Code} {Lx:List aD},S W (base :: I :: fN [dI,lI st pe] :: Lx)→S W (lI st pe :: (dI :: Lx++[base,I])):=fun {W I st pe Lx} h=>by
   have h1:S W (fN [dI,lI st pe] :: (Lx++[base,I])):=h.perm (List.perm_append_comm (l₁:=[base,I]) (l₂:=fN [dI,lI st pe] :: Lx))
   exact h1.unbig.perm (List.Perm.swap ..)
 have eqO':∀ {W:World} {I:aD} {st:LoopState} {pe:Option Code} {Lx:List aD},S W (lI st pe :: (dI :: Lx++[base,I]))→S W (base :: I :: fN [dI,lI st pe] :: Lx):=fun {W I st pe Lx} h=>by
   have h1:S W ([dI,lI st pe]++(Lx++[base,I])):=h.perm (List.Perm.swap ..)
   exact h1.big.perm (List.perm_append_comm (l₁:=fN [dI,lI st pe] :: Lx) (l₂:=[base,I]))
 refine (hit (D+1) (fun pre C=>∃ Lx,C=fN (dI :: lI .ready none :: Lx)∧J pre Lx) (fun pre C=>∃ c Lx,C=fN (dI :: lI .done (some c) :: Lx)∧Jx c pre Lx) _ _ (fun pre C W h hC=>by obtain ⟨Lx,rfl,h⟩:=h; exact hOk pre Lx W h (show S W _ from hC).tail.tail) ?_ ⟨L0,rfl,h0⟩ HC).mono ?_
 · rintro pre x W I C ⟨Lx,rfl,hJ⟩ hΦ hS
   have hS1:=eqK hS
   have hl:W.heap[D+1]?=some (.loop (rec .ready none)):=(eqO hS1).ob (k:=0) rfl
   have hy:=run_yield (P:=P) (args:=encs x) hl (by rw [hrec]; exact hps x)
   rw [hrec] at hy
   refine ⟨fn,_,assign,body,hy,roundIn_of_wpIn hfn ?_⟩
   refine wpIn_mono (hassign _ x _ W hS1 _ (ha.putA hpN (hps x))) (fun e a' W' h=>?_)
   cases e with
   | normal =>
     obtain ⟨i,k1,H2⟩:=h
     have k2:S W' (base :: I :: fN [dI,lI .ready none] :: fN (LA x i) :: Lx):=by
       have h7:=H2.big
       refine h7.perm ?_
       refine (List.Perm.swap ..).trans (.cons _ ((List.Perm.swap ..).trans (.cons _ (List.Perm.swap ..))))
     have H4:W'.heap[D+1]?=some (.loop (rec .ready none)):=(eqO k2).ob (k:=0) rfl
     refine ⟨_,run_beginRound H4 (by rw [hrec]),?_⟩
     have hb:S (W'.putObj (D+1) (.loop { rec .ready none with state:=.busy })) (base :: I :: fN [dI,lI .busy none] :: fN (LA x i) :: Lx):=by
       have:=(eqO k2).putObj (k:=0) (D:=D+1) (o':=.loop { rec .ready none with state:=.busy }) rfl
       refine eqO' ?_
       subst hrec
       exact this
     refine wpIn_mono (hbody _ pre x i I _ Lx _ hJ hΦ hb a' k1) (fun e a3 W3 hp=>?_)
     have fin:∀ (jump:Option Code) (Ly:List aD),S W3 (base :: I :: fN [dI,lI .busy none] :: Ly) →
         ∃ W4,(Instr.endRound (D+1) jump).run P W3=.ok (.bool jump.isNone) W4∧S W4 [base,I,fN (dI :: lI (if jump.isNone then .ready else .done) jump :: Ly)]:=fun jump Ly h3=>by
       have H3:W3.heap[D+1]?=some (.loop (rec .busy none)):=(eqO h3).ob (k:=0) rfl
       refine ⟨_,run_endRound (P:=P) jump H3,eqK' (eqO' ?_)⟩
       have:=(eqO h3).putObj (k:=0) (D:=D+1) (o':=.loop { rec .busy none with state:=if jump.isNone then .ready else .done,pending:=jump }) rfl
       subst hrec
       exact this
     cases e with
     | normal =>
       obtain ⟨Ly,j1,j2⟩:=hp
       obtain ⟨W4,r1,r2⟩:=fin none Ly j2
       exact ⟨_,_,r1,.inl ⟨rfl,_,⟨Ly,rfl,j1⟩,r2⟩⟩
     | ret =>
       obtain ⟨Ly,j1,j2⟩:=hp
       obtain ⟨W4,r1,r2⟩:=fin (some .ret) Ly j2
       exact ⟨_,_,r1,.inr ⟨rfl,_,⟨.ret,Ly,rfl,j1⟩,r2⟩⟩
     | exit i9 =>
       obtain ⟨Ly,j1,j2⟩:=hp
       obtain ⟨W4,r1,r2⟩:=fin (some (.exit i9)) Ly j2
       exact ⟨_,_,r1,.inr ⟨rfl,_,⟨.exit i9,Ly,rfl,j1⟩,r2⟩⟩
     | _=>exact hp.elim
   | _=>exact h.elim
 have unC:∀ {W:World} {st:LoopState} {pe:Option Code} {Lx:List aD},S W [base,fN (dI :: lI st pe :: Lx)]→S W (lI st pe :: dI :: base :: Lx):=fun {W st pe Lx} h=>by
   have h1:=(h.perm (List.perm_append_comm (l₁:=[base]) (l₂:=[_]))).unbig
   have h2:S W (dI :: lI st pe :: (Lx++[base])):=h1
   refine h2.perm ((List.Perm.swap ..).trans (.cons _ (.cons _ ?_)))
   exact List.perm_append_comm (l₁:=Lx) (l₂:=[base])
 rintro e W2 ⟨⟨v,rfl⟩,(⟨xs,C,hS,⟨Lx,rfl,hJ⟩,hC⟩ | ⟨pre,C,hS,⟨c,Lx,rfl,hJ⟩,hC⟩)⟩
 · have h1:=unC hC
   have hl:=h1.ob (k:=0) (o:=.loop (rec .ready none)) rfl
   refine ⟨none,_,by have:=run_endLoop (P:=P) hl (by rw [hrec]; simp); rw [hrec] at this; exact this,?_⟩
   exact hdone D xs Lx _ hS hJ (h1.putObj (k:=0) rfl).tail _ ⟨ha.size,ha.get,by rw [← ha.defers]; rfl⟩
 have h1:=unC hC
 have hl:=h1.ob (k:=0) (o:=.loop (rec .done (some c))) rfl
 refine ⟨some c,_,by have:=run_endLoop (P:=P) hl (by rw [hrec]; simp); rw [hrec] at this; exact this,?_⟩
 exact hstop D c pre Lx _ hS hJ (h1.putObj (k:=0) rfl).tail _ ⟨ha.size,ha.get,by rw [← ha.defers]; rfl⟩
end
def wJ (e:Edge):Bool:=Region.binds .any e
def DL (l:List Oper) (y:Nat):Bool:=
 decide (y<l.length) && (l.take y).all (fun o=>o.guard.isNone)
 && (List.range y).all (fun i=>match l[i]? with | some o=>o.after.toList.all (fun e=>!wJ e || decide (e.on<i)) | none=>false)
 && (List.range l.length).all (fun i=>decide (i≤y) || match l[i]? with | some o=>o.after.toList.any (fun e=>wJ e && decide (y≤e.on) && decide (e.on<i)) | none=>false)
 && (List.range y).all (fun i=>(List.range (y+1)).any (fun k=>decide (i<k) && match l[k]? with | some o=>o.after.toList.any (fun e=>wJ e && decide (e.on=i)) | none=>false))
def PI (N:Nat) (r:Option Nat) (n:Nat) (P:Program) (ops:Array Oper) (f0:Fr) (ds:List Deferred) (m:Nat) (L:Array Bool) (Q:Exit→Act→World→Prop):Exit→Act→World→Prop
 | .normal,a,w=>∀ k,wpAnyIn (WF r) n P .any ops (cR N f0 ds Q) (k+m) L a w
 | e,a,w=>Q e a w
theorem MY {N:Nat} {r:Option Nat} {n:Nat} {P:Program} {ops:Array Oper} {f0:Fr} {ds:List Deferred} {m:Nat} {L:Array Bool} {Q:Exit→Act→World→Prop} {o:Oper} {a:Act} {w:World} {K:Act→World→Prop} (h:o.wp P a w K (cR N f0 ds (PI N r n P ops f0 ds m L Q))):o.wp P a w K (cR N f0 ds Q):=by
 unfold Oper.wp at h ⊢
 generalize (execOp a.eval o).run P w=res at h ⊢
 cases res with
 | ok x w'=>cases x <;> exact h
 | halt x w'=>cases x <;> exact h
theorem B0 {N:Nat} {r:Option Nat} {n:Nat} {P:Program} {ops:Array Oper} {f0:Fr} {ds:List Deferred} {m:Nat} {L:Array Bool} {Q:Exit→Act→World→Prop} (hL:¬ LetsOut Q):¬ LetsOut (cR N f0 ds (PI N r n P ops f0 ds m L Q)):=fun ⟨a,w,h⟩=>hL ⟨a,w,h⟩
theorem LZ {N:Nat} {r:Option Nat} {n:Nat} {P:Program} {l:List Oper} {f0:Fr} {ds:List Deferred} {y m:Nat} {Q:Exit→Act→World→Prop} {L:Array Bool} (hok:DL l y=true) (hd:∀ o∈l,iP o=false) (hL:¬ LetsOut Q) (hLs:L.size=l.length)
   (hLt:∀ i,i<y→L.getD i false=true) (hLf:∀ i,y≤i→i<l.length→L.getD i true=false) :
   ∀ (fuel:Nat) (listed:Array Bool) (a:Act) (w:World),listed.size=l.length→(∀ i,y≤i→i<l.length→listed.getD i true=false)
     → (∀ (i:Nat) (o:Oper),l[i]?=some o→listed.getD i false=true→∀ e∈o.after,wJ e=true→listed.getD e.on false=true)
     → wpAny P .any (l.take y).toArray (cR N f0 ds (PI N r n P l.toArray f0 ds m L Q)) fuel listed a w→wpAnyIn (WF r) n P .any l.toArray (cR N f0 ds Q) (fuel+m) listed a w:=by
 unfold DL at hok
 simp only [Bool.and_eq_true,decide_eq_true_eq] at hok
 obtain ⟨⟨⟨⟨hy,hg⟩,hlo⟩,hup⟩,hch⟩:=hok
 rw [List.all_eq_true] at hg hlo hup hch
 have hX:∀ i,i<y→(l.take y).toArray[i]?=l[i]?:=fun i hi=>by rw [List.getElem?_toArray,List.getElem?_take_of_lt hi]
 have hXn:∀ i,y≤i→(l.take y).toArray[i]?=none:=fun i hi=>by
   rw [List.getElem?_toArray]; exact List.getElem?_eq_none (by rw [List.length_take]; omega)
 have hO:∀ i,l.toArray[i]?=l[i]?:=fun i=>List.getElem?_toArray
 have tf:∀ (s:Array Bool) (i:Nat),i<s.size→s.getD i true=s.getD i false:=fun s i h=>by simp [h]
 -- all that comes ahead is listed: the array is L
 have isL:∀ listed:Array Bool,listed.size=l.length→(∀ i,y≤i→i<l.length→listed.getD i true=false)→(∀ i,i<y→listed.getD i false=true)→listed=L:=fun listed hs hf ht=>by
   refine Array.ext (by omega) fun i h1 h2=>?_
   have e1:listed.getD i true=listed[i]:=by simp [h1]
   have e2:L.getD i true=L[i]:=by simp [h2]
   rw [← e1,← e2]
   by_cases hi:i<y
   · rw [tf listed i h1,tf L i h2,ht i hi,hLt i hi]
   · rw [hf i (by omega) (by omega),hLf i (by omega) (by omega)]
 -- what is not listed: its first is ready
 have first:∀ listed:Array Bool,listed.size=l.length→(∃ i,i<y∧listed.getD i false=false)→∃ i,i<y∧i∈Region.ready .any (l.take y).toArray listed:=fun listed hs=>by
   rintro ⟨i,hi,hf⟩
   induction i using Nat.strongRecOn with
   | ind i ih =>
     by_cases hq:∃ j,j<i∧listed.getD j false=false
     · obtain ⟨j,hj,hjf⟩:=hq
       exact ih j hj (by omega) hjf
     · refine ⟨i,hi,mem_ready.2 ⟨by rw [tf _ _ (by omega)]; exact hf,l[i]'(by omega),by rw [hX i hi]; exact List.getElem?_eq_getElem _,fun e he hb=>?_⟩⟩
       have h1:=hlo i (List.mem_range.2 hi)
       rw [List.getElem?_eq_getElem (by omega)] at h1
       have h2:=List.all_eq_true.1 h1 e (by simpa using he)
       have hb':wJ e=true:=hb
       rw [hb'] at h2
       have h3:e.on<i:=by simpa using h2
       cases H2:listed.getD e.on false with
       | true=>rfl
       | false=>exact absurd ⟨e.on,h3,H2⟩ hq
 intro fuel
 induction fuel with
 | zero =>
   intro listed a w hs hf hc h
   have hall:∀ i,i<y→listed.getD i false=true:=fun i hi=>by
     cases hq:listed.getD i false with
     | true=>rfl
     | false =>
       obtain ⟨j,_,hj⟩:=first listed hs ⟨i,hi,hq⟩
       rw [h.1] at hj; cases hj
   rw [isL listed hs hf hall]
   exact h.2 0
 | succ fuel ih =>
   intro listed a w hs hf hc h
   by_cases hall:∀ i,i<y→listed.getD i false=true
   · have hr:Region.ready .any (l.take y).toArray listed=[]:=by
       refine List.eq_nil_iff_forall_not_mem.2 fun j hj=>?_
       obtain ⟨h1,o,ho,_⟩:=mem_ready.1 hj
       by_cases hjy:j<y
       · rw [tf _ _ (by omega),hall j hjy] at h1; cases h1
       · rw [hXn j (by omega)] at ho; cases ho
     rw [isL listed hs hf hall]
     exact h.1 hr (fuel+1)
   have hex:∃ i,i<y∧listed.getD i false=false:=by
     refine Classical.byContradiction fun h0=>hall fun i hi=>?_
     cases hq:listed.getD i false with
     | true=>rfl
     | false=>exact absurd ⟨i,hi,hq⟩ h0
   obtain ⟨i0,hi0,hr0⟩:=first listed hs hex
   have up:∀ i,i∈Region.ready .any (l.take y).toArray listed→i∈Region.ready .any l.toArray listed:=fun i hi=>by
     obtain ⟨h1,o,ho,h2⟩:=mem_ready.1 hi
     have hiy:i<y:=by
       rcases Nat.lt_or_ge i y with q | q
       · exact q
       · rw [hXn i q] at ho; cases ho
     exact mem_ready.2 ⟨h1,o,by rw [hO,← hX i hiy]; exact ho,h2⟩
   rw [show fuel+1+m=(fuel+m)+1 from by omega]
   refine ⟨fun h0=>absurd (up i0 hr0) (by rw [h0]; simp),fun i hi=>?_⟩
   obtain ⟨h1,o,ho,h2⟩:=mem_ready.1 hi
   rw [hO] at ho
   have hil:i<l.length:=(List.getElem?_eq_some_iff.1 ho).1
   have hiy:i<y:=by
     rcases Nat.lt_or_ge i y with q | q
     · exact q
     · exfalso
       rcases Nat.lt_or_eq_of_le q with q | q
       · have h3:=hup i (List.mem_range.2 hil)
         rw [decide_eq_false (by omega),Bool.false_or,ho] at h3
         obtain ⟨e,he,h4⟩:=List.any_eq_true.1 h3
         simp only [Bool.and_eq_true,decide_eq_true_eq] at h4
         have h5:=h2 e (by simpa using he) h4.1.1
         have h6:=hf e.on h4.1.2 (by omega)
         rw [tf _ _ (by omega),h5] at h6; cases h6
       subst q
       have dn:∀ d i,y - i=d→i<y→listed.getD i false=true:=fun d=>by
         induction d using Nat.strongRecOn with
         | ind d ihd =>
           intro j hd2 hj
           have h3:=hch j (List.mem_range.2 hj)
           obtain ⟨k,hk,h4⟩:=List.any_eq_true.1 h3
           simp only [Bool.and_eq_true,decide_eq_true_eq] at h4
           have hk:=List.mem_range.1 hk
           cases hlk:l[k]? with
           | none=>rw [hlk] at h4; exact absurd h4.2 Bool.false_ne_true
           | some ok =>
             rw [hlk] at h4
             obtain ⟨e,he,h5⟩:=List.any_eq_true.1 h4.2
             simp only [Bool.and_eq_true,decide_eq_true_eq] at h5
             rcases Nat.lt_or_eq_of_le (show k≤y by omega) with hky | hky
             · have:=hc k ok hlk (ihd (y - k) (by omega) k rfl hky) e (by simpa using he) h5.1
               rwa [h5.2] at this
             · subst hky
               rw [hlk] at ho; cases ho
               have:=h2 e (by simpa using he) h5.1
               rwa [h5.2] at this
       exact hall fun j hj=>dn _ j rfl hj
   have hiX:i∈Region.ready .any (l.take y).toArray listed:=mem_ready.2 ⟨h1,o,by rw [hX i hiy]; exact ho,h2⟩
   have h3:=h.2 i hiX
   unfold wpOp at h3
   rw [hX i hiy,ho] at h3
   unfold wpOpIn
   rw [hO,ho]
   simp only at h3 ⊢
   have hgo:o.guard=none:=by
     have:=hg o (List.mem_of_getElem? (by rw [List.getElem?_take_of_lt hiy]; exact ho))
     cases hq:o.guard with
     | none=>rfl
     | some x=>rw [hq] at this; cases this
   have hw1:∀ t,Region.wanted o t=true:=fun t=>by unfold Region.wanted; rw [hgo]
   rw [if_pos (hw1 _)] at h3
   rw [if_pos (hw1 _)]
   have nxt:∀ a w,wpAny P .any (l.take y).toArray (cR N f0 ds (PI N r n P l.toArray f0 ds m L Q)) fuel (listed.setIfInBounds i true) a w→wpAnyIn (WF r) n P .any l.toArray (cR N f0 ds Q) (fuel+m) (listed.setIfInBounds i true) a w:=fun a w h4=>by
     refine ih _ a w (by rw [Array.size_setIfInBounds]; exact hs) (fun j h5 h6=>by rw [getD_set_ne true (by omega)]; exact hf j h5 h6) (fun j oj hj hjt e he hb=>?_) h4
     by_cases hij:i=j
     · subst hij
       rw [ho] at hj; cases hj
       exact getD_set_true (h2 e he hb)
     · rw [getD_set_ne false hij] at hjt
       exact getD_set_true (hc j oj hj hjt e he hb)
   rcases h3 with h3 | ⟨_,h3⟩
   · exact Oper.wpIn_mono nxt (vB (hd o (List.mem_of_getElem? ho)) (MY h3))
   exact absurd h3 (B0 hL)
def Gw (y m:Nat):Array Bool:=(List.replicate y true++List.replicate m false).toArray
section
variable {P:Program} {N:Nat} {Q:Exit→Act→World→Prop} {f:Fr} {ds:List Deferred} {w:World} {r:Option Nat} {n:Nat}
theorem R.g_bar {id:Nat} {l:List Oper} {L:List aD} (y m:Nat) (f0:Fr) (C:World→Prop) (T:List Nat) (hm:P.follows .mixedOrders=true) (hd:uc l=true) (hL:¬ LetsOut Q) (hok:DL l y=true) (hym:l.length=y+m) (H:S w L)
   (h:∀ w,S w L→G N (cF P .any (l.take y).toArray (cR N f0 ds (PI N r n P l.toArray f0 ds m (Gw y m) Q)) C T y (Array.replicate l.length false)) f ds w):G N ((Code.region id l.toArray true).wpIn (WF r) n P Q) f ds w:=fun a ha=>by
 refine wpIn_mono (Q:=cR N f0 ds Q) (wpIn_region_any hm ?_) (fun e a w h=>by cases e <;> first | exact h | exact h.2 _ h.1)
 have h1:=oS _ _ _ _ (h _ (H.drawn (w.drawn+1) (Nat.le_succ _)) a ha)
 have hdl:∀ o∈l,iP o=false:=fun o ho=>by simpa using List.all_eq_true.1 hd o ho
 have hys:y<l.length:=by
   unfold DL at hok
   simp only [Bool.and_eq_true,decide_eq_true_eq] at hok
   exact hok.1.1.1.1
 have hgd:∀ (i:Nat) (d:Bool),(Gw y m).getD i d=if i<y then true else if i<y+m then false else d:=fun i d=>by
   unfold Gw
   by_cases h1:i<y
   · rw [if_pos h1]; simp [List.getElem?_append_left,h1]
   · rw [if_neg h1]
     by_cases h2:i<y+m
     · rw [if_pos h2]
       have:i - y<m:=by omega
       simp [List.getElem?_append_right,h1,this,Nat.not_lt.1 h1]
     rw [if_neg h2]
     simp [h2]
 have h2:=LZ (m:=m) (L:=Gw y m) hok hdl hL (by unfold Gw; simp [hym]) (fun i hi=>by rw [hgd,if_pos hi]) (fun i hi hi2=>by rw [hgd,if_neg (by omega),if_pos (by omega)]) y (Array.replicate l.length false) a _ (by simp) (fun i _ hi=>by simp [hi]) (fun i o _ h0=>by
   have:(Array.replicate l.length false).getD i false=false:=by
     by_cases hi:i<l.length
     · simp [hi]
     · simp [hi]
   rw [this] at h0; cases h0) h1
 rw [← hym] at h2
 simpa using h2
theorem R.g_any {id:Nat} {l:List Oper} {L:List aD} (f0:Fr) (C:World→Prop) (T:List Nat) (hm:P.follows .mixedOrders=true) (hd:uc l=true) (hL:¬ LetsOut Q) (H:S w L) (h:∀ w,S w L→G N (cF P .any l.toArray (cR N f0 ds Q) C T l.length (Array.replicate l.length false)) f ds w):G N ((Code.region id l.toArray true).wpIn (WF r) n P Q) f ds w:=fun a ha=>by
 refine wpIn_mono (Q:=cR N f0 ds Q) (wpIn_region_any hm (R.any_in (Q:=cR N f0 ds Q) (fun o ho=>?_) (fun hc=>hL hc) _ _ _ _ (oS (C:=C) (T:=T) _ _ _ _ ?_))) (fun e a w h=>by cases e <;> first | exact h | exact h.2 _ h.1)
 · have:=List.all_eq_true.1 hd o (by simpa using ho)
   simpa using this
 have:=h _ (H.drawn (w.drawn+1) (Nat.le_succ _)) a ha
 simpa using this
theorem Po {ops:Array Oper} {f0:Fr} {m:Nat} {L:Array Bool} (h:∀ k,G N (wpAnyIn (WF r) n P .any ops (cR N f0 ds Q) (k+m) L) f ds w):G N (PI N r n P ops f0 ds m L Q .normal) f ds w:=fun a ha k=>h k a ha
theorem Ec {f0:Fr} (h:G N (Q .normal) f ds w):G N (cR N f0 ds Q .normal) f ds w:=h
theorem A7 {f0:Fr} (hL:¬ LetsOut Q):¬ LetsOut (cR N f0 ds Q):=fun ⟨a,w,h⟩=>hL ⟨a,w,h⟩
end
end Go.Proofs.YthmmfhdpkddniaaGreatDoor
