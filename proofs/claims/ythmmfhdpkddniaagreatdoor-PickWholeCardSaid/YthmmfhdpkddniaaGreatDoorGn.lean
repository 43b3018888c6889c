import Derived.Test.YthmmfhdpkddniaaGreatDoorGl
set_option linter.unusedSimpArgs false
set_option linter.unusedVariables false
namespace Go.Proofs.YthmmfhdpkddniaaGreatDoor
open Go.RowKit
theorem ri_any {r r':Option Nat} {m m':Nat} {P:Program} {l:Nat} {g:FuncId} {tmps:Array Value} {assign body:Code} {w:World} {R:Ending→World→Prop} (h:RoundIn (WF r) m P l g tmps assign body w R):RoundIn (WF r') m' P l g tmps assign body w R:=
 ⟨trivial,fun c cs _=>let ⟨e,w',q,s⟩:=h.2 c cs (room_wide _); ⟨e,w',q,comesIn_wide.2 (comesIn_wide.1 s)⟩⟩
theorem yield_any {r r':Option Nat} {m m':Nat} {P:Program} {l:Nat} {args:Array Value} {w:World} {R:Ending→World→Prop} (h:YieldAt (WF r) m P l args w R):YieldAt (WF r') m' P l args w R:=by
 obtain ⟨fn,tmps,assign,body,hy,hR⟩:=h
 exact ⟨fn,tmps,assign,body,hy,ri_any hR⟩
def RoundJ {α:Type} (J:List α→List Item→Prop) (Jx:Code→List α→List Item→Prop) (base I K:Item) (xs:List α):Exit→Act→World→Prop
 | .normal,_,W=>∃ Lx,J xs Lx∧S W (base :: I :: K :: Lx)
 | .ret,_,W=>∃ Lx,Jx .ret xs Lx∧S W (base :: I :: K :: Lx)
 | .exit i,_,W=>∃ Lx,Jx (.exit i) xs Lx∧S W (base :: I :: K :: Lx)
 | _,_,_=>False
section
variable {P:Program} {N:Nat} {Q:Exit→Act→World→Prop} {f:Fr} {ds:List Deferred} {w:World} {n:Nat} {ops:Array Oper} {rest:List Oper} {o:Oper} {L:List Item} {r:Option Nat} {md:Region.Mode} {listed:Array Bool} {fuel:Nat} {K:Act→World→Prop}
theorem rj_next {α:Type} {J:List α→List Item→Prop} {Jx:Code→List α→List Item→Prop} {base I K:Item} {xs:List α} {Lx:List Item} (hJ:J xs Lx) (H:S w (base :: I :: K :: Lx)):G N (RoundJ J Jx base I K xs .normal) f ds w:=fun _ _=>⟨Lx,hJ,H⟩
theorem rj_ret {α:Type} {J:List α→List Item→Prop} {Jx:Code→List α→List Item→Prop} {base I K:Item} {xs:List α} {Lx:List Item} (hJ:Jx .ret xs Lx) (H:S w (base :: I :: K :: Lx)):G N (RoundJ J Jx base I K xs .ret) f ds w:=fun _ _=>⟨Lx,hJ,H⟩
theorem gw_ret (h:G N (Q .ret) f ds w):G N (Code.ret.wpIn (WF r) n P Q) f ds w:=fun a ha=>wpIn_ret (h a ha)
theorem r_done (hr:Region.ready md ops listed=[]) (h:G N (Q .normal) f ds w):G N (wpAnyIn (WF r) n P md ops Q fuel listed) f ds w:=fun a ha=>wpAnyIn_done hr (h a ha) fuel
def RIn (r:Option Nat) (n:Nat) (P:Program) (ops:Array Oper) (Q:Exit→Act→World→Prop) (i:Nat) (K:Act→World→Prop):Act→World→Prop:=fun a w=>wpOpIn (WF r) n P ops Q i K a w
theorem r_one {i:Nat} (hr:Region.ready md ops listed=[i]) (h:G N (RIn r n P ops Q i (wpAnyIn (WF r) n P md ops Q fuel (listed.setIfInBounds i true))) f ds w):G N (wpAnyIn (WF r) n P md ops Q (fuel+1) listed) f ds w:=fun a ha =>
 wpAnyIn_all hr (by simp) fun k hk=>by
   rw [List.mem_singleton] at hk; subst hk; exact h a ha
theorem r_of {i:Nat} (hi:ops[i]?=some o) (hd:isDefer o=false) (hL:¬ LetsOut Q) (h:G N (StepK P ops Q o K) f ds w):G N (RIn r n P ops Q i K) f ds w:=fun a ha=>by
 have h1:=h a ha
 unfold StepK at h1
 unfold RIn wpOpIn
 rw [hi]
 simp only
 split
 · rename_i hw
   rw [if_pos hw] at h1
   rcases h1 with h1 | ⟨_,h1⟩
   · exact wpIn_of hd h1
   · exact absurd h1 hL
 · rename_i hw
   rw [if_neg hw] at h1
   exact ⟨fun _ _=>trivial,h1⟩
theorem r_yield {d l i m:Nat} {x:Operand} {args:Array Operand} {ts:Array TypeId} {vs:List Value} {R':Ending→World→Prop} (hi:ops[i]?=some o) (hw:Wt ops f o) (hd:o.dst=some d) (hN:Nat.blt d N=true) (ho:o.op=.call { callee:=.value x,args:=args,argTypes:=ts }) (hx:evo f x=some (.func (.yield l) #[] #[])) (hv:evs f args.toList=some vs)
   (hY:YieldAt (WF none) m P l vs.toArray w R') (h:∀ e w',R' e w'→∃ v,e=.returned v∧G N K ((d,v) :: f) ds w'):G N (RIn r n P ops Q i K) f ds w:=fun a ha=>by
 have hdf:isDefer o=false:=by unfold isDefer; rw [ho]
 unfold RIn wpOpIn
 rw [hi]
 simp only
 rw [if_pos (hw.wanted ha)]
 refine ⟨fun _ _=>trivial,?_⟩
 rw [Oper.semAt_eq _ _ _ (isDefer_spec hdf)]
 obtain ⟨fn,tmps,assign,body,hy,hR⟩:=yield_any (r':=r) (m':=n - 1) hY
 have he:args.map a.eval=vs.toArray:=ha.evalsA hv
 have hrun:(execOp a.eval o).run P w=.ok (.round l fn tmps assign body) w:=by
   unfold execOp
   simp only [ho,resolve,ha.eval hx,Deferred.ofValue,Sem.run_bind,Sem.run_pure,Result.andThen_ok,invoke,he]
   simpa using hy
 rw [hrun,Oper.uponIn_round]
 refine ⟨(fun h0=>by cases h0),hR.mono fun e w' hr=>?_⟩
 obtain ⟨v,rfl,hg⟩:=h e w' hr
 show K (a.put o.dst v) w'
 rw [hd]
 exact hg _ (ha.put d hN v)
theorem g_rangeJ {α ι:Type} {x:Operand} {ps:Array Tmp} {assign body:Code} {gf:Nat} {lb:Array Value} {encs:α→Array Value} {base I0:Item} {Φ:List α→α→Item→Prop} {Ok:List α→World→Prop} {S' Sp:List α→Prop} {L0:List Item}
   (hn:1≤n) (hx:evo f x=some (.func (.func gf) #[] lb)) (hc:callable P gf=true) (hit:IterW (n - 1) P gf lb encs base Φ Ok S' Sp I0)
   (hps:∀ x,(encs x).size=ps.size) (hpN:(ps.toList.all fun p=>Nat.blt p N)=true) (J:List α→List Item→Prop) (Jx:Code→List α→List Item→Prop) (FA:α→ι→Fr) (LA:α→ι→List Item) (hOk:∀ pre Lx W,J pre Lx→S W Lx→Ok pre W) (h0:J [] L0) (H:S w (base :: I0 :: L0))
   (hassign:∀ (l:Nat) (x:α) (Lx:List Item) (W:World),S W Lx→G N (assign.wpIn (WF (some l)) (n - 1 - 1) P (Exit.then (AssignW N (FA x) (LA x) Lx) (fun _ _ _=>False))) (lay ps.toList (encs x).toList f) [] W)
   (hbody:∀ (l:Nat) (pre:List α) (x:α) (i:ι) (I K:Item) (Lx:List Item) (W:World),J pre Lx→Φ pre x I→S W (base :: I :: K :: Big (LA x i) :: Lx)→G N (body.wpIn (WF (some l)) (n - 1 - 1) P (RoundJ J Jx base I K (pre++[x]))) (FA x i) [] W)
   (hdone:∀ (D:Nat) (xs:List α) (Lx:List Item) (W:World),S' xs→J xs Lx→S W (Ob D (.deferred (some [])) :: base :: Lx)→G N (Q .normal) f (mark D :: ds) W)
   (hstop:∀ (D:Nat) (c:Code) (pre:List α) (Lx:List Item) (W:World),Sp pre→Jx c pre Lx→S W (Ob D (.deferred (some [])) :: base :: Lx)→G N (c.wpIn (WF none) n P Q) f (mark D :: ds) W) :
   G N ((Code.rangeFunc x ps assign body).wpIn (WF none) n P Q) f ds w:=fun a ha=>by
 refine wpIn_rangeFunc ?_
 intro fn hfn
 obtain ⟨rec,hrec⟩:∃ rec:LoopState→Option Code→Loop,rec=fun st pe=>{ state:=st,pending:=pe,fn,tmps:=a.tmps,params:=ps,assign,body,defers:=w.heap.size }:=⟨_,rfl⟩
 have HW:=(H.alloc (.deferred (some []))).alloc (.loop (rec .ready none))
 rw [World.size_alloc] at HW
 let D:=w.heap.size
 let dI:=Ob D (.deferred (some []))
 let lI:=fun st pe=>Ob (D+1) (.loop (rec st pe))
 have HC:S ((w.alloc (.deferred (some []))).alloc (.loop (rec .ready none))) [base,I0,Big (dI :: lI .ready none :: L0)]:=by
   have h1:S ((w.alloc (.deferred (some []))).alloc (.loop (rec .ready none))) ((dI :: lI .ready none :: L0)++[base,I0]):=HW.perm (by
     refine List.Perm.trans (List.Perm.swap ..) ?_
     simp only [List.cons_append]
     refine .cons _ (.cons _ ?_)
     exact (List.perm_append_comm (l₁:=[base,I0]) (l₂:=L0)))
   exact h1.big.perm (List.perm_append_comm (l₁:=[_]) (l₂:=[base,I0]))
 obtain ⟨W1,hW1⟩:∃ W1,W1=(w.alloc (.deferred (some []))).alloc (.loop (rec .ready none)):=⟨_,rfl⟩
 rw [← hW1] at HC
 refine ⟨D+1,[mark D],W1,{ target:=.fn (.func gf) lb,args:=#[.func (.yield (D+1)) #[] #[]] },W1,gf,#[.func (.yield (D+1)) #[] #[]]++lb,W1,?_,?_,?_,?_,fun _=>hn,?_⟩
 · rw [hW1,hrec]; exact run_enterLoop_outer _ _ _ _ _
 · simp only [resolve,ha.eval hx]
   simp [go_sem]
 · intro f' hf'; simp [Target.leads] at hf'; subst hf'; trivial
 · simp [invoke,go_sem,run_callFunc hc]
 · have eqK:∀ {W:World} {I:Item} {st:LoopState} {pe:Option Code} {Lx:List Item},S W [base,I,Big (dI :: lI st pe :: Lx)]→S W (base :: I :: Big [dI,lI st pe] :: Lx):=fun {W I st pe Lx} h=>by
     have h1:=(h.perm (List.perm_append_comm (l₁:=[base,I]) (l₂:=[_]))).unbig
     have h2:S W ([dI,lI st pe]++(Lx++[base,I])):=h1
     refine h2.big.perm ?_
     have:(Big [dI,lI st pe] :: (Lx++[base,I])).Perm ([base,I]++(Big [dI,lI st pe] :: Lx)):=List.perm_append_comm (l₁:=Big [dI,lI st pe] :: Lx) (l₂:=[base,I])
     exact this
   have eqK':∀ {W:World} {I:Item} {st:LoopState} {pe:Option Code} {Lx:List Item},S W (base :: I :: Big [dI,lI st pe] :: Lx)→S W [base,I,Big (dI :: lI st pe :: Lx)]:=fun {W I st pe Lx} h=>by
     have h1:S W (Big [dI,lI st pe] :: (Lx++[base,I])):=h.perm (List.perm_append_comm (l₁:=[base,I]) (l₂:=Big [dI,lI st pe] :: Lx))
     have h2:S W ((dI :: lI st pe :: Lx)++[base,I]):=h1.unbig
     exact h2.big.perm (List.perm_append_comm (l₁:=[_]) (l₂:=[base,I]))
   have eqO:∀ {W:World} {I:Item} {st:LoopState} {pe:Option Code} {Lx:List Item},S W (base :: I :: Big [dI,lI st pe] :: Lx)→S W (lI st pe :: (dI :: Lx++[base,I])):=fun {W I st pe Lx} h=>by
     have h1:S W (Big [dI,lI st pe] :: (Lx++[base,I])):=h.perm (List.perm_append_comm (l₁:=[base,I]) (l₂:=Big [dI,lI st pe] :: Lx))
     exact h1.unbig.perm (List.Perm.swap ..)
   have eqO':∀ {W:World} {I:Item} {st:LoopState} {pe:Option Code} {Lx:List Item},S W (lI st pe :: (dI :: Lx++[base,I]))→S W (base :: I :: Big [dI,lI st pe] :: Lx):=fun {W I st pe Lx} h=>by
     have h1:S W ([dI,lI st pe]++(Lx++[base,I])):=h.perm (List.Perm.swap ..)
     exact h1.big.perm (List.perm_append_comm (l₁:=Big [dI,lI st pe] :: Lx) (l₂:=[base,I]))
   refine (hit (D+1) (fun pre C=>∃ Lx,C=Big (dI :: lI .ready none :: Lx)∧J pre Lx) (fun pre C=>∃ c Lx,C=Big (dI :: lI .done (some c) :: Lx)∧Jx c pre Lx) _ _ (fun pre C W h hC=>by obtain ⟨Lx,rfl,h⟩:=h; exact hOk pre Lx W h (show S W _ from hC).tail.tail) ?_ ⟨L0,rfl,h0⟩ HC).mono ?_
   · rintro pre x W I C ⟨Lx,rfl,hJ⟩ hΦ hS
     have hS1:=eqK hS
     have hl:W.heap[D+1]?=some (.loop (rec .ready none)):=(eqO hS1).ob (k:=0) rfl
     have hy:=run_yield (P:=P) (args:=encs x) hl (by rw [hrec]; exact hps x)
     rw [hrec] at hy
     refine ⟨fn,_,assign,body,hy,roundIn_of_wpIn hfn ?_⟩
     refine wpIn_mono (hassign _ x _ W hS1 _ (ha.putA hpN (hps x))) (fun e a' W' h=>?_)
     cases e with
     | normal =>
       obtain ⟨i,k1,k20⟩:=h
       have k2:S W' (base :: I :: Big [dI,lI .ready none] :: Big (LA x i) :: Lx):=by
         have h7:=k20.big
         refine h7.perm ?_
         refine (List.Perm.swap ..).trans (.cons _ ((List.Perm.swap ..).trans (.cons _ (List.Perm.swap ..))))
       have hl2:W'.heap[D+1]?=some (.loop (rec .ready none)):=(eqO k2).ob (k:=0) rfl
       refine ⟨_,run_beginRound hl2 (by rw [hrec]),?_⟩
       have hb:S (W'.putObj (D+1) (.loop { rec .ready none with state:=.busy })) (base :: I :: Big [dI,lI .busy none] :: Big (LA x i) :: Lx):=by
         have:=(eqO k2).putObj (k:=0) (D:=D+1) (o':=.loop { rec .ready none with state:=.busy }) rfl
         refine eqO' ?_
         subst hrec
         exact this
       refine wpIn_mono (hbody _ pre x i I _ Lx _ hJ hΦ hb a' k1) (fun e a3 W3 hp=>?_)
       have fin:∀ (jump:Option Code) (Ly:List Item),S W3 (base :: I :: Big [dI,lI .busy none] :: Ly) →
           ∃ W4,(Instr.endRound (D+1) jump).run P W3=.ok (.bool jump.isNone) W4∧S W4 [base,I,Big (dI :: lI (if jump.isNone then .ready else .done) jump :: Ly)]:=fun jump Ly h3=>by
         have hl3:W3.heap[D+1]?=some (.loop (rec .busy none)):=(eqO h3).ob (k:=0) rfl
         refine ⟨_,run_endRound (P:=P) jump hl3,eqK' (eqO' ?_)⟩
         have:=(eqO h3).putObj (k:=0) (D:=D+1) (o':=.loop { rec .busy none with state:=if jump.isNone then .ready else .done,pending:=jump }) rfl
         subst hrec
         exact this
       cases e with
       | normal =>
         obtain ⟨Ly,j1,j2⟩:=hp
         obtain ⟨W4,r1,r2⟩:=fin none Ly j2
         exact ⟨_,_,r1,.inl ⟨rfl,_,⟨Ly,rfl,j1⟩,r2⟩⟩
       | ret =>
         obtain ⟨Ly,j1,j2⟩:=hp
         obtain ⟨W4,r1,r2⟩:=fin (some .ret) Ly j2
         exact ⟨_,_,r1,.inr ⟨rfl,_,⟨.ret,Ly,rfl,j1⟩,r2⟩⟩
       | exit i9 =>
         obtain ⟨Ly,j1,j2⟩:=hp
         obtain ⟨W4,r1,r2⟩:=fin (some (.exit i9)) Ly j2
         exact ⟨_,_,r1,.inr ⟨rfl,_,⟨.exit i9,Ly,rfl,j1⟩,r2⟩⟩
       | _=>exact hp.elim
     | _=>exact h.elim
   · have unC:∀ {W:World} {st:LoopState} {pe:Option Code} {Lx:List Item},S W [base,Big (dI :: lI st pe :: Lx)]→S W (lI st pe :: dI :: base :: Lx):=fun {W st pe Lx} h=>by
       have h1:=(h.perm (List.perm_append_comm (l₁:=[base]) (l₂:=[_]))).unbig
       have h2:S W (dI :: lI st pe :: (Lx++[base])):=h1
       refine h2.perm ((List.Perm.swap ..).trans (.cons _ (.cons _ ?_)))
       exact List.perm_append_comm (l₁:=Lx) (l₂:=[base])
     rintro e W2 ⟨⟨v,rfl⟩,(⟨xs,C,hS,⟨Lx,rfl,hJ⟩,hC⟩ | ⟨pre,C,hS,⟨c,Lx,rfl,hJ⟩,hC⟩)⟩
     · have h1:=unC hC
       have hl:=h1.ob (k:=0) (o:=.loop (rec .ready none)) rfl
       refine ⟨none,_,by have:=run_endLoop (P:=P) hl (by rw [hrec]; simp); rw [hrec] at this; exact this,?_⟩
       exact hdone D xs Lx _ hS hJ (h1.putObj (k:=0) rfl).tail _ ⟨ha.size,ha.get,by rw [← ha.defers]; rfl⟩
     · have h1:=unC hC
       have hl:=h1.ob (k:=0) (o:=.loop (rec .done (some c))) rfl
       refine ⟨some c,_,by have:=run_endLoop (P:=P) hl (by rw [hrec]; simp); rw [hrec] at this; exact this,?_⟩
       exact hstop D c pre Lx _ hS hJ (h1.putObj (k:=0) rfl).tail _ ⟨ha.size,ha.get,by rw [← ha.defers]; rfl⟩
end
end Go.Proofs.YthmmfhdpkddniaaGreatDoor
