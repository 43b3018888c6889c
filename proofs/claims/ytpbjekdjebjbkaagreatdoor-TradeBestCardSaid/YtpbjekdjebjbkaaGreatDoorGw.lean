import Derived.Test.YtpbjekdjebjbkaaGreatDoorSp
import Derived.LaidEqlPtr
set_option linter.unusedSimpArgs false
set_option linter.unusedVariables false
namespace Go.Proofs.YtpbjekdjebjbkaaGreatDoor
open Go.RowKit
def IterW {α:Type} (n:Nat) (P:Program) (g:Nat) (lb:Array Value) (encs:α→Array Value) (base:Item) (Φ:List α→α→Item→Prop) (Ok:List α→World→Prop) (S' Sp:List α→Prop) (I0:Item):Prop:=
 ∀ (l:Nat) (J Jx:List α→Item→Prop) (W:World) (C:Item),(∀ pre C W,J pre C→C.ok W→Ok pre W) →
   (∀ pre x W1 I C,J pre C→Φ pre x I→S W1 [base,I,C]→YieldAt (WF none) (n - 1) P l (encs x) W1 fun e W' =>
     (e=.returned (.bool true)∧∃ C',J (pre++[x]) C'∧S W' [base,I,C'])∨(e=.returned (.bool false)∧∃ C',Jx (pre++[x]) C'∧S W' [base,I,C'])) →
   J [] C→S W [base,I0,C] →
   CallsIn (WF none) n P g (#[.func (.yield l) #[] #[]]++lb) W fun e W'=>(∃ v,e=.returned v)∧((∃ xs C,S' xs∧J xs C∧S W' [base,C])∨(∃ pre C,Sp pre∧Jx pre C∧S W' [base,C]))
def AssignW {ι:Type} (N:Nat) (FA:ι→Fr) (LA:ι→List Item) (L:List Item) (a:Act) (w:World):Prop:=∃ i,Rds N a (FA i) []∧S w (LA i++L)
section
variable {P:Program} {N:Nat} {Q:Exit→Act→World→Prop} {f:Fr} {ds:List Deferred} {w:World} {n:Nat} {ops:Array Oper} {rest:List Oper} {o:Oper} {L:List Item}
theorem rw_assign {ι:Type} {FA:ι→Fr} {LA:ι→List Item} (i:ι) (hs:sub (FA i) f) (H:S w (LA i++L)):G N (AssignW N FA LA L) f [] w:=fun a ha=>⟨i,ha.weak hs,H⟩
theorem g_rangeW {α ι:Type} {x:Operand} {ps:Array Tmp} {assign body:Code} {gf:Nat} {lb:Array Value} {encs:α→Array Value} {base I0:Item} {Φ:List α→α→Item→Prop} {Ok:List α→World→Prop} {S' Sp:List α→Prop} {L0:List Item}
   (hn:1≤n) (hx:evo f x=some (.func (.func gf) #[] lb)) (hc:callable P gf=true) (hit:IterW (n - 1) P gf lb encs base Φ Ok S' Sp I0)
   (hps:∀ x,(encs x).size=ps.size) (hpN:(ps.toList.all fun p=>Nat.blt p N)=true) (J Jx:List α→List Item→Prop) (FA:α→ι→Fr) (LA:α→ι→List Item) (hOk:∀ pre Lx W,J pre Lx→S W Lx→Ok pre W) (h0:J [] L0) (H:S w (base :: I0 :: L0))
   (hassign:∀ (l:Nat) (x:α) (Lx:List Item) (W:World),S W Lx→G N (assign.wpIn (WF (some l)) (n - 1 - 1) P (Exit.then (AssignW N (FA x) (LA x) Lx) (fun _ _ _=>False))) (lay ps.toList (encs x).toList f) [] W)
   (hbody:∀ (l:Nat) (pre:List α) (x:α) (i:ι) (I K:Item) (Lx:List Item) (W:World),J pre Lx→Φ pre x I→S W (base :: I :: K :: Big (LA x i) :: Lx)→G N (body.wpIn (WF (some l)) (n - 1 - 1) P (RoundS J Jx base I K (pre++[x]))) (FA x i) [] W)
   (hdone:∀ (D:Nat) (xs:List α) (Lx:List Item) (W:World),S' xs→J xs Lx→S W (Ob D (.deferred (some [])) :: base :: Lx)→G N (Q .normal) f (mark D :: ds) W)
   (hstop:∀ (D:Nat) (pre:List α) (Lx:List Item) (W:World),Sp pre→Jx pre Lx→S W (Ob D (.deferred (some [])) :: base :: Lx)→G N (Q .ret) f (mark D :: ds) W) :
   G N ((Code.rangeFunc x ps assign body).wpIn (WF none) n P Q) f ds w:=fun a ha=>by
 refine wpIn_rangeFunc ?_
 intro fn hfn
 obtain ⟨rec,hrec⟩:∃ rec:LoopState→Option Code→Loop,rec=fun st pe=>{ state:=st,pending:=pe,fn,tmps:=a.tmps,params:=ps,assign,body,defers:=w.heap.size }:=⟨_,rfl⟩
 have HW:=(H.alloc (.deferred (some []))).alloc (.loop (rec .ready none))
 rw [World.size_alloc] at HW
 let D:=w.heap.size
 let dI:=Ob D (.deferred (some []))
 let lI:=fun st pe=>Ob (D+1) (.loop (rec st pe))
 have HC:S ((w.alloc (.deferred (some []))).alloc (.loop (rec .ready none))) [base,I0,Big (dI :: lI .ready none :: L0)]:=by
   have h1:S ((w.alloc (.deferred (some []))).alloc (.loop (rec .ready none))) ((dI :: lI .ready none :: L0)++[base,I0]):=HW.perm (by
     refine List.Perm.trans (List.Perm.swap ..) ?_
     simp only [List.cons_append]
     refine .cons _ (.cons _ ?_)
     exact (List.perm_append_comm (l₁:=[base,I0]) (l₂:=L0)))
   exact h1.big.perm (List.perm_append_comm (l₁:=[_]) (l₂:=[base,I0]))
 obtain ⟨W1,hW1⟩:∃ W1,W1=(w.alloc (.deferred (some []))).alloc (.loop (rec .ready none)):=⟨_,rfl⟩
 rw [← hW1] at HC
 refine ⟨D+1,[mark D],W1,{ target:=.fn (.func gf) lb,args:=#[.func (.yield (D+1)) #[] #[]] },W1,gf,#[.func (.yield (D+1)) #[] #[]]++lb,W1,?_,?_,?_,?_,fun _=>hn,?_⟩
 · rw [hW1,hrec]; exact run_enterLoop_outer _ _ _ _ _
 · simp only [resolve,ha.eval hx]
   simp [go_sem]
 · intro f' hf'; simp [Target.leads] at hf'; subst hf'; trivial
 · simp [invoke,go_sem,run_callFunc hc]
 · have eqK:∀ {W:World} {I:Item} {st:LoopState} {pe:Option Code} {Lx:List Item},S W [base,I,Big (dI :: lI st pe :: Lx)]→S W (base :: I :: Big [dI,lI st pe] :: Lx):=fun {W I st pe Lx} h=>by
     have h1:=(h.perm (List.perm_append_comm (l₁:=[base,I]) (l₂:=[_]))).unbig
     have h2:S W ([dI,lI st pe]++(Lx++[base,I])):=h1
     refine h2.big.perm ?_
     have:(Big [dI,lI st pe] :: (Lx++[base,I])).Perm ([base,I]++(Big [dI,lI st pe] :: Lx)):=List.perm_append_comm (l₁:=Big [dI,lI st pe] :: Lx) (l₂:=[base,I])
     exact this
   have eqK':∀ {W:World} {I:Item} {st:LoopState} {pe:Option Code} {Lx:List Item},S W (base :: I :: Big [dI,lI st pe] :: Lx)→S W [base,I,Big (dI :: lI st pe :: Lx)]:=fun {W I st pe Lx} h=>by
     have h1:S W (Big [dI,lI st pe] :: (Lx++[base,I])):=h.perm (List.perm_append_comm (l₁:=[base,I]) (l₂:=Big [dI,lI st pe] :: Lx))
     have h2:S W ((dI :: lI st pe :: Lx)++[base,I]):=h1.unbig
     exact h2.big.perm (List.perm_append_comm (l₁:=[_]) (l₂:=[base,I]))
   have eqO:∀ {W:World} {I:Item} {st:LoopState} {pe:Option Code} {Lx:List Item},S W (base :: I :: Big [dI,lI st pe] :: Lx)→S W (lI st pe :: (dI :: Lx++[base,I])):=fun {W I st pe Lx} h=>by
     have h1:S W (Big [dI,lI st pe] :: (Lx++[base,I])):=h.perm (List.perm_append_comm (l₁:=[base,I]) (l₂:=Big [dI,lI st pe] :: Lx))
     exact h1.unbig.perm (List.Perm.swap ..)
   have eqO':∀ {W:World} {I:Item} {st:LoopState} {pe:Option Code} {Lx:List Item},S W (lI st pe :: (dI :: Lx++[base,I]))→S W (base :: I :: Big [dI,lI st pe] :: Lx):=fun {W I st pe Lx} h=>by
     have h1:S W ([dI,lI st pe]++(Lx++[base,I])):=h.perm (List.Perm.swap ..)
     exact h1.big.perm (List.perm_append_comm (l₁:=Big [dI,lI st pe] :: Lx) (l₂:=[base,I]))
   refine (hit (D+1) (fun pre C=>∃ Lx,C=Big (dI :: lI .ready none :: Lx)∧J pre Lx) (fun pre C=>∃ Lx,C=Big (dI :: lI .done (some .ret) :: Lx)∧Jx pre Lx) _ _ (fun pre C W h hC=>by obtain ⟨Lx,rfl,h⟩:=h; exact hOk pre Lx W h (show S W _ from hC).tail.tail) ?_ ⟨L0,rfl,h0⟩ HC).mono ?_
   · rintro pre x W I C ⟨Lx,rfl,hJ⟩ hΦ hS
     have hS1:=eqK hS
     have hl:W.heap[D+1]?=some (.loop (rec .ready none)):=(eqO hS1).ob (k:=0) rfl
     have hy:=run_yield (P:=P) (args:=encs x) hl (by rw [hrec]; exact hps x)
     rw [hrec] at hy
     refine ⟨fn,_,assign,body,hy,roundIn_of_wpIn hfn ?_⟩
     refine wpIn_mono (hassign _ x _ W hS1 _ (ha.putA hpN (hps x))) (fun e a' W' h=>?_)
     cases e with
     | normal =>
       obtain ⟨i,k1,k20⟩:=h
       have k2:S W' (base :: I :: Big [dI,lI .ready none] :: Big (LA x i) :: Lx):=by
         have h7:=k20.big
         refine h7.perm ?_
         refine (List.Perm.swap ..).trans (.cons _ ((List.Perm.swap ..).trans (.cons _ (List.Perm.swap ..))))
       have hl2:W'.heap[D+1]?=some (.loop (rec .ready none)):=(eqO k2).ob (k:=0) rfl
       refine ⟨_,run_beginRound hl2 (by rw [hrec]),?_⟩
       have hb:S (W'.putObj (D+1) (.loop { rec .ready none with state:=.busy })) (base :: I :: Big [dI,lI .busy none] :: Big (LA x i) :: Lx):=by
         have:=(eqO k2).putObj (k:=0) (D:=D+1) (o':=.loop { rec .ready none with state:=.busy }) rfl
         refine eqO' ?_
         subst hrec
         exact this
       refine wpIn_mono (hbody _ pre x i I _ Lx _ hJ hΦ hb a' k1) (fun e a3 W3 hp=>?_)
       have fin:∀ (jump:Option Code) (Ly:List Item),S W3 (base :: I :: Big [dI,lI .busy none] :: Ly) →
           ∃ W4,(Instr.endRound (D+1) jump).run P W3=.ok (.bool jump.isNone) W4∧S W4 [base,I,Big (dI :: lI (if jump.isNone then .ready else .done) jump :: Ly)]:=fun jump Ly h3=>by
         have hl3:W3.heap[D+1]?=some (.loop (rec .busy none)):=(eqO h3).ob (k:=0) rfl
         refine ⟨_,run_endRound (P:=P) jump hl3,eqK' (eqO' ?_)⟩
         have:=(eqO h3).putObj (k:=0) (D:=D+1) (o':=.loop { rec .busy none with state:=if jump.isNone then .ready else .done,pending:=jump }) rfl
         subst hrec
         exact this
       cases e with
       | normal =>
         obtain ⟨Ly,j1,j2⟩:=hp
         obtain ⟨W4,r1,r2⟩:=fin none Ly j2
         exact ⟨_,_,r1,.inl ⟨rfl,_,⟨Ly,rfl,j1⟩,r2⟩⟩
       | ret =>
         obtain ⟨Ly,j1,j2⟩:=hp
         obtain ⟨W4,r1,r2⟩:=fin (some .ret) Ly j2
         exact ⟨_,_,r1,.inr ⟨rfl,_,⟨Ly,rfl,j1⟩,r2⟩⟩
       | _=>exact hp.elim
     | _=>exact h.elim
   · have unC:∀ {W:World} {st:LoopState} {pe:Option Code} {Lx:List Item},S W [base,Big (dI :: lI st pe :: Lx)]→S W (lI st pe :: dI :: base :: Lx):=fun {W st pe Lx} h=>by
       have h1:=(h.perm (List.perm_append_comm (l₁:=[base]) (l₂:=[_]))).unbig
       have h2:S W (dI :: lI st pe :: (Lx++[base])):=h1
       refine h2.perm ((List.Perm.swap ..).trans (.cons _ (.cons _ ?_)))
       exact List.perm_append_comm (l₁:=Lx) (l₂:=[base])
     rintro e W2 ⟨⟨v,rfl⟩,(⟨xs,C,hS,⟨Lx,rfl,hJ⟩,hC⟩ | ⟨pre,C,hS,⟨Lx,rfl,hJ⟩,hC⟩)⟩
     · have h1:=unC hC
       have hl:=h1.ob (k:=0) (o:=.loop (rec .ready none)) rfl
       refine ⟨none,_,by have:=run_endLoop (P:=P) hl (by rw [hrec]; simp); rw [hrec] at this; exact this,?_⟩
       exact hdone D xs Lx _ hS hJ (h1.putObj (k:=0) rfl).tail _ ⟨ha.size,ha.get,by rw [← ha.defers]; rfl⟩
     · have h1:=unC hC
       have hl:=h1.ob (k:=0) (o:=.loop (rec .done (some .ret))) rfl
       refine ⟨some .ret,_,by have:=run_endLoop (P:=P) hl (by rw [hrec]; simp); rw [hrec] at this; exact this,?_⟩
       exact wpIn_ret (hstop D pre Lx _ hS hJ (h1.putObj (k:=0) rfl).tail _ ⟨ha.size,ha.get,by rw [← ha.defers]; rfl⟩)
end
def upd {α:Type} (tk:Nat→α) (x:Nat) (a:α):Nat→α:=fun y=>if y=x then a else tk y
def Fam {α:Type} (e:TypeId) (enc:α→Array Value) (gs:List Nat) (tk:Nat→α):Item:=
 ⟨fun g=>g∈gs,fun w=>gs.Nodup∧∀ x∈gs,w.heap[x]?=some (.cells (enc (tk x)) e (0,0)),fun h k=>⟨k.1,fun x hx=>(h.block x hx).trans (k.2 x hx)⟩⟩
section
variable {P:Program} {N:Nat} {Q:Exit→Act→World→Prop} {f:Fr} {ds:List Deferred} {w w':World} {o:Oper} {ops:Array Oper} {L:List Item} {K:Act→World→Prop}
variable {α:Type} {e:TypeId} {enc:α→Array Value} {gs:List Nat} {tk:Nat→α}
theorem perm_erase {β:Type}:∀ {l:List β} {j:Nat} {r:β},l[j]?=some r→l.Perm (r :: l.eraseIdx j)
 | [],j,r,h=>by cases h
 | a :: l,0,r,h=>by cases h; exact .refl _
 | a :: l,j+1,r,h=>by
   rw [List.getElem?_cons_succ] at h
   exact ((perm_erase h).cons a).trans (List.Perm.swap ..)
end
section
variable {P:Program} {N:Nat} {Q:Exit→Act→World→Prop} {f:Fr} {ds:List Deferred} {w w':World} {o:Oper} {ops:Array Oper} {L:List Item} {K:Act→World→Prop}
abbrev okT:ByteArray→Prop:=fun s=>s.size≤1048576
def KN {κ α:Type} (ok:κ→Prop) (M:κ→Option α) (n:Nat):Prop:=∃ kv:List (κ × α),(kv.map Prod.fst).Nodup∧(∀ p:κ × α,p∈kv ↔ (ok p.1∧M p.1=some p.2))∧n=kv.length
end
section
variable {P:Program} {N:Nat} {Q:Exit→Act→World→Prop} {f:Fr} {ds:List Deferred} {w w':World} {o:Oper} {ops:Array Oper} {L:List Item} {K:Act→World→Prop}
variable {κ α:Type} {ek:κ→Value} {va:α→Value} {ok:κ→Prop} {M:κ→Option α}
def FamM (ek:κ→Value) (va:α→Value) (ok:κ→Prop) (ms:List Nat) (ct:Nat→κ→Option α):Item:=Big (ms.map fun x=>Mp ek va ok x (ct x))
variable {ms:List Nat} {ct:Nat→κ→Option α}
end
section
variable {P:Program} {N:Nat} {Q:Exit→Act→World→Prop} {f:Fr} {ds:List Deferred} {w w':World} {o:Oper} {ops:Array Oper} {L:List Item} {K:Act→World→Prop}
end
end Go.Proofs.YtpbjekdjebjbkaaGreatDoor
