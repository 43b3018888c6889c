import Derived.Test.YtpbjekdjebjbkaaGreatDoorFm
import Derived.Test.YtpbjekdjebjbkaaGreatDoorKd
import Derived.Test.YtpbjekdjebjbkaaGreatDoorGg
set_option maxRecDepth 20000
set_option maxHeartbeats 4000000
set_option linter.unusedSimpArgs false
set_option linter.unusedVariables false
namespace Go.Proofs.YtpbjekdjebjbkaaGreatDoor
open Go.RowKit
theorem cl134:callable Tryz.prog 134=true:=by kernel_rfl
theorem sz173:szO Tryz.prog 173=some 4:=by kernel_rfl
theorem ze173:zeO Tryz.prog 173=some (.agg #[.nilFunc,.nilFunc,.nilFunc,.nilFunc]):=by kernel_rfl
theorem ze180:zeO Tryz.prog 180=some (.nilFunc):=by kernel_rfl
theorem S.staysOld {w w0:World} {L:List Item} {i k1 k2 size n c:Nat} {N:Nat→Prop} {p:Option Addr} {xs:List Value} {X1 X2:Item} (h:S w L) (hi:L[i]?=some (Old w0 N)) (hk1:L[k1]?=some X1) (hk2:L[k2]?=some X2) (hn1:i ≠ k1) (hn2:i ≠ k2) (hr:Reads w0 p n c size xs) (hs:0<size) (hN:0<n→∀ a,p=some a→¬ N a.block):∀ w1,S w1 [X1,X2,Old w (fps [X1,X2])]→Reads w1 p n c size xs:=fun w1 h1 =>
 h1.exReads (k:=2) rfl (h.exReads hi hr hN) fun hn a ha hf=>by
   obtain ⟨it,hm,hfp⟩:=hf
   obtain ⟨k1',k2',k3⟩:=hr
   obtain ⟨b,hb,hc⟩:=k3 hn
   have hab:b=a:=by rw [ha] at hb; exact (Option.some.inj hb).symm
   subst hab
   have hlen:0<xs.length:=by rw [k1']; exact Nat.mul_pos hn hs
   have hcell:=hc 0 xs[0] (List.getElem?_eq_getElem hlen)
   have hlt:b.block<w0.heap.size:=by
     have h0:b.add 0=b:=by unfold Addr.add; simp
     rw [h0] at hcell
     refine Decidable.byContradiction fun hn9=>?_
     unfold World.cell? at hcell
     rw [Array.getElem?_eq_none (by omega)] at hcell
     cases hcell
   rcases List.mem_cons.1 hm with rfl | hm
   · exact pair_of h.2 hi hk1 hn1 b.block ⟨hlt,hN hn b ha⟩ hfp
   · rw [List.mem_singleton] at hm; subst hm
     exact pair_of h.2 hi hk2 hn2 b.block ⟨hlt,hN hn b ha⟩ hfp
def DV (x:Rv):Prop:=(0≤x.id∧x.id≤99)∧(0≤x.frm∧x.frm≤1000000000)∧(0≤x.to∧x.to≤1000000000)∧(-1≤x.lt∧x.lt≤1000000000)∧(0≤x.since∧x.since≤1000000000)
theorem validR_D {x:Rv} (h:validR x=true):DV x:=by
 unfold validR numB at h
 simp only [Bool.and_eq_true,decide_eq_true_eq] at h
 unfold DV; omega
def stB (x:Rv):Bool:=(x.intr && x.now) && decide (x.to<16384)
def stN (x:Rv):Int:=if stB x=true then 0 else 1
def lastN (x:Rv):Int:=if stB x=true then 0 else x.lt
def qI (x:Rv):Bool:=x.intr
def c3 (x y:Rv):Int:=if stN x - stN y ≠ 0 then stN x - stN y else if lastN x - lastN y ≠ 0 then lastN x - lastN y else x.id - y.id
noncomputable def sorted3 (l:List Rv):List Rv:=srt Rv.zero c3 (l.filter qI)
abbrev DLa0 (x:Rv):Array Value:=#[.int .i64 (x.id),.bool x.intr,.bool x.chk,.int .i64 (x.frm),.int .i64 (x.to),.int .i64 (x.lt),.int .i64 (x.since),.bool x.snb,.bool x.now,.bool x.seed]
theorem byID_s (x:Rv)  (w:World):Calls Tryz.prog 131 #[.agg (DLa0 x)] w fun e w'=>e=.returned (.int .i64 x.id)∧S w' [Old w no]:=by
 have H0:=S.old w
 refine enter 5 Tryz.func131 rfl rfl rfl ?_
 refine g_wk [(0,_)] ?_
 refine w_s ?_
 refine l_of (s_box H0 (wt0 rfl) rfl rfl rfl rfl ?_)
 intro g1 wq2 H3
 refine w_k8 ?_
 refine fin_r [.tmp 2] [.int .i64 (x.id)] ?_
 exact ⟨rfl,H3.mask [false,true]⟩
theorem byID_f (D:Rv→Prop):FunC Tryz.prog 131 #[] #[] (Big []) (fun x:Rv=>[x.v]) (fun x=>.int .i64 (Rv.id x)) D:=
 FunC.pure (by kernel_rfl) fun x _ w=>byID_s x w
theorem ways_s  (w:World):Calls Tryz.prog 118 #[] w fun e w'=>e=.returned (.agg #[.func (.func 120) #[] #[],.func (.func 135) #[] #[],.func (.func 138) #[] #[],.func (.func 142) #[] #[]])∧S w' [Old w no]:=by
 have H0:=S.old w
 refine enter 2 Tryz.func118 rfl rfl rfl ?_
 refine g_wk [] ?_
 refine w_s ?_
 refine l_of (s_alloc H0 (wt0 rfl) rfl rfl rfl ze173 ?_)
 intro g1 wq2 H3
 refine w_k2 ?_
 refine w_v (v:=.agg #[.func (.func 120) #[] #[],.func (.func 135) #[] #[],.func (.func 138) #[] #[],.func (.func 142) #[] #[]]) (x_build (vs:=[.func (.func 120) #[] #[],.func (.func 135) #[] #[],.func (.func 138) #[] #[],.func (.func 142) #[] #[]]) rfl rfl (cells:=#[.func (.func 120) #[] #[],.func (.func 135) #[] #[],.func (.func 138) #[] #[],.func (.func 142) #[] #[]]) (by kernel_rfl)) ?_
 refine l_of (w_st #[.func (.func 120) #[] #[],.func (.func 135) #[] #[],.func (.func 138) #[] #[],.func (.func 142) #[] #[]] H3 0 ?_)
 intro wq4 H5
 refine w_k2 ?_
 refine fin_ret [.cell 0 173] [.agg #[.func (.func 120) #[] #[],.func (.func 135) #[] #[],.func (.func 138) #[] #[],.func (.func 142) #[] #[]]] rfl ⟨⟨_,rfl,run_loadA (H5.ob (k:=0) rfl) Tryz.underlying173 rfl sz173 rfl rfl⟩,trivial⟩ ?_
 exact ⟨rfl,H5.mask [false,true]⟩
theorem cl118:callable Tryz.prog 118=true:=by kernel_rfl
theorem sz172:szO Tryz.prog 172=some 1:=by kernel_rfl
noncomputable def ids3 (l:List Rv) (slots:Int):List Int:=sortI (((sorted3 l).take (min (sorted3 l).length slots.toNat)).map Rv.id)
end Go.Proofs.YtpbjekdjebjbkaaGreatDoor
