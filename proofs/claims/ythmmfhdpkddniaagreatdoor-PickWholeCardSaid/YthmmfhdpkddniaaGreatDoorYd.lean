import Derived.Test.YthmmfhdpkddniaaGreatDoorFm
import Derived.Test.YthmmfhdpkddniaaGreatDoorYo
set_option maxRecDepth 20000
set_option maxHeartbeats 4000000
set_option linter.unusedSimpArgs false
set_option linter.unusedVariables false
namespace Go.Proofs.YthmmfhdpkddniaaGreatDoor
open Go.RowKit
theorem cl22:callable Tryz.prog 22=true:=by kernel_rfl
theorem cl23:callable Tryz.prog 23=true:=by kernel_rfl
theorem awake_is:((((newPK 2 32 32 (⟨#[115]⟩:ByteArray) false).joinA 1).hasFA 1 (⟨#[192]⟩:ByteArray)).chokeA 1 false false)=(⟨2,32,32,(⟨#[115]⟩:ByteArray),false,[false,false],[⟨4,0⟩,⟨4,0⟩],[],[],[⟨1,[true,true],[false,false],[false,false],true,false⟩]⟩:PK):=by rfl
theorem awake_e:(newPK 2 32 32 (⟨#[115]⟩:ByteArray) false).joinE 1=0∧((newPK 2 32 32 (⟨#[115]⟩:ByteArray) false).joinA 1).hasFE 1 (⟨#[192]⟩:ByteArray)=0∧(((newPK 2 32 32 (⟨#[115]⟩:ByteArray) false).joinA 1).hasFA 1 (⟨#[192]⟩:ByteArray)).peE 1=0∧((((newPK 2 32 32 (⟨#[115]⟩:ByteArray) false).joinA 1).hasFA 1 (⟨#[192]⟩:ByteArray)).chokeA 1 false false).lookE 1 3=0:=⟨by rfl,by rfl,by rfl,by rfl⟩
theorem awake_look:∃ i j:Int,i ≠ j∧((((newPK 2 32 32 (⟨#[115]⟩:ByteArray) false).joinA 1).hasFA 1 (⟨#[192]⟩:ByteArray)).chokeA 1 false false).lookV 1 3=[⟨i,0,16⟩,⟨i,16,16⟩,⟨j,0,16⟩]:=by
 rw [awake_is]
 generalize hA:(⟨2,32,32,(⟨#[115]⟩:ByteArray),false,[false,false],[⟨4,0⟩,⟨4,0⟩],[],[],[⟨1,[true,true],[false,false],[false,false],true,false⟩]⟩:PK)=A
 have hp:(A.cand ⟨1,[true,true],[false,false],[false,false],true,false⟩).Perm [0,1]:=by
   have h1:A.candL ⟨1,[true,true],[false,false],[false,false],true,false⟩=[0,1]:=by subst hA; rfl
   rw [← h1]
   exact srt_perm _ _ _
 have hf:∀ i:Int,i=0∨i=1→A.freeL i=[⟨i,0,16⟩,⟨i,16,16⟩]:=fun i hi=>by
   subst hA
   rcases hi with rfl | rfl <;> rfl
 have hl:A.lookV 1 3=((A.cand ⟨1,[true,true],[false,false],[false,false],true,false⟩).flatMap A.freeL).take 3:=by
   have he:A.endB=false:=by subst hA; rfl
   have h1:A.lookE 1 3=0:=by subst hA; rfl
   have h2:fndP A.peers 1=some ⟨1,[true,true],[false,false],[false,false],true,false⟩:=by subst hA; rfl
   unfold PK.lookV
   rw [if_pos h1,h2]
   show A.lookP _ 3=_
   unfold PK.lookP
   rw [if_neg (by rw [he]; decide)]
   rfl
 rw [hl]
 have h2:=hp.length_eq
 match hc:A.cand ⟨1,[true,true],[false,false],[false,false],true,false⟩,h2 with
 | [a,b],_ =>
   rw [hc] at hp
   have ha:a=0∨a=1:=by have:=hp.mem_iff.1 (List.mem_cons_self (a:=a) (l:=[b])); simpa using this
   have hb:b=0∨b=1:=by have:=hp.mem_iff.1 (List.mem_cons_of_mem a (List.mem_cons_self (a:=b) (l:=[]))); simpa using this
   have hab:a ≠ b:=by
     have h3:[a,b].Nodup:=hp.nodup_iff.2 (by decide)
     intro e
     subst e
     simp at h3
   exact ⟨a,b,hab,by rw [List.flatMap_cons,List.flatMap_cons,hf a ha,hf b hb]; rfl⟩
theorem awake_s  (w:World):Calls Tryz.prog 9 #[] w fun e w'=>e=.returned (.bool true)∧S w' [Old w no]:=by
 have H0:=S.old w
 refine enter 77 Tryz.func9 rfl rfl rfl ?_
 refine g_wk [] ?_
 refine w_s ?_
 refine w_k3 ?_
 refine l_of (s_cl (newX_o 2 32 32 (⟨#[115]⟩:ByteArray) false (by decide) _) ?_)
 rintro _ wq1 ⟨X,hX0,rfl,H2⟩
 replace H2:S _ [_,_]:=H0.ab (new:=[_]) H2 rfl
 have hX:OX X.g X (newPK 2 32 32 (⟨#[115]⟩:ByteArray) false) 0:=⟨rfl,hX0,PKI.new (by decide)⟩
 obtain ⟨hE1,hE2,hE3,hE4⟩:=awake_e
 obtain ⟨ia,ja,hija,hl9⟩:=awake_look
 have hlen9:(((((newPK 2 32 32 (⟨#[115]⟩:ByteArray) false).joinA 1).hasFA 1 (⟨#[192]⟩:ByteArray)).chokeA 1 false false).lookV 1 3).length=3:=by rw [hl9]; rfl
 refine b_ret rfl rfl ?_
 refine w_k9 ?_
 refine w_b (v:=.bool (!decide ((0:Int)=0))) (hb:=b_neq) ?_
 refine w_m ?_
 refine w_g (nf rfl) xm ?_
 refine l_of (s_call (wt1 rfl rfl rfl rfl (nf rfl)) (x_call' rfl rfl cl12) (join_p hX 1 (by omega) _ (H2.tk [0])) ?_)
 rintro _ wq3 ⟨Y5,hY6,rfl,H4⟩
 replace H4:S _ [_,_]:=H2.abI (new:=[_]) [0] H4 rfl
 refine b_ret rfl rfl ?_
 refine w_g (nf rfl) (x_bin rfl rfl rfl b_neq) ?_
 refine w_v (x_pick_f rfl rfl (nf rfl) rfl) ?_
 refine w_m ?_
 by_cases hb7:(((newPK 2 32 32 (⟨#[115]⟩:ByteArray) false).joinE 1):Int)=0
 ·
  refine w_g (nf hb7) xm ?_
  refine l_of (s_call (wt1 rfl rfl rfl rfl (nf hb7)) (x_call' rfl rfl cl13) (hasF_p hY6 1 (⟨#[192]⟩:ByteArray) (by omega) _ (H4.tk [0])) ?_)
  rintro _ wq8 ⟨Y10,hY11,rfl,H9⟩
  replace H9:S _ [_,_]:=H4.abI (new:=[_]) [0] H9 rfl
  refine b_ret rfl rfl ?_
  refine w_g (nf hb7) (x_bin rfl rfl rfl b_neq) ?_
  refine w_v (x_pick_f rfl rfl (nf hb7) rfl) ?_
  refine w_e ?_
  refine g_wk [(1,_),(21,_)] ?_
  by_cases hb12:((((newPK 2 32 32 (⟨#[115]⟩:ByteArray) false).joinA 1).hasFE 1 (⟨#[192]⟩:ByteArray)):Int)=0
  ·
   refine g_nf hb12 ?_
   refine w_k5 ?_
   refine l_of (s_cl (choke_p hY11 1 false false (by omega) _ (H9.tk [0])) ?_)
   rintro _ wq13 ⟨Y15,hY16,pv17,cv18,rfl,H14⟩
   replace H14:S _ [_,_,_]:=H9.abI (new:=[_,_]) [0] H14 rfl
   have hlr19:((((newPK 2 32 32 (⟨#[115]⟩:ByteArray) false).joinA 1).hasFA 1 (⟨#[192]⟩:ByteArray)).chokeL 1 false false).length≤400 * ((0+1)+1)+400:=len9_choke hY11.inv _ _ _
   refine b_ret rfl rfl ?_
   refine w_k8 ?_
   refine w_b (v:=.bool (!decide ((((((newPK 2 32 32 (⟨#[115]⟩:ByteArray) false).joinA 1).hasFA 1 (⟨#[192]⟩:ByteArray)).peE 1):Int)=0))) (hb:=b_neq) ?_
   refine w_e ?_
   by_cases hb20:(((((newPK 2 32 32 (⟨#[115]⟩:ByteArray) false).joinA 1).hasFA 1 (⟨#[192]⟩:ByteArray)).peE 1):Int)=0
   ·
    refine g_nf hb20 ?_
    refine w_k4 ?_
    refine l_of (s_cl (next_p hY16 1 3 (by omega) (by first | assumption | (unfold okI; omega)) _ (H14.tk [1])) ?_)
    rintro _ wq21 ⟨Y23,hY24,pv25,cv26,rfl,H22⟩
    replace H22:S _ [_,_,_,_]:=H14.abI (new:=[_,_]) [1] H22 rfl
    have hlr27:(((((newPK 2 32 32 (⟨#[115]⟩:ByteArray) false).joinA 1).hasFA 1 (⟨#[192]⟩:ByteArray)).chokeA 1 false false).lookV 1 3).length≤400 * (((0+1)+1)+1)+400:=len9_look hY16.inv _ _
    refine b_ret rfl rfl ?_
    refine w_k6 ?_
    refine g_wk [(2,_),(5,_)] ?_
    refine g_seq ?_
    refine g_any [] (fun wx=>S wx [Rw 44 3 pv25 ((((((newPK 2 32 32 (⟨#[115]⟩:ByteArray) false).joinA 1).hasFA 1 (⟨#[192]⟩:ByteArray)).chokeA 1 false false).lookV 1 3).length) cv26 (fl choL (((((newPK 2 32 32 (⟨#[115]⟩:ByteArray) false).joinA 1).hasFA 1 (⟨#[192]⟩:ByteArray)).chokeA 1 false false).lookV 1 3)),(XI Y23 (((((newPK 2 32 32 (⟨#[115]⟩:ByteArray) false).joinA 1).hasFA 1 (⟨#[192]⟩:ByteArray)).chokeA 1 false false).nextA 1 3)),Rw 44 3 pv17 (((((newPK 2 32 32 (⟨#[115]⟩:ByteArray) false).joinA 1).hasFA 1 (⟨#[192]⟩:ByteArray)).chokeL 1 false false).length) cv18 (fl choL ((((newPK 2 32 32 (⟨#[115]⟩:ByteArray) false).joinA 1).hasFA 1 (⟨#[192]⟩:ByteArray)).chokeL 1 false false)),Old w no]) [] (by kernel_rfl) H22 (fun wq28 H29=>?_)
    refine w_t 0 rfl H29 (fun _ _=>xm) ?_
    refine w_t 1 rfl H29 (fun _ _=>x_bin rfl rfl rfl b_eql) ?_
    refine w_t 2 rfl H29 (fun _ _=>xm) ?_
    by_cases hb30:((((((newPK 2 32 32 (⟨#[115]⟩:ByteArray) false).joinA 1).hasFA 1 (⟨#[192]⟩:ByteArray)).chokeA 1 false false).lookE 1 3):Int)=0
    ·
     refine w_tg 3 rfl (decide_eq_true hb30) H29 (fun _ _=>xm) ?_
     refine w_tg (v:=.int .i64 (((((((newPK 2 32 32 (⟨#[115]⟩:ByteArray) false).joinA 1).hasFA 1 (⟨#[192]⟩:ByteArray)).chokeA 1 false false).lookV 1 3).length:Int))) 4 rfl (decide_eq_true hb30) H29 (fun _ _=>x_q) ?_
     refine w_tg 5 rfl (decide_eq_true hb30) H29 (fun _ _=>x_bin rfl rfl rfl b_eql) ?_
     refine w_t (v:=.bool (decide ((((((((newPK 2 32 32 (⟨#[115]⟩:ByteArray) false).joinA 1).hasFA 1 (⟨#[192]⟩:ByteArray)).chokeA 1 false false).lookV 1 3).length:Int):Int)=3))) 6 rfl H29 (fun _ _=>x_pick_t rfl rfl (decide_eq_true hb30) rfl) ?_
     refine w_t 7 rfl H29 (fun _ _=>xm) ?_
     by_cases hb31:(((((((newPK 2 32 32 (⟨#[115]⟩:ByteArray) false).joinA 1).hasFA 1 (⟨#[192]⟩:ByteArray)).chokeA 1 false false).lookV 1 3).length:Int):Int)=3
     ·
      refine w_tg 8 rfl (decide_eq_true hb31) H29 (fun _ _=>xm) ?_
      refine w_tg (v:=.pointer ((pv25).map fun q=>q.add (0 * 3))) 9 rfl (decide_eq_true hb31) H29 (fun _ _=>x_ip 0 ((H29.rr 0).some (by omega))) ?_
      refine w_tg (v:=.pointer ((pv25).map fun q=>q.add (0 * 3+0))) 10 rfl (decide_eq_true hb31) H29 (fun _ _=>ex_cast (x_fieldAddrG (m:=0 * 3) ((H29.rr 0).some (by omega)) rfl rfl fo44_0) rfl) ?_
      obtain ⟨x32,hx32⟩:=(H29.rr 0).exL choE 0
      have ex32:x32=⟨ia,0,16⟩:=by have h9:=hx32; rw [hl9] at h9; exact (Option.some.inj h9).symm
      have ex32p:x32.pc=ia:=by rw [ex32]
      have ex32b:x32.bg=0:=by rw [ex32]
      refine w_tg (v:=.int .i64 (x32.pc)) 11 rfl (decide_eq_true hb31) H29 (fun _ H=>x_loadF1 (i:=0) (j:=0) choE (H.rr 0) hx32 rfl rfl Tryz.underlying3 rfl rfl) ?_
      refine w_tg 12 rfl (decide_eq_true hb31) H29 (fun _ _=>xm) ?_
      refine w_tg (v:=.pointer ((pv25).map fun q=>q.add (1 * 3))) 13 rfl (decide_eq_true hb31) H29 (fun _ _=>x_ip 1 ((H29.rr 0).some (by omega))) ?_
      refine w_tg (v:=.pointer ((pv25).map fun q=>q.add (1 * 3+0))) 14 rfl (decide_eq_true hb31) H29 (fun _ _=>ex_cast (x_fieldAddrG (m:=1 * 3) ((H29.rr 0).some (by omega)) rfl rfl fo44_0) rfl) ?_
      obtain ⟨x33,hx33⟩:=(H29.rr 0).exL choE 1
      have ex33:x33=⟨ia,16,16⟩:=by have h9:=hx33; rw [hl9] at h9; exact (Option.some.inj h9).symm
      have ex33p:x33.pc=ia:=by rw [ex33]
      have ex33b:x33.bg=16:=by rw [ex33]
      refine w_tg (v:=.int .i64 (x33.pc)) 15 rfl (decide_eq_true hb31) H29 (fun _ H=>x_loadF1 (i:=0) (j:=1) choE (H.rr 0) hx33 rfl rfl Tryz.underlying3 rfl rfl) ?_
      refine w_tg 16 rfl (decide_eq_true hb31) H29 (fun _ _=>x_bin rfl rfl rfl b_eql) ?_
      refine w_t (v:=.bool (decide ((x32.pc:Int)=x33.pc))) 17 rfl H29 (fun _ _=>x_pick_t rfl rfl (decide_eq_true hb31) rfl) ?_
      refine w_t 18 rfl H29 (fun _ _=>xm) ?_
      by_cases hb34:(x32.pc:Int)=x33.pc
      ·
       refine w_tg 19 rfl (decide_eq_true hb34) H29 (fun _ _=>xm) ?_
       refine w_tg (v:=.pointer ((pv25).map fun q=>q.add (2 * 3))) 20 rfl (decide_eq_true hb34) H29 (fun _ _=>x_ip 2 ((H29.rr 0).some (by omega))) ?_
       refine w_tg (v:=.pointer ((pv25).map fun q=>q.add (2 * 3+0))) 21 rfl (decide_eq_true hb34) H29 (fun _ _=>ex_cast (x_fieldAddrG (m:=2 * 3) ((H29.rr 0).some (by omega)) rfl rfl fo44_0) rfl) ?_
       obtain ⟨x35,hx35⟩:=(H29.rr 0).exL choE 2
       have ex35:x35=⟨ja,0,16⟩:=by have h9:=hx35; rw [hl9] at h9; exact (Option.some.inj h9).symm
       have ex35p:x35.pc=ja:=by rw [ex35]
       have ex35b:x35.bg=0:=by rw [ex35]
       refine w_tg (v:=.int .i64 (x35.pc)) 22 rfl (decide_eq_true hb34) H29 (fun _ H=>x_loadF1 (i:=0) (j:=2) choE (H.rr 0) hx35 rfl rfl Tryz.underlying3 rfl rfl) ?_
       refine w_tg 23 rfl (decide_eq_true hb34) H29 (fun _ _=>xm) ?_
       refine w_tg (v:=.pointer ((pv25).map fun q=>q.add (0 * 3))) 24 rfl (decide_eq_true hb34) H29 (fun _ _=>x_ip 0 ((H29.rr 0).some (by omega))) ?_
       refine w_tg (v:=.pointer ((pv25).map fun q=>q.add (0 * 3+0))) 25 rfl (decide_eq_true hb34) H29 (fun _ _=>ex_cast (x_fieldAddrG (m:=0 * 3) ((H29.rr 0).some (by omega)) rfl rfl fo44_0) rfl) ?_
       refine w_tg (v:=.int .i64 (x32.pc)) 26 rfl (decide_eq_true hb34) H29 (fun _ H=>x_loadF1 (i:=0) (j:=0) choE (H.rr 0) hx32 rfl rfl Tryz.underlying3 rfl rfl) ?_
       refine w_tg (v:=.bool (!decide ((x35.pc:Int)=x32.pc))) 27 rfl (decide_eq_true hb34) H29 (fun _ _=>x_bin rfl rfl rfl b_neq) ?_
       refine w_t (v:=.bool (!decide ((x35.pc:Int)=x32.pc))) 28 rfl H29 (fun _ _=>x_pick_t rfl rfl (decide_eq_true hb34) rfl) ?_
       refine w_t 29 rfl H29 (fun _ _=>xm) ?_
       by_cases hb36:(x35.pc:Int)=x32.pc
       ·
        refine w_tn 30 rfl (nf hb36) H29 ?_
        refine w_tn 31 rfl (nf hb36) H29 ?_
        refine w_tn 32 rfl (nf hb36) H29 ?_
        refine w_tn 33 rfl (nf hb36) H29 ?_
        refine w_tn 34 rfl (nf hb36) H29 ?_
        refine w_t (v:=.bool false) 35 rfl H29 (fun _ _=>x_pick_f rfl rfl (nf hb36) rfl) ?_
        refine w_t 36 rfl H29 (fun _ _=>xm) ?_
        refine w_tn 37 rfl rfl H29 ?_
        refine w_tn 38 rfl rfl H29 ?_
        refine w_tn 39 rfl rfl H29 ?_
        refine w_tn 40 rfl rfl H29 ?_
        refine w_tn 41 rfl rfl H29 ?_
        refine w_t (v:=.bool false) 42 rfl H29 (fun _ _=>x_pick_f rfl rfl rfl rfl) ?_
        refine a_one (i:=43) (by kernel_rfl) rfl ?_
        refine s_v xa ?_
        refine a_k H29 ?_
        refine a_done (by kernel_rfl) ?_
        refine w_0 ?_
        refine g_wk [(0,_)] ?_
        refine g_ret ?_
        refine fin_r [.tmp 0] [.bool false] ?_
        exfalso
        omega
       ·
        refine w_tg 30 rfl (nt hb36) H29 (fun _ _=>xm) ?_
        refine w_tg (v:=.pointer ((pv25).map fun q=>q.add (2 * 3))) 31 rfl (nt hb36) H29 (fun _ _=>x_ip 2 ((H29.rr 0).some (by omega))) ?_
        refine w_tg (v:=.pointer ((pv25).map fun q=>q.add (2 * 3+1))) 32 rfl (nt hb36) H29 (fun _ _=>ex_cast (x_fieldAddrG (m:=2 * 3) ((H29.rr 0).some (by omega)) rfl rfl fo44_1) rfl) ?_
        refine w_tg (v:=.int .i64 (x35.bg)) 33 rfl (nt hb36) H29 (fun _ H=>x_loadF1 (i:=1) (j:=2) choE (H.rr 0) hx35 rfl rfl Tryz.underlying3 rfl rfl) ?_
        refine w_tg 34 rfl (nt hb36) H29 (fun _ _=>x_bin rfl rfl rfl b_eql) ?_
        refine w_t (v:=.bool (decide ((x35.bg:Int)=0))) 35 rfl H29 (fun _ _=>x_pick_t rfl rfl (nt hb36) rfl) ?_
        refine w_t 36 rfl H29 (fun _ _=>xm) ?_
        by_cases hb37:(x35.bg:Int)=0
        ·
         refine w_tg 37 rfl (decide_eq_true hb37) H29 (fun _ _=>xm) ?_
         refine w_tg (v:=.pointer ((pv25).map fun q=>q.add (1 * 3))) 38 rfl (decide_eq_true hb37) H29 (fun _ _=>x_ip 1 ((H29.rr 0).some (by omega))) ?_
         refine w_tg (v:=.pointer ((pv25).map fun q=>q.add (1 * 3+1))) 39 rfl (decide_eq_true hb37) H29 (fun _ _=>ex_cast (x_fieldAddrG (m:=1 * 3) ((H29.rr 0).some (by omega)) rfl rfl fo44_1) rfl) ?_
         refine w_tg (v:=.int .i64 (x33.bg)) 40 rfl (decide_eq_true hb37) H29 (fun _ H=>x_loadF1 (i:=1) (j:=1) choE (H.rr 0) hx33 rfl rfl Tryz.underlying3 rfl rfl) ?_
         refine w_tg 41 rfl (decide_eq_true hb37) H29 (fun _ _=>x_bin rfl rfl rfl b_eql) ?_
         refine w_t (v:=.bool (decide ((x33.bg:Int)=16))) 42 rfl H29 (fun _ _=>x_pick_t rfl rfl (decide_eq_true hb37) rfl) ?_
         refine a_one (i:=43) (by kernel_rfl) rfl ?_
         refine s_v xa ?_
         refine a_k H29 ?_
         refine a_done (by kernel_rfl) ?_
         refine w_0 ?_
         refine g_wk [(0,_)] ?_
         refine g_ret ?_
         refine fin_r [.tmp 0] [.bool (decide ((x33.bg:Int)=16))] ?_
         have hV:(decide ((x33.bg:Int)=16))=true:=by first | rfl | exact decide_eq_true (by omega)
         rw [hV]
         exact ⟨rfl,H29.mask [false,false,false,true]⟩
        ·
         refine w_tn 37 rfl (decide_eq_false hb37) H29 ?_
         refine w_tn 38 rfl (decide_eq_false hb37) H29 ?_
         refine w_tn 39 rfl (decide_eq_false hb37) H29 ?_
         refine w_tn 40 rfl (decide_eq_false hb37) H29 ?_
         refine w_tn 41 rfl (decide_eq_false hb37) H29 ?_
         refine w_t (v:=.bool false) 42 rfl H29 (fun _ _=>x_pick_f rfl rfl (decide_eq_false hb37) rfl) ?_
         refine a_one (i:=43) (by kernel_rfl) rfl ?_
         refine s_v xa ?_
         refine a_k H29 ?_
         refine a_done (by kernel_rfl) ?_
         refine w_0 ?_
         refine g_wk [(0,_)] ?_
         refine g_ret ?_
         refine fin_r [.tmp 0] [.bool false] ?_
         exfalso
         omega
      ·
       refine w_tn 19 rfl (decide_eq_false hb34) H29 ?_
       refine w_tn 20 rfl (decide_eq_false hb34) H29 ?_
       refine w_tn 21 rfl (decide_eq_false hb34) H29 ?_
       refine w_tn 22 rfl (decide_eq_false hb34) H29 ?_
       refine w_tn 23 rfl (decide_eq_false hb34) H29 ?_
       refine w_tn 24 rfl (decide_eq_false hb34) H29 ?_
       refine w_tn 25 rfl (decide_eq_false hb34) H29 ?_
       refine w_tn 26 rfl (decide_eq_false hb34) H29 ?_
       refine w_tn 27 rfl (decide_eq_false hb34) H29 ?_
       refine w_t (v:=.bool false) 28 rfl H29 (fun _ _=>x_pick_f rfl rfl (decide_eq_false hb34) rfl) ?_
       refine w_t 29 rfl H29 (fun _ _=>xm) ?_
       refine w_tn 30 rfl rfl H29 ?_
       refine w_tn 31 rfl rfl H29 ?_
       refine w_tn 32 rfl rfl H29 ?_
       refine w_tn 33 rfl rfl H29 ?_
       refine w_tn 34 rfl rfl H29 ?_
       refine w_t (v:=.bool false) 35 rfl H29 (fun _ _=>x_pick_f rfl rfl rfl rfl) ?_
       refine w_t 36 rfl H29 (fun _ _=>xm) ?_
       refine w_tn 37 rfl rfl H29 ?_
       refine w_tn 38 rfl rfl H29 ?_
       refine w_tn 39 rfl rfl H29 ?_
       refine w_tn 40 rfl rfl H29 ?_
       refine w_tn 41 rfl rfl H29 ?_
       refine w_t (v:=.bool false) 42 rfl H29 (fun _ _=>x_pick_f rfl rfl rfl rfl) ?_
       refine a_one (i:=43) (by kernel_rfl) rfl ?_
       refine s_v xa ?_
       refine a_k H29 ?_
       refine a_done (by kernel_rfl) ?_
       refine w_0 ?_
       refine g_wk [(0,_)] ?_
       refine g_ret ?_
       refine fin_r [.tmp 0] [.bool false] ?_
       exfalso
       omega
     ·
      refine w_tn 8 rfl (decide_eq_false hb31) H29 ?_
      refine w_tn 9 rfl (decide_eq_false hb31) H29 ?_
      refine w_tn 10 rfl (decide_eq_false hb31) H29 ?_
      refine w_tn 11 rfl (decide_eq_false hb31) H29 ?_
      refine w_tn 12 rfl (decide_eq_false hb31) H29 ?_
      refine w_tn 13 rfl (decide_eq_false hb31) H29 ?_
      refine w_tn 14 rfl (decide_eq_false hb31) H29 ?_
      refine w_tn 15 rfl (decide_eq_false hb31) H29 ?_
      refine w_tn 16 rfl (decide_eq_false hb31) H29 ?_
      refine w_t (v:=.bool false) 17 rfl H29 (fun _ _=>x_pick_f rfl rfl (decide_eq_false hb31) rfl) ?_
      refine w_t 18 rfl H29 (fun _ _=>xm) ?_
      refine w_tn 19 rfl rfl H29 ?_
      refine w_tn 20 rfl rfl H29 ?_
      refine w_tn 21 rfl rfl H29 ?_
      refine w_tn 22 rfl rfl H29 ?_
      refine w_tn 23 rfl rfl H29 ?_
      refine w_tn 24 rfl rfl H29 ?_
      refine w_tn 25 rfl rfl H29 ?_
      refine w_tn 26 rfl rfl H29 ?_
      refine w_tn 27 rfl rfl H29 ?_
      refine w_t (v:=.bool false) 28 rfl H29 (fun _ _=>x_pick_f rfl rfl rfl rfl) ?_
      refine w_t 29 rfl H29 (fun _ _=>xm) ?_
      refine w_tn 30 rfl rfl H29 ?_
      refine w_tn 31 rfl rfl H29 ?_
      refine w_tn 32 rfl rfl H29 ?_
      refine w_tn 33 rfl rfl H29 ?_
      refine w_tn 34 rfl rfl H29 ?_
      refine w_t (v:=.bool false) 35 rfl H29 (fun _ _=>x_pick_f rfl rfl rfl rfl) ?_
      refine w_t 36 rfl H29 (fun _ _=>xm) ?_
      refine w_tn 37 rfl rfl H29 ?_
      refine w_tn 38 rfl rfl H29 ?_
      refine w_tn 39 rfl rfl H29 ?_
      refine w_tn 40 rfl rfl H29 ?_
      refine w_tn 41 rfl rfl H29 ?_
      refine w_t (v:=.bool false) 42 rfl H29 (fun _ _=>x_pick_f rfl rfl rfl rfl) ?_
      refine a_one (i:=43) (by kernel_rfl) rfl ?_
      refine s_v xa ?_
      refine a_k H29 ?_
      refine a_done (by kernel_rfl) ?_
      refine w_0 ?_
      refine g_wk [(0,_)] ?_
      refine g_ret ?_
      refine fin_r [.tmp 0] [.bool false] ?_
      exfalso
      omega
    ·
     refine w_tn 3 rfl (decide_eq_false hb30) H29 ?_
     refine w_tn 4 rfl (decide_eq_false hb30) H29 ?_
     refine w_tn 5 rfl (decide_eq_false hb30) H29 ?_
     refine w_t (v:=.bool false) 6 rfl H29 (fun _ _=>x_pick_f rfl rfl (decide_eq_false hb30) rfl) ?_
     refine w_t 7 rfl H29 (fun _ _=>xm) ?_
     refine w_tn 8 rfl rfl H29 ?_
     refine w_tn 9 rfl rfl H29 ?_
     refine w_tn 10 rfl rfl H29 ?_
     refine w_tn 11 rfl rfl H29 ?_
     refine w_tn 12 rfl rfl H29 ?_
     refine w_tn 13 rfl rfl H29 ?_
     refine w_tn 14 rfl rfl H29 ?_
     refine w_tn 15 rfl rfl H29 ?_
     refine w_tn 16 rfl rfl H29 ?_
     refine w_t (v:=.bool false) 17 rfl H29 (fun _ _=>x_pick_f rfl rfl rfl rfl) ?_
     refine w_t 18 rfl H29 (fun _ _=>xm) ?_
     refine w_tn 19 rfl rfl H29 ?_
     refine w_tn 20 rfl rfl H29 ?_
     refine w_tn 21 rfl rfl H29 ?_
     refine w_tn 22 rfl rfl H29 ?_
     refine w_tn 23 rfl rfl H29 ?_
     refine w_tn 24 rfl rfl H29 ?_
     refine w_tn 25 rfl rfl H29 ?_
     refine w_tn 26 rfl rfl H29 ?_
     refine w_tn 27 rfl rfl H29 ?_
     refine w_t (v:=.bool false) 28 rfl H29 (fun _ _=>x_pick_f rfl rfl rfl rfl) ?_
     refine w_t 29 rfl H29 (fun _ _=>xm) ?_
     refine w_tn 30 rfl rfl H29 ?_
     refine w_tn 31 rfl rfl H29 ?_
     refine w_tn 32 rfl rfl H29 ?_
     refine w_tn 33 rfl rfl H29 ?_
     refine w_tn 34 rfl rfl H29 ?_
     refine w_t (v:=.bool false) 35 rfl H29 (fun _ _=>x_pick_f rfl rfl rfl rfl) ?_
     refine w_t 36 rfl H29 (fun _ _=>xm) ?_
     refine w_tn 37 rfl rfl H29 ?_
     refine w_tn 38 rfl rfl H29 ?_
     refine w_tn 39 rfl rfl H29 ?_
     refine w_tn 40 rfl rfl H29 ?_
     refine w_tn 41 rfl rfl H29 ?_
     refine w_t (v:=.bool false) 42 rfl H29 (fun _ _=>x_pick_f rfl rfl rfl rfl) ?_
     refine a_one (i:=43) (by kernel_rfl) rfl ?_
     refine s_v xa ?_
     refine a_k H29 ?_
     refine a_done (by kernel_rfl) ?_
     refine w_0 ?_
     refine g_wk [(0,_)] ?_
     refine g_ret ?_
     refine fin_r [.tmp 0] [.bool false] ?_
     exfalso
     omega
   ·
    refine g_nt hb20 ?_
    refine w_k5 ?_
    refine fin_r [.tmp 0] [.bool false] ?_
    exfalso
    omega
  ·
   refine g_nt hb12 ?_
   refine w_k5 ?_
   refine fin_r [.tmp 0] [.bool false] ?_
   exfalso
   omega
 ·
  iterate 3 refine w_n (nt hb7) ?_
  refine w_v (x_pick_t rfl rfl (nt hb7) rfl) ?_
  refine w_e ?_
  refine g_wk [(1,_),(21,_)] ?_
  refine g_cond_t rfl rfl ?_
  refine w_k5 ?_
  refine fin_r [.tmp 0] [.bool false] ?_
  exfalso
  omega
end Go.Proofs.YthmmfhdpkddniaaGreatDoor
