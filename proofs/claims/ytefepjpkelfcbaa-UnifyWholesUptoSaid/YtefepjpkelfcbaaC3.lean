/- Part 3 of the proof of unifyWholes_holds. Conditions: none. -/
import Derived.Test.YtefepjpkelfcbaaC2
set_option linter.unusedVariables false
set_option linter.unusedSimpArgs false
set_option linter.unusedSectionVars false
set_option maxRecDepth 100000
open Go.Proofs.Try
namespace Go.Vk.Try
open Go.RowKit
theorem c_Mark {w0: World} {H: PHeap} {L0: List Ent} (hI: Inv w0 H L0) {pw: Nat} {B: List Tm} {tr: List Chg} (hz: ZS 26 105 1 68 71 pw B tr H L0): Calls prog 33 #[(pB pw)] w0 (fun e w'=>e=.returned (iV ((tr.length: Nat): Int))∧Step w0 H L0 w' H L0):=by
 obtain⟨A,c,xs,en,A2,c2,vs,en2,rfl,hR,hA,hm,hR2,hT,hl1,hl2⟩:=hz;have hS:=Step.refl hI;have hxl:=aR hm;have hcap1:=Row.cap hR;have hcap2:=Row.cap hR2;have htl:=hT.len;rw [List.length_reverse] at htl;refine enter [(pB pw)] func33 Y ntmps33 Y fun a ha=>?_;refine wp_seq (ab (Ls Y ha fun a ha=>?_));refine wpList_nil (aa (wp_seq (wp_seq (ab (Lm Y ha fun a ha=>?_)))));refine lin Y (bO T56.und T105 ha Y Y Y fun a ha=>?_);refine wpList_nil (aa (an ha Y (wp_skip (aa (wp_seq (ab (Lm Y ha fun a ha=>?_)))))));refine lin Y (aS ha Y Y fun a ha=>?_);refine lin Y (ac (f:=1) (o2:=1) T105 T103 Y Y Y Y ha Y Y fun a ha=>?_);refine lin Y (af (v:=(.slice A2 vs.length c2)) T103 Y ha Y (hS.blkL 1 rfl) Y Y fun a ha=>?_);refine lin Y (aE T103.und ha Y Y fun a ha=>?_);refine Ls Y ha fun a ha=>?_;refine wpList_nil (aa (wp_ret (ret1 Y ha Y ?_)));rw [htl];exact⟨rfl,hS⟩
theorem ba {w0: World} {H: PHeap} {L0: List Ent} (hI: Inv w0 H L0) {pw: Nat} {B: List Tm} {tr: List Chg} (hz: ZS 26 105 1 68 71 pw B tr H L0): Calls prog 32 #[(pB pw)] w0 (fun e w'=> ∃ H' A c,e=.returned (sv A B.length c)∧RowT H' A c B∧ZS 26 105 1 68 71 pw B tr H' L0∧Step w0 H L0 w' H' L0):=by
 have hS:=Step.refl hI;refine enter [(pB pw)] func32 Y ntmps32 Y fun a ha=>?_;refine wp_seq (ab (lin Y (aC (cs:= #[(.slice none 0 0)]) T24 hS ha Y Y fun b1 a w hS ha=>?_)));refine wpList_nil (aa (wp_seq (wp_seq (ab (Lm Y ha fun a ha=>?_)))));refine lin Y (bO T56.und T105 ha Y Y Y fun a ha=>?_);refine wpList_nil (aa (an ha Y (wp_skip (aa (wp_seq (ab (Lm Y ha fun a ha=>?_)))))));refine lin Y (aS ha Y Y fun a ha=>?_);refine lin Y (ac (f:=0) (o2:=0) T105 T97 Y Y Y Y ha Y Y fun a ha=>?_);obtain⟨Ac_,cc_,hC_⟩:=(fw 26 105 1 68 71 pw).rd (Inv.tail (Es:= [(some b1,(.cells #[(.slice none 0 0)] 24 (0,0)))]) hS.inv) hz;have hk4:=dY hS.inv.nil hC_;refine lin Y (Co func60 ha Y (hk4) ?_);rintro e w ⟨H3,A3,c3,rfl,hr3,hc3⟩;refine⟨_,rfl,fun a ha=>?_⟩;have hS:=hS.call hc3;have hz:=hz.mono hc3.le;refine lin Y (aw (cs':= #[(.slice A3 B.length c3)]) T24 hS (i:=0) Y ha Y Y Y Y Y Y fun a w hS ha=>?_);refine wpList_nil (aa (wp_ret (retA (i:=0) (cs:= #[(.slice A3 B.length c3)]) Y T24 Y hS Y ha Y Y ?_)));have hS:=hS.drop;exact⟨_,_,_,rfl,hr3,hz,hS⟩
theorem c_Back {w0: World} {H: PHeap} {L0: List Ent} (hI: Inv w0 H L0) {pw: Nat} {B: List Tm} {tr: List Chg} (hz: ZS 26 105 1 68 71 pw B tr H L0) {mark: Int} (hW: WfT B.length tr): Calls prog 36 #[(pB pw),(iV mark)] w0 (fun e w'=> ∃ H' L',e=.returned (iV (sBack B tr mark).2)∧ZS 26 105 1 68 71 pw (sBack B tr mark).1.1 (sBack B tr mark).1.2 H' L'∧Step w0 H L0 w' H' L'):=by
 have hz0:=hz;obtain⟨A,c,xs,en,A2,c2,vs,en2,rfl,hR,hA,hm,hR2,hT,hl1,hl2⟩:=hz0;have hS:=Step.refl hI;have hxl:=aR hm;have hcap1:=Row.cap hR;have hcap2:=Row.cap hR2;have htl:=hT.len;rw [List.length_reverse] at htl;refine enter [(pB pw),(iV mark)] func36 Y ntmps36 Y fun a ha=>?_;refine wp_seq (ab (Ls Y ha fun a ha=>?_));refine wpList_nil (aa (wp_seq (wp_seq (bh (D:= []) (N:=23) (E:= [(0,(pB pw)),(1,(iV mark)),(19,(.bool ((decide (mark < 0))||(decide (((vs.length: Nat): Int) < mark)))))]) (fun a ha=>?_) ?_))));rotate_left
 ·refine Lm Y ha fun a ha=>?_;refine lin Y (bO T56.und T105 ha Y Y Y fun a ha=>?_);refine Lm Y ha fun a ha=>?_;refine ad Y ha Y Y Y (am ha Y Y fun a ha=>?_);refine ad Y ha Y Y Y (aY (i:=mark) (j:=0) ha Y Y Y fun a ha=>?_);refine lin Y (ah ha Y Y Y fun a ha=>?_);refine Lm Y ha fun a ha=>?_;refine al (t:=11) ha Y (fun h1 ha=>?_) (fun h1 ha=>?_)
  ·refine Lf Y ha Y Y fun a ha=>?_;refine Lf Y ha Y Y fun a ha=>?_;refine Lf Y ha Y Y fun a ha=>?_;refine Lf Y ha Y Y fun a ha=>?_;refine Lf Y ha Y Y fun a ha=>?_;refine Lf Y ha Y Y fun a ha=>?_;refine Lf Y ha Y Y fun a ha=>?_;refine lin Y (aj ha Y Y Y fun a ha=>?_);exact wpList_nil ⟨rfl,rfl,Has.cons ha Y (Has.cons ha Y (Has.cons ha (by simp [lk,Nat.beq,h1]) (ha.nil)))⟩
  ·refine ad Y ha Y Y Y (am ha Y Y fun a ha=>?_);refine ad Y ha Y Y Y (am ha Y Y fun a ha=>?_);refine ad Y ha Y Y Y (aS ha Y Y fun a ha=>?_);refine ad Y ha Y Y Y (ac (f:=1) (o2:=1) T105 T103 Y Y Y Y ha Y Y fun a ha=>?_);refine ad Y ha Y Y Y (af (v:=(.slice A2 vs.length c2)) T103 Y ha Y (hS.blkL 1 rfl) Y Y fun a ha=>?_);refine ad Y ha Y Y Y (aE T103.und ha Y Y fun a ha=>?_);refine ad Y ha Y Y Y (dc (i:=mark) (j:=((vs.length: Nat): Int)) ha Y Y Y fun a ha=>?_);refine lin Y (ah ha Y Y Y fun a ha=>?_);exact wpList_nil ⟨rfl,rfl,Has.cons ha Y (Has.cons ha Y (Has.cons ha (by simp [lk,Nat.beq,h1]) (ha.nil)))⟩
 refine aa (?_);have hmk_:(decide (mark < 0)||decide (((vs.length: Nat): Int) < mark))=(decide (mark < 0)||decide (((tr.length: Nat): Int) < mark)):=by rw [htl]
 refine ap (t:=19) ha Y (fun h2 ha=>?_) (fun h2 ha=>?_)
 ·refine ar ha Y (wp_seq (ab (Ls Y ha fun a ha=>?_)));refine wpList_nil (aa (wp_ret (ak (ret1 Y ha Y ?_))));have hv_: sBack B tr mark=((B,tr),1):=by unfold sBack;rw [← hmk_,if_pos (by simpa using h2)]
  rw [hv_];exact⟨_,_,rfl,hz,hS⟩
 ·have hmn_:=h2;simp only [Bool.or_eq_false_iff,decide_eq_false_iff_not] at hmn_;refine an ha Y (wp_skip (aa (wp_seq (ab (Lm Y ha fun a ha=>?_)))));refine Lm Y ha fun a ha=>?_;have hk3:=fi hS.inv hz (many:=mark) (by omega) hW;refine lin Y (Co func72 ha Y (hk3) ?_);rintro e w ⟨H3,L3,rfl,hz3,hc3⟩;refine⟨_,rfl,fun a ha=>?_⟩;have hS:=hS.calls hc3;refine wpList_nil (aa (wp_seq (ab (Ls Y ha fun a ha=>?_))));refine wpList_nil (aa (wp_ret (ret1 Y ha Y ?_)));have hv_: sBack B tr mark=(undoS B tr mark.toNat,0):=by unfold sBack;rw [← hmk_,if_neg (by rw [show _=false from h2];simp)]
  rw [hv_];exact⟨_,_,rfl,hz3,hS⟩
theorem map_setlast {xs: List TV} {B: List Tm} {z z': TV} (h: xs.map TV.t=B) (hz: z'.t=Tm.zero):((xs++ [z]).set xs.length z').map TV.t=B++ [Tm.zero]:=by
 rw [List.set_append_right _ _ (Nat.le_refl _),Nat.sub_self,List.set_cons_zero,List.map_append,h,List.map_cons,hz];rfl
theorem map_addlast {xs: List TV} {B: List Tm} {z: TV} (h: xs.map TV.t=B) (hz: z.t=Tm.zero):(xs++ [z]).map TV.t=B++ [Tm.zero]:=by
 rw [List.map_append,h,List.map_cons,hz];rfl
set_option maxHeartbeats 2000000 in
theorem c_Var {w0: World} {H: PHeap} {L0: List Ent} (hI: Inv w0 H L0) {pw: Nat} {B: List Tm} {tr: List Chg} (hz: ZS 26 105 1 68 71 pw B tr H L0) (hlt: tr.length≤900000000): Calls prog 34 #[(pB pw)] w0 (fun e w'=> ∃ H' L',e=.returned (.tuple #[.int .i64 (sVar B tr).2.1,.int .i64 (sVar B tr).2.2])∧ZS 26 105 1 68 71 pw (sVar B tr).1.1 (sVar B tr).1.2 H' L'∧Step w0 H L0 w' H' L'):=by
 obtain⟨A,c,xs,en,A2,c2,vs,en2,rfl,hR,hA,hm,hR2,hT,hl1,hl2⟩:=hz;have hS:=Step.refl hI;have hxl:=aR hm;have hcap1:=Row.cap hR;have hcap2:=Row.cap hR2;have htl:=hT.len;rw [List.length_reverse] at htl;refine enter [(pB pw)] func34 Y ntmps34 Y fun a ha=>?_;refine wp_seq (ab (lin Y (aG (cs:= #[(pB pw)]) hS ha Y Y Y fun b1 a w hS ha=>?_)));obtain⟨H3,hS,hle3,hb3⟩:=hS.give;have hA:=hA.mono hle3;have hT:=TrL.mono (hle3) hT;refine Ls Y ha fun a ha=>?_;refine Ls Y ha fun a ha=>?_;refine wpList_nil (aa (wp_seq (wp_seq (ab (lin Y (af (v:=(pB pw)) T56 Y ha Y (hS.blkH hb3) Y Y fun a ha=>?_))))));refine lin Y (bO T56.und T105 ha Y Y Y fun a ha=>?_);refine wpList_nil (aa (an ha Y (wp_skip (aa (wp_seq (ab (lin Y (af (v:=(pB pw)) T56 Y ha Y (hS.blkH hb3) Y Y fun a ha=>?_))))))));refine lin Y (aS ha Y Y fun a ha=>?_);refine lin Y (ac (f:=0) (o2:=0) T105 T97 Y Y Y Y ha Y Y fun a ha=>?_);refine lin Y (ac (f:=0) (o2:=0) T97 T22 Y Y Y Y ha Y Y fun a ha=>?_);refine lin Y (af (v:=(.slice A xs.length c)) T22 Y ha Y (hS.blkL 1 rfl) Y Y fun a ha=>?_);refine lin Y (aE T22.und ha Y Y fun a ha=>?_);refine lin Y (aC (cs:= #[(iV 0)]) T3 hS ha Y Y fun b4 a w hS ha=>?_);refine lin Y (aw (cs':= #[(iV ((xs.length: Nat): Int))]) T3 hS (i:=0) Y ha Y Y Y Y Y Y fun a w hS ha=>?_);obtain⟨H6,hS,hle6,hb6⟩:=hS.give;have hA:=hA.mono hle6;have hb3:=hle6 _ _ hb3;have hT:=TrL.mono (hle6) hT;refine wpList_nil (aa (wp_seq (wp_seq (ab (lin Y (af (v:=(iV ((xs.length: Nat): Int))) T3 Y ha Y (hS.blkH hb6) Y Y fun a ha=>?_))))));refine lin Y (dD (i:=((xs.length: Nat): Int)) (j:=100000) ha Y Y Y fun a ha=>?_);refine wpList_nil (aa (al (t:=14) ha Y (fun h7 ha=>?_) (fun h7 ha=>?_)))
 ·refine ar ha Y (wp_seq (ab (Ls Y ha fun a ha=>?_)));refine Ls Y ha fun a ha=>?_;refine wpList_nil (aa (wp_ret (ak (ret2 Y ha Y Y ?_))));have hv_: sVar B tr=((B,tr),(0,2)):=by unfold sVar;rw [if_pos (by omega)]
  rw [hv_];have hb_: Row (.slice A (xs).length c) en 26 4 (xs).length (flat xs):=by have h_:=hR;simpa using h_
  have hv_: Row (.slice A2 (vs).length c2) en2 1 1 (vs).length vs:=by have h_:=hR2;simpa using h_
  exact⟨_,_,rfl,⟨_,_,xs,_,_,_,vs,_,by simp,hb_,hA,hm,hv_,hT,by first | omega |(simp;omega),by first | omega |(simp;omega)⟩,hS⟩
 ·refine an ha Y (wp_skip (aa (wp_seq (wp_seq (c_any mixed hS (fun w hS=>?_))))));refine any1 (i:=0) (by kernel_rfl) Y Y (aC (cs:= #[(.bool false)]) T4 hS ha Y Y fun b8 a w hS ha=>?_);refine any2 (i:=1) (i':=2) (by kernel_rfl) Y Y Y Y ?_ ?_
  ·refine id (aw (cs':= #[(.bool true)]) T4 hS (i:=0) Y ha Y Y Y Y Y Y fun a w hS ha=>?_);refine any1 (i:=2) (by kernel_rfl) Y Y (aw (cs':= #[(.bool false)]) T4 hS (i:=0) Y ha Y Y Y Y Y Y fun a w hS ha=>?_);refine any1 (i:=3) (by kernel_rfl) Y Y (af (v:=(.bool false)) T4 Y ha Y (hS.blkL 0 rfl) Y Y fun a ha=>?_);refine any0 (by kernel_rfl) ?_;refine aa (an ha Y ?_);have hS:=hS.front 1 rfl;have hS_:=hS;refine As.c_draw_head (ini:=(As.il [(8, [en])])) (sup:=(As.sl [])) (als:= [8]) (s0:=⟨H6,fun _=>none⟩) (L:= [(some b8,(.cells #[(.bool false)] 4 (0,0))),(some pw,(.cells #[(.slice A xs.length c),(.slice A2 vs.length c2)] 105 (0,0))),en2]) (N:=53) (E:= [(1,(pB b1)),(4,(pB b4))]) 9 [FcV (pB pw),FcV (pB pw),FcV (pB pw),FcV (pB pw),FcV (pB pw),FcV (.slice A xs.length c),FcV vZ,fun q_ v=>(fun H v=> ∃ b,v=.slice (some ⟨b,0,none⟩) 1 1∧H b=some (.cells aZ 26 (0,0))) q_.H v,fun s v=> ∃(A: Option Addr) (c: Nat) (en: Ent),s.ax 8=some [en]∧v=.slice A ((xs++([⟨tZ,none,0⟩]: List TV)).length) c∧Row (.slice A ((xs++([⟨tZ,none,0⟩]: List TV)).length) c) en 26 4 ((xs++([⟨tZ,none,0⟩]: List TV)).length) (flat (xs++([⟨tZ,none,0⟩]: List TV)))] mixed Y Y Y (As.M1 (As.M1 (As.M1 (As.M1 (As.M1 (As.M1 (As.M1 (As.Monos.cons (fun _ _ v hl h=>(fun _ _ _ hl ⟨b,h,hb⟩=>⟨b,h,hl _ _ hb⟩: ∀(H H': PHeap) (v: Value),Le H H'→(fun H v=> ∃ b,v=.slice (some ⟨b,0,none⟩) 1 1∧H b=some (.cells aZ 26 (0,0))) H v→(fun H v=> ∃ b,v=.slice (some ⟨b,0,none⟩) 1 1∧H b=some (.cells aZ 26 (0,0))) H' v) _ _ _ hl.le h) (As.Monos.cons (fun _ _ _ hl ⟨A,c,en,h,e⟩=>⟨A,c,en,hl.get h,e⟩) (As.Monos.nil)))))))))) (fun _=>rfl) hS (ha.pk Y) (As.QuietsI.c4 ?_ ?_ ?_ ?_ (As.QuietsI.c4 ?_ ?_ ?_ ?_ (As.QuietsI.cons ?_ (As.QuietsI.nil)))) (fun f_ a w s_ hls hS ha hdr_=>?_)
   ·refine As.Qx Y fun a w H_ ax_ hle hax_ hS ha hd hls=>?_;have hb3:=hle _ _ hb3;have hSf:=hS;have hS:=Step.dropN _ _ hS;exact af (v:=(pB pw)) T56 Y ha Y (hS.blkH hb3) Y Y fun a ha=>As.ql ha hSf
   ·refine As.Qx Y fun a w H_ ax_ hle hax_ hS ha hd hls=>?_;have hb3:=hle _ _ hb3;have hSf:=hS;have hS:=Step.dropN _ _ hS;exact af (v:=(pB pw)) T56 Y ha Y (hS.blkH hb3) Y Y fun a ha=>As.ql ha hSf
   ·refine As.Qx1 1 rfl fun a w H_ ax_ hle hax_ hS ha hd hls=>?_;have hSf:=hS;exact aS ha Y Y fun a ha=>As.ql ha hSf
   ·refine As.Qx1 2 rfl fun a w H_ ax_ hle hax_ hS ha hd hls=>?_;have hSf:=hS;exact ac (f:=0) (o2:=0) T105 T97 Y Y Y Y ha Y Y fun a ha=>As.ql ha hSf
   ·refine As.Qx1 3 rfl fun a w H_ ax_ hle hax_ hS ha hd hls=>?_;have hSf:=hS;exact ac (f:=0) (o2:=0) T97 T22 Y Y Y Y ha Y Y fun a ha=>As.ql ha hSf
   ·refine As.Qx1 4 rfl fun a w H_ ax_ hle hax_ hS ha hd hls=>?_;have hSf:=hS;have hS:=Step.dropN _ _ hS;exact af (v:=(.slice A xs.length c)) T22 Y ha Y (hS.blkL 1 rfl) Y Y fun a ha=>As.ql ha hSf
   ·refine As.Qx Y fun a w H_ ax_ hle hax_ hS ha hd hls=>?_;have hSf:=hS;exact aM (vs:= []) (cells:=lZ) T26 PL26 ha (ha.evp Y) Y Y fun a ha=>As.ql ha hSf
   ·refine As.Qx1 6 rfl fun a w H_ ax_ hle hax_ hS ha hd hls=>?_;have hSf:=hS;have hSr:=Step.dropN _ _ hS;refine id (aD (vs:= [(0,vZ)]) (cells:=lZ) T22.und T26 hS ha (ha.evp Y) Y Y Y Y fun b10 a w hS ha=>?_);obtain⟨H10,hS,hle10,hb10⟩:=hS.give;have hr10: RowT H10 (some ⟨b10,0,none⟩) 1 [tZ]:=RowT.of_lit ([⟨tZ,none,0⟩]: List TV) hb10 (AllR.cons (RowT.nil _) (AllR.nil _)) (by simp) Y;exact As.qdone (s:=⟨H_,ax_⟩) hle10 ha hS ⟨_,rfl,hb10⟩
   ·refine As.Qx1 5 rfl fun a w H_ ax_ hle hax_ hS ha hd hls=>?_;obtain⟨_,ha,b10,rfl,hb10⟩:=hd.g ha 7 rfl;have hS: Step w0 H [en,(some pw,.cells #[.slice A xs.length c,.slice A2 vs.length c2] 105 (0,0)),en2] w H_ (en::(As.aents (As.il [(8, [en])]) (As.sl []) [] ax_++As.aents (As.il [(8, [en])]) (As.sl []) [] ax_++ [(some b8,(.cells #[(.bool false)] 4 (0,0))),(some pw,(.cells #[(.slice A xs.length c),(.slice A2 vs.length c2)] 105 (0,0))),en2])):=As.opn (s:=⟨H_,ax_⟩) [] [8] [] [en] rfl (As.con0s hax_ Y) hS;refine id (a0 (news:=(flat ([⟨tZ,none,0⟩]: List TV))) (xs:=(flat xs)) T22.und T26 Y Y hS hR ha Y Y Y (fun _=>⟨b10,0,_,_,_,rfl,hS.blkH hb10,ae Y⟩) (bB Y) (by omega) Y Y fun v11 en11 a w hR11 hS ha=>?_);rw [← bu] at hR11;obtain⟨A11,c11,rfl⟩:=hR11.slice;have hn_:(xs.length+1)=(xs++([⟨tZ,none,0⟩]: List TV)).length:=by have h_:=hR11.1;rw [aK] at h_;omega
    rw [show Value.slice A11 (xs.length+1) c11=Value.slice A11 (xs++([⟨tZ,none,0⟩]: List TV)).length c11 from by rw [hn_]] at ha;rw [hn_] at hR11;exact As.qown (i:=8) (dst:=some 38) (s:=⟨H_,ax_⟩) (E:= [en11]) [] [8] [] rfl Y hax_ (Le.refl _) ha.dfr (As.has_at ha) hS As.con1 ⟨_,_,_,rfl,rfl,hR11⟩
   obtain⟨H12,ax_⟩:=s_;have hle12: Le H6 H12:=hls.le;dsimp only at hdr_ hS;have hA:=hA.mono hle12;have hb3:=hle12 _ _ hb3;have hb6:=hle12 _ _ hb6;have hT:=TrL.mono (hle12) hT;obtain⟨_,ha,rfl⟩:=As.Dd ha hdr_ 0 rfl;obtain⟨_,ha,A11,c11,en11,hx_11,rfl,hR11⟩:=As.Dd ha hdr_ 8 rfl;have hx_11: ax_ 8=some [en11]:=hx_11;have hS: Step w0 H [en,(some pw,.cells #[.slice A xs.length c,.slice A2 vs.length c2] 105 (0,0)),en2] w H12 [en11,(some b8,(.cells #[(.bool false)] 4 (0,0))),(some pw,(.cells #[(.slice A xs.length c),(.slice A2 vs.length c2)] 105 (0,0))),en2]:=by
    have h_:=hS;unfold As.aents at h_;simp only [List.flatMap_cons,List.flatMap_nil,As.conE,show (As.sl []) 8=none from rfl,hx_11,Option.isSome_some,Option.getD_some,cond_true,cond_false,List.cons_append,List.nil_append,List.append_nil] at h_;exact h_
   refine any1 (i:=9) (by kernel_rfl) Y Y (aS ha Y Y fun a ha=>?_);refine any1 (i:=10) (by kernel_rfl) Y Y (ac (f:=0) (o2:=0) T105 T97 Y Y Y Y ha Y Y fun a ha=>?_);refine any1 (i:=11) (by kernel_rfl) Y Y (ac (f:=0) (o2:=0) T97 T22 Y Y Y Y ha Y Y fun a ha=>?_);refine any1 (i:=12) (by kernel_rfl) Y Y (aw (cs':= #[(.slice A11 ((xs++([⟨tZ,none,0⟩]: List TV)).length) c11),(.slice A2 vs.length c2)]) T22 hS (i:=2) Y ha Y Y Y Y Y Y fun a w hS ha=>?_);refine any0 (by kernel_rfl) ?_;refine aa (wp_seq ?_);have hS:=hS.front 3 rfl;have hS_:=hS;refine As.c_draw_head (ini:=(As.il [(7, [en2])])) (sup:=(As.sl [])) (als:= [7]) (s0:=⟨H12,fun _=>none⟩) (L:= [en11,(some b8,(.cells #[(.bool false)] 4 (0,0))),(some pw,(.cells #[(.slice A11 ((xs++([⟨tZ,none,0⟩]: List TV)).length) c11),(.slice A2 vs.length c2)] 105 (0,0)))]) (N:=53) (E:= [(1,(pB b1)),(4,(pB b4))]) 8 [FcV (pB pw),FcV (pB pw),FcV (pB pw),FcV (.pointer (some ⟨pw,1,none⟩)),FcV (.slice A2 vs.length c2),FcV (.func (.func 68) #[] #[(pB b1),(pB b4)]),fun q_ v=>(fun H v=> ∃ b,v=.slice (some ⟨b,0,none⟩) 1 1∧H b=some (.cells #[(.func (.func 68) #[] #[(pB b1),(pB b4)])] 1 (0,0))) q_.H v,fun s v=> ∃(A: Option Addr) (c: Nat) (en: Ent),s.ax 7=some [en]∧v=.slice A (vs.length+1) c∧Row (.slice A (vs.length+1) c) en 1 1 (vs.length+1) (vs++([(.func (.func 68) #[] #[(pB b1),(pB b4)])]: List Value))] mixed Y Y Y (As.M1 (As.M1 (As.M1 (As.M1 (As.M1 (As.M1 (As.Monos.cons (fun _ _ v hl h=>(fun _ _ _ hl ⟨b,h,hb⟩=>⟨b,h,hl _ _ hb⟩: ∀(H H': PHeap) (v: Value),Le H H'→(fun H v=> ∃ b,v=.slice (some ⟨b,0,none⟩) 1 1∧H b=some (.cells #[(.func (.func 68) #[] #[(pB b1),(pB b4)])] 1 (0,0))) H v→(fun H v=> ∃ b,v=.slice (some ⟨b,0,none⟩) 1 1∧H b=some (.cells #[(.func (.func 68) #[] #[(pB b1),(pB b4)])] 1 (0,0))) H' v) _ _ _ hl.le h) (As.Monos.cons (fun _ _ _ hl ⟨A,c,en,h,e⟩=>⟨A,c,en,hl.get h,e⟩) (As.Monos.nil))))))))) (fun _=>rfl) hS (ha.pk Y) (As.QuietsI.c4 ?_ ?_ ?_ ?_ (As.QuietsI.c4 ?_ ?_ ?_ ?_ (As.QuietsI.nil))) (fun f_ a w s_ hls hS ha hdr_=>?_)
   ·refine As.Qx Y fun a w H_ ax_ hle hax_ hS ha hd hls=>?_;have hb3:=hle _ _ hb3;have hSf:=hS;have hS:=Step.dropN _ _ hS;exact af (v:=(pB pw)) T56 Y ha Y (hS.blkH hb3) Y Y fun a ha=>As.ql ha hSf
   ·refine As.Qx Y fun a w H_ ax_ hle hax_ hS ha hd hls=>?_;have hb3:=hle _ _ hb3;have hSf:=hS;have hS:=Step.dropN _ _ hS;exact af (v:=(pB pw)) T56 Y ha Y (hS.blkH hb3) Y Y fun a ha=>As.ql ha hSf
   ·refine As.Qx1 1 rfl fun a w H_ ax_ hle hax_ hS ha hd hls=>?_;have hSf:=hS;exact aS ha Y Y fun a ha=>As.ql ha hSf
   ·refine As.Qx1 2 rfl fun a w H_ ax_ hle hax_ hS ha hd hls=>?_;have hSf:=hS;exact ac (f:=1) (o2:=1) T105 T103 Y Y Y Y ha Y Y fun a ha=>As.ql ha hSf
   ·refine As.Qx1 3 rfl fun a w H_ ax_ hle hax_ hS ha hd hls=>?_;have hSf:=hS;have hS:=Step.dropN _ _ hS;exact af (v:=(.slice A2 vs.length c2)) T103 Y ha Y (hS.blkL 2 rfl) Y Y fun a ha=>As.ql ha hSf
   ·refine As.Qx Y fun a w H_ ax_ hle hax_ hS ha hd hls=>?_;have hSf:=hS;exact bK (fs:= #[]) (cs:= #[(pB b1),(pB b4)]) ha (ha.evs (xs:= []) Y) (ha.evs Y) Y fun a ha=>As.ql ha hSf
   ·refine As.Qx1 5 rfl fun a w H_ ax_ hle hax_ hS ha hd hls=>?_;have hSf:=hS;have hSr:=Step.dropN _ _ hS;refine id (aD (vs:= [(0,(.func (.func 68) #[] #[(pB b1),(pB b4)]))]) (cells:= [(.func (.func 68) #[] #[(pB b1),(pB b4)])]) T103.und T1 hS ha (ha.evp Y) Y Y Y Y fun b13 a w hS ha=>?_);obtain⟨H13,hS,hle13,hb13⟩:=hS.give;exact As.qdone (s:=⟨H_,ax_⟩) hle13 ha hS ⟨_,rfl,hb13⟩
   ·refine As.Qx1 4 rfl fun a w H_ ax_ hle hax_ hS ha hd hls=>?_;obtain⟨_,ha,b13,rfl,hb13⟩:=hd.g ha 6 rfl;have hS: Step w0 H [en,(some pw,.cells #[.slice A xs.length c,.slice A2 vs.length c2] 105 (0,0)),en2] w H_ (en2::(As.aents (As.il [(7, [en2])]) (As.sl []) [] ax_++As.aents (As.il [(7, [en2])]) (As.sl []) [] ax_++ [en11,(some b8,(.cells #[(.bool false)] 4 (0,0))),(some pw,(.cells #[(.slice A11 ((xs++([⟨tZ,none,0⟩]: List TV)).length) c11),(.slice A2 vs.length c2)] 105 (0,0)))])):=As.opn (s:=⟨H_,ax_⟩) [] [7] [] [en2] rfl (As.con0s hax_ Y) hS;refine id (a0 (news:=([(.func (.func 68) #[] #[(pB b1),(pB b4)])]: List Value)) (xs:=vs) T103.und T1 Y Y hS hR2 ha Y Y Y (fun _=>⟨b13,0,_,_,_,rfl,hS.blkH hb13,ae Y⟩) (bB Y) (by omega) Y Y fun v14 en14 a w hR14 hS ha=>?_);obtain⟨A14,c14,rfl⟩:=hR14.slice;exact As.qown (i:=7) (dst:=some 49) (s:=⟨H_,ax_⟩) (E:= [en14]) [] [7] [] rfl Y hax_ (Le.refl _) ha.dfr (As.has_at ha) hS As.con1 ⟨_,_,_,rfl,rfl,hR14⟩
   obtain⟨H15,ax_⟩:=s_;have hle15: Le H12 H15:=hls.le;dsimp only at hdr_ hS;have hA:=hA.mono hle15;have hb3:=hle15 _ _ hb3;have hb6:=hle15 _ _ hb6;have hT:=TrL.mono (hle15) hT;obtain⟨_,ha,rfl⟩:=As.Dd ha hdr_ 0 rfl;obtain⟨_,ha,A14,c14,en14,hx_14,rfl,hR14⟩:=As.Dd ha hdr_ 7 rfl;have hx_14: ax_ 7=some [en14]:=hx_14;have hS: Step w0 H [en,(some pw,.cells #[.slice A xs.length c,.slice A2 vs.length c2] 105 (0,0)),en2] w H15 [en14,en11,(some b8,(.cells #[(.bool false)] 4 (0,0))),(some pw,(.cells #[(.slice A11 ((xs++([⟨tZ,none,0⟩]: List TV)).length) c11),(.slice A2 vs.length c2)] 105 (0,0)))]:=by
    have h_:=hS;unfold As.aents at h_;simp only [List.flatMap_cons,List.flatMap_nil,As.conE,show (As.sl []) 7=none from rfl,hx_14,Option.isSome_some,Option.getD_some,cond_true,cond_false,List.cons_append,List.nil_append,List.append_nil] at h_;exact h_
   refine any1 (i:=8) (by kernel_rfl) Y Y (aS ha Y Y fun a ha=>?_);refine any1 (i:=9) (by kernel_rfl) Y Y (ac (f:=1) (o2:=1) T105 T103 Y Y Y Y ha Y Y fun a ha=>?_);refine any1 (i:=10) (by kernel_rfl) Y Y (aw (cs':= #[(.slice A11 ((xs++([⟨tZ,none,0⟩]: List TV)).length) c11),(.slice A14 (vs.length+1) c14)]) T103 hS (i:=3) Y ha Y Y Y Y Y Y fun a w hS ha=>?_);refine any0 (by kernel_rfl) ?_;refine aa (wp_seq (ab (lin Y (af (v:=(iV ((xs.length: Nat): Int))) T3 Y ha Y (hS.blkH hb6) Y Y fun a ha=>?_))));refine Ls Y ha fun a ha=>?_;refine Ls Y ha fun a ha=>?_;refine wpList_nil (aa (wp_ret (ret2 Y ha Y Y ?_)));have hv_: sVar B tr=((B++ [Tm.zero],.add B.length::tr),(((B.length: Nat): Int),0)):=by unfold sVar;rw [if_neg (by omega)]
   rw [hv_];have hS:=hS.front 2 rfl;have hS:=hS.drop;have hS:=hS.front 2 rfl;have hS:=hS.front 2 rfl;have hb_: Row (.slice A11 ((xs++([⟨tZ,none,0⟩]: List TV))).length c11) en11 26 4 ((xs++([⟨tZ,none,0⟩]: List TV))).length (flat (xs++([⟨tZ,none,0⟩]: List TV))):=by have h_:=hR11;simpa using h_
   have hv_: Row (.slice A14 ((vs++([(.func (.func 68) #[] #[(pB b1),(pB b4)])]: List Value))).length c14) en14 1 1 ((vs++([(.func (.func 68) #[] #[(pB b1),(pB b4)])]: List Value))).length (vs++([(.func (.func 68) #[] #[(pB b1),(pB b4)])]: List Value)):=by have h_:=hR14;simpa using h_
   exact⟨_,_,by rw [hxl],⟨_,_,(xs++([⟨tZ,none,0⟩]: List TV)),_,_,_,(vs++([(.func (.func 68) #[] #[(pB b1),(pB b4)])]: List Value)),_,by simp,hb_,(AllR.append hA (AllR.cons (RowT.nil _) (AllR.nil _))),(map_addlast hm Y),hv_,(hT.push ⟨_,_,_,_,rfl,hb3,by rw [← hxl];exact hb6⟩),by first | omega |(simp;omega),by first | omega |(simp;omega)⟩,hS⟩
  ·refine id (aw (cs':= #[(.bool false)]) T4 hS (i:=0) Y ha Y Y Y Y Y Y fun a w hS ha=>?_);refine any1 (i:=1) (by kernel_rfl) Y Y (aw (cs':= #[(.bool true)]) T4 hS (i:=0) Y ha Y Y Y Y Y Y fun a w hS ha=>?_);refine any1 (i:=3) (by kernel_rfl) Y Y (af (v:=(.bool true)) T4 Y ha Y (hS.blkL 0 rfl) Y Y fun a ha=>?_);refine any0 (by kernel_rfl) ?_;refine aa (ar ha Y (wp_seq (ab (lin Y (af (v:=(pB pw)) T56 Y ha Y (hS.blkH hb3) Y Y fun a ha=>?_)))));refine lin Y (aS ha Y Y fun a ha=>?_);refine lin Y (ac (f:=0) (o2:=0) T105 T97 Y Y Y Y ha Y Y fun a ha=>?_);refine lin Y (ac (f:=0) (o2:=0) T97 T22 Y Y Y Y ha Y Y fun a ha=>?_);refine lin Y (af (v:=(.slice A xs.length c)) T22 Y ha Y (hS.blkL 2 rfl) Y Y fun a ha=>?_);refine lin Y (aM (vs:= []) (cells:=lZ) T26 PL26 ha (ha.evp Y) Y Y fun a ha=>?_);refine lin Y (aE T22.und ha Y Y fun a ha=>?_);refine lin Y (aD (vs:= [(0,vZ)]) (cells:=lZ) T22.und T26 hS ha (ha.evp Y) Y Y Y Y fun b16 a w hS ha=>?_);obtain⟨H16,hS,hle16,hb16⟩:=hS.give;have hA:=hA.mono hle16;have hb3:=hle16 _ _ hb3;have hb6:=hle16 _ _ hb6;have hT:=TrL.mono (hle16) hT;have hr16: RowT H16 (some ⟨b16,0,none⟩) 1 [tZ]:=RowT.of_lit ([⟨tZ,none,0⟩]: List TV) hb16 (AllR.cons (RowT.nil _) (AllR.nil _)) (by simp) Y;have hS:=hS.front 1 rfl;refine lin Y (a0 (news:=(flat ([⟨tZ,none,0⟩]: List TV))) (xs:=(flat xs)) T22.und T26 Y Y hS hR ha Y Y Y (fun _=>⟨b16,0,_,_,_,rfl,hS.blkH hb16,ae Y⟩) (bB Y) (by omega) Y Y fun v17 en17 a w hR17 hS ha=>?_);rw [← bu] at hR17;obtain⟨A17,c17,rfl⟩:=hR17.slice;have hn_:(xs.length+1)=(xs++([⟨tZ,none,0⟩]: List TV)).length:=by have h_:=hR17.1;rw [aK] at h_;omega
   rw [show Value.slice A17 (xs.length+1) c17=Value.slice A17 (xs++([⟨tZ,none,0⟩]: List TV)).length c17 from by rw [hn_]] at ha;rw [hn_] at hR17;refine lin Y (aS ha Y Y fun a ha=>?_);refine lin Y (ac (f:=0) (o2:=0) T105 T97 Y Y Y Y ha Y Y fun a ha=>?_);refine lin Y (ac (f:=0) (o2:=0) T97 T22 Y Y Y Y ha Y Y fun a ha=>?_);refine lin Y (aw (cs':= #[(.slice A17 ((xs++([⟨tZ,none,0⟩]: List TV)).length) c17),(.slice A2 vs.length c2)]) T22 hS (i:=2) Y ha Y Y Y Y Y Y fun a w hS ha=>?_);refine wpList_nil (aa (ab ?_));obtain⟨x18,b18,cap18,cur18,hx18,hv18,he18,hc18⟩:=hR17.get (j:=xs.length) (by omega);have hA18:(A17: Option Addr)=some ⟨b18,0,none⟩:=by injection hv18
   have hq18:=(AllR.append hA (AllR.cons (RowT.nil _) (AllR.nil _))) _ (List.mem_of_getElem? hx18);refine lin Y (av (b:=b18) (o:=0) (j:=xs.length) T22.und T26 hA18 ha Y Y (by omega) (by omega) Y fun a ha=>?_);refine lin Y (bP (j:=xs.length) T26 hS (i:=0) Y hR17 Y hA18 (by omega) Y ha Y Y Y Y fun en19 a w hR19 he19 hS ha=>?_);rw [show (Value.cells _).toList=TV.cells ⟨tZ,none,0⟩ from rfl,aU (by first | omega |(simp;omega))] at hR19;refine wpList_nil (aa (wp_seq ?_));have hS:=hS.front 3 rfl;have hS_:=hS;refine As.c_draw_head (ini:=(As.il [(7, [en2])])) (sup:=(As.sl [])) (als:= [7]) (s0:=⟨H16,fun _=>none⟩) (L:= [en19,(some b8,(.cells #[(.bool true)] 4 (0,0))),(some pw,(.cells #[(.slice A17 ((xs++([⟨tZ,none,0⟩]: List TV)).length) c17),(.slice A2 vs.length c2)] 105 (0,0)))]) (N:=53) (E:= [(1,(pB b1)),(4,(pB b4))]) 8 [FcV (pB pw),FcV (pB pw),FcV (pB pw),FcV (.pointer (some ⟨pw,1,none⟩)),FcV (.slice A2 vs.length c2),FcV (.func (.func 68) #[] #[(pB b1),(pB b4)]),fun q_ v=>(fun H v=> ∃ b,v=.slice (some ⟨b,0,none⟩) 1 1∧H b=some (.cells #[(.func (.func 68) #[] #[(pB b1),(pB b4)])] 1 (0,0))) q_.H v,fun s v=> ∃(A: Option Addr) (c: Nat) (en: Ent),s.ax 7=some [en]∧v=.slice A (vs.length+1) c∧Row (.slice A (vs.length+1) c) en 1 1 (vs.length+1) (vs++([(.func (.func 68) #[] #[(pB b1),(pB b4)])]: List Value))] mixed Y Y Y (As.M1 (As.M1 (As.M1 (As.M1 (As.M1 (As.M1 (As.Monos.cons (fun _ _ v hl h=>(fun _ _ _ hl ⟨b,h,hb⟩=>⟨b,h,hl _ _ hb⟩: ∀(H H': PHeap) (v: Value),Le H H'→(fun H v=> ∃ b,v=.slice (some ⟨b,0,none⟩) 1 1∧H b=some (.cells #[(.func (.func 68) #[] #[(pB b1),(pB b4)])] 1 (0,0))) H v→(fun H v=> ∃ b,v=.slice (some ⟨b,0,none⟩) 1 1∧H b=some (.cells #[(.func (.func 68) #[] #[(pB b1),(pB b4)])] 1 (0,0))) H' v) _ _ _ hl.le h) (As.Monos.cons (fun _ _ _ hl ⟨A,c,en,h,e⟩=>⟨A,c,en,hl.get h,e⟩) (As.Monos.nil))))))))) (fun _=>rfl) hS (ha.pk Y) (As.QuietsI.c4 ?_ ?_ ?_ ?_ (As.QuietsI.c4 ?_ ?_ ?_ ?_ (As.QuietsI.nil))) (fun f_ a w s_ hls hS ha hdr_=>?_)
   ·refine As.Qx Y fun a w H_ ax_ hle hax_ hS ha hd hls=>?_;have hb3:=hle _ _ hb3;have hSf:=hS;have hS:=Step.dropN _ _ hS;exact af (v:=(pB pw)) T56 Y ha Y (hS.blkH hb3) Y Y fun a ha=>As.ql ha hSf
   ·refine As.Qx Y fun a w H_ ax_ hle hax_ hS ha hd hls=>?_;have hb3:=hle _ _ hb3;have hSf:=hS;have hS:=Step.dropN _ _ hS;exact af (v:=(pB pw)) T56 Y ha Y (hS.blkH hb3) Y Y fun a ha=>As.ql ha hSf
   ·refine As.Qx1 1 rfl fun a w H_ ax_ hle hax_ hS ha hd hls=>?_;have hSf:=hS;exact aS ha Y Y fun a ha=>As.ql ha hSf
   ·refine As.Qx1 2 rfl fun a w H_ ax_ hle hax_ hS ha hd hls=>?_;have hSf:=hS;exact ac (f:=1) (o2:=1) T105 T103 Y Y Y Y ha Y Y fun a ha=>As.ql ha hSf
   ·refine As.Qx1 3 rfl fun a w H_ ax_ hle hax_ hS ha hd hls=>?_;have hSf:=hS;have hS:=Step.dropN _ _ hS;exact af (v:=(.slice A2 vs.length c2)) T103 Y ha Y (hS.blkL 2 rfl) Y Y fun a ha=>As.ql ha hSf
   ·refine As.Qx Y fun a w H_ ax_ hle hax_ hS ha hd hls=>?_;have hSf:=hS;exact bK (fs:= #[]) (cs:= #[(pB b1),(pB b4)]) ha (ha.evs (xs:= []) Y) (ha.evs Y) Y fun a ha=>As.ql ha hSf
   ·refine As.Qx1 5 rfl fun a w H_ ax_ hle hax_ hS ha hd hls=>?_;have hSf:=hS;have hSr:=Step.dropN _ _ hS;refine id (aD (vs:= [(0,(.func (.func 68) #[] #[(pB b1),(pB b4)]))]) (cells:= [(.func (.func 68) #[] #[(pB b1),(pB b4)])]) T103.und T1 hS ha (ha.evp Y) Y Y Y Y fun b20 a w hS ha=>?_);obtain⟨H20,hS,hle20,hb20⟩:=hS.give;exact As.qdone (s:=⟨H_,ax_⟩) hle20 ha hS ⟨_,rfl,hb20⟩
   ·refine As.Qx1 4 rfl fun a w H_ ax_ hle hax_ hS ha hd hls=>?_;obtain⟨_,ha,b20,rfl,hb20⟩:=hd.g ha 6 rfl;have hS: Step w0 H [en,(some pw,.cells #[.slice A xs.length c,.slice A2 vs.length c2] 105 (0,0)),en2] w H_ (en2::(As.aents (As.il [(7, [en2])]) (As.sl []) [] ax_++As.aents (As.il [(7, [en2])]) (As.sl []) [] ax_++ [en19,(some b8,(.cells #[(.bool true)] 4 (0,0))),(some pw,(.cells #[(.slice A17 ((xs++([⟨tZ,none,0⟩]: List TV)).length) c17),(.slice A2 vs.length c2)] 105 (0,0)))])):=As.opn (s:=⟨H_,ax_⟩) [] [7] [] [en2] rfl (As.con0s hax_ Y) hS;refine id (a0 (news:=([(.func (.func 68) #[] #[(pB b1),(pB b4)])]: List Value)) (xs:=vs) T103.und T1 Y Y hS hR2 ha Y Y Y (fun _=>⟨b20,0,_,_,_,rfl,hS.blkH hb20,ae Y⟩) (bB Y) (by omega) Y Y fun v21 en21 a w hR21 hS ha=>?_);obtain⟨A21,c21,rfl⟩:=hR21.slice;exact As.qown (i:=7) (dst:=some 49) (s:=⟨H_,ax_⟩) (E:= [en21]) [] [7] [] rfl Y hax_ (Le.refl _) ha.dfr (As.has_at ha) hS As.con1 ⟨_,_,_,rfl,rfl,hR21⟩
   obtain⟨H22,ax_⟩:=s_;have hle22: Le H16 H22:=hls.le;dsimp only at hdr_ hS;have hA:=hA.mono hle22;have hb3:=hle22 _ _ hb3;have hb6:=hle22 _ _ hb6;have hT:=TrL.mono (hle22) hT;obtain⟨_,ha,rfl⟩:=As.Dd ha hdr_ 0 rfl;obtain⟨_,ha,A21,c21,en21,hx_21,rfl,hR21⟩:=As.Dd ha hdr_ 7 rfl;have hx_21: ax_ 7=some [en21]:=hx_21;have hS: Step w0 H [en,(some pw,.cells #[.slice A xs.length c,.slice A2 vs.length c2] 105 (0,0)),en2] w H22 [en21,en19,(some b8,(.cells #[(.bool true)] 4 (0,0))),(some pw,(.cells #[(.slice A17 ((xs++([⟨tZ,none,0⟩]: List TV)).length) c17),(.slice A2 vs.length c2)] 105 (0,0)))]:=by
    have h_:=hS;unfold As.aents at h_;simp only [List.flatMap_cons,List.flatMap_nil,As.conE,show (As.sl []) 7=none from rfl,hx_21,Option.isSome_some,Option.getD_some,cond_true,cond_false,List.cons_append,List.nil_append,List.append_nil] at h_;exact h_
   refine any1 (i:=8) (by kernel_rfl) Y Y (aS ha Y Y fun a ha=>?_);refine any1 (i:=9) (by kernel_rfl) Y Y (ac (f:=1) (o2:=1) T105 T103 Y Y Y Y ha Y Y fun a ha=>?_);refine any1 (i:=10) (by kernel_rfl) Y Y (aw (cs':= #[(.slice A17 ((xs++([⟨tZ,none,0⟩]: List TV)).length) c17),(.slice A21 (vs.length+1) c21)]) T103 hS (i:=3) Y ha Y Y Y Y Y Y fun a w hS ha=>?_);refine any0 (by kernel_rfl) ?_;refine aa (wp_seq (ab (lin Y (af (v:=(iV ((xs.length: Nat): Int))) T3 Y ha Y (hS.blkH hb6) Y Y fun a ha=>?_))));refine Ls Y ha fun a ha=>?_;refine Ls Y ha fun a ha=>?_;refine wpList_nil (aa (wp_ret (ret2 Y ha Y Y ?_)));have hv_: sVar B tr=((B++ [Tm.zero],.add B.length::tr),(((B.length: Nat): Int),0)):=by unfold sVar;rw [if_neg (by omega)]
   rw [hv_];have hS:=hS.front 2 rfl;have hS:=hS.drop;have hS:=hS.front 2 rfl;have hS:=hS.front 2 rfl;have hb_: Row (.slice A17 (((xs++([⟨tZ,none,0⟩]: List TV)).set xs.length ⟨tZ,none,0⟩)).length c17) en19 26 4 (((xs++([⟨tZ,none,0⟩]: List TV)).set xs.length ⟨tZ,none,0⟩)).length (flat ((xs++([⟨tZ,none,0⟩]: List TV)).set xs.length ⟨tZ,none,0⟩)):=by have h_:=hR19;simpa using h_
   have hv_: Row (.slice A21 ((vs++([(.func (.func 68) #[] #[(pB b1),(pB b4)])]: List Value))).length c21) en21 1 1 ((vs++([(.func (.func 68) #[] #[(pB b1),(pB b4)])]: List Value))).length (vs++([(.func (.func 68) #[] #[(pB b1),(pB b4)])]: List Value)):=by have h_:=hR21;simpa using h_
   exact⟨_,_,by rw [hxl],⟨_,_,((xs++([⟨tZ,none,0⟩]: List TV)).set xs.length ⟨tZ,none,0⟩),_,_,_,(vs++([(.func (.func 68) #[] #[(pB b1),(pB b4)])]: List Value)),_,by simp,hb_,(AllR.set (x:=⟨tZ,none,0⟩) (AllR.append hA (AllR.cons (RowT.nil _) (AllR.nil _))) (RowT.nil _)),(map_setlast hm Y),hv_,(hT.push ⟨_,_,_,_,rfl,hb3,by rw [← hxl];exact hb6⟩),by first | omega |(simp;omega),by first | omega |(simp;omega)⟩,hS⟩
theorem c_sjoin {n pw bw ew: Nat} {w0: World} {H: PHeap} {L0: List Ent} (hI: Inv w0 H L0) {B: List Tm} {tr: List Chg} (hbw: H bw=some (.cells #[.pointer (some ⟨pw,0,none⟩)] ew (0,0))) (hG: Gst n B) (hGs: GS n B tr) (hz: ZS 26 105 1 68 71 pw B tr H L0) {ta tb: Tm} {Aa Ab: Option Addr} {ca cb: Nat} (hra: RowT H Aa ca ta.l) (hrb: RowT H Ab cb tb.l) (hoa: okT n ta=true) (hob: okT n tb=true) :
  Calls prog 58 #[.pointer (some ⟨pw,0,none⟩),tv ta Aa ca,tv tb Ab cb,.func (.func 70) #[] #[.pointer (some ⟨bw,0,none⟩)]] w0 (fun e w'=> ∃ H' L',e=.returned (.tuple #[.bool (joinS B tr ta tb).1.1,.int .i64 (joinS B tr ta tb).1.2])∧(Gst n (joinS B tr ta tb).2.1∧GS n (joinS B tr ta tb).2.1 (joinS B tr ta tb).2.2)∧ZS 26 105 1 68 71 pw (joinS B tr ta tb).2.1 (joinS B tr ta tb).2.2 H' L'∧Step w0 H L0 w' H' L'):=by
 refine(c_cjoin (CellZ.and (fw 26 105 1 68 71 pw) (F:=fun H=>H bw=some (.cells #[.pointer (some ⟨pw,0,none⟩)] ew (0,0))) (fun H H' h hl=>hl _ _ h)) (bf:=70) (bcap:= #[.pointer (some ⟨bw,0,none⟩)]) (G:=GS n) (bb:=bbS) ⟨_,_,func70,rfl,rfl⟩ (fun B s v t w H L hg hb hI hz=>?_) GS_step hI hG hGs ⟨hz,hbw⟩ hra hrb hoa hob).mono fun e w' ⟨H',L',h1,h2,h3,h4⟩=>⟨H',L',h1,h2,h3.1,h4⟩;have hc:=c_bound hI hz.1 hz.2 (vi:=v) (by have h_:=hg.2.2;omega);refine hc.mono fun e w' ⟨H',L',h1,h2,h3⟩=>⟨H',L',h1,⟨h2,h3.le _ _ hz.2⟩,h3⟩
theorem Inv.sub3 {w: World} {H: PHeap} {L L': List Ent} (h: Inv w H L) (hp: ∃ R,L.Perm (L'++R)): Inv w H L':=by
 obtain⟨R,hp⟩:=hp;exact Inv.left (h.perm hp)
set_option maxHeartbeats 2000000 in
theorem c_SUnify {w0: World} {H: PHeap} {L0: List Ent} (hI: Inv w0 H L0) {pw: Nat} {B: List Tm} {tr: List Chg} (hz: ZS 26 105 1 68 71 pw B tr H L0) (hG: Gst B.length B) (hGs: GS B.length B tr) {ta tb: Tm} {Aa Ab: Option Addr} {ca cb: Nat} (hra: RowT H Aa ca ta.l) (hrb: RowT H Ab cb tb.l): Calls prog 35 #[(pB pw),(tv ta Aa ca),(tv tb Ab cb)] w0 (fun e w'=> ∃ H' L',e=.returned (.tuple #[.bool (sUni B tr ta tb).2.1,.int .i64 (sUni B tr ta tb).2.2])∧ZS 26 105 1 68 71 pw (sUni B tr ta tb).1.1 (sUni B tr ta tb).1.2 H' L'∧Step w0 H L0 w' H' L'):=by
 have hz0:=hz;obtain⟨A,c,xs,en,A2,c2,vs,en2,rfl,hR,hA,hm,hR2,hT,hl1,hl2⟩:=hz0;have hS:=Step.refl hI;have hxl:=aR hm;have hcap1:=Row.cap hR;have hcap2:=Row.cap hR2;have htl:=hT.len;rw [List.length_reverse] at htl;refine enter [(pB pw),(tv ta Aa ca),(tv tb Ab cb)] func35 Y ntmps35 Y fun a ha=>?_;refine wp_seq (ab (lin Y (aG (cs:= #[(pB pw)]) hS ha Y Y Y fun b1 a w hS ha=>?_)));obtain⟨H3,hS,hle3,hb3⟩:=hS.give;have hA:=hA.mono hle3;have hra:=hra.mono hle3;have hrb:=hrb.mono hle3;have hT:=TrL.mono (hle3) hT;have hz:=ZS.mono hz (hle3);refine lin Y (aG (cs:=(tA ta Aa ca)) hS ha Y Y Y fun b4 a w hS ha=>?_);refine lin Y (aG (cs:=(tA tb Ab cb)) hS ha Y Y Y fun b6 a w hS ha=>?_);refine Ls Y ha fun a ha=>?_;refine Ls Y ha fun a ha=>?_;refine wpList_nil (aa (wp_seq (wp_block (wp_seq (ab (lin Y (af (v:=(pB pw)) T56 Y ha Y (hS.blkH hb3) Y Y fun a ha=>?_)))))));refine lin Y (bO T56.und T105 ha Y Y Y fun a ha=>?_);refine Ls Y ha fun a ha=>?_;refine wpList_nil (aa (an ha Y (wp_seq ?_)));have hS_:=hS;refine bE cC [FcV (pB pw),FcV (pB pw),FcV (pB pw),FcV (tv ta Aa ca),FcV (tv tb Ab cb),fun H v=> ∃ A c,v=.slice A 2 c∧RowT H A c [ta,tb],FcV (.bool ([ta,tb].all (okT B.length))),FcV (.bool (!([ta,tb].all (okT B.length)))),FcV (.bool (!([ta,tb].all (okT B.length))))] (N:=47) (E:= [(3,(pB b1)),(4,(pB b4)),(5,(pB b6))]) mixed Y (M1 (M1 (M1 (M1 (M1 (Monos.cons (fun _ _ _ hl ⟨A,c,h,hr⟩=>⟨A,c,h,hr.mono hl⟩) (M1 (M1 (M1 (Monos.nil)))))))))) hS (ha.pk Y) (.c4 ?_ ?_ ?_ ?_ (.c4 ?_ ?_ ?_ ?_ (.cons ?_ (.nil)))) (fun a w H10 hle10 hS ha hdr_=>?_)
 ·refine Qy Y fun a w H_ hle hS ha hd=>?_;have hb3:=hle _ _ hb3;exact af (v:=(pB pw)) T56 Y ha Y (hS.blkH hb3) Y Y fun a ha=>ql ha hS
 ·refine Qy1 0 rfl fun a w H_ hle hS ha hd=>?_;exact aS ha Y Y fun a ha=>ql ha hS
 ·refine Qy1 1 rfl fun a w H_ hle hS ha hd=>?_;exact ac (f:=0) (o2:=0) T105 T97 Y Y Y Y ha Y Y fun a ha=>ql ha hS
 ·refine Qy Y fun a w H_ hle hS ha hd=>?_;exact ag (vs:=(tL ta Aa ca)) T26 Y ha Y (hS.blkL 1 rfl) Y (ae Y) Y fun a ha=>ql ha hS
 ·refine Qy Y fun a w H_ hle hS ha hd=>?_;exact ag (vs:=(tL tb Ab cb)) T26 Y ha Y (hS.blkL 0 rfl) Y (ae Y) Y fun a ha=>ql ha hS
 ·refine Qy1 3 rfl fun a w H_ hle hS ha hd=>?_;obtain⟨_,ha,rfl⟩:=hd.g ha 4 rfl;have hra:=hra.mono hle;have hrb:=hrb.mono hle;refine id (aD (vs:= [(0,(tv ta Aa ca)),(1,(tv tb Ab cb))]) (cells:= [(iV ta.kind),(iV ta.n),(.string ta.s),(.slice Aa ta.l.length ca),(iV tb.kind),(iV tb.n),(.string tb.s),(.slice Ab tb.l.length cb)]) T22.und T26 hS ha (ha.evp Y) Y Y Y Y fun b8 a w hS ha=>?_);obtain⟨H8,hS,hle8,hb8⟩:=hS.give;have hra:=hra.mono hle8;have hrb:=hrb.mono hle8;have hr8: RowT H8 (some ⟨b8,0,none⟩) 2 [ta,tb]:=RowT.of_lit ([⟨ta,Aa,ca⟩,⟨tb,Ab,cb⟩]: List TV) hb8 (AllR.cons hra (AllR.cons hrb (AllR.nil _))) (by simp) Y;exact qdone hle8 ha hS ⟨_,_,rfl,hr8⟩
 ·refine Qy1 2 rfl fun a w H_ hle hS ha hd=>?_;obtain⟨_,ha,A8,c8,rfl,hr8⟩:=hd.g ha 5 rfl;have hz:=ZS.mono hz (hle);obtain⟨Ac9,cc9,hC9⟩: ∃ A c,CRd _ _ pw A c B:=(fw 26 105 1 68 71 pw).rd (Inv.sub3 hS.inv ⟨[(some b6,(.cells (tA tb Ab cb) 26 (0,0))),(some b4,(.cells (tA ta Aa ca) 26 (0,0)))],by simpa using (List.perm_append_comm (l₁:= [(some b6,(.cells (tA tb Ab cb) 26 (0,0))),(some b4,(.cells (tA ta Aa ca) 26 (0,0)))]) (l₂:= [en,(some pw,(.cells #[(.slice A xs.length c),(.slice A2 vs.length c2)] 105 (0,0))),en2]))⟩) hz;have hk9:=fH (ts:= [ta,tb]) hS.inv.nil hC9 hr8;rw [all_over] at hk9;exact Cs func61 ha Y (hk9) hS fun a w ha hS=>ql ha hS
 ·refine Qy1 6 rfl fun a w H_ hle hS ha hd=>?_;exact aJ ha Y Y fun a ha=>ql ha hS
 ·refine Qy1 7 rfl fun a w H_ hle hS ha hd=>?_;exact aB ha Y Y fun a ha=>ql ha hS
 have hA:=hA.mono hle10;have hra:=hra.mono hle10;have hrb:=hrb.mono hle10;have hb3:=hle10 _ _ hb3;have hT:=TrL.mono (hle10) hT;have hz:=ZS.mono hz (hle10);obtain⟨_,ha,rfl⟩:=Dd ha hdr_ 8 rfl;refine aa (ap (t:=14) ha Y (fun h11 ha=>?_) (fun h11 ha=>?_))
 ·refine ar ha Y (wp_seq (ab (Ls Y ha fun a ha=>?_)));refine Ls Y ha fun a ha=>?_;refine wpList_nil (aa (wp_ret (aA (ak (ret2 Y ha Y Y ?_)))));have hS:=hS.drop;have hS:=hS.drop;have hv_: sUni B tr ta tb=((B,tr),(false,3)):=by unfold sUni;rw [if_neg (by rw [show ([ta,tb]: List Tm).all (okT B.length)=false from by have h_:=h11;rw [Bool.not_eq_true'] at h_;exact h_];simp)]
  rw [hv_];have hb_: Row (.slice A (xs).length c) en 26 4 (xs).length (flat xs):=by have h_:=hR;simpa using h_
  have hv_: Row (.slice A2 (vs).length c2) en2 1 1 (vs).length vs:=by have h_:=hR2;simpa using h_
  exact⟨_,_,rfl,⟨_,_,xs,_,_,_,vs,_,by simp,hb_,hA,hm,hv_,hT,by first | omega |(simp;omega),by first | omega |(simp;omega)⟩,hS⟩
 ·have hov:([ta,tb]: List Tm).all (okT B.length)=true:=by simpa using h11
  refine an ha Y (wp_skip (au (aa (wp_seq (ab (lin Y (af (v:=(pB pw)) T56 Y ha Y (hS.blkH hb3) Y Y fun a ha=>?_)))))));refine lin Y (aS ha Y Y fun a ha=>?_);refine lin Y (ac (f:=1) (o2:=1) T105 T103 Y Y Y Y ha Y Y fun a ha=>?_);refine lin Y (af (v:=(.slice A2 vs.length c2)) T103 Y ha Y (hS.blkL 3 rfl) Y Y fun a ha=>?_);refine lin Y (aE T103.und ha Y Y fun a ha=>?_);refine Ls Y ha fun a ha=>?_;refine wpList_nil (aa (wp_seq ?_));have hS_:=hS;refine c_draw_head (N:=47) (E:= [(3,(pB b1)),(4,(pB b4)),(5,(pB b6)),(8,(iV ((vs.length: Nat): Int)))]) cC 8 [FcV (pB pw),FcV (pB pw),FcV (pB pw),FcV (tv ta Aa ca),fun H v=> ∃ A c,v=tv ta A c∧RowT H A c (ta).l,FcV (tv tb Ab cb),fun H v=> ∃ A c,v=tv tb A c∧RowT H A c (tb).l,FcV (.func (.func 70) #[] #[(pB b1)])] mixed Y Y Y (M1 (M1 (M1 (M1 (Monos.cons (fun _ _ _ hl ⟨A,c,h,hr⟩=>⟨A,c,h,hr.mono hl⟩) (M1 (Monos.cons (fun _ _ _ hl ⟨A,c,h,hr⟩=>⟨A,c,h,hr.mono hl⟩) (M1 (Monos.nil))))))))) hS (ha.pk Y) (Quiets.c4 ?_ ?_ ?_ ?_ (Quiets.c4 ?_ ?_ ?_ ?_ (Quiets.nil))) (fun f_ a w H16 hle16 hS ha hdr_=>?_)
  ·refine Qy Y fun a w H_ hle hS ha hd=>?_;have hb3:=hle _ _ hb3;exact af (v:=(pB pw)) T56 Y ha Y (hS.blkH hb3) Y Y fun a ha=>ql ha hS
  ·refine Qy1 0 rfl fun a w H_ hle hS ha hd=>?_;exact aS ha Y Y fun a ha=>ql ha hS
  ·refine Qy1 1 rfl fun a w H_ hle hS ha hd=>?_;exact ac (f:=0) (o2:=0) T105 T97 Y Y Y Y ha Y Y fun a ha=>ql ha hS
  ·refine Qy Y fun a w H_ hle hS ha hd=>?_;exact ag (vs:=(tL ta Aa ca)) T26 Y ha Y (hS.blkL 1 rfl) Y (ae Y) Y fun a ha=>ql ha hS
  ·refine Qy1 3 rfl fun a w H_ hle hS ha hd=>?_;have hra:=hra.mono hle;exact Qd func69 ha Y (dQ _ _ _ _ _ hra hS.inv.nil) hS
  ·refine Qy Y fun a w H_ hle hS ha hd=>?_;exact ag (vs:=(tL tb Ab cb)) T26 Y ha Y (hS.blkL 0 rfl) Y (ae Y) Y fun a ha=>ql ha hS
  ·refine Qy1 5 rfl fun a w H_ hle hS ha hd=>?_;have hrb:=hrb.mono hle;exact Qd func69 ha Y (dQ _ _ _ _ _ hrb hS.inv.nil) hS
  ·refine Qy Y fun a w H_ hle hS ha hd=>?_;exact bK (fs:= #[]) (cs:= #[(pB b1)]) ha (ha.evs (xs:= []) Y) (ha.evs Y) Y fun a ha=>ql ha hS
  have hb3:=hle16 _ _ hb3;have hz:=ZS.mono hz (hle16);obtain⟨_,ha,rfl⟩:=Dd ha hdr_ 2 rfl;obtain⟨_,ha,A12,c12,rfl,hr12⟩:=Dd ha hdr_ 4 rfl;obtain⟨_,ha,A14,c14,rfl,hr14⟩:=Dd ha hdr_ 6 rfl;obtain⟨_,ha,rfl⟩:=Dd ha hdr_ 7 rfl;have hS:=hS.front 4 rfl;have hS:=hS.front 4 rfl;have hS:=hS.front 4 rfl;have hk17:=c_sjoin (ta:=ta) (Aa:=A12) (ca:=c12) (tb:=tb) (Ab:=A14) (cb:=c14) (n:=B.length) (Inv.left (L:= [en,(some pw,(.cells #[(.slice A xs.length c),(.slice A2 vs.length c2)] 105 (0,0))),en2]) hS.inv) hb3 hG hGs hz hr12 hr14 (List.all_eq_true.1 hov _ (by simp)) (List.all_eq_true.1 hov _ (by simp));refine any1 (i:=8) (by kernel_rfl) Y Y (Co func58 ha Y (hk17) ?_);rintro e w ⟨H17,L17,rfl,hg17,hz17,hc17⟩;refine⟨_,rfl,fun a ha=>?_⟩;have hS:=Step.frame (Lc:= [en,(some pw,(.cells #[(.slice A xs.length c),(.slice A2 vs.length c2)] 105 (0,0))),en2]) hS hc17;have hb3:=hc17.le _ _ hb3;have hS:=(hS.perm List.perm_append_comm);refine any1 (i:=9) (by kernel_rfl) Y Y (am ha Y Y fun a ha=>?_);refine any2 (i:=10) (i':=11) (by kernel_rfl) Y Y Y Y ?_ ?_
  ·refine id (ao (v:=(.bool ((joinS B tr ta tb).1.1))) ha Y Y Y fun a ha=>?_);refine any2 (i:=11) (i':=12) (by kernel_rfl) Y Y Y Y ?_ ?_
   ·refine id (ao (v:=(iV ((joinS B tr ta tb).1.2))) ha Y Y Y fun a ha=>?_);refine any1 (i:=12) (by kernel_rfl) Y Y (aB ha Y Y fun a ha=>?_);refine any1 (i:=13) (by kernel_rfl) Y Y (aB ha Y Y fun a ha=>?_);refine any0 (by kernel_rfl) ?_;refine aa (wp_seq (wp_seq (ab (Lm Y ha fun a ha=>?_))));refine lin Y (aJ ha Y Y fun a ha=>?_);refine wpList_nil (aa (ap (t:=41) ha Y (fun h18 ha=>?_) (fun h18 ha=>?_)))
    ·refine ar ha Y (ab (lin Y (af (v:=(pB pw)) T56 Y ha Y (hS.blkH hb3) Y Y fun a ha=>?_)));refine Lm Y ha fun a ha=>?_;have hk19:=fi (Inv.tail (Es:= [(some b6,(.cells (tA tb Ab cb) 26 (0,0))),(some b4,(.cells (tA ta Aa ca) 26 (0,0)))]) hS.inv) hz17 (many:=((vs.length: Nat): Int)) (by omega) (by rw [hg17.1.len];exact hg17.2.2.1);refine lin Y (Co func72 ha Y (hk19) ?_);rintro e w ⟨H19,L19,rfl,hz19,hc19⟩;refine⟨_,rfl,fun a ha=>?_⟩;have hS:=Step.call_tail (Es:= [(some b6,(.cells (tA tb Ab cb) 26 (0,0))),(some b4,(.cells (tA ta Aa ca) 26 (0,0)))]) hS hc19;refine wpList_nil (aa (wp_seq (ab (Lm Y ha fun a ha=>?_))));refine Lm Y ha fun a ha=>?_;refine Ls Y ha fun a ha=>?_;refine Ls Y ha fun a ha=>?_;refine wpList_nil (aa (wp_ret (ret2 Y ha Y Y ?_)));have hS:=hS.drop;have hS:=hS.drop;have hv_: sUni B tr ta tb=(undoS (joinS B tr ta tb).2.1 (joinS B tr ta tb).2.2 tr.length,(joinS B tr ta tb).1):=by unfold sUni;rw [if_pos hov,if_neg (by simpa using h18)]
     rw [hv_];have hz_:=hz19;rw [show ((vs.length: Nat): Int).toNat=tr.length by omega] at hz_;exact⟨_,_,rfl,hz_,hS⟩
    ·refine an ha Y (wp_skip (aa (wp_seq (ab (Lm Y ha fun a ha=>?_)))));refine Lm Y ha fun a ha=>?_;refine Ls Y ha fun a ha=>?_;refine Ls Y ha fun a ha=>?_;refine wpList_nil (aa (wp_ret (ret2 Y ha Y Y ?_)));have hS:=hS.drop;have hS:=hS.drop;have hv_: sUni B tr ta tb=((joinS B tr ta tb).2,(joinS B tr ta tb).1):=by unfold sUni;rw [if_pos hov,if_pos (by simpa using h18)]
     rw [hv_];exact⟨_,_,rfl,hz17,hS⟩
   ·refine id (aB ha Y Y fun a ha=>?_);refine any1 (i:=11) (by kernel_rfl) Y Y (ao (v:=(iV ((joinS B tr ta tb).1.2))) ha Y Y Y fun a ha=>?_);refine any1 (i:=13) (by kernel_rfl) Y Y (aB ha Y Y fun a ha=>?_);refine any0 (by kernel_rfl) ?_;refine aa (wp_seq (wp_seq (ab (Lm Y ha fun a ha=>?_))));refine lin Y (aJ ha Y Y fun a ha=>?_);refine wpList_nil (aa (ap (t:=41) ha Y (fun h20 ha=>?_) (fun h20 ha=>?_)))
    ·refine ar ha Y (ab (lin Y (af (v:=(pB pw)) T56 Y ha Y (hS.blkH hb3) Y Y fun a ha=>?_)));refine Lm Y ha fun a ha=>?_;have hk21:=fi (Inv.tail (Es:= [(some b6,(.cells (tA tb Ab cb) 26 (0,0))),(some b4,(.cells (tA ta Aa ca) 26 (0,0)))]) hS.inv) hz17 (many:=((vs.length: Nat): Int)) (by omega) (by rw [hg17.1.len];exact hg17.2.2.1);refine lin Y (Co func72 ha Y (hk21) ?_);rintro e w ⟨H21,L21,rfl,hz21,hc21⟩;refine⟨_,rfl,fun a ha=>?_⟩;have hS:=Step.call_tail (Es:= [(some b6,(.cells (tA tb Ab cb) 26 (0,0))),(some b4,(.cells (tA ta Aa ca) 26 (0,0)))]) hS hc21;refine wpList_nil (aa (wp_seq (ab (Lm Y ha fun a ha=>?_))));refine Lm Y ha fun a ha=>?_;refine Ls Y ha fun a ha=>?_;refine Ls Y ha fun a ha=>?_;refine wpList_nil (aa (wp_ret (ret2 Y ha Y Y ?_)));have hS:=hS.drop;have hS:=hS.drop;have hv_: sUni B tr ta tb=(undoS (joinS B tr ta tb).2.1 (joinS B tr ta tb).2.2 tr.length,(joinS B tr ta tb).1):=by unfold sUni;rw [if_pos hov,if_neg (by simpa using h20)]
     rw [hv_];have hz_:=hz21;rw [show ((vs.length: Nat): Int).toNat=tr.length by omega] at hz_;exact⟨_,_,rfl,hz_,hS⟩
    ·refine an ha Y (wp_skip (aa (wp_seq (ab (Lm Y ha fun a ha=>?_)))));refine Lm Y ha fun a ha=>?_;refine Ls Y ha fun a ha=>?_;refine Ls Y ha fun a ha=>?_;refine wpList_nil (aa (wp_ret (ret2 Y ha Y Y ?_)));have hS:=hS.drop;have hS:=hS.drop;have hv_: sUni B tr ta tb=((joinS B tr ta tb).2,(joinS B tr ta tb).1):=by unfold sUni;rw [if_pos hov,if_pos (by simpa using h20)]
     rw [hv_];exact⟨_,_,rfl,hz17,hS⟩
  ·refine id (ao (v:=(iV ((joinS B tr ta tb).1.2))) ha Y Y Y fun a ha=>?_);refine any1 (i:=10) (by kernel_rfl) Y Y (ao (v:=(.bool ((joinS B tr ta tb).1.1))) ha Y Y Y fun a ha=>?_);refine any1 (i:=12) (by kernel_rfl) Y Y (aB ha Y Y fun a ha=>?_);refine any1 (i:=13) (by kernel_rfl) Y Y (aB ha Y Y fun a ha=>?_);refine any0 (by kernel_rfl) ?_;refine aa (wp_seq (wp_seq (ab (Lm Y ha fun a ha=>?_))));refine lin Y (aJ ha Y Y fun a ha=>?_);refine wpList_nil (aa (ap (t:=41) ha Y (fun h22 ha=>?_) (fun h22 ha=>?_)))
   ·refine ar ha Y (ab (lin Y (af (v:=(pB pw)) T56 Y ha Y (hS.blkH hb3) Y Y fun a ha=>?_)));refine Lm Y ha fun a ha=>?_;have hk23:=fi (Inv.tail (Es:= [(some b6,(.cells (tA tb Ab cb) 26 (0,0))),(some b4,(.cells (tA ta Aa ca) 26 (0,0)))]) hS.inv) hz17 (many:=((vs.length: Nat): Int)) (by omega) (by rw [hg17.1.len];exact hg17.2.2.1);refine lin Y (Co func72 ha Y (hk23) ?_);rintro e w ⟨H23,L23,rfl,hz23,hc23⟩;refine⟨_,rfl,fun a ha=>?_⟩;have hS:=Step.call_tail (Es:= [(some b6,(.cells (tA tb Ab cb) 26 (0,0))),(some b4,(.cells (tA ta Aa ca) 26 (0,0)))]) hS hc23;refine wpList_nil (aa (wp_seq (ab (Lm Y ha fun a ha=>?_))));refine Lm Y ha fun a ha=>?_;refine Ls Y ha fun a ha=>?_;refine Ls Y ha fun a ha=>?_;refine wpList_nil (aa (wp_ret (ret2 Y ha Y Y ?_)));have hS:=hS.drop;have hS:=hS.drop;have hv_: sUni B tr ta tb=(undoS (joinS B tr ta tb).2.1 (joinS B tr ta tb).2.2 tr.length,(joinS B tr ta tb).1):=by unfold sUni;rw [if_pos hov,if_neg (by simpa using h22)]
    rw [hv_];have hz_:=hz23;rw [show ((vs.length: Nat): Int).toNat=tr.length by omega] at hz_;exact⟨_,_,rfl,hz_,hS⟩
   ·refine an ha Y (wp_skip (aa (wp_seq (ab (Lm Y ha fun a ha=>?_)))));refine Lm Y ha fun a ha=>?_;refine Ls Y ha fun a ha=>?_;refine Ls Y ha fun a ha=>?_;refine wpList_nil (aa (wp_ret (ret2 Y ha Y Y ?_)));have hS:=hS.drop;have hS:=hS.drop;have hv_: sUni B tr ta tb=((joinS B tr ta tb).2,(joinS B tr ta tb).1):=by unfold sUni;rw [if_pos hov,if_pos (by simpa using h22)]
    rw [hv_];exact⟨_,_,rfl,hz17,hS⟩
end Go.Vk.Try
namespace Go.Vk.Try
open Go.RowKit
def givesB (x y: Tm) (want: List Tm): Bool:=((unifyU [tZ,tZ,tZ] x y).1.2&&decide ((unifyU [tZ,tZ,tZ] x y).2=0))&&eqL (unifyU [tZ,tZ,tZ] x y).1.1 want
def failsB (x y: Tm): Bool:=(!(unifyU [tZ,tZ,tZ] x y).1.2&&decide ((unifyU [tZ,tZ,tZ] x y).2=0))&&decide ((((unifyU [tZ,tZ,tZ] x y).1.1.length: Nat): Int)=3)
set_option maxHeartbeats 2000000 in
theorem fD {w0: World} {H: PHeap} (hI: Inv w0 H []) {x y: Tm} {Ax Ay: Option Addr} {cx cy: Nat} (hrx: RowT H Ax cx x.l) (hry: RowT H Ay cy y.l) {Aw: Option Addr} {cw: Nat} {ws: List Tm} (hw: RowT H Aw cw ws): Calls prog 45 #[(tv x Ax cx),(tv y Ay cy),(.agg #[(.slice Aw ws.length cw)])] w0 (fun e w'=> ∃ H',e=.returned (.bool (givesB x y ws))∧Step w0 H [] w' H' []):=by
 have hS:=Step.refl hI;refine enter [(tv x Ax cx),(tv y Ay cy),(.agg #[(.slice Aw ws.length cw)])] func45 Y ntmps45 Y fun a ha=>?_;refine wp_seq (ab (lin Y (aG (cs:=(tA x Ax cx)) hS ha Y Y Y fun b1 a w hS ha=>?_)));refine lin Y (aG (cs:=(tA y Ay cy)) hS ha Y Y Y fun b3 a w hS ha=>?_);refine lin Y (aG (cs:= #[(.slice Aw ws.length cw)]) hS ha Y Y Y fun b5 a w hS ha=>?_);refine Ls Y ha fun a ha=>?_;refine wpList_nil (aa (wp_seq ?_));have hS_:=hS;refine As.c_draw_head (ini:=(As.il [])) (sup:=(As.sl [(12,13)])) (als:= [12,13]) (s0:=⟨H,fun _=>none⟩) (L:= [(some b5,(.cells #[(.slice Aw ws.length cw)] 24 (0,0))),(some b3,(.cells (tA y Ay cy) 26 (0,0))),(some b1,(.cells (tA x Ax cx) 26 (0,0)))]) (N:=32) (E:= [(3,(pB b1)),(4,(pB b3)),(5,(pB b5))]) 15 [FcV vZ,FcV vZ,FcV vZ,fun q_ v=>(fun H v=> ∃ A c,v=.slice A 3 c∧RowT H A c [tZ,tZ,tZ]) q_.H v,fun q_ v=>(fun H v=> ∃ A c,v=(.agg #[(.slice A (([tZ,tZ,tZ]).length) c)])∧RowT H A c ([tZ,tZ,tZ])) q_.H v,FcV (tv x Ax cx),FcV (tv y Ay cy),fun q_ v=>(fun H v=> ∃ A c,v=(.tuple #[(.agg #[(.slice A (((unifyU ([tZ,tZ,tZ]) x y).1.1).length) c)]),(.bool ((unifyU ([tZ,tZ,tZ]) x y).1.2)),(iV ((unifyU ([tZ,tZ,tZ]) x y).2))])∧RowT H A c ((unifyU ([tZ,tZ,tZ]) x y).1.1)) q_.H v,fun q_ v=>(fun H v=> ∃ A c,v=(.tuple #[(.agg #[(.slice A (((unifyU ([tZ,tZ,tZ]) x y).1.1).length) c)]),(.bool ((unifyU ([tZ,tZ,tZ]) x y).1.2)),(iV ((unifyU ([tZ,tZ,tZ]) x y).2))])∧RowT H A c ((unifyU ([tZ,tZ,tZ]) x y).1.1)) q_.H v,fun q_ v=>(fun H v=> ∃ A c,v=(.agg #[(.slice A (((unifyU ([tZ,tZ,tZ]) x y).1.1).length) c)])∧RowT H A c ((unifyU ([tZ,tZ,tZ]) x y).1.1)) q_.H v,FcV (.bool ((unifyU ([tZ,tZ,tZ]) x y).1.2)),FcV (iV ((unifyU ([tZ,tZ,tZ]) x y).2)),fun s v=> ∃ b,s.ax 12=some [(some b,(.cells #[(.slice none 0 0)] 24 (0,0)))]∧v=.pointer (some ⟨b,0,none⟩),fun s _=> ∃(b: Nat) (A: Option Addr) (c: Nat),s.ax 12=some [(some b,(.cells #[(.slice none 0 0)] 24 (0,0)))]∧s.ax 13=some [(some b,(.cells #[(.slice A (((unifyU ([tZ,tZ,tZ]) x y).1.1).length) c)] 24 (0,0)))]∧RowT s.H A c ((unifyU ([tZ,tZ,tZ]) x y).1.1),FcV (.bool ((unifyU ([tZ,tZ,tZ]) x y).1.2))] mixed Y Y Y (As.M1 (As.M1 (As.M1 (As.Monos.cons (fun _ _ v hl h=>(fun _ _ _ hl ⟨A,c,h,hr⟩=>⟨A,c,h,hr.mono hl⟩: ∀(H H': PHeap) (v: Value),Le H H'→(fun H v=> ∃ A c,v=.slice A 3 c∧RowT H A c [tZ,tZ,tZ]) H v→(fun H v=> ∃ A c,v=.slice A 3 c∧RowT H A c [tZ,tZ,tZ]) H' v) _ _ _ hl.le h) (As.Monos.cons (fun _ _ v hl h=>(fun _ _ _ hl ⟨A,c,h,hr⟩=>⟨A,c,h,hr.mono hl⟩: ∀(H H': PHeap) (v: Value),Le H H'→(fun H v=> ∃ A c,v=(.agg #[(.slice A (([tZ,tZ,tZ]).length) c)])∧RowT H A c ([tZ,tZ,tZ])) H v→(fun H v=> ∃ A c,v=(.agg #[(.slice A (([tZ,tZ,tZ]).length) c)])∧RowT H A c ([tZ,tZ,tZ])) H' v) _ _ _ hl.le h) (As.M1 (As.M1 (As.Monos.cons (fun _ _ v hl h=>(fun _ _ _ hl ⟨A,c,h,hr⟩=>⟨A,c,h,hr.mono hl⟩: ∀(H H': PHeap) (v: Value),Le H H'→(fun H v=> ∃ A c,v=(.tuple #[(.agg #[(.slice A (((unifyU ([tZ,tZ,tZ]) x y).1.1).length) c)]),(.bool ((unifyU ([tZ,tZ,tZ]) x y).1.2)),(iV ((unifyU ([tZ,tZ,tZ]) x y).2))])∧RowT H A c ((unifyU ([tZ,tZ,tZ]) x y).1.1)) H v→(fun H v=> ∃ A c,v=(.tuple #[(.agg #[(.slice A (((unifyU ([tZ,tZ,tZ]) x y).1.1).length) c)]),(.bool ((unifyU ([tZ,tZ,tZ]) x y).1.2)),(iV ((unifyU ([tZ,tZ,tZ]) x y).2))])∧RowT H A c ((unifyU ([tZ,tZ,tZ]) x y).1.1)) H' v) _ _ _ hl.le h) (As.Monos.cons (fun _ _ v hl h=>(fun _ _ _ hl ⟨A,c,h,hr⟩=>⟨A,c,h,hr.mono hl⟩: ∀(H H': PHeap) (v: Value),Le H H'→(fun H v=> ∃ A c,v=(.tuple #[(.agg #[(.slice A (((unifyU ([tZ,tZ,tZ]) x y).1.1).length) c)]),(.bool ((unifyU ([tZ,tZ,tZ]) x y).1.2)),(iV ((unifyU ([tZ,tZ,tZ]) x y).2))])∧RowT H A c ((unifyU ([tZ,tZ,tZ]) x y).1.1)) H v→(fun H v=> ∃ A c,v=(.tuple #[(.agg #[(.slice A (((unifyU ([tZ,tZ,tZ]) x y).1.1).length) c)]),(.bool ((unifyU ([tZ,tZ,tZ]) x y).1.2)),(iV ((unifyU ([tZ,tZ,tZ]) x y).2))])∧RowT H A c ((unifyU ([tZ,tZ,tZ]) x y).1.1)) H' v) _ _ _ hl.le h) (As.Monos.cons (fun _ _ v hl h=>(fun _ _ _ hl ⟨A,c,h,hr⟩=>⟨A,c,h,hr.mono hl⟩: ∀(H H': PHeap) (v: Value),Le H H'→(fun H v=> ∃ A c,v=(.agg #[(.slice A (((unifyU ([tZ,tZ,tZ]) x y).1.1).length) c)])∧RowT H A c ((unifyU ([tZ,tZ,tZ]) x y).1.1)) H v→(fun H v=> ∃ A c,v=(.agg #[(.slice A (((unifyU ([tZ,tZ,tZ]) x y).1.1).length) c)])∧RowT H A c ((unifyU ([tZ,tZ,tZ]) x y).1.1)) H' v) _ _ _ hl.le h) (As.M1 (As.M1 (As.Monos.cons (fun _ _ _ hl ⟨b,h,e⟩=>⟨b,hl.get h,e⟩) (As.Monos.cons (fun _ _ _ hl ⟨b,A,c,h1,h2,hr⟩=>⟨b,A,c,hl.get h1,hl.get h2,hr.mono hl.le⟩) (As.M1 (As.Monos.nil)))))))))))))))) (fun _=>rfl) hS (ha.pk Y) (As.QuietsI.c4 ?_ ?_ ?_ ?_ (As.QuietsI.c4 ?_ ?_ ?_ ?_ (As.QuietsI.c4 ?_ ?_ ?_ ?_ (As.QuietsI.c2 ?_ ?_ (As.QuietsI.cons ?_ (As.QuietsI.nil)))))) (fun f_ a w s_ hls hS ha hdr_=>?_)
 ·refine As.Qx Y fun a w H_ ax_ hle hax_ hS ha hd hls=>?_;have hSf:=hS;exact aM (vs:= []) (cells:=lZ) T26 PL26 ha (ha.evp Y) Y Y fun a ha=>As.ql ha hSf
 ·refine As.Qx Y fun a w H_ ax_ hle hax_ hS ha hd hls=>?_;have hSf:=hS;exact aM (vs:= []) (cells:=lZ) T26 PL26 ha (ha.evp Y) Y Y fun a ha=>As.ql ha hSf
 ·refine As.Qx Y fun a w H_ ax_ hle hax_ hS ha hd hls=>?_;have hSf:=hS;exact aM (vs:= []) (cells:=lZ) T26 PL26 ha (ha.evp Y) Y Y fun a ha=>As.ql ha hSf
 ·refine As.Qx1 0 rfl fun a w H_ ax_ hle hax_ hS ha hd hls=>?_;obtain⟨_,ha,rfl⟩:=hd.g ha 1 rfl;obtain⟨_,ha,rfl⟩:=hd.g ha 2 rfl;have hSf:=hS;have hSr:=Step.dropN _ _ hS;refine id (aD (vs:= [(0,vZ),(1,vZ),(2,vZ)]) (cells:= [(iV 0),(iV 0),(.string (⟨#[]⟩)),(.slice none 0 0),(iV 0),(iV 0),(.string (⟨#[]⟩)),(.slice none 0 0),(iV 0),(iV 0),(.string (⟨#[]⟩)),(.slice none 0 0)]) T22.und T26 hS ha (ha.evp Y) Y Y Y Y fun b7 a w hS ha=>?_);obtain⟨H7,hS,hle7,hb7⟩:=hS.give;have hr7: RowT H7 (some ⟨b7,0,none⟩) 3 [tZ,tZ,tZ]:=RowT.of_lit ([⟨tZ,none,0⟩,⟨tZ,none,0⟩,⟨tZ,none,0⟩]: List TV) hb7 (AllR.cons (RowT.nil _) (AllR.cons (RowT.nil _) (AllR.cons (RowT.nil _) (AllR.nil _)))) (by simp) Y;exact As.qdone (s:=⟨H_,ax_⟩) hle7 ha hS ⟨_,_,rfl,hr7⟩
 ·refine As.Qx Y fun a w H_ ax_ hle hax_ hS ha hd hls=>?_;obtain⟨_,ha,A7,c7,rfl,hr7⟩:=hd.g ha 3 rfl;have hSf:=hS;have hSr:=Step.dropN _ _ hS;have hk9:=aQ hS.inv.nil hr7;refine id (Co func46 ha Y (hk9) ?_);rintro e w ⟨H8,A8,c8,rfl,hr8,hc8⟩;refine⟨_,rfl,fun a ha=>?_⟩;have hS:=hS.call hc8;exact As.qdone (s:=⟨H_,ax_⟩) hc8.le ha hS ⟨A8,c8,rfl,hr8⟩
 ·refine As.Qx Y fun a w H_ ax_ hle hax_ hS ha hd hls=>?_;have hSf:=hS;have hS:=Step.dropN _ _ hS;exact ag (vs:=(tL x Ax cx)) T26 Y ha Y (hS.blkL 2 rfl) Y (ae Y) Y fun a ha=>As.ql ha hSf
 ·refine As.Qx Y fun a w H_ ax_ hle hax_ hS ha hd hls=>?_;have hSf:=hS;have hS:=Step.dropN _ _ hS;exact ag (vs:=(tL y Ay cy)) T26 Y ha Y (hS.blkL 1 rfl) Y (ae Y) Y fun a ha=>As.ql ha hSf
 ·refine As.Qx Y fun a w H_ ax_ hle hax_ hS ha hd hls=>?_;obtain⟨_,ha,A8,c8,rfl,hr8⟩:=hd.g ha 4 rfl;obtain⟨_,ha,rfl⟩:=hd.g ha 5 rfl;obtain⟨_,ha,rfl⟩:=hd.g ha 6 rfl;have hrx:=hrx.mono hle;have hry:=hry.mono hle;have hSf:=hS;have hSr:=Step.dropN _ _ hS;have hk11:=c_Unify hS.inv.nil hr8 hrx hry;refine id (Co func15 ha Y (hk11) ?_);rintro e w ⟨H10,A10,c10,rfl,hr10,hc10⟩;refine⟨_,rfl,fun a ha=>?_⟩;have hS:=hS.call hc10;exact As.qdone (s:=⟨H_,ax_⟩) hc10.le ha hS ⟨A10,c10,rfl,hr10⟩
 ·refine As.Qx Y fun a w H_ ax_ hle hax_ hS ha hd hls=>?_;obtain⟨_,ha,A10,c10,rfl,hr10⟩:=hd.g ha 7 rfl;have hSf:=hS;refine id (am ha Y Y fun a ha=>?_);exact As.qdone (s:=⟨H_,ax_⟩) (Le.refl _) ha hSf ⟨A10,c10,rfl,hr10⟩
 ·refine As.Qx Y fun a w H_ ax_ hle hax_ hS ha hd hls=>?_;obtain⟨_,ha,A10,c10,rfl,hr10⟩:=hd.g ha 8 rfl;have hSf:=hS;refine id (ao (v:=(.agg #[(.slice A10 (((unifyU ([tZ,tZ,tZ]) x y).1.1).length) c10)])) ha Y Y Y fun a ha=>?_);exact As.qdone (s:=⟨H_,ax_⟩) (Le.refl _) ha hSf ⟨A10,c10,rfl,hr10⟩
 ·refine As.Qx Y fun a w H_ ax_ hle hax_ hS ha hd hls=>?_;obtain⟨_,ha,A10,c10,rfl,hr10⟩:=hd.g ha 8 rfl;have hSf:=hS;exact ao (v:=(.bool ((unifyU ([tZ,tZ,tZ]) x y).1.2))) ha Y Y Y fun a ha=>As.ql ha hSf
 ·refine As.Qx Y fun a w H_ ax_ hle hax_ hS ha hd hls=>?_;obtain⟨_,ha,A10,c10,rfl,hr10⟩:=hd.g ha 8 rfl;have hSf:=hS;exact ao (v:=(iV ((unifyU ([tZ,tZ,tZ]) x y).2))) ha Y Y Y fun a ha=>As.ql ha hSf
 ·refine As.Qx Y fun a w H_ ax_ hle hax_ hS ha hd hls=>?_;have hS: Step w0 H [] w H_ ((As.aents (As.il []) (As.sl [(12,13)]) [] ax_++As.aents (As.il []) (As.sl [(12,13)]) [13] ax_++ [(some b5,(.cells #[(.slice Aw ws.length cw)] 24 (0,0))),(some b3,(.cells (tA y Ay cy) 26 (0,0))),(some b1,(.cells (tA x Ax cx) 26 (0,0)))])):=As.opn (s:=⟨H_,ax_⟩) [] [12] [13] [] rfl (As.con0 hax_ Y) hS;refine aC (cs:= #[(.slice none 0 0)]) T24 hS ha Y Y fun ab12 a w hS ha=>?_;exact As.qown (i:=12) (dst:=some 7) (s:=⟨H_,ax_⟩) (E:= [(some ab12,(.cells #[(.slice none 0 0)] 24 (0,0)))]) [] [12] [13] rfl Y hax_ (Le.refl _) ha.dfr (As.has_at ha) hS As.con1 ⟨ab12,rfl,rfl⟩
 ·refine As.Qx Y fun a w H_ ax_ hle hax_ hS ha hd hls=>?_;obtain⟨_,ha,ab12,hx_ab12,rfl⟩:=hd.g ha 12 rfl;have hx_ab12: ax_ 12=some [(some ab12,(.cells #[(.slice none 0 0)] 24 (0,0)))]:=hx_ab12;obtain⟨_,ha,A10,c10,rfl,hr10⟩:=hd.g ha 9 rfl;have hS: Step w0 H [] w H_ ((some ab12,(.cells #[(.slice none 0 0)] 24 (0,0)))::(As.aents (As.il []) (As.sl [(12,13)]) [] ax_++As.aents (As.il []) (As.sl [(12,13)]) [] ax_++ [(some b5,(.cells #[(.slice Aw ws.length cw)] 24 (0,0))),(some b3,(.cells (tA y Ay cy) 26 (0,0))),(some b1,(.cells (tA x Ax cx) 26 (0,0)))])):=As.opn (s:=⟨H_,ax_⟩) [] [12,13] [] [(some ab12,(.cells #[(.slice none 0 0)] 24 (0,0)))] rfl (As.con2 Y Y Y hx_ab12 hax_) hS;refine id (aw (cs':= #[(.slice A10 (((unifyU ([tZ,tZ,tZ]) x y).1.1).length) c10)]) T24 hS (i:=0) Y ha Y Y Y Y Y Y fun a w hS ha=>?_);exact As.qown (i:=13) (dst:=none) (s:=⟨H_,ax_⟩) (E:= [(some ab12,(.cells #[(.slice A10 (((unifyU ([tZ,tZ,tZ]) x y).1.1).length) c10)] 24 (0,0)))]) [] [12,13] [] rfl Y hax_ (Le.refl _) ha.dfr (v:=undef) (fun _ h=>by cases h) hS (.inl (As.con2' Y Y)) ⟨ab12,A10,c10,hx_ab12,rfl,hr10⟩
 ·refine As.Qx1 10 rfl fun a w H_ ax_ hle hax_ hS ha hd hls=>?_;have hSf:=hS;exact aB ha Y Y fun a ha=>As.ql ha hSf
 obtain⟨H16,ax_⟩:=s_;have hle16: Le H H16:=hls.le;dsimp only at hdr_ hS;have hw:=hw.mono hle16;obtain⟨_,ha,rfl⟩:=As.Dd ha hdr_ 11 rfl;obtain⟨_,ha,ab12,hx_ab12,rfl⟩:=As.Dd ha hdr_ 12 rfl;have hx_ab12: ax_ 12=some [(some ab12,(.cells #[(.slice none 0 0)] 24 (0,0)))]:=hx_ab12;obtain⟨_,hv_,sb14,A10,c10,hq_sb14,hx_sb14,hr10⟩:=hdr_ 13 _ _ Y Y;have hx_sb14: ax_ 13=some [(some sb14,(.cells #[(.slice A10 (((unifyU ([tZ,tZ,tZ]) x y).1.1).length) c10)] 24 (0,0)))]:=hx_sb14;obtain rfl: ab12=sb14:=by have h_:=(hx_ab12).symm.trans hq_sb14;simpa using h_
 obtain⟨_,ha,rfl⟩:=As.Dd ha hdr_ 14 rfl;have hS: Step w0 H [] w H16 [(some ab12,(.cells #[(.slice A10 (((unifyU ([tZ,tZ,tZ]) x y).1.1).length) c10)] 24 (0,0))),(some b5,(.cells #[(.slice Aw ws.length cw)] 24 (0,0))),(some b3,(.cells (tA y Ay cy) 26 (0,0))),(some b1,(.cells (tA x Ax cx) 26 (0,0)))]:=by
  have h_:=hS;unfold As.aents at h_;simp only [List.flatMap_cons,List.flatMap_nil,As.conE,show (As.sl [(12,13)]) 12=some 13 from rfl,show (As.sl [(12,13)]) 13=none from rfl,hx_ab12,hx_sb14,Option.isSome_some,Option.getD_some,cond_true,cond_false,List.cons_append,List.nil_append,List.append_nil] at h_;exact h_
 refine any1 (i:=15) (by kernel_rfl) Y Y (aB ha Y Y fun a ha=>?_);refine any0 (by kernel_rfl) ?_;refine aa (wp_seq (ce (w0:=w0) (H0:=H) (L0:= []) (H:=H16) (L:= [(some ab12,(.cells #[(.slice A10 (((unifyU ([tZ,tZ,tZ]) x y).1.1).length) c10)] 24 (0,0))),(some b5,(.cells #[(.slice Aw ws.length cw)] 24 (0,0))),(some b3,(.cells (tA y Ay cy) 26 (0,0))),(some b1,(.cells (tA x Ax cx) 26 (0,0)))]) (D:= []) (N:=32) (E:= [(5,(pB b5)),(6,(.bool (((unifyU ([tZ,tZ,tZ]) x y).1.2&&(decide (((unifyU ([tZ,tZ,tZ]) x y).2)=0)))&&(eqL ((unifyU ([tZ,tZ,tZ]) x y).1.1) ws)))),(7,(pB ab12)),(8,(.bool ((unifyU ([tZ,tZ,tZ]) x y).1.2))),(9,(iV ((unifyU ([tZ,tZ,tZ]) x y).2)))]) (fun a w hS ha=>?_) ?_));rotate_left
 ·refine Lm Y ha fun a ha=>?_;refine Lm Y ha fun a ha=>?_;refine ap (t:=23) ha Y (fun h18 ha=>?_) (fun h18 ha=>?_)
  ·refine ad Y ha Y Y Y (am ha Y Y fun a ha=>?_);refine ad Y ha Y Y Y (aV (i:=((unifyU ([tZ,tZ,tZ]) x y).2)) (j:=0) ha Y Y Y fun a ha=>?_);refine lin Y (aj ha Y Y Y fun a ha=>?_);refine Lm Y ha fun a ha=>?_;refine al (t:=27) ha Y (fun h19 ha=>?_) (fun h19 ha=>?_)
   ·refine ad Y ha Y Y Y (ag (vs:= [(.slice A10 (((unifyU ([tZ,tZ,tZ]) x y).1.1).length) c10)]) T24 Y ha Y (hS.blkL 0 rfl) Y (ae Y) Y fun a ha=>?_);refine ad Y ha Y Y Y (ag (vs:= [(.slice Aw ws.length cw)]) T24 Y ha Y (hS.blkL 1 rfl) Y (ae Y) Y fun a ha=>?_);have hk20:=aL hS.inv.nil hr10 hw;refine ad Y ha Y Y Y (Co func28 ha Y (hk20) ?_);rintro e w ⟨rfl,hc⟩;refine⟨_,rfl,fun a ha=>?_⟩;have hS:=hS.call hc;refine lin Y (aj ha Y Y Y fun a ha=>?_);refine Ls Y ha fun a ha=>?_;exact wpList_nil ⟨rfl,hS,Has.cons ha Y (Has.cons ha (by simp [lk,Nat.beq,h18,h19]) (ha.pk Y))⟩
   ·refine Lf Y ha Y Y fun a ha=>?_;refine Lf Y ha Y Y fun a ha=>?_;refine Lf Y ha Y Y fun a ha=>?_;refine lin Y (ah ha Y Y Y fun a ha=>?_);refine Ls Y ha fun a ha=>?_;exact wpList_nil ⟨rfl,hS,Has.cons ha Y (Has.cons ha (by simp [lk,Nat.beq,h18,h19]) (ha.pk Y))⟩
  ·refine Lf Y ha Y Y fun a ha=>?_;refine Lf Y ha Y Y fun a ha=>?_;refine lin Y (ah ha Y Y Y fun a ha=>?_);refine Lm Y ha fun a ha=>?_;refine Lf Y ha Y Y fun a ha=>?_;refine Lf Y ha Y Y fun a ha=>?_;refine Lf Y ha Y Y fun a ha=>?_;refine lin Y (ah ha Y Y Y fun a ha=>?_);refine Ls Y ha fun a ha=>?_;exact wpList_nil ⟨rfl,hS,Has.cons ha Y (Has.cons ha (by simp [lk,Nat.beq,h18]) (ha.pk Y))⟩
 refine aa (wp_ret (ret1 Y ha Y ?_));exact⟨_,rfl,hS.drop_all⟩
set_option maxHeartbeats 2000000 in
theorem fo {w0: World} {H: PHeap} (hI: Inv w0 H []) {x y: Tm} {Ax Ay: Option Addr} {cx cy: Nat} (hrx: RowT H Ax cx x.l) (hry: RowT H Ay cy y.l): Calls prog 48 #[(tv x Ax cx),(tv y Ay cy)] w0 (fun e w'=> ∃ H',e=.returned (.bool (failsB x y))∧Step w0 H [] w' H' []):=by
 have hS:=Step.refl hI;refine enter [(tv x Ax cx),(tv y Ay cy)] func48 Y ntmps48 Y fun a ha=>?_;refine wp_seq (ab (lin Y (aG (cs:=(tA x Ax cx)) hS ha Y Y Y fun b1 a w hS ha=>?_)));refine lin Y (aG (cs:=(tA y Ay cy)) hS ha Y Y Y fun b3 a w hS ha=>?_);refine Ls Y ha fun a ha=>?_;refine wpList_nil (aa (wp_seq ?_));have hS_:=hS;refine As.c_draw_head (ini:=(As.il [])) (sup:=(As.sl [(12,13)])) (als:= [12,13]) (s0:=⟨H,fun _=>none⟩) (L:= [(some b3,(.cells (tA y Ay cy) 26 (0,0))),(some b1,(.cells (tA x Ax cx) 26 (0,0)))]) (N:=32) (E:= [(2,(pB b1)),(3,(pB b3))]) 15 [FcV vZ,FcV vZ,FcV vZ,fun q_ v=>(fun H v=> ∃ A c,v=.slice A 3 c∧RowT H A c [tZ,tZ,tZ]) q_.H v,fun q_ v=>(fun H v=> ∃ A c,v=(.agg #[(.slice A (([tZ,tZ,tZ]).length) c)])∧RowT H A c ([tZ,tZ,tZ])) q_.H v,FcV (tv x Ax cx),FcV (tv y Ay cy),fun q_ v=>(fun H v=> ∃ A c,v=(.tuple #[(.agg #[(.slice A (((unifyU ([tZ,tZ,tZ]) x y).1.1).length) c)]),(.bool ((unifyU ([tZ,tZ,tZ]) x y).1.2)),(iV ((unifyU ([tZ,tZ,tZ]) x y).2))])∧RowT H A c ((unifyU ([tZ,tZ,tZ]) x y).1.1)) q_.H v,fun q_ v=>(fun H v=> ∃ A c,v=(.tuple #[(.agg #[(.slice A (((unifyU ([tZ,tZ,tZ]) x y).1.1).length) c)]),(.bool ((unifyU ([tZ,tZ,tZ]) x y).1.2)),(iV ((unifyU ([tZ,tZ,tZ]) x y).2))])∧RowT H A c ((unifyU ([tZ,tZ,tZ]) x y).1.1)) q_.H v,fun q_ v=>(fun H v=> ∃ A c,v=(.agg #[(.slice A (((unifyU ([tZ,tZ,tZ]) x y).1.1).length) c)])∧RowT H A c ((unifyU ([tZ,tZ,tZ]) x y).1.1)) q_.H v,FcV (.bool ((unifyU ([tZ,tZ,tZ]) x y).1.2)),FcV (iV ((unifyU ([tZ,tZ,tZ]) x y).2)),fun s v=> ∃ b,s.ax 12=some [(some b,(.cells #[(.slice none 0 0)] 24 (0,0)))]∧v=.pointer (some ⟨b,0,none⟩),fun s _=> ∃(b: Nat) (A: Option Addr) (c: Nat),s.ax 12=some [(some b,(.cells #[(.slice none 0 0)] 24 (0,0)))]∧s.ax 13=some [(some b,(.cells #[(.slice A (((unifyU ([tZ,tZ,tZ]) x y).1.1).length) c)] 24 (0,0)))]∧RowT s.H A c ((unifyU ([tZ,tZ,tZ]) x y).1.1),FcV (.bool ((unifyU ([tZ,tZ,tZ]) x y).1.2))] mixed Y Y Y (As.M1 (As.M1 (As.M1 (As.Monos.cons (fun _ _ v hl h=>(fun _ _ _ hl ⟨A,c,h,hr⟩=>⟨A,c,h,hr.mono hl⟩: ∀(H H': PHeap) (v: Value),Le H H'→(fun H v=> ∃ A c,v=.slice A 3 c∧RowT H A c [tZ,tZ,tZ]) H v→(fun H v=> ∃ A c,v=.slice A 3 c∧RowT H A c [tZ,tZ,tZ]) H' v) _ _ _ hl.le h) (As.Monos.cons (fun _ _ v hl h=>(fun _ _ _ hl ⟨A,c,h,hr⟩=>⟨A,c,h,hr.mono hl⟩: ∀(H H': PHeap) (v: Value),Le H H'→(fun H v=> ∃ A c,v=(.agg #[(.slice A (([tZ,tZ,tZ]).length) c)])∧RowT H A c ([tZ,tZ,tZ])) H v→(fun H v=> ∃ A c,v=(.agg #[(.slice A (([tZ,tZ,tZ]).length) c)])∧RowT H A c ([tZ,tZ,tZ])) H' v) _ _ _ hl.le h) (As.M1 (As.M1 (As.Monos.cons (fun _ _ v hl h=>(fun _ _ _ hl ⟨A,c,h,hr⟩=>⟨A,c,h,hr.mono hl⟩: ∀(H H': PHeap) (v: Value),Le H H'→(fun H v=> ∃ A c,v=(.tuple #[(.agg #[(.slice A (((unifyU ([tZ,tZ,tZ]) x y).1.1).length) c)]),(.bool ((unifyU ([tZ,tZ,tZ]) x y).1.2)),(iV ((unifyU ([tZ,tZ,tZ]) x y).2))])∧RowT H A c ((unifyU ([tZ,tZ,tZ]) x y).1.1)) H v→(fun H v=> ∃ A c,v=(.tuple #[(.agg #[(.slice A (((unifyU ([tZ,tZ,tZ]) x y).1.1).length) c)]),(.bool ((unifyU ([tZ,tZ,tZ]) x y).1.2)),(iV ((unifyU ([tZ,tZ,tZ]) x y).2))])∧RowT H A c ((unifyU ([tZ,tZ,tZ]) x y).1.1)) H' v) _ _ _ hl.le h) (As.Monos.cons (fun _ _ v hl h=>(fun _ _ _ hl ⟨A,c,h,hr⟩=>⟨A,c,h,hr.mono hl⟩: ∀(H H': PHeap) (v: Value),Le H H'→(fun H v=> ∃ A c,v=(.tuple #[(.agg #[(.slice A (((unifyU ([tZ,tZ,tZ]) x y).1.1).length) c)]),(.bool ((unifyU ([tZ,tZ,tZ]) x y).1.2)),(iV ((unifyU ([tZ,tZ,tZ]) x y).2))])∧RowT H A c ((unifyU ([tZ,tZ,tZ]) x y).1.1)) H v→(fun H v=> ∃ A c,v=(.tuple #[(.agg #[(.slice A (((unifyU ([tZ,tZ,tZ]) x y).1.1).length) c)]),(.bool ((unifyU ([tZ,tZ,tZ]) x y).1.2)),(iV ((unifyU ([tZ,tZ,tZ]) x y).2))])∧RowT H A c ((unifyU ([tZ,tZ,tZ]) x y).1.1)) H' v) _ _ _ hl.le h) (As.Monos.cons (fun _ _ v hl h=>(fun _ _ _ hl ⟨A,c,h,hr⟩=>⟨A,c,h,hr.mono hl⟩: ∀(H H': PHeap) (v: Value),Le H H'→(fun H v=> ∃ A c,v=(.agg #[(.slice A (((unifyU ([tZ,tZ,tZ]) x y).1.1).length) c)])∧RowT H A c ((unifyU ([tZ,tZ,tZ]) x y).1.1)) H v→(fun H v=> ∃ A c,v=(.agg #[(.slice A (((unifyU ([tZ,tZ,tZ]) x y).1.1).length) c)])∧RowT H A c ((unifyU ([tZ,tZ,tZ]) x y).1.1)) H' v) _ _ _ hl.le h) (As.M1 (As.M1 (As.Monos.cons (fun _ _ _ hl ⟨b,h,e⟩=>⟨b,hl.get h,e⟩) (As.Monos.cons (fun _ _ _ hl ⟨b,A,c,h1,h2,hr⟩=>⟨b,A,c,hl.get h1,hl.get h2,hr.mono hl.le⟩) (As.M1 (As.Monos.nil)))))))))))))))) (fun _=>rfl) hS (ha.pk Y) (As.QuietsI.c4 ?_ ?_ ?_ ?_ (As.QuietsI.c4 ?_ ?_ ?_ ?_ (As.QuietsI.c4 ?_ ?_ ?_ ?_ (As.QuietsI.c2 ?_ ?_ (As.QuietsI.cons ?_ (As.QuietsI.nil)))))) (fun f_ a w s_ hls hS ha hdr_=>?_)
 ·refine As.Qx Y fun a w H_ ax_ hle hax_ hS ha hd hls=>?_;have hSf:=hS;exact aM (vs:= []) (cells:=lZ) T26 PL26 ha (ha.evp Y) Y Y fun a ha=>As.ql ha hSf
 ·refine As.Qx Y fun a w H_ ax_ hle hax_ hS ha hd hls=>?_;have hSf:=hS;exact aM (vs:= []) (cells:=lZ) T26 PL26 ha (ha.evp Y) Y Y fun a ha=>As.ql ha hSf
 ·refine As.Qx Y fun a w H_ ax_ hle hax_ hS ha hd hls=>?_;have hSf:=hS;exact aM (vs:= []) (cells:=lZ) T26 PL26 ha (ha.evp Y) Y Y fun a ha=>As.ql ha hSf
 ·refine As.Qx1 0 rfl fun a w H_ ax_ hle hax_ hS ha hd hls=>?_;obtain⟨_,ha,rfl⟩:=hd.g ha 1 rfl;obtain⟨_,ha,rfl⟩:=hd.g ha 2 rfl;have hSf:=hS;have hSr:=Step.dropN _ _ hS;refine id (aD (vs:= [(0,vZ),(1,vZ),(2,vZ)]) (cells:= [(iV 0),(iV 0),(.string (⟨#[]⟩)),(.slice none 0 0),(iV 0),(iV 0),(.string (⟨#[]⟩)),(.slice none 0 0),(iV 0),(iV 0),(.string (⟨#[]⟩)),(.slice none 0 0)]) T22.und T26 hS ha (ha.evp Y) Y Y Y Y fun b5 a w hS ha=>?_);obtain⟨H5,hS,hle5,hb5⟩:=hS.give;have hr5: RowT H5 (some ⟨b5,0,none⟩) 3 [tZ,tZ,tZ]:=RowT.of_lit ([⟨tZ,none,0⟩,⟨tZ,none,0⟩,⟨tZ,none,0⟩]: List TV) hb5 (AllR.cons (RowT.nil _) (AllR.cons (RowT.nil _) (AllR.cons (RowT.nil _) (AllR.nil _)))) (by simp) Y;exact As.qdone (s:=⟨H_,ax_⟩) hle5 ha hS ⟨_,_,rfl,hr5⟩
 ·refine As.Qx Y fun a w H_ ax_ hle hax_ hS ha hd hls=>?_;obtain⟨_,ha,A5,c5,rfl,hr5⟩:=hd.g ha 3 rfl;have hSf:=hS;have hSr:=Step.dropN _ _ hS;have hk7:=aQ hS.inv.nil hr5;refine id (Co func46 ha Y (hk7) ?_);rintro e w ⟨H6,A6,c6,rfl,hr6,hc6⟩;refine⟨_,rfl,fun a ha=>?_⟩;have hS:=hS.call hc6;exact As.qdone (s:=⟨H_,ax_⟩) hc6.le ha hS ⟨A6,c6,rfl,hr6⟩
 ·refine As.Qx Y fun a w H_ ax_ hle hax_ hS ha hd hls=>?_;have hSf:=hS;have hS:=Step.dropN _ _ hS;exact ag (vs:=(tL x Ax cx)) T26 Y ha Y (hS.blkL 1 rfl) Y (ae Y) Y fun a ha=>As.ql ha hSf
 ·refine As.Qx Y fun a w H_ ax_ hle hax_ hS ha hd hls=>?_;have hSf:=hS;have hS:=Step.dropN _ _ hS;exact ag (vs:=(tL y Ay cy)) T26 Y ha Y (hS.blkL 0 rfl) Y (ae Y) Y fun a ha=>As.ql ha hSf
 ·refine As.Qx Y fun a w H_ ax_ hle hax_ hS ha hd hls=>?_;obtain⟨_,ha,A6,c6,rfl,hr6⟩:=hd.g ha 4 rfl;obtain⟨_,ha,rfl⟩:=hd.g ha 5 rfl;obtain⟨_,ha,rfl⟩:=hd.g ha 6 rfl;have hrx:=hrx.mono hle;have hry:=hry.mono hle;have hSf:=hS;have hSr:=Step.dropN _ _ hS;have hk9:=c_Unify hS.inv.nil hr6 hrx hry;refine id (Co func15 ha Y (hk9) ?_);rintro e w ⟨H8,A8,c8,rfl,hr8,hc8⟩;refine⟨_,rfl,fun a ha=>?_⟩;have hS:=hS.call hc8;exact As.qdone (s:=⟨H_,ax_⟩) hc8.le ha hS ⟨A8,c8,rfl,hr8⟩
 ·refine As.Qx Y fun a w H_ ax_ hle hax_ hS ha hd hls=>?_;obtain⟨_,ha,A8,c8,rfl,hr8⟩:=hd.g ha 7 rfl;have hSf:=hS;refine id (am ha Y Y fun a ha=>?_);exact As.qdone (s:=⟨H_,ax_⟩) (Le.refl _) ha hSf ⟨A8,c8,rfl,hr8⟩
 ·refine As.Qx Y fun a w H_ ax_ hle hax_ hS ha hd hls=>?_;obtain⟨_,ha,A8,c8,rfl,hr8⟩:=hd.g ha 8 rfl;have hSf:=hS;refine id (ao (v:=(.agg #[(.slice A8 (((unifyU ([tZ,tZ,tZ]) x y).1.1).length) c8)])) ha Y Y Y fun a ha=>?_);exact As.qdone (s:=⟨H_,ax_⟩) (Le.refl _) ha hSf ⟨A8,c8,rfl,hr8⟩
 ·refine As.Qx Y fun a w H_ ax_ hle hax_ hS ha hd hls=>?_;obtain⟨_,ha,A8,c8,rfl,hr8⟩:=hd.g ha 8 rfl;have hSf:=hS;exact ao (v:=(.bool ((unifyU ([tZ,tZ,tZ]) x y).1.2))) ha Y Y Y fun a ha=>As.ql ha hSf
 ·refine As.Qx Y fun a w H_ ax_ hle hax_ hS ha hd hls=>?_;obtain⟨_,ha,A8,c8,rfl,hr8⟩:=hd.g ha 8 rfl;have hSf:=hS;exact ao (v:=(iV ((unifyU ([tZ,tZ,tZ]) x y).2))) ha Y Y Y fun a ha=>As.ql ha hSf
 ·refine As.Qx Y fun a w H_ ax_ hle hax_ hS ha hd hls=>?_;have hS: Step w0 H [] w H_ ((As.aents (As.il []) (As.sl [(12,13)]) [] ax_++As.aents (As.il []) (As.sl [(12,13)]) [13] ax_++ [(some b3,(.cells (tA y Ay cy) 26 (0,0))),(some b1,(.cells (tA x Ax cx) 26 (0,0)))])):=As.opn (s:=⟨H_,ax_⟩) [] [12] [13] [] rfl (As.con0 hax_ Y) hS;refine aC (cs:= #[(.slice none 0 0)]) T24 hS ha Y Y fun ab10 a w hS ha=>?_;exact As.qown (i:=12) (dst:=some 5) (s:=⟨H_,ax_⟩) (E:= [(some ab10,(.cells #[(.slice none 0 0)] 24 (0,0)))]) [] [12] [13] rfl Y hax_ (Le.refl _) ha.dfr (As.has_at ha) hS As.con1 ⟨ab10,rfl,rfl⟩
 ·refine As.Qx Y fun a w H_ ax_ hle hax_ hS ha hd hls=>?_;obtain⟨_,ha,ab10,hx_ab10,rfl⟩:=hd.g ha 12 rfl;have hx_ab10: ax_ 12=some [(some ab10,(.cells #[(.slice none 0 0)] 24 (0,0)))]:=hx_ab10;obtain⟨_,ha,A8,c8,rfl,hr8⟩:=hd.g ha 9 rfl;have hS: Step w0 H [] w H_ ((some ab10,(.cells #[(.slice none 0 0)] 24 (0,0)))::(As.aents (As.il []) (As.sl [(12,13)]) [] ax_++As.aents (As.il []) (As.sl [(12,13)]) [] ax_++ [(some b3,(.cells (tA y Ay cy) 26 (0,0))),(some b1,(.cells (tA x Ax cx) 26 (0,0)))])):=As.opn (s:=⟨H_,ax_⟩) [] [12,13] [] [(some ab10,(.cells #[(.slice none 0 0)] 24 (0,0)))] rfl (As.con2 Y Y Y hx_ab10 hax_) hS;refine id (aw (cs':= #[(.slice A8 (((unifyU ([tZ,tZ,tZ]) x y).1.1).length) c8)]) T24 hS (i:=0) Y ha Y Y Y Y Y Y fun a w hS ha=>?_);exact As.qown (i:=13) (dst:=none) (s:=⟨H_,ax_⟩) (E:= [(some ab10,(.cells #[(.slice A8 (((unifyU ([tZ,tZ,tZ]) x y).1.1).length) c8)] 24 (0,0)))]) [] [12,13] [] rfl Y hax_ (Le.refl _) ha.dfr (v:=undef) (fun _ h=>by cases h) hS (.inl (As.con2' Y Y)) ⟨ab10,A8,c8,hx_ab10,rfl,hr8⟩
 ·refine As.Qx1 10 rfl fun a w H_ ax_ hle hax_ hS ha hd hls=>?_;have hSf:=hS;exact aB ha Y Y fun a ha=>As.ql ha hSf
 obtain⟨H14,ax_⟩:=s_;have hle14: Le H H14:=hls.le;dsimp only at hdr_ hS;obtain⟨_,ha,rfl⟩:=As.Dd ha hdr_ 11 rfl;obtain⟨_,ha,ab10,hx_ab10,rfl⟩:=As.Dd ha hdr_ 12 rfl;have hx_ab10: ax_ 12=some [(some ab10,(.cells #[(.slice none 0 0)] 24 (0,0)))]:=hx_ab10;obtain⟨_,hv_,sb12,A8,c8,hq_sb12,hx_sb12,hr8⟩:=hdr_ 13 _ _ Y Y;have hx_sb12: ax_ 13=some [(some sb12,(.cells #[(.slice A8 (((unifyU ([tZ,tZ,tZ]) x y).1.1).length) c8)] 24 (0,0)))]:=hx_sb12;obtain rfl: ab10=sb12:=by have h_:=(hx_ab10).symm.trans hq_sb12;simpa using h_
 obtain⟨_,ha,rfl⟩:=As.Dd ha hdr_ 14 rfl;have hS: Step w0 H [] w H14 [(some ab10,(.cells #[(.slice A8 (((unifyU ([tZ,tZ,tZ]) x y).1.1).length) c8)] 24 (0,0))),(some b3,(.cells (tA y Ay cy) 26 (0,0))),(some b1,(.cells (tA x Ax cx) 26 (0,0)))]:=by
  have h_:=hS;unfold As.aents at h_;simp only [List.flatMap_cons,List.flatMap_nil,As.conE,show (As.sl [(12,13)]) 12=some 13 from rfl,show (As.sl [(12,13)]) 13=none from rfl,hx_ab10,hx_sb12,Option.isSome_some,Option.getD_some,cond_true,cond_false,List.cons_append,List.nil_append,List.append_nil] at h_;exact h_
 refine any1 (i:=15) (by kernel_rfl) Y Y (aB ha Y Y fun a ha=>?_);refine any0 (by kernel_rfl) ?_;refine aa (wp_seq (bh (D:= []) (N:=32) (E:= [(4,(.bool (((!(unifyU ([tZ,tZ,tZ]) x y).1.2)&&(decide (((unifyU ([tZ,tZ,tZ]) x y).2)=0)))&&(decide (((((unifyU ([tZ,tZ,tZ]) x y).1.1).length: Nat): Int)=3))))),(5,(pB ab10)),(6,(.bool ((unifyU ([tZ,tZ,tZ]) x y).1.2))),(7,(iV ((unifyU ([tZ,tZ,tZ]) x y).2)))]) (fun a ha=>?_) ?_));rotate_left
 ·refine Lm Y ha fun a ha=>?_;refine lin Y (aJ ha Y Y fun a ha=>?_);refine Lm Y ha fun a ha=>?_;refine ap (t:=22) ha Y (fun h15 ha=>?_) (fun h15 ha=>?_)
  ·refine ad Y ha Y Y Y (am ha Y Y fun a ha=>?_);refine ad Y ha Y Y Y (aV (i:=((unifyU ([tZ,tZ,tZ]) x y).2)) (j:=0) ha Y Y Y fun a ha=>?_);refine lin Y (aj ha Y Y Y fun a ha=>?_);refine Lm Y ha fun a ha=>?_;refine al (t:=26) ha Y (fun h16 ha=>?_) (fun h16 ha=>?_)
   ·refine ad Y ha Y Y Y (ac (f:=0) (o2:=0) T24 T22 Y Y Y Y ha Y Y fun a ha=>?_);refine ad Y ha Y Y Y (af (v:=(.slice A8 (((unifyU ([tZ,tZ,tZ]) x y).1.1).length) c8)) T22 Y ha Y (hS.blkL 0 rfl) Y Y fun a ha=>?_);refine ad Y ha Y Y Y (aE T22.und ha Y Y fun a ha=>?_);refine ad Y ha Y Y Y (aV (i:=((((unifyU ([tZ,tZ,tZ]) x y).1.1).length: Nat): Int)) (j:=3) ha Y Y Y fun a ha=>?_);refine lin Y (aj ha Y Y Y fun a ha=>?_);refine Ls Y ha fun a ha=>?_;exact wpList_nil ⟨rfl,rfl,Has.cons ha (by simp [lk,Nat.beq,h15,h16]) (ha.pk Y)⟩
   ·refine Lf Y ha Y Y fun a ha=>?_;refine Lf Y ha Y Y fun a ha=>?_;refine Lf Y ha Y Y fun a ha=>?_;refine Lf Y ha Y Y fun a ha=>?_;refine lin Y (ah ha Y Y Y fun a ha=>?_);refine Ls Y ha fun a ha=>?_;exact wpList_nil ⟨rfl,rfl,Has.cons ha (by simp [lk,Nat.beq,h15,h16]) (ha.pk Y)⟩
  ·refine Lf Y ha Y Y fun a ha=>?_;refine Lf Y ha Y Y fun a ha=>?_;refine lin Y (ah ha Y Y Y fun a ha=>?_);refine Lm Y ha fun a ha=>?_;refine Lf Y ha Y Y fun a ha=>?_;refine Lf Y ha Y Y fun a ha=>?_;refine Lf Y ha Y Y fun a ha=>?_;refine Lf Y ha Y Y fun a ha=>?_;refine lin Y (ah ha Y Y Y fun a ha=>?_);refine Ls Y ha fun a ha=>?_;exact wpList_nil ⟨rfl,rfl,Has.cons ha (by simp [lk,Nat.beq,h15]) (ha.pk Y)⟩
 refine aa (wp_ret (ret1 Y ha Y ?_));exact⟨_,rfl,hS.drop_all⟩
end Go.Vk.Try
namespace Go.Vk.Try
open Go.RowKit
abbrev q0: Tm:=(Tm.mk 1 0 ⟨#[]⟩ [])
abbrev q1: Tm:=(Tm.mk 1 1 ⟨#[]⟩ [])
abbrev k2: List Tm:= [tZ,q0,tZ]
abbrev q3: Tm:=(Tm.mk 5 0 (⟨#[102]⟩) [q0,q1])
abbrev q4: Tm:=(Tm.mk 3 0 (⟨#[97]⟩) [])
abbrev q5: Tm:=(Tm.mk 5 0 (⟨#[102]⟩) [q1,q4])
abbrev k6: List Tm:= [q4,q0,tZ]
abbrev q7: Tm:=(Tm.mk 1 2 ⟨#[]⟩ [])
abbrev q8: Tm:=(Tm.mk 5 0 (⟨#[102]⟩) [q7,q1])
abbrev q9: Tm:=(Tm.mk 5 0 (⟨#[102]⟩) [q1,q0])
abbrev k10: List Tm:= [tZ,q0,q1]
abbrev q11: Tm:=(Tm.mk 5 0 (⟨#[102]⟩) [q0])
abbrev q12: Tm:=(Tm.mk 5 0 (⟨#[103]⟩) [q1])
abbrev q13: Tm:=(Tm.mk 5 0 (⟨#[103]⟩) [q0])
abbrev q14: Tm:=(Tm.mk 5 0 (⟨#[102]⟩) [q12,q13])
abbrev q15: Tm:=(Tm.mk 5 0 (⟨#[102]⟩) [q0,q0])
abbrev q16: Tm:=(Tm.mk 5 0 (⟨#[102]⟩) [q1,q1])
abbrev k17: List Tm:= [tZ,q15,q16]
abbrev q18: Tm:=(valU k17 q7).1
abbrev q19: Tm:=(wholeU k17 q7).1
abbrev q20: Tm:=(Tm.mk 5 0 (⟨#[102]⟩) [q1,q15])
abbrev q21: Tm:=(Tm.mk 5 0 (⟨#[102]⟩) [q15,q15])
abbrev q22: Tm:=(Tm.mk 5 0 (⟨#[102]⟩) [q7,q0])
abbrev k23: List Tm:= [q1,tZ]
abbrev k24: List Tm:= [q11]
abbrev q25: Tm:=(Tm.mk 5 0 (⟨#[102]⟩) [q1])
abbrev k26: List Tm:= [q25,q4]
abbrev k27: List Tm:= [q25,tZ]
abbrev k28: List Tm:= [tZ,q4,q0]
abbrev k29: List Tm:=(mergeU k27 k28).1.1
abbrev k30: List Tm:= [q4,q4]
abbrev k31: List Tm:= [tZ,q0]
abbrev k32: List Tm:= [tZ]
abbrev k33: List Tm:= [q25,q4,q25]
abbrev k34: List Tm:=(sVar k32 ([])).1.1
abbrev k35: List Chg:=(sVar k32 ([])).1.2
abbrev k36: List Tm:=(sUni k34 k35 q0 q1).1.1
abbrev k37: List Chg:=(sUni k34 k35 q0 q1).1.2
abbrev k38: List Tm:=(sBack k36 k37 1).1.1
abbrev k40: List Tm:= [tZ,tZ]
set_option maxHeartbeats 40000000 in
theorem c_sane {w0: World} {H: PHeap} (hI: Inv w0 H []): Calls prog 11 #[] w0 (fun e w'=> ∃ H',e=.returned (.bool true)∧Step w0 H [] w' H' []):=by
 have hS:=Step.refl hI;refine enter [] func11 Y ntmps11 Y fun a ha=>?_;refine wp_seq (ab (Ls Y ha fun a ha=>?_));refine wpList_nil (aa (wp_seq (ab (lin Y (aM (vs:= []) (cells:=lZ) T26 PL26 ha (ha.evp Y) Y Y fun a ha=>?_)))));refine lin Y (aC (cs:=aZ) T26 hS ha Y Y fun b1 a w hS ha=>?_);refine lin Y (aw (cs':=aZ) T26 hS (i:=0) Y ha Y Y Y Y Y Y fun a w hS ha=>?_);refine wpList_nil (aa (wp_seq (wp_seq ?_)));have hS_:=hS;refine bE cC [FcT q0,FcT q1,FcV vZ,FcT q0,FcV vZ,fun H v=> ∃ A c,v=.slice A 3 c∧RowT H A c [tZ,q0,tZ],fun H v=> ∃ A c,v=(.agg #[(.slice A k2.length c)])∧RowT H A c k2,FcV (.bool true),FcV (.bool false),FcV (.bool false),FcT q0,FcT q1,fun H v=> ∃ A c,v=.slice A 2 c∧RowT H A c [q0,q1],FcT q3,FcT q1,FcT q4,fun H v=> ∃ A c,v=.slice A 2 c∧RowT H A c [q1,q4],FcT q5,FcT q4,FcT q0,FcV vZ,fun H v=> ∃ A c,v=.slice A 3 c∧RowT H A c [q4,q0,tZ],fun H v=> ∃ A c,v=(.agg #[(.slice A k6.length c)])∧RowT H A c k6,FcV (.bool true),FcV (.bool false),FcV (.bool false),FcV (.bool false),FcT q7,FcT q1,fun H v=> ∃ A c,v=.slice A 2 c∧RowT H A c [q7,q1],FcT q8,FcT q1,FcT q0,fun H v=> ∃ A c,v=.slice A 2 c∧RowT H A c [q1,q0],FcT q9,FcV vZ,FcT q0,FcT q1,fun H v=> ∃ A c,v=.slice A 3 c∧RowT H A c [tZ,q0,q1],fun H v=> ∃ A c,v=(.agg #[(.slice A k10.length c)])∧RowT H A c k10,FcV (.bool true),FcV (.bool false),FcV (.bool false),FcV (.bool false),FcT q0,FcT q0,fun H v=> ∃ A c,v=.slice A 1 c∧RowT H A c [q0],FcT q11,FcV (.bool true),FcV (.bool false),FcV (.bool false),FcV (.bool false),FcT q0,FcT q1,fun H v=> ∃ A c,v=.slice A 2 c∧RowT H A c [q0,q1],FcT q3,FcT q1,fun H v=> ∃ A c,v=.slice A 1 c∧RowT H A c [q1],FcT q12,FcT q0,fun H v=> ∃ A c,v=.slice A 1 c∧RowT H A c [q0],FcT q13,fun H v=> ∃ A c,v=.slice A 2 c∧RowT H A c [q12,q13],FcT q14,FcV (.bool true),FcV (.bool false),FcV (.bool false),FcV (.bool false),FcT q0,fun H v=> ∃ A c,v=.slice A 1 c∧RowT H A c [q0],FcT q11,FcT q0,fun H v=> ∃ A c,v=.slice A 1 c∧RowT H A c [q0],FcT q13,FcV (.bool true),FcV (.bool false),FcV (.bool false)] (N:=386) (E:= [(1,(pB b1))]) mixed (by kernel_rfl) (by repeat' (first | exact Monos.nil | refine Monos.cons ?_ ?_ |(intro _ _ _ hl h;exact h) |(rintro _ _ _ hl ⟨A,c,h,hr⟩;exact⟨A,c,h,hr.mono hl⟩) |(rintro _ _ _ hl ⟨b,h,hb⟩;exact⟨b,h,hl _ _ hb⟩))) hS (ha.pk Y) (.c4 ?_ ?_ ?_ ?_ (.c4 ?_ ?_ ?_ ?_ (.c4 ?_ ?_ ?_ ?_ (.c4 ?_ ?_ ?_ ?_ (.c4 ?_ ?_ ?_ ?_ (.c4 ?_ ?_ ?_ ?_ (.c4 ?_ ?_ ?_ ?_ (.c4 ?_ ?_ ?_ ?_ (.c4 ?_ ?_ ?_ ?_ (.c4 ?_ ?_ ?_ ?_ (.c4 ?_ ?_ ?_ ?_ (.c4 ?_ ?_ ?_ ?_ (.c4 ?_ ?_ ?_ ?_ (.c4 ?_ ?_ ?_ ?_ (.c4 ?_ ?_ ?_ ?_ (.c4 ?_ ?_ ?_ ?_ (.c4 ?_ ?_ ?_ ?_ (.c4 ?_ ?_ ?_ ?_ (.c4 ?_ ?_ ?_ ?_ (.cons ?_ (.nil))))))))))))))))))))) (fun a w H103 hle103 hS ha hdr_=>?_)
 ·refine Qy Y fun a w H_ hle hS ha hd=>?_;exact Qd func39 ha Y (cd (n:=0) hS.inv.nil) hS
 ·refine Qy Y fun a w H_ hle hS ha hd=>?_;exact Qd func39 ha Y (cd (n:=1) hS.inv.nil) hS
 ·refine Qy Y fun a w H_ hle hS ha hd=>?_;exact ag (vs:=lZ) T26 Y ha Y (hS.blkL 0 rfl) Y (ae Y) Y fun a ha=>ql ha hS
 ·refine Qy Y fun a w H_ hle hS ha hd=>?_;exact Qd func39 ha Y (cd (n:=0) hS.inv.nil) hS
 ·refine Qy Y fun a w H_ hle hS ha hd=>?_;exact ag (vs:=lZ) T26 Y ha Y (hS.blkL 0 rfl) Y (ae Y) Y fun a ha=>ql ha hS
 ·refine Qy1 2 rfl fun a w H_ hle hS ha hd=>?_;obtain⟨_,ha,A7,c7,rfl,hr7⟩:=hd.g ha 3 rfl;obtain⟨_,ha,rfl⟩:=hd.g ha 4 rfl;refine id (aD (vs:= [(0,vZ),(1,(tv q0 A7 c7)),(2,vZ)]) (cells:= [(iV 0),(iV 0),(.string (⟨#[]⟩)),(.slice none 0 0),(iV q0.kind),(iV q0.n),(.string q0.s),(.slice A7 q0.l.length c7),(iV 0),(iV 0),(.string (⟨#[]⟩)),(.slice none 0 0)]) T22.und T26 hS ha (ha.evp Y) Y Y Y Y fun b9 a w hS ha=>?_);obtain⟨H9,hS,hle9,hb9⟩:=hS.give;have hr7:=hr7.mono hle9;have hr9: RowT H9 (some ⟨b9,0,none⟩) 3 [tZ,q0,tZ]:=RowT.of_lit ([⟨tZ,none,0⟩,⟨q0,A7,c7⟩,⟨tZ,none,0⟩]: List TV) hb9 (AllR.cons (RowT.nil _) (AllR.cons hr7 (AllR.cons (RowT.nil _) (AllR.nil _)))) (by simp) Y;exact qdone hle9 ha hS ⟨_,_,rfl,hr9⟩
 ·refine Qy Y fun a w H_ hle hS ha hd=>?_;obtain⟨_,ha,A9,c9,rfl,hr9⟩:=hd.g ha 5 rfl;exact Qd func46 ha Y (aQ hS.inv.nil hr9) hS
 ·refine Qy Y fun a w H_ hle hS ha hd=>?_;obtain⟨_,ha,A3,c3,rfl,hr3⟩:=hd.g ha 0 rfl;obtain⟨_,ha,A5,c5,rfl,hr5⟩:=hd.g ha 1 rfl;obtain⟨_,ha,A10,c10,rfl,hr10⟩:=hd.g ha 6 rfl;have hk13:=fD hS.inv.nil hr3 hr5 hr10;rw [show givesB q0 q1 k2=true from by kernel_rfl] at hk13;refine id (Co func45 ha Y (hk13) ?_);rintro e w ⟨H12,rfl,hc12⟩;refine⟨_,rfl,fun a ha=>?_⟩;have hS:=hS.call hc12;exact qdone hc12.le ha hS Y
 ·refine Qy1 7 rfl fun a w H_ hle hS ha hd=>?_;exact aJ ha Y Y fun a ha=>ql ha hS
 ·refine Qy1 8 rfl fun a w H_ hle hS ha hd=>?_;exact am ha Y Y fun a ha=>ql ha hS
 ·refine Qg 9 rfl fun a w H_ hle hS ha hd=>?_;exact Qd func39 ha Y (cd (n:=0) hS.inv.nil) hS
 ·refine Qg 9 rfl fun a w H_ hle hS ha hd=>?_;exact Qd func39 ha Y (cd (n:=1) hS.inv.nil) hS
 ·refine Qg 9 rfl fun a w H_ hle hS ha hd=>?_;obtain⟨_,ha,A14,c14,rfl,hr14⟩:=hd.g ha 10 rfl;obtain⟨_,ha,A16,c16,rfl,hr16⟩:=hd.g ha 11 rfl;refine id (aD (vs:= [(0,(tv q0 A14 c14)),(1,(tv q1 A16 c16))]) (cells:= [(iV q0.kind),(iV q0.n),(.string q0.s),(.slice A14 q0.l.length c14),(iV q1.kind),(iV q1.n),(.string q1.s),(.slice A16 q1.l.length c16)]) T22.und T26 hS ha (ha.evp Y) Y Y Y Y fun b18 a w hS ha=>?_);obtain⟨H18,hS,hle18,hb18⟩:=hS.give;have hr14:=hr14.mono hle18;have hr16:=hr16.mono hle18;have hr18: RowT H18 (some ⟨b18,0,none⟩) 2 [q0,q1]:=RowT.of_lit ([⟨q0,A14,c14⟩,⟨q1,A16,c16⟩]: List TV) hb18 (AllR.cons hr14 (AllR.cons hr16 (AllR.nil _))) (by simp) Y;exact qdone hle18 ha hS ⟨_,_,rfl,hr18⟩
 ·refine Qg 9 rfl fun a w H_ hle hS ha hd=>?_;obtain⟨_,ha,A18,c18,rfl,hr18⟩:=hd.g ha 12 rfl;exact Qd func47 ha Y (d9 (s:=⟨#[102]⟩) hS.inv.nil hr18) hS
 ·refine Qg 9 rfl fun a w H_ hle hS ha hd=>?_;exact Qd func39 ha Y (cd (n:=1) hS.inv.nil) hS
 ·refine Qg 9 rfl fun a w H_ hle hS ha hd=>?_;exact Qd func23 ha Y (c_a (s:=⟨#[97]⟩) hS.inv.nil) hS
 ·refine Qg 9 rfl fun a w H_ hle hS ha hd=>?_;obtain⟨_,ha,A21,c21,rfl,hr21⟩:=hd.g ha 14 rfl;obtain⟨_,ha,A23,c23,rfl,hr23⟩:=hd.g ha 15 rfl;refine id (aD (vs:= [(0,(tv q1 A21 c21)),(1,(tv q4 A23 c23))]) (cells:= [(iV q1.kind),(iV q1.n),(.string q1.s),(.slice A21 q1.l.length c21),(iV q4.kind),(iV q4.n),(.string q4.s),(.slice A23 q4.l.length c23)]) T22.und T26 hS ha (ha.evp Y) Y Y Y Y fun b25 a w hS ha=>?_);obtain⟨H25,hS,hle25,hb25⟩:=hS.give;have hr21:=hr21.mono hle25;have hr23:=hr23.mono hle25;have hr25: RowT H25 (some ⟨b25,0,none⟩) 2 [q1,q4]:=RowT.of_lit ([⟨q1,A21,c21⟩,⟨q4,A23,c23⟩]: List TV) hb25 (AllR.cons hr21 (AllR.cons hr23 (AllR.nil _))) (by simp) Y;exact qdone hle25 ha hS ⟨_,_,rfl,hr25⟩
 ·refine Qg 9 rfl fun a w H_ hle hS ha hd=>?_;obtain⟨_,ha,A25,c25,rfl,hr25⟩:=hd.g ha 16 rfl;exact Qd func47 ha Y (d9 (s:=⟨#[102]⟩) hS.inv.nil hr25) hS
 ·refine Qg 9 rfl fun a w H_ hle hS ha hd=>?_;exact Qd func23 ha Y (c_a (s:=⟨#[97]⟩) hS.inv.nil) hS
 ·refine Qg 9 rfl fun a w H_ hle hS ha hd=>?_;exact Qd func39 ha Y (cd (n:=0) hS.inv.nil) hS
 ·refine Qg 9 rfl fun a w H_ hle hS ha hd=>?_;exact ag (vs:=lZ) T26 Y ha Y (hS.blkL 0 rfl) Y (ae Y) Y fun a ha=>ql ha hS
 ·refine Qg 9 rfl fun a w H_ hle hS ha hd=>?_;obtain⟨_,ha,A28,c28,rfl,hr28⟩:=hd.g ha 18 rfl;obtain⟨_,ha,A30,c30,rfl,hr30⟩:=hd.g ha 19 rfl;obtain⟨_,ha,rfl⟩:=hd.g ha 20 rfl;refine id (aD (vs:= [(0,(tv q4 A28 c28)),(1,(tv q0 A30 c30)),(2,vZ)]) (cells:= [(iV q4.kind),(iV q4.n),(.string q4.s),(.slice A28 q4.l.length c28),(iV q0.kind),(iV q0.n),(.string q0.s),(.slice A30 q0.l.length c30),(iV 0),(iV 0),(.string (⟨#[]⟩)),(.slice none 0 0)]) T22.und T26 hS ha (ha.evp Y) Y Y Y Y fun b32 a w hS ha=>?_);obtain⟨H32,hS,hle32,hb32⟩:=hS.give;have hr28:=hr28.mono hle32;have hr30:=hr30.mono hle32;have hr32: RowT H32 (some ⟨b32,0,none⟩) 3 [q4,q0,tZ]:=RowT.of_lit ([⟨q4,A28,c28⟩,⟨q0,A30,c30⟩,⟨tZ,none,0⟩]: List TV) hb32 (AllR.cons hr28 (AllR.cons hr30 (AllR.cons (RowT.nil _) (AllR.nil _)))) (by simp) Y;exact qdone hle32 ha hS ⟨_,_,rfl,hr32⟩
 ·refine Qg 9 rfl fun a w H_ hle hS ha hd=>?_;obtain⟨_,ha,A32,c32,rfl,hr32⟩:=hd.g ha 21 rfl;exact Qd func46 ha Y (aQ hS.inv.nil hr32) hS
 ·refine Qg 9 rfl fun a w H_ hle hS ha hd=>?_;obtain⟨_,ha,A19,c19,rfl,hr19⟩:=hd.g ha 13 rfl;obtain⟨_,ha,A26,c26,rfl,hr26⟩:=hd.g ha 17 rfl;obtain⟨_,ha,A33,c33,rfl,hr33⟩:=hd.g ha 22 rfl;have hk36:=fD hS.inv.nil hr19 hr26 hr33;rw [show givesB q3 q5 k6=true from by kernel_rfl] at hk36;refine id (Co func45 ha Y (hk36) ?_);rintro e w ⟨H35,rfl,hc35⟩;refine⟨_,rfl,fun a ha=>?_⟩;have hS:=hS.call hc35;exact qdone hc35.le ha hS Y
 ·refine Qg 9 rfl fun a w H_ hle hS ha hd=>?_;obtain⟨_,ha,rfl⟩:=hd.g ha 23 rfl;exact aJ ha Y Y fun a ha=>ql ha hS
 ·refine Qy1 9 rfl fun a w H_ hle hS ha hd=>?_;obtain⟨_,ha,rfl⟩:=hd.g ha 24 rfl;exact ah ha Y Y Y fun a ha=>ql ha hS
 ·refine Qy1 25 rfl fun a w H_ hle hS ha hd=>?_;exact am ha Y Y fun a ha=>ql ha hS
 ·refine Qg 26 rfl fun a w H_ hle hS ha hd=>?_;exact Qd func39 ha Y (cd (n:=2) hS.inv.nil) hS
 ·refine Qg 26 rfl fun a w H_ hle hS ha hd=>?_;exact Qd func39 ha Y (cd (n:=1) hS.inv.nil) hS
 ·refine Qg 26 rfl fun a w H_ hle hS ha hd=>?_;obtain⟨_,ha,A37,c37,rfl,hr37⟩:=hd.g ha 27 rfl;obtain⟨_,ha,A39,c39,rfl,hr39⟩:=hd.g ha 28 rfl;refine id (aD (vs:= [(0,(tv q7 A37 c37)),(1,(tv q1 A39 c39))]) (cells:= [(iV q7.kind),(iV q7.n),(.string q7.s),(.slice A37 q7.l.length c37),(iV q1.kind),(iV q1.n),(.string q1.s),(.slice A39 q1.l.length c39)]) T22.und T26 hS ha (ha.evp Y) Y Y Y Y fun b41 a w hS ha=>?_);obtain⟨H41,hS,hle41,hb41⟩:=hS.give;have hr37:=hr37.mono hle41;have hr39:=hr39.mono hle41;have hr41: RowT H41 (some ⟨b41,0,none⟩) 2 [q7,q1]:=RowT.of_lit ([⟨q7,A37,c37⟩,⟨q1,A39,c39⟩]: List TV) hb41 (AllR.cons hr37 (AllR.cons hr39 (AllR.nil _))) (by simp) Y;exact qdone hle41 ha hS ⟨_,_,rfl,hr41⟩
 ·refine Qg 26 rfl fun a w H_ hle hS ha hd=>?_;obtain⟨_,ha,A41,c41,rfl,hr41⟩:=hd.g ha 29 rfl;exact Qd func47 ha Y (d9 (s:=⟨#[102]⟩) hS.inv.nil hr41) hS
 ·refine Qg 26 rfl fun a w H_ hle hS ha hd=>?_;exact Qd func39 ha Y (cd (n:=1) hS.inv.nil) hS
 ·refine Qg 26 rfl fun a w H_ hle hS ha hd=>?_;exact Qd func39 ha Y (cd (n:=0) hS.inv.nil) hS
 ·refine Qg 26 rfl fun a w H_ hle hS ha hd=>?_;obtain⟨_,ha,A44,c44,rfl,hr44⟩:=hd.g ha 31 rfl;obtain⟨_,ha,A46,c46,rfl,hr46⟩:=hd.g ha 32 rfl;refine id (aD (vs:= [(0,(tv q1 A44 c44)),(1,(tv q0 A46 c46))]) (cells:= [(iV q1.kind),(iV q1.n),(.string q1.s),(.slice A44 q1.l.length c44),(iV q0.kind),(iV q0.n),(.string q0.s),(.slice A46 q0.l.length c46)]) T22.und T26 hS ha (ha.evp Y) Y Y Y Y fun b48 a w hS ha=>?_);obtain⟨H48,hS,hle48,hb48⟩:=hS.give;have hr44:=hr44.mono hle48;have hr46:=hr46.mono hle48;have hr48: RowT H48 (some ⟨b48,0,none⟩) 2 [q1,q0]:=RowT.of_lit ([⟨q1,A44,c44⟩,⟨q0,A46,c46⟩]: List TV) hb48 (AllR.cons hr44 (AllR.cons hr46 (AllR.nil _))) (by simp) Y;exact qdone hle48 ha hS ⟨_,_,rfl,hr48⟩
 ·refine Qg 26 rfl fun a w H_ hle hS ha hd=>?_;obtain⟨_,ha,A48,c48,rfl,hr48⟩:=hd.g ha 33 rfl;exact Qd func47 ha Y (d9 (s:=⟨#[102]⟩) hS.inv.nil hr48) hS
 ·refine Qg 26 rfl fun a w H_ hle hS ha hd=>?_;exact ag (vs:=lZ) T26 Y ha Y (hS.blkL 0 rfl) Y (ae Y) Y fun a ha=>ql ha hS
 ·refine Qg 26 rfl fun a w H_ hle hS ha hd=>?_;exact Qd func39 ha Y (cd (n:=0) hS.inv.nil) hS
 ·refine Qg 26 rfl fun a w H_ hle hS ha hd=>?_;exact Qd func39 ha Y (cd (n:=1) hS.inv.nil) hS
 ·refine Qg 26 rfl fun a w H_ hle hS ha hd=>?_;obtain⟨_,ha,rfl⟩:=hd.g ha 35 rfl;obtain⟨_,ha,A51,c51,rfl,hr51⟩:=hd.g ha 36 rfl;obtain⟨_,ha,A53,c53,rfl,hr53⟩:=hd.g ha 37 rfl;refine id (aD (vs:= [(0,vZ),(1,(tv q0 A51 c51)),(2,(tv q1 A53 c53))]) (cells:= [(iV 0),(iV 0),(.string (⟨#[]⟩)),(.slice none 0 0),(iV q0.kind),(iV q0.n),(.string q0.s),(.slice A51 q0.l.length c51),(iV q1.kind),(iV q1.n),(.string q1.s),(.slice A53 q1.l.length c53)]) T22.und T26 hS ha (ha.evp Y) Y Y Y Y fun b55 a w hS ha=>?_);obtain⟨H55,hS,hle55,hb55⟩:=hS.give;have hr51:=hr51.mono hle55;have hr53:=hr53.mono hle55;have hr55: RowT H55 (some ⟨b55,0,none⟩) 3 [tZ,q0,q1]:=RowT.of_lit ([⟨tZ,none,0⟩,⟨q0,A51,c51⟩,⟨q1,A53,c53⟩]: List TV) hb55 (AllR.cons (RowT.nil _) (AllR.cons hr51 (AllR.cons hr53 (AllR.nil _)))) (by simp) Y;exact qdone hle55 ha hS ⟨_,_,rfl,hr55⟩
 ·refine Qg 26 rfl fun a w H_ hle hS ha hd=>?_;obtain⟨_,ha,A55,c55,rfl,hr55⟩:=hd.g ha 38 rfl;exact Qd func46 ha Y (aQ hS.inv.nil hr55) hS
 ·refine Qg 26 rfl fun a w H_ hle hS ha hd=>?_;obtain⟨_,ha,A42,c42,rfl,hr42⟩:=hd.g ha 30 rfl;obtain⟨_,ha,A49,c49,rfl,hr49⟩:=hd.g ha 34 rfl;obtain⟨_,ha,A56,c56,rfl,hr56⟩:=hd.g ha 39 rfl;have hk59:=fD hS.inv.nil hr42 hr49 hr56;rw [show givesB q8 q9 k10=true from by kernel_rfl] at hk59;refine id (Co func45 ha Y (hk59) ?_);rintro e w ⟨H58,rfl,hc58⟩;refine⟨_,rfl,fun a ha=>?_⟩;have hS:=hS.call hc58;exact qdone hc58.le ha hS Y
 ·refine Qg 26 rfl fun a w H_ hle hS ha hd=>?_;obtain⟨_,ha,rfl⟩:=hd.g ha 40 rfl;exact aJ ha Y Y fun a ha=>ql ha hS
 ·refine Qy1 26 rfl fun a w H_ hle hS ha hd=>?_;obtain⟨_,ha,rfl⟩:=hd.g ha 41 rfl;exact ah ha Y Y Y fun a ha=>ql ha hS
 ·refine Qy1 42 rfl fun a w H_ hle hS ha hd=>?_;exact am ha Y Y fun a ha=>ql ha hS
 ·refine Qg 43 rfl fun a w H_ hle hS ha hd=>?_;exact Qd func39 ha Y (cd (n:=0) hS.inv.nil) hS
 ·refine Qg 43 rfl fun a w H_ hle hS ha hd=>?_;exact Qd func39 ha Y (cd (n:=0) hS.inv.nil) hS
 ·refine Qg 43 rfl fun a w H_ hle hS ha hd=>?_;obtain⟨_,ha,A62,c62,rfl,hr62⟩:=hd.g ha 45 rfl;refine id (aD (vs:= [(0,(tv q0 A62 c62))]) (cells:=(tL q0 A62 c62)) T22.und T26 hS ha (ha.evp Y) Y Y Y Y fun b64 a w hS ha=>?_);obtain⟨H64,hS,hle64,hb64⟩:=hS.give;have hr62:=hr62.mono hle64;have hr64: RowT H64 (some ⟨b64,0,none⟩) 1 [q0]:=RowT.of_lit ([⟨q0,A62,c62⟩]: List TV) hb64 (AllR.cons hr62 (AllR.nil _)) (by simp) Y;exact qdone hle64 ha hS ⟨_,_,rfl,hr64⟩
 ·refine Qg 43 rfl fun a w H_ hle hS ha hd=>?_;obtain⟨_,ha,A64,c64,rfl,hr64⟩:=hd.g ha 46 rfl;exact Qd func47 ha Y (d9 (s:=⟨#[102]⟩) hS.inv.nil hr64) hS
 ·refine Qg 43 rfl fun a w H_ hle hS ha hd=>?_;obtain⟨_,ha,A60,c60,rfl,hr60⟩:=hd.g ha 44 rfl;obtain⟨_,ha,A65,c65,rfl,hr65⟩:=hd.g ha 47 rfl;have hk68:=fo hS.inv.nil hr60 hr65;rw [show failsB q0 q11=true from by kernel_rfl] at hk68;refine id (Co func48 ha Y (hk68) ?_);rintro e w ⟨H67,rfl,hc67⟩;refine⟨_,rfl,fun a ha=>?_⟩;have hS:=hS.call hc67;exact qdone hc67.le ha hS Y
 ·refine Qg 43 rfl fun a w H_ hle hS ha hd=>?_;obtain⟨_,ha,rfl⟩:=hd.g ha 48 rfl;exact aJ ha Y Y fun a ha=>ql ha hS
 ·refine Qy1 43 rfl fun a w H_ hle hS ha hd=>?_;obtain⟨_,ha,rfl⟩:=hd.g ha 49 rfl;exact ah ha Y Y Y fun a ha=>ql ha hS
 ·refine Qy1 50 rfl fun a w H_ hle hS ha hd=>?_;exact am ha Y Y fun a ha=>ql ha hS
 ·refine Qg 51 rfl fun a w H_ hle hS ha hd=>?_;exact Qd func39 ha Y (cd (n:=0) hS.inv.nil) hS
 ·refine Qg 51 rfl fun a w H_ hle hS ha hd=>?_;exact Qd func39 ha Y (cd (n:=1) hS.inv.nil) hS
 ·refine Qg 51 rfl fun a w H_ hle hS ha hd=>?_;obtain⟨_,ha,A69,c69,rfl,hr69⟩:=hd.g ha 52 rfl;obtain⟨_,ha,A71,c71,rfl,hr71⟩:=hd.g ha 53 rfl;refine id (aD (vs:= [(0,(tv q0 A69 c69)),(1,(tv q1 A71 c71))]) (cells:= [(iV q0.kind),(iV q0.n),(.string q0.s),(.slice A69 q0.l.length c69),(iV q1.kind),(iV q1.n),(.string q1.s),(.slice A71 q1.l.length c71)]) T22.und T26 hS ha (ha.evp Y) Y Y Y Y fun b73 a w hS ha=>?_);obtain⟨H73,hS,hle73,hb73⟩:=hS.give;have hr69:=hr69.mono hle73;have hr71:=hr71.mono hle73;have hr73: RowT H73 (some ⟨b73,0,none⟩) 2 [q0,q1]:=RowT.of_lit ([⟨q0,A69,c69⟩,⟨q1,A71,c71⟩]: List TV) hb73 (AllR.cons hr69 (AllR.cons hr71 (AllR.nil _))) (by simp) Y;exact qdone hle73 ha hS ⟨_,_,rfl,hr73⟩
 ·refine Qg 51 rfl fun a w H_ hle hS ha hd=>?_;obtain⟨_,ha,A73,c73,rfl,hr73⟩:=hd.g ha 54 rfl;exact Qd func47 ha Y (d9 (s:=⟨#[102]⟩) hS.inv.nil hr73) hS
 ·refine Qg 51 rfl fun a w H_ hle hS ha hd=>?_;exact Qd func39 ha Y (cd (n:=1) hS.inv.nil) hS
 ·refine Qg 51 rfl fun a w H_ hle hS ha hd=>?_;obtain⟨_,ha,A76,c76,rfl,hr76⟩:=hd.g ha 56 rfl;refine id (aD (vs:= [(0,(tv q1 A76 c76))]) (cells:=(tL q1 A76 c76)) T22.und T26 hS ha (ha.evp Y) Y Y Y Y fun b78 a w hS ha=>?_);obtain⟨H78,hS,hle78,hb78⟩:=hS.give;have hr76:=hr76.mono hle78;have hr78: RowT H78 (some ⟨b78,0,none⟩) 1 [q1]:=RowT.of_lit ([⟨q1,A76,c76⟩]: List TV) hb78 (AllR.cons hr76 (AllR.nil _)) (by simp) Y;exact qdone hle78 ha hS ⟨_,_,rfl,hr78⟩
 ·refine Qg 51 rfl fun a w H_ hle hS ha hd=>?_;obtain⟨_,ha,A78,c78,rfl,hr78⟩:=hd.g ha 57 rfl;exact Qd func47 ha Y (d9 (s:=⟨#[103]⟩) hS.inv.nil hr78) hS
 ·refine Qg 51 rfl fun a w H_ hle hS ha hd=>?_;exact Qd func39 ha Y (cd (n:=0) hS.inv.nil) hS
 ·refine Qg 51 rfl fun a w H_ hle hS ha hd=>?_;obtain⟨_,ha,A81,c81,rfl,hr81⟩:=hd.g ha 59 rfl;refine id (aD (vs:= [(0,(tv q0 A81 c81))]) (cells:=(tL q0 A81 c81)) T22.und T26 hS ha (ha.evp Y) Y Y Y Y fun b83 a w hS ha=>?_);obtain⟨H83,hS,hle83,hb83⟩:=hS.give;have hr81:=hr81.mono hle83;have hr83: RowT H83 (some ⟨b83,0,none⟩) 1 [q0]:=RowT.of_lit ([⟨q0,A81,c81⟩]: List TV) hb83 (AllR.cons hr81 (AllR.nil _)) (by simp) Y;exact qdone hle83 ha hS ⟨_,_,rfl,hr83⟩
 ·refine Qg 51 rfl fun a w H_ hle hS ha hd=>?_;obtain⟨_,ha,A83,c83,rfl,hr83⟩:=hd.g ha 60 rfl;exact Qd func47 ha Y (d9 (s:=⟨#[103]⟩) hS.inv.nil hr83) hS
 ·refine Qg 51 rfl fun a w H_ hle hS ha hd=>?_;obtain⟨_,ha,A79,c79,rfl,hr79⟩:=hd.g ha 58 rfl;obtain⟨_,ha,A84,c84,rfl,hr84⟩:=hd.g ha 61 rfl;refine id (aD (vs:= [(0,(tv q12 A79 c79)),(1,(tv q13 A84 c84))]) (cells:= [(iV q12.kind),(iV q12.n),(.string q12.s),(.slice A79 q12.l.length c79),(iV q13.kind),(iV q13.n),(.string q13.s),(.slice A84 q13.l.length c84)]) T22.und T26 hS ha (ha.evp Y) Y Y Y Y fun b86 a w hS ha=>?_);obtain⟨H86,hS,hle86,hb86⟩:=hS.give;have hr79:=hr79.mono hle86;have hr84:=hr84.mono hle86;have hr86: RowT H86 (some ⟨b86,0,none⟩) 2 [q12,q13]:=RowT.of_lit ([⟨q12,A79,c79⟩,⟨q13,A84,c84⟩]: List TV) hb86 (AllR.cons hr79 (AllR.cons hr84 (AllR.nil _))) (by simp) Y;exact qdone hle86 ha hS ⟨_,_,rfl,hr86⟩
 ·refine Qg 51 rfl fun a w H_ hle hS ha hd=>?_;obtain⟨_,ha,A86,c86,rfl,hr86⟩:=hd.g ha 62 rfl;exact Qd func47 ha Y (d9 (s:=⟨#[102]⟩) hS.inv.nil hr86) hS
 ·refine Qg 51 rfl fun a w H_ hle hS ha hd=>?_;obtain⟨_,ha,A74,c74,rfl,hr74⟩:=hd.g ha 55 rfl;obtain⟨_,ha,A87,c87,rfl,hr87⟩:=hd.g ha 63 rfl;have hk90:=fo hS.inv.nil hr74 hr87;rw [show failsB q3 q14=true from by kernel_rfl] at hk90;refine id (Co func48 ha Y (hk90) ?_);rintro e w ⟨H89,rfl,hc89⟩;refine⟨_,rfl,fun a ha=>?_⟩;have hS:=hS.call hc89;exact qdone hc89.le ha hS Y
 ·refine Qg 51 rfl fun a w H_ hle hS ha hd=>?_;obtain⟨_,ha,rfl⟩:=hd.g ha 64 rfl;exact aJ ha Y Y fun a ha=>ql ha hS
 ·refine Qy1 51 rfl fun a w H_ hle hS ha hd=>?_;obtain⟨_,ha,rfl⟩:=hd.g ha 65 rfl;exact ah ha Y Y Y fun a ha=>ql ha hS
 ·refine Qy1 66 rfl fun a w H_ hle hS ha hd=>?_;exact am ha Y Y fun a ha=>ql ha hS
 ·refine Qg 67 rfl fun a w H_ hle hS ha hd=>?_;exact Qd func39 ha Y (cd (n:=0) hS.inv.nil) hS
 ·refine Qg 67 rfl fun a w H_ hle hS ha hd=>?_;obtain⟨_,ha,A91,c91,rfl,hr91⟩:=hd.g ha 68 rfl;refine id (aD (vs:= [(0,(tv q0 A91 c91))]) (cells:=(tL q0 A91 c91)) T22.und T26 hS ha (ha.evp Y) Y Y Y Y fun b93 a w hS ha=>?_);obtain⟨H93,hS,hle93,hb93⟩:=hS.give;have hr91:=hr91.mono hle93;have hr93: RowT H93 (some ⟨b93,0,none⟩) 1 [q0]:=RowT.of_lit ([⟨q0,A91,c91⟩]: List TV) hb93 (AllR.cons hr91 (AllR.nil _)) (by simp) Y;exact qdone hle93 ha hS ⟨_,_,rfl,hr93⟩
 ·refine Qg 67 rfl fun a w H_ hle hS ha hd=>?_;obtain⟨_,ha,A93,c93,rfl,hr93⟩:=hd.g ha 69 rfl;exact Qd func47 ha Y (d9 (s:=⟨#[102]⟩) hS.inv.nil hr93) hS
 ·refine Qg 67 rfl fun a w H_ hle hS ha hd=>?_;exact Qd func39 ha Y (cd (n:=0) hS.inv.nil) hS
 ·refine Qg 67 rfl fun a w H_ hle hS ha hd=>?_;obtain⟨_,ha,A96,c96,rfl,hr96⟩:=hd.g ha 71 rfl;refine id (aD (vs:= [(0,(tv q0 A96 c96))]) (cells:=(tL q0 A96 c96)) T22.und T26 hS ha (ha.evp Y) Y Y Y Y fun b98 a w hS ha=>?_);obtain⟨H98,hS,hle98,hb98⟩:=hS.give;have hr96:=hr96.mono hle98;have hr98: RowT H98 (some ⟨b98,0,none⟩) 1 [q0]:=RowT.of_lit ([⟨q0,A96,c96⟩]: List TV) hb98 (AllR.cons hr96 (AllR.nil _)) (by simp) Y;exact qdone hle98 ha hS ⟨_,_,rfl,hr98⟩
 ·refine Qg 67 rfl fun a w H_ hle hS ha hd=>?_;obtain⟨_,ha,A98,c98,rfl,hr98⟩:=hd.g ha 72 rfl;exact Qd func47 ha Y (d9 (s:=⟨#[103]⟩) hS.inv.nil hr98) hS
 ·refine Qg 67 rfl fun a w H_ hle hS ha hd=>?_;obtain⟨_,ha,A94,c94,rfl,hr94⟩:=hd.g ha 70 rfl;obtain⟨_,ha,A99,c99,rfl,hr99⟩:=hd.g ha 73 rfl;have hk102:=fo hS.inv.nil hr94 hr99;rw [show failsB q11 q13=true from by kernel_rfl] at hk102;refine id (Co func48 ha Y (hk102) ?_);rintro e w ⟨H101,rfl,hc101⟩;refine⟨_,rfl,fun a ha=>?_⟩;have hS:=hS.call hc101;exact qdone hc101.le ha hS Y
 ·refine Qg 67 rfl fun a w H_ hle hS ha hd=>?_;obtain⟨_,ha,rfl⟩:=hd.g ha 74 rfl;exact aJ ha Y Y fun a ha=>ql ha hS
 ·refine Qy1 67 rfl fun a w H_ hle hS ha hd=>?_;obtain⟨_,ha,rfl⟩:=hd.g ha 75 rfl;exact ah ha Y Y Y fun a ha=>ql ha hS
 obtain⟨_,ha,rfl⟩:=Dd ha hdr_ 76 rfl;refine aa (an ha Y (wp_skip (aa (wp_seq ?_))));have hS_:=hS;refine As.c_draw_head (ini:=(As.il [])) (sup:=(As.sl [])) (als:= [11]) (s0:=⟨H103,fun _=>none⟩) (L:= [(some b1,(.cells aZ 26 (0,0)))]) (N:=386) (E:= [(1,(pB b1))]) 12 [FcV vZ,As.lf (FcT q0),As.lf (FcT q0),As.lf (fun H v=> ∃ A c,v=.slice A 2 c∧RowT H A c [q0,q0]),As.lf (FcT q15),As.lf (FcT q1),As.lf (FcT q1),As.lf (fun H v=> ∃ A c,v=.slice A 2 c∧RowT H A c [q1,q1]),As.lf (FcT q16),As.lf (fun H v=> ∃ A c,v=.slice A 3 c∧RowT H A c [tZ,q15,q16]),As.lf (fun H v=> ∃ A c,v=(.agg #[(.slice A k17.length c)])∧RowT H A c k17),fun s v=> ∃ b,s.ax 11=some [(some b,(.cells #[(.slice none 0 0)] 24 (0,0)))]∧v=.pointer (some ⟨b,0,none⟩)] mixed (by kernel_rfl) (by kernel_rfl) (by kernel_rfl) (by repeat' (first | exact As.Monos.nil | refine As.Monos.cons ?_ ?_ |(intro _ _ _ hl h;exact h) |(rintro _ _ _ hl ⟨A,c,h,hr⟩;exact⟨A,c,h,hr.mono hl.le⟩) |(rintro _ _ _ hl ⟨b,h,hb⟩;exact⟨b,h,hl.le _ _ hb⟩) | exact fun _ _ _ hl ⟨b,h,e⟩=>⟨b,hl.get h,e⟩)) (fun _=>rfl) hS (ha.pk Y) (As.QuietsI.c4 ?_ ?_ ?_ ?_ (As.QuietsI.c4 ?_ ?_ ?_ ?_ (As.QuietsI.c4 ?_ ?_ ?_ ?_ (As.QuietsI.nil)))) (fun f_ a w s_ hls hS ha hdr_=>?_)
 ·refine As.Qx Y fun a w H_ ax_ hle hax_ hS ha hd hls=>?_;have hSf:=hS;have hS:=Step.dropN _ _ hS;exact ag (vs:=lZ) T26 Y ha Y (hS.blkL 0 rfl) Y (ae Y) Y fun a ha=>As.ql ha hSf
 ·refine As.Qx Y fun a w H_ ax_ hle hax_ hS ha hd hls=>?_;have hSf:=hS;have hSr:=Step.dropN _ _ hS;have hk105:=cd (n:=0) hS.inv.nil;refine id (Co func39 ha Y (hk105) ?_);rintro e w ⟨H104,A104,c104,rfl,hr104,hc104⟩;refine⟨_,rfl,fun a ha=>?_⟩;have hS:=hS.call hc104;exact As.qdone (s:=⟨H_,ax_⟩) hc104.le ha hS ⟨A104,c104,rfl,hr104⟩
 ·refine As.Qx Y fun a w H_ ax_ hle hax_ hS ha hd hls=>?_;have hSf:=hS;have hSr:=Step.dropN _ _ hS;have hk107:=cd (n:=0) hS.inv.nil;refine id (Co func39 ha Y (hk107) ?_);rintro e w ⟨H106,A106,c106,rfl,hr106,hc106⟩;refine⟨_,rfl,fun a ha=>?_⟩;have hS:=hS.call hc106;exact As.qdone (s:=⟨H_,ax_⟩) hc106.le ha hS ⟨A106,c106,rfl,hr106⟩
 ·refine As.Qx Y fun a w H_ ax_ hle hax_ hS ha hd hls=>?_;obtain⟨_,ha,A104,c104,rfl,hr104⟩:=hd.g ha 1 rfl;obtain⟨_,ha,A106,c106,rfl,hr106⟩:=hd.g ha 2 rfl;have hSf:=hS;have hSr:=Step.dropN _ _ hS;refine id (aD (vs:= [(0,(tv q0 A104 c104)),(1,(tv q0 A106 c106))]) (cells:= [(iV q0.kind),(iV q0.n),(.string q0.s),(.slice A104 q0.l.length c104),(iV q0.kind),(iV q0.n),(.string q0.s),(.slice A106 q0.l.length c106)]) T22.und T26 hS ha (ha.evp Y) Y Y Y Y fun b108 a w hS ha=>?_);obtain⟨H108,hS,hle108,hb108⟩:=hS.give;have hr104:=hr104.mono hle108;have hr106:=hr106.mono hle108;have hr108: RowT H108 (some ⟨b108,0,none⟩) 2 [q0,q0]:=RowT.of_lit ([⟨q0,A104,c104⟩,⟨q0,A106,c106⟩]: List TV) hb108 (AllR.cons hr104 (AllR.cons hr106 (AllR.nil _))) (by simp) Y;exact As.qdone (s:=⟨H_,ax_⟩) hle108 ha hS ⟨_,_,rfl,hr108⟩
 ·refine As.Qx Y fun a w H_ ax_ hle hax_ hS ha hd hls=>?_;obtain⟨_,ha,A108,c108,rfl,hr108⟩:=hd.g ha 3 rfl;have hSf:=hS;have hSr:=Step.dropN _ _ hS;have hk110:=d9 (s:=⟨#[102]⟩) hS.inv.nil hr108;refine id (Co func47 ha Y (hk110) ?_);rintro e w ⟨H109,A109,c109,rfl,hr109,hc109⟩;refine⟨_,rfl,fun a ha=>?_⟩;have hS:=hS.call hc109;exact As.qdone (s:=⟨H_,ax_⟩) hc109.le ha hS ⟨A109,c109,rfl,hr109⟩
 ·refine As.Qx Y fun a w H_ ax_ hle hax_ hS ha hd hls=>?_;have hSf:=hS;have hSr:=Step.dropN _ _ hS;have hk112:=cd (n:=1) hS.inv.nil;refine id (Co func39 ha Y (hk112) ?_);rintro e w ⟨H111,A111,c111,rfl,hr111,hc111⟩;refine⟨_,rfl,fun a ha=>?_⟩;have hS:=hS.call hc111;exact As.qdone (s:=⟨H_,ax_⟩) hc111.le ha hS ⟨A111,c111,rfl,hr111⟩
 ·refine As.Qx Y fun a w H_ ax_ hle hax_ hS ha hd hls=>?_;have hSf:=hS;have hSr:=Step.dropN _ _ hS;have hk114:=cd (n:=1) hS.inv.nil;refine id (Co func39 ha Y (hk114) ?_);rintro e w ⟨H113,A113,c113,rfl,hr113,hc113⟩;refine⟨_,rfl,fun a ha=>?_⟩;have hS:=hS.call hc113;exact As.qdone (s:=⟨H_,ax_⟩) hc113.le ha hS ⟨A113,c113,rfl,hr113⟩
 ·refine As.Qx Y fun a w H_ ax_ hle hax_ hS ha hd hls=>?_;obtain⟨_,ha,A111,c111,rfl,hr111⟩:=hd.g ha 5 rfl;obtain⟨_,ha,A113,c113,rfl,hr113⟩:=hd.g ha 6 rfl;have hSf:=hS;have hSr:=Step.dropN _ _ hS;refine id (aD (vs:= [(0,(tv q1 A111 c111)),(1,(tv q1 A113 c113))]) (cells:= [(iV q1.kind),(iV q1.n),(.string q1.s),(.slice A111 q1.l.length c111),(iV q1.kind),(iV q1.n),(.string q1.s),(.slice A113 q1.l.length c113)]) T22.und T26 hS ha (ha.evp Y) Y Y Y Y fun b115 a w hS ha=>?_);obtain⟨H115,hS,hle115,hb115⟩:=hS.give;have hr111:=hr111.mono hle115;have hr113:=hr113.mono hle115;have hr115: RowT H115 (some ⟨b115,0,none⟩) 2 [q1,q1]:=RowT.of_lit ([⟨q1,A111,c111⟩,⟨q1,A113,c113⟩]: List TV) hb115 (AllR.cons hr111 (AllR.cons hr113 (AllR.nil _))) (by simp) Y;exact As.qdone (s:=⟨H_,ax_⟩) hle115 ha hS ⟨_,_,rfl,hr115⟩
 ·refine As.Qx Y fun a w H_ ax_ hle hax_ hS ha hd hls=>?_;obtain⟨_,ha,A115,c115,rfl,hr115⟩:=hd.g ha 7 rfl;have hSf:=hS;have hSr:=Step.dropN _ _ hS;have hk117:=d9 (s:=⟨#[102]⟩) hS.inv.nil hr115;refine id (Co func47 ha Y (hk117) ?_);rintro e w ⟨H116,A116,c116,rfl,hr116,hc116⟩;refine⟨_,rfl,fun a ha=>?_⟩;have hS:=hS.call hc116;exact As.qdone (s:=⟨H_,ax_⟩) hc116.le ha hS ⟨A116,c116,rfl,hr116⟩
 ·refine As.Qx1 0 rfl fun a w H_ ax_ hle hax_ hS ha hd hls=>?_;obtain⟨_,ha,A109,c109,rfl,hr109⟩:=hd.g ha 4 rfl;obtain⟨_,ha,A116,c116,rfl,hr116⟩:=hd.g ha 8 rfl;have hSf:=hS;have hSr:=Step.dropN _ _ hS;refine id (aD (vs:= [(0,vZ),(1,(tv q15 A109 c109)),(2,(tv q16 A116 c116))]) (cells:= [(iV 0),(iV 0),(.string (⟨#[]⟩)),(.slice none 0 0),(iV q15.kind),(iV q15.n),(.string q15.s),(.slice A109 q15.l.length c109),(iV q16.kind),(iV q16.n),(.string q16.s),(.slice A116 q16.l.length c116)]) T22.und T26 hS ha (ha.evp Y) Y Y Y Y fun b118 a w hS ha=>?_);obtain⟨H118,hS,hle118,hb118⟩:=hS.give;have hr109:=hr109.mono hle118;have hr116:=hr116.mono hle118;have hr118: RowT H118 (some ⟨b118,0,none⟩) 3 [tZ,q15,q16]:=RowT.of_lit ([⟨tZ,none,0⟩,⟨q15,A109,c109⟩,⟨q16,A116,c116⟩]: List TV) hb118 (AllR.cons (RowT.nil _) (AllR.cons hr109 (AllR.cons hr116 (AllR.nil _)))) (by simp) Y;exact As.qdone (s:=⟨H_,ax_⟩) hle118 ha hS ⟨_,_,rfl,hr118⟩
 ·refine As.Qx Y fun a w H_ ax_ hle hax_ hS ha hd hls=>?_;obtain⟨_,ha,A118,c118,rfl,hr118⟩:=hd.g ha 9 rfl;have hSf:=hS;have hSr:=Step.dropN _ _ hS;have hk120:=aQ hS.inv.nil hr118;refine id (Co func46 ha Y (hk120) ?_);rintro e w ⟨H119,A119,c119,rfl,hr119,hc119⟩;refine⟨_,rfl,fun a ha=>?_⟩;have hS:=hS.call hc119;exact As.qdone (s:=⟨H_,ax_⟩) hc119.le ha hS ⟨A119,c119,rfl,hr119⟩
 ·refine As.Qx Y fun a w H_ ax_ hle hax_ hS ha hd hls=>?_;have hS: Step w0 H [] w H_ ((As.aents (As.il []) (As.sl []) [] ax_++As.aents (As.il []) (As.sl []) [] ax_++ [(some b1,(.cells aZ 26 (0,0)))])):=As.opn (s:=⟨H_,ax_⟩) [] [11] [] [] rfl (As.con0 hax_ Y) hS;refine aC (cs:= #[(.slice none 0 0)]) T24 hS ha Y Y fun ab121 a w hS ha=>?_;exact As.qown (i:=11) (dst:=some 2) (s:=⟨H_,ax_⟩) (E:= [(some ab121,(.cells #[(.slice none 0 0)] 24 (0,0)))]) [] [11] [] rfl Y hax_ (Le.refl _) ha.dfr (As.has_at ha) hS As.con1 ⟨ab121,rfl,rfl⟩
 obtain⟨H123,ax_⟩:=s_;have hle123: Le H103 H123:=hls.le;dsimp only at hdr_ hS;obtain⟨_,ha,A119,c119,rfl,hr119⟩:=As.Dd ha hdr_ 10 rfl;obtain⟨_,ha,ab121,hx_ab121,rfl⟩:=As.Dd ha hdr_ 11 rfl;have hx_ab121: ax_ 11=some [(some ab121,(.cells #[(.slice none 0 0)] 24 (0,0)))]:=hx_ab121;have hS: Step w0 H [] w H123 [(some ab121,(.cells #[(.slice none 0 0)] 24 (0,0))),(some b1,(.cells aZ 26 (0,0)))]:=by
  have h_:=hS;unfold As.aents at h_;simp only [List.flatMap_cons,List.flatMap_nil,As.conE,show (As.sl []) 11=none from rfl,hx_ab121,Option.isSome_some,Option.getD_some,cond_true,cond_false,List.cons_append,List.nil_append,List.append_nil] at h_;exact h_
 refine any1 (i:=12) (by kernel_rfl) Y Y (aw (cs':= #[(.slice A119 k17.length c119)]) T24 hS (i:=0) Y ha Y Y Y Y Y Y fun a w hS ha=>?_);refine any0 (by kernel_rfl) ?_;refine aa (wp_seq ?_);have hS_:=hS;refine As.c_draw_head (ini:=(As.il [])) (sup:=(As.sl [(6,7)])) (als:= [6,7]) (s0:=⟨H123,fun _=>none⟩) (L:= [(some ab121,(.cells #[(.slice A119 k17.length c119)] 24 (0,0))),(some b1,(.cells aZ 26 (0,0)))]) (N:=386) (E:= [(1,(pB b1)),(2,(pB ab121))]) 8 [FcV (.agg #[(.slice A119 k17.length c119)]),As.lf (FcT q7),As.lf (fun H v=> ∃ A c,v=(.tuple #[(tv q18 A c),(iV 0)])∧RowT H A c q18.l),As.lf (fun H v=> ∃ A c,v=(.tuple #[(tv q18 A c),(iV 0)])∧RowT H A c q18.l),As.lf (FcT q18),FcV (iV 0),fun s v=> ∃ b,s.ax 6=some [(some b,(.cells aZ 26 (0,0)))]∧v=.pointer (some ⟨b,0,none⟩),fun s _=> ∃(b: Nat) (A: Option Addr) (c: Nat),s.ax 6=some [(some b,(.cells aZ 26 (0,0)))]∧s.ax 7=some [(some b,(.cells (tA q18 A c) 26 (0,0)))]∧RowT s.H A c q18.l] mixed (by kernel_rfl) (by kernel_rfl) (by kernel_rfl) (by repeat' (first | exact As.Monos.nil | refine As.Monos.cons ?_ ?_ |(intro _ _ _ hl h;exact h) |(rintro _ _ _ hl ⟨A,c,h,hr⟩;exact⟨A,c,h,hr.mono hl.le⟩) |(rintro _ _ _ hl ⟨b,h,hb⟩;exact⟨b,h,hl.le _ _ hb⟩) | exact fun _ _ _ hl ⟨b,A,c,h1,h2,hr⟩=>⟨b,A,c,hl.get h1,hl.get h2,hr.mono hl.le⟩ | exact fun _ _ _ hl ⟨b,h,e⟩=>⟨b,hl.get h,e⟩)) (fun _=>rfl) hS (ha.pk Y) (As.QuietsI.c4 ?_ ?_ ?_ ?_ (As.QuietsI.c4 ?_ ?_ ?_ ?_ (As.QuietsI.nil))) (fun f_ a w s_ hls hS ha hdr_=>?_)
 ·refine As.Qx Y fun a w H_ ax_ hle hax_ hS ha hd hls=>?_;have hSf:=hS;have hS:=Step.dropN _ _ hS;exact ag (vs:= [(.slice A119 k17.length c119)]) T24 Y ha Y (hS.blkL 0 rfl) Y (ae Y) Y fun a ha=>As.ql ha hSf
 ·refine As.Qx Y fun a w H_ ax_ hle hax_ hS ha hd hls=>?_;have hSf:=hS;have hSr:=Step.dropN _ _ hS;have hk125:=cd (n:=2) hS.inv.nil;refine id (Co func39 ha Y (hk125) ?_);rintro e w ⟨H124,A124,c124,rfl,hr124,hc124⟩;refine⟨_,rfl,fun a ha=>?_⟩;have hS:=hS.call hc124;exact As.qdone (s:=⟨H_,ax_⟩) hc124.le ha hS ⟨A124,c124,rfl,hr124⟩
 ·refine As.Qx1 0 rfl fun a w H_ ax_ hle hax_ hS ha hd hls=>?_;obtain⟨_,ha,A124,c124,rfl,hr124⟩:=hd.g ha 1 rfl;have hr119:=hr119.mono hle;have hSf:=hS;have hSr:=Step.dropN _ _ hS;have hk127:=c_Value hS.inv.nil hr119 hr124;rw [show (valU k17 q7).2=0 from by kernel_rfl] at hk127;refine id (Co func38 ha Y (hk127) ?_);rintro e w ⟨H126,A126,c126,rfl,hr126,hc126⟩;refine⟨_,rfl,fun a ha=>?_⟩;have hS:=hS.call hc126;exact As.qdone (s:=⟨H_,ax_⟩) hc126.le ha hS ⟨A126,c126,rfl,hr126⟩
 ·refine As.Qx Y fun a w H_ ax_ hle hax_ hS ha hd hls=>?_;obtain⟨_,ha,A126,c126,rfl,hr126⟩:=hd.g ha 2 rfl;have hSf:=hS;refine id (am ha Y Y fun a ha=>?_);exact As.qdone (s:=⟨H_,ax_⟩) (Le.refl _) ha hSf ⟨A126,c126,rfl,hr126⟩
 ·refine As.Qx Y fun a w H_ ax_ hle hax_ hS ha hd hls=>?_;obtain⟨_,ha,A126,c126,rfl,hr126⟩:=hd.g ha 3 rfl;have hSf:=hS;refine id (ao (v:=(tv q18 A126 c126)) ha Y Y Y fun a ha=>?_);exact As.qdone (s:=⟨H_,ax_⟩) (Le.refl _) ha hSf ⟨A126,c126,rfl,hr126⟩
 ·refine As.Qx Y fun a w H_ ax_ hle hax_ hS ha hd hls=>?_;obtain⟨_,ha,A126,c126,rfl,hr126⟩:=hd.g ha 3 rfl;have hSf:=hS;exact ao (v:=(iV 0)) ha Y Y Y fun a ha=>As.ql ha hSf
 ·refine As.Qx Y fun a w H_ ax_ hle hax_ hS ha hd hls=>?_;have hS: Step w0 H [] w H_ ((As.aents (As.il []) (As.sl [(6,7)]) [] ax_++As.aents (As.il []) (As.sl [(6,7)]) [7] ax_++ [(some ab121,(.cells #[(.slice A119 k17.length c119)] 24 (0,0))),(some b1,(.cells aZ 26 (0,0)))])):=As.opn (s:=⟨H_,ax_⟩) [] [6] [7] [] rfl (As.con0 hax_ Y) hS;refine aC (cs:=aZ) T26 hS ha Y Y fun ab128 a w hS ha=>?_;exact As.qown (i:=6) (dst:=some 3) (s:=⟨H_,ax_⟩) (E:= [(some ab128,(.cells aZ 26 (0,0)))]) [] [6] [7] rfl Y hax_ (Le.refl _) ha.dfr (As.has_at ha) hS As.con1 ⟨ab128,rfl,rfl⟩
 ·refine As.Qx Y fun a w H_ ax_ hle hax_ hS ha hd hls=>?_;obtain⟨_,ha,ab128,hx_ab128,rfl⟩:=hd.g ha 6 rfl;have hx_ab128: ax_ 6=some [(some ab128,(.cells aZ 26 (0,0)))]:=hx_ab128;obtain⟨_,ha,A126,c126,rfl,hr126⟩:=hd.g ha 4 rfl;have hS: Step w0 H [] w H_ ((some ab128,(.cells aZ 26 (0,0)))::(As.aents (As.il []) (As.sl [(6,7)]) [] ax_++As.aents (As.il []) (As.sl [(6,7)]) [] ax_++ [(some ab121,(.cells #[(.slice A119 k17.length c119)] 24 (0,0))),(some b1,(.cells aZ 26 (0,0)))])):=As.opn (s:=⟨H_,ax_⟩) [] [6,7] [] [(some ab128,(.cells aZ 26 (0,0)))] rfl (As.con2 Y Y Y hx_ab128 hax_) hS;refine id (aw (cs':=(tA q18 A126 c126)) T26 hS (i:=0) Y ha Y Y Y Y Y Y fun a w hS ha=>?_);exact As.qown (i:=7) (dst:=none) (s:=⟨H_,ax_⟩) (E:= [(some ab128,(.cells (tA q18 A126 c126) 26 (0,0)))]) [] [6,7] [] rfl Y hax_ (Le.refl _) ha.dfr (v:=undef) (fun _ h=>by cases h) hS (.inl (As.con2' Y Y)) ⟨ab128,A126,c126,hx_ab128,rfl,hr126⟩
 obtain⟨H132,ax_⟩:=s_;have hle132: Le H123 H132:=hls.le;dsimp only at hdr_ hS;have hr119:=hr119.mono hle132;obtain⟨_,ha,rfl⟩:=As.Dd ha hdr_ 5 rfl;obtain⟨_,ha,ab128,hx_ab128,rfl⟩:=As.Dd ha hdr_ 6 rfl;have hx_ab128: ax_ 6=some [(some ab128,(.cells aZ 26 (0,0)))]:=hx_ab128;obtain⟨_,hv_,sb130,A126,c126,hq_sb130,hx_sb130,hr126⟩:=hdr_ 7 _ _ Y Y;have hx_sb130: ax_ 7=some [(some sb130,(.cells (tA q18 A126 c126) 26 (0,0)))]:=hx_sb130;obtain rfl: ab128=sb130:=by have h_:=(hx_ab128).symm.trans hq_sb130;simpa using h_
 have hS: Step w0 H [] w H132 [(some ab128,(.cells (tA q18 A126 c126) 26 (0,0))),(some ab121,(.cells #[(.slice A119 k17.length c119)] 24 (0,0))),(some b1,(.cells aZ 26 (0,0)))]:=by
  have h_:=hS;unfold As.aents at h_;simp only [List.flatMap_cons,List.flatMap_nil,As.conE,show (As.sl [(6,7)]) 6=some 7 from rfl,show (As.sl [(6,7)]) 7=none from rfl,hx_ab128,hx_sb130,Option.isSome_some,Option.getD_some,cond_true,cond_false,List.cons_append,List.nil_append,List.append_nil] at h_;exact h_
 refine any1 (i:=8) (by kernel_rfl) Y Y (aB ha Y Y fun a ha=>?_);refine any0 (by kernel_rfl) ?_;refine aa (wp_seq ?_);have hS_:=hS;refine As.c_draw_head (ini:=(As.il [])) (sup:=(As.sl [(6,7)])) (als:= [6,7]) (s0:=⟨H132,fun _=>none⟩) (L:= [(some ab128,(.cells (tA q18 A126 c126) 26 (0,0))),(some ab121,(.cells #[(.slice A119 k17.length c119)] 24 (0,0))),(some b1,(.cells aZ 26 (0,0)))]) (N:=386) (E:= [(1,(pB b1)),(2,(pB ab121)),(3,(pB ab128)),(4,(iV 0))]) 8 [FcV (.agg #[(.slice A119 k17.length c119)]),As.lf (FcT q7),As.lf (fun H v=> ∃ A c,v=(.tuple #[(tv q19 A c),(iV 0)])∧RowT H A c q19.l),As.lf (fun H v=> ∃ A c,v=(.tuple #[(tv q19 A c),(iV 0)])∧RowT H A c q19.l),As.lf (FcT q19),FcV (iV 0),fun s v=> ∃ b,s.ax 6=some [(some b,(.cells aZ 26 (0,0)))]∧v=.pointer (some ⟨b,0,none⟩),fun s _=> ∃(b: Nat) (A: Option Addr) (c: Nat),s.ax 6=some [(some b,(.cells aZ 26 (0,0)))]∧s.ax 7=some [(some b,(.cells (tA q19 A c) 26 (0,0)))]∧RowT s.H A c q19.l] mixed (by kernel_rfl) (by kernel_rfl) (by kernel_rfl) (by repeat' (first | exact As.Monos.nil | refine As.Monos.cons ?_ ?_ |(intro _ _ _ hl h;exact h) |(rintro _ _ _ hl ⟨A,c,h,hr⟩;exact⟨A,c,h,hr.mono hl.le⟩) |(rintro _ _ _ hl ⟨b,h,hb⟩;exact⟨b,h,hl.le _ _ hb⟩) | exact fun _ _ _ hl ⟨b,A,c,h1,h2,hr⟩=>⟨b,A,c,hl.get h1,hl.get h2,hr.mono hl.le⟩ | exact fun _ _ _ hl ⟨b,h,e⟩=>⟨b,hl.get h,e⟩)) (fun _=>rfl) hS (ha.pk Y) (As.QuietsI.c4 ?_ ?_ ?_ ?_ (As.QuietsI.c4 ?_ ?_ ?_ ?_ (As.QuietsI.nil))) (fun f_ a w s_ hls hS ha hdr_=>?_)
 ·refine As.Qx Y fun a w H_ ax_ hle hax_ hS ha hd hls=>?_;have hSf:=hS;have hS:=Step.dropN _ _ hS;exact ag (vs:= [(.slice A119 k17.length c119)]) T24 Y ha Y (hS.blkL 1 rfl) Y (ae Y) Y fun a ha=>As.ql ha hSf
 ·refine As.Qx Y fun a w H_ ax_ hle hax_ hS ha hd hls=>?_;have hSf:=hS;have hSr:=Step.dropN _ _ hS;have hk134:=cd (n:=2) hS.inv.nil;refine id (Co func39 ha Y (hk134) ?_);rintro e w ⟨H133,A133,c133,rfl,hr133,hc133⟩;refine⟨_,rfl,fun a ha=>?_⟩;have hS:=hS.call hc133;exact As.qdone (s:=⟨H_,ax_⟩) hc133.le ha hS ⟨A133,c133,rfl,hr133⟩
 ·refine As.Qx1 0 rfl fun a w H_ ax_ hle hax_ hS ha hd hls=>?_;obtain⟨_,ha,A133,c133,rfl,hr133⟩:=hd.g ha 1 rfl;have hr119:=hr119.mono hle;have hSf:=hS;have hSr:=Step.dropN _ _ hS;have hk136:=dh hS.inv.nil hr119 hr133;rw [show (wholeU k17 q7).2=0 from by kernel_rfl] at hk136;refine id (Co func41 ha Y (hk136) ?_);rintro e w ⟨H135,A135,c135,rfl,hr135,hc135⟩;refine⟨_,rfl,fun a ha=>?_⟩;have hS:=hS.call hc135;exact As.qdone (s:=⟨H_,ax_⟩) hc135.le ha hS ⟨A135,c135,rfl,hr135⟩
 ·refine As.Qx Y fun a w H_ ax_ hle hax_ hS ha hd hls=>?_;obtain⟨_,ha,A135,c135,rfl,hr135⟩:=hd.g ha 2 rfl;have hSf:=hS;refine id (am ha Y Y fun a ha=>?_);exact As.qdone (s:=⟨H_,ax_⟩) (Le.refl _) ha hSf ⟨A135,c135,rfl,hr135⟩
 ·refine As.Qx Y fun a w H_ ax_ hle hax_ hS ha hd hls=>?_;obtain⟨_,ha,A135,c135,rfl,hr135⟩:=hd.g ha 3 rfl;have hSf:=hS;refine id (ao (v:=(tv q19 A135 c135)) ha Y Y Y fun a ha=>?_);exact As.qdone (s:=⟨H_,ax_⟩) (Le.refl _) ha hSf ⟨A135,c135,rfl,hr135⟩
 ·refine As.Qx Y fun a w H_ ax_ hle hax_ hS ha hd hls=>?_;obtain⟨_,ha,A135,c135,rfl,hr135⟩:=hd.g ha 3 rfl;have hSf:=hS;exact ao (v:=(iV 0)) ha Y Y Y fun a ha=>As.ql ha hSf
 ·refine As.Qx Y fun a w H_ ax_ hle hax_ hS ha hd hls=>?_;have hS: Step w0 H [] w H_ ((As.aents (As.il []) (As.sl [(6,7)]) [] ax_++As.aents (As.il []) (As.sl [(6,7)]) [7] ax_++ [(some ab128,(.cells (tA q18 A126 c126) 26 (0,0))),(some ab121,(.cells #[(.slice A119 k17.length c119)] 24 (0,0))),(some b1,(.cells aZ 26 (0,0)))])):=As.opn (s:=⟨H_,ax_⟩) [] [6] [7] [] rfl (As.con0 hax_ Y) hS;refine aC (cs:=aZ) T26 hS ha Y Y fun ab137 a w hS ha=>?_;exact As.qown (i:=6) (dst:=some 5) (s:=⟨H_,ax_⟩) (E:= [(some ab137,(.cells aZ 26 (0,0)))]) [] [6] [7] rfl Y hax_ (Le.refl _) ha.dfr (As.has_at ha) hS As.con1 ⟨ab137,rfl,rfl⟩
 ·refine As.Qx Y fun a w H_ ax_ hle hax_ hS ha hd hls=>?_;obtain⟨_,ha,ab137,hx_ab137,rfl⟩:=hd.g ha 6 rfl;have hx_ab137: ax_ 6=some [(some ab137,(.cells aZ 26 (0,0)))]:=hx_ab137;obtain⟨_,ha,A135,c135,rfl,hr135⟩:=hd.g ha 4 rfl;have hS: Step w0 H [] w H_ ((some ab137,(.cells aZ 26 (0,0)))::(As.aents (As.il []) (As.sl [(6,7)]) [] ax_++As.aents (As.il []) (As.sl [(6,7)]) [] ax_++ [(some ab128,(.cells (tA q18 A126 c126) 26 (0,0))),(some ab121,(.cells #[(.slice A119 k17.length c119)] 24 (0,0))),(some b1,(.cells aZ 26 (0,0)))])):=As.opn (s:=⟨H_,ax_⟩) [] [6,7] [] [(some ab137,(.cells aZ 26 (0,0)))] rfl (As.con2 Y Y Y hx_ab137 hax_) hS;refine id (aw (cs':=(tA q19 A135 c135)) T26 hS (i:=0) Y ha Y Y Y Y Y Y fun a w hS ha=>?_);exact As.qown (i:=7) (dst:=none) (s:=⟨H_,ax_⟩) (E:= [(some ab137,(.cells (tA q19 A135 c135) 26 (0,0)))]) [] [6,7] [] rfl Y hax_ (Le.refl _) ha.dfr (v:=undef) (fun _ h=>by cases h) hS (.inl (As.con2' Y Y)) ⟨ab137,A135,c135,hx_ab137,rfl,hr135⟩
 obtain⟨H141,ax_⟩:=s_;have hle141: Le H132 H141:=hls.le;dsimp only at hdr_ hS;have hr119:=hr119.mono hle141;have hr126:=hr126.mono hle141;obtain⟨_,ha,rfl⟩:=As.Dd ha hdr_ 5 rfl;obtain⟨_,ha,ab137,hx_ab137,rfl⟩:=As.Dd ha hdr_ 6 rfl;have hx_ab137: ax_ 6=some [(some ab137,(.cells aZ 26 (0,0)))]:=hx_ab137;obtain⟨_,hv_,sb139,A135,c135,hq_sb139,hx_sb139,hr135⟩:=hdr_ 7 _ _ Y Y;have hx_sb139: ax_ 7=some [(some sb139,(.cells (tA q19 A135 c135) 26 (0,0)))]:=hx_sb139;obtain rfl: ab137=sb139:=by have h_:=(hx_ab137).symm.trans hq_sb139;simpa using h_
 have hS: Step w0 H [] w H141 [(some ab137,(.cells (tA q19 A135 c135) 26 (0,0))),(some ab128,(.cells (tA q18 A126 c126) 26 (0,0))),(some ab121,(.cells #[(.slice A119 k17.length c119)] 24 (0,0))),(some b1,(.cells aZ 26 (0,0)))]:=by
  have h_:=hS;unfold As.aents at h_;simp only [List.flatMap_cons,List.flatMap_nil,As.conE,show (As.sl [(6,7)]) 6=some 7 from rfl,show (As.sl [(6,7)]) 7=none from rfl,hx_ab137,hx_sb139,Option.isSome_some,Option.getD_some,cond_true,cond_false,List.cons_append,List.nil_append,List.append_nil] at h_;exact h_
 refine any1 (i:=8) (by kernel_rfl) Y Y (aB ha Y Y fun a ha=>?_);refine any0 (by kernel_rfl) ?_;refine aa (wp_seq ?_);have hS_:=hS;refine As.c_draw_head (ini:=(As.il [])) (sup:=(As.sl [])) (als:= [2]) (s0:=⟨H141,fun _=>none⟩) (L:= [(some ab137,(.cells (tA q19 A135 c135) 26 (0,0))),(some ab128,(.cells (tA q18 A126 c126) 26 (0,0))),(some ab121,(.cells #[(.slice A119 k17.length c119)] 24 (0,0))),(some b1,(.cells aZ 26 (0,0)))]) (N:=386) (E:= [(1,(pB b1)),(2,(pB ab121)),(3,(pB ab128)),(4,(iV 0)),(5,(pB ab137)),(6,(iV 0))]) 7 [FcV (.agg #[(.slice A119 k17.length c119)]),As.lf (FcT q7),fun s v=> ∃(A: Option Addr) (c: Nat) (en: Ent),s.ax 2=some [en]∧v=(.tuple #[(.slice A (([0]: List Int).length) c),(iV 0)])∧Row (.slice A (([0]: List Int).length) c) en 3 1 (([0]: List Int).length) (ints ([0]: List Int)),fun s v=> ∃(A: Option Addr) (c: Nat) (en: Ent),s.ax 2=some [en]∧v=(.tuple #[(.slice A (([0]: List Int).length) c),(iV 0)])∧Row (.slice A (([0]: List Int).length) c) en 3 1 (([0]: List Int).length) (ints ([0]: List Int)),fun s v=> ∃(A: Option Addr) (c: Nat) (en: Ent),s.ax 2=some [en]∧v=(.slice A (([0]: List Int).length) c)∧Row (.slice A (([0]: List Int).length) c) en 3 1 (([0]: List Int).length) (ints ([0]: List Int)),FcV (iV 0),fun s v=> ∃(A: Option Addr) (c: Nat) (en: Ent),s.ax 2=some [en]∧v=(.slice A (([0]: List Int).length) c)∧Row (.slice A (([0]: List Int).length) c) en 3 1 (([0]: List Int).length) (ints ([0]: List Int))] mixed (by kernel_rfl) (by kernel_rfl) (by kernel_rfl) (by repeat' (first | exact As.Monos.nil | refine As.Monos.cons ?_ ?_ |(intro _ _ _ hl h;exact h) |(rintro _ _ _ hl ⟨A,c,h,hr⟩;exact⟨A,c,h,hr.mono hl.le⟩) |(rintro _ _ _ hl ⟨b,h,hb⟩;exact⟨b,h,hl.le _ _ hb⟩) | exact fun _ _ _ hl ⟨A,c,en,h,e,hR⟩=>⟨A,c,en,hl.get h,e,hR⟩)) (fun _=>rfl) hS (ha.pk Y) (As.QuietsI.c4 ?_ ?_ ?_ ?_ (As.QuietsI.c2 ?_ ?_ (As.QuietsI.cons ?_ (As.QuietsI.nil)))) (fun f_ a w s_ hls hS ha hdr_=>?_)
 ·refine As.Qx Y fun a w H_ ax_ hle hax_ hS ha hd hls=>?_;have hSf:=hS;have hS:=Step.dropN _ _ hS;exact ag (vs:= [(.slice A119 k17.length c119)]) T24 Y ha Y (hS.blkL 2 rfl) Y (ae Y) Y fun a ha=>As.ql ha hSf
 ·refine As.Qx Y fun a w H_ ax_ hle hax_ hS ha hd hls=>?_;have hSf:=hS;have hSr:=Step.dropN _ _ hS;have hk143:=cd (n:=2) hS.inv.nil;refine id (Co func39 ha Y (hk143) ?_);rintro e w ⟨H142,A142,c142,rfl,hr142,hc142⟩;refine⟨_,rfl,fun a ha=>?_⟩;have hS:=hS.call hc142;exact As.qdone (s:=⟨H_,ax_⟩) hc142.le ha hS ⟨A142,c142,rfl,hr142⟩
 ·refine As.Qx1 0 rfl fun a w H_ ax_ hle hax_ hS ha hd hls=>?_;obtain⟨_,ha,A142,c142,rfl,hr142⟩:=hd.g ha 1 rfl;have hr119:=hr119.mono hle;have hS: Step w0 H [] w H_ ((As.aents (As.il []) (As.sl []) [] ax_++As.aents (As.il []) (As.sl []) [] ax_++ [(some ab137,(.cells (tA q19 A135 c135) 26 (0,0))),(some ab128,(.cells (tA q18 A126 c126) 26 (0,0))),(some ab121,(.cells #[(.slice A119 k17.length c119)] 24 (0,0))),(some b1,(.cells aZ 26 (0,0)))])):=As.opn (s:=⟨H_,ax_⟩) [] [2] [] [] rfl (As.con0 hax_ Y) hS;have hk145:=c_Free hS.inv.nil hr119 hr142;rw [show (freeU k17 q7).1= [0] from by kernel_rfl] at hk145;rw [show (freeU k17 q7).2=0 from by kernel_rfl] at hk145;refine id (Co func37 ha Y (hk145) ?_);rintro e w ⟨H144,A144,c144,en144,rfl,hR144,hc144⟩;refine⟨_,rfl,fun a ha=>?_⟩;have hS:=Step.frame (Lc:= []) hS hc144;exact As.qown (i:=2) (dst:=some 126) (s:=⟨H_,ax_⟩) (E:= [en144]) [] [2] [] rfl Y hax_ hc144.le ha.dfr (As.has_at ha) hS As.con1 ⟨_,_,_,rfl,rfl,hR144⟩
 ·refine As.Qx Y fun a w H_ ax_ hle hax_ hS ha hd hls=>?_;obtain⟨_,ha,A144,c144,en144,hx_144,rfl,hR144⟩:=hd.g ha 2 rfl;have hx_144: ax_ 2=some [en144]:=hx_144;have hSf:=hS;refine id (am ha Y Y fun a ha=>?_);exact As.qdone (s:=⟨H_,ax_⟩) (Le.refl _) ha hSf ⟨A144,c144,en144,hx_144,rfl,hR144⟩
 ·refine As.Qx Y fun a w H_ ax_ hle hax_ hS ha hd hls=>?_;obtain⟨_,ha,A144,c144,en144,hx_144,rfl,hR144⟩:=hd.g ha 3 rfl;have hSf:=hS;refine id (ao (v:=(.slice A144 (([0]: List Int).length) c144)) ha Y Y Y fun a ha=>?_);exact As.qdone (s:=⟨H_,ax_⟩) (Le.refl _) ha hSf ⟨A144,c144,en144,hx_144,rfl,hR144⟩
 ·refine As.Qx Y fun a w H_ ax_ hle hax_ hS ha hd hls=>?_;obtain⟨_,ha,A144,c144,en144,hx_144,rfl,hR144⟩:=hd.g ha 3 rfl;have hSf:=hS;exact ao (v:=(iV 0)) ha Y Y Y fun a ha=>As.ql ha hSf
 ·refine As.Qx Y fun a w H_ ax_ hle hax_ hS ha hd hls=>?_;obtain⟨_,ha,A144,c144,en144,hx_144,rfl,hR144⟩:=hd.g ha 4 rfl;have hSf:=hS;refine id (aB ha Y Y fun a ha=>?_);exact As.qdone (s:=⟨H_,ax_⟩) (Le.refl _) ha hSf ⟨A144,c144,en144,hx_144,rfl,hR144⟩
 obtain⟨H147,ax_⟩:=s_;have hle147: Le H141 H147:=hls.le;dsimp only at hdr_ hS;have hr119:=hr119.mono hle147;have hr126:=hr126.mono hle147;have hr135:=hr135.mono hle147;obtain⟨_,hv_,A144,c144,en144,hx_144,rfl,hR144⟩:=hdr_ 2 _ _ Y Y;have hx_144: ax_ 2=some [en144]:=hx_144;obtain⟨_,ha,rfl⟩:=As.Dd ha hdr_ 5 rfl;obtain⟨_,ha,A144,c144,en144,hx_144,rfl,hR144⟩:=As.Dd ha hdr_ 6 rfl;have hx_144: ax_ 2=some [en144]:=hx_144;have hS: Step w0 H [] w H147 [en144,(some ab137,(.cells (tA q19 A135 c135) 26 (0,0))),(some ab128,(.cells (tA q18 A126 c126) 26 (0,0))),(some ab121,(.cells #[(.slice A119 k17.length c119)] 24 (0,0))),(some b1,(.cells aZ 26 (0,0)))]:=by
  have h_:=hS;unfold As.aents at h_;simp only [List.flatMap_cons,List.flatMap_nil,As.conE,show (As.sl []) 2=none from rfl,hx_144,Option.isSome_some,Option.getD_some,cond_true,cond_false,List.cons_append,List.nil_append,List.append_nil] at h_;exact h_
 refine any1 (i:=7) (by kernel_rfl) Y Y (aB ha Y Y fun a ha=>?_);refine any0 (by kernel_rfl) ?_;refine aa (wp_seq ?_);have hS_:=hS;refine bE cC [FcV (.agg #[(.slice A119 k17.length c119)]),FcT q7,FcT q1,FcT q0,FcT q0,fun H v=> ∃ A c,v=.slice A 2 c∧RowT H A c [q0,q0],FcT q15,fun H v=> ∃ A c,v=.slice A 2 c∧RowT H A c [q1,q15],FcT q20,FcV (.tuple #[(.bool true),(iV 0)]),FcV (.tuple #[(.bool true),(iV 0)]),FcV (.bool true),FcV (iV 0),FcV (.bool true),FcV (iV 0)] (N:=386) (E:= [(1,(pB b1)),(2,(pB ab121)),(3,(pB ab128)),(4,(iV 0)),(5,(pB ab137)),(6,(iV 0)),(7,(.slice A144 (([0]: List Int).length) c144)),(8,(iV 0))]) mixed (by kernel_rfl) (by repeat' (first | exact Monos.nil | refine Monos.cons ?_ ?_ |(intro _ _ _ hl h;exact h) |(rintro _ _ _ hl ⟨A,c,h,hr⟩;exact⟨A,c,h,hr.mono hl⟩) |(rintro _ _ _ hl ⟨b,h,hb⟩;exact⟨b,h,hl _ _ hb⟩))) hS (ha.pk Y) (.c4 ?_ ?_ ?_ ?_ (.c4 ?_ ?_ ?_ ?_ (.c4 ?_ ?_ ?_ ?_ (.c2 ?_ ?_ (.cons ?_ (.nil)))))) (fun a w H164 hle164 hS ha hdr_=>?_)
 ·refine Qy Y fun a w H_ hle hS ha hd=>?_;exact ag (vs:= [(.slice A119 k17.length c119)]) T24 Y ha Y (hS.blkL 3 rfl) Y (ae Y) Y fun a ha=>ql ha hS
 ·refine Qy Y fun a w H_ hle hS ha hd=>?_;exact Qd func39 ha Y (cd (n:=2) hS.inv.nil) hS
 ·refine Qy Y fun a w H_ hle hS ha hd=>?_;exact Qd func39 ha Y (cd (n:=1) hS.inv.nil) hS
 ·refine Qy Y fun a w H_ hle hS ha hd=>?_;exact Qd func39 ha Y (cd (n:=0) hS.inv.nil) hS
 ·refine Qy Y fun a w H_ hle hS ha hd=>?_;exact Qd func39 ha Y (cd (n:=0) hS.inv.nil) hS
 ·refine Qy Y fun a w H_ hle hS ha hd=>?_;obtain⟨_,ha,A152,c152,rfl,hr152⟩:=hd.g ha 3 rfl;obtain⟨_,ha,A154,c154,rfl,hr154⟩:=hd.g ha 4 rfl;refine id (aD (vs:= [(0,(tv q0 A152 c152)),(1,(tv q0 A154 c154))]) (cells:= [(iV q0.kind),(iV q0.n),(.string q0.s),(.slice A152 q0.l.length c152),(iV q0.kind),(iV q0.n),(.string q0.s),(.slice A154 q0.l.length c154)]) T22.und T26 hS ha (ha.evp Y) Y Y Y Y fun b156 a w hS ha=>?_);obtain⟨H156,hS,hle156,hb156⟩:=hS.give;have hr152:=hr152.mono hle156;have hr154:=hr154.mono hle156;have hr156: RowT H156 (some ⟨b156,0,none⟩) 2 [q0,q0]:=RowT.of_lit ([⟨q0,A152,c152⟩,⟨q0,A154,c154⟩]: List TV) hb156 (AllR.cons hr152 (AllR.cons hr154 (AllR.nil _))) (by simp) Y;exact qdone hle156 ha hS ⟨_,_,rfl,hr156⟩
 ·refine Qy Y fun a w H_ hle hS ha hd=>?_;obtain⟨_,ha,A156,c156,rfl,hr156⟩:=hd.g ha 5 rfl;exact Qd func47 ha Y (d9 (s:=⟨#[102]⟩) hS.inv.nil hr156) hS
 ·refine Qy Y fun a w H_ hle hS ha hd=>?_;obtain⟨_,ha,A150,c150,rfl,hr150⟩:=hd.g ha 2 rfl;obtain⟨_,ha,A157,c157,rfl,hr157⟩:=hd.g ha 6 rfl;refine id (aD (vs:= [(0,(tv q1 A150 c150)),(1,(tv q15 A157 c157))]) (cells:= [(iV q1.kind),(iV q1.n),(.string q1.s),(.slice A150 q1.l.length c150),(iV q15.kind),(iV q15.n),(.string q15.s),(.slice A157 q15.l.length c157)]) T22.und T26 hS ha (ha.evp Y) Y Y Y Y fun b159 a w hS ha=>?_);obtain⟨H159,hS,hle159,hb159⟩:=hS.give;have hr150:=hr150.mono hle159;have hr157:=hr157.mono hle159;have hr159: RowT H159 (some ⟨b159,0,none⟩) 2 [q1,q15]:=RowT.of_lit ([⟨q1,A150,c150⟩,⟨q15,A157,c157⟩]: List TV) hb159 (AllR.cons hr150 (AllR.cons hr157 (AllR.nil _))) (by simp) Y;exact qdone hle159 ha hS ⟨_,_,rfl,hr159⟩
 ·refine Qy Y fun a w H_ hle hS ha hd=>?_;obtain⟨_,ha,A159,c159,rfl,hr159⟩:=hd.g ha 7 rfl;exact Qd func47 ha Y (d9 (s:=⟨#[102]⟩) hS.inv.nil hr159) hS
 ·refine Qy1 0 rfl fun a w H_ hle hS ha hd=>?_;obtain⟨_,ha,A148,c148,rfl,hr148⟩:=hd.g ha 1 rfl;obtain⟨_,ha,A160,c160,rfl,hr160⟩:=hd.g ha 8 rfl;have hr119:=hr119.mono hle;have hk163:=c_USame hS.inv.nil hr119 hr148 hr160;rw [show (sameU k17 q7 q20)=(true,0) from by kernel_rfl] at hk163;refine id (Co func18 ha Y (hk163) ?_);rintro e w ⟨H162,rfl,hc162⟩;refine⟨_,rfl,fun a ha=>?_⟩;have hS:=hS.call hc162;exact qdone hc162.le ha hS Y
 ·refine Qy1 9 rfl fun a w H_ hle hS ha hd=>?_;exact am ha Y Y fun a ha=>ql ha hS
 ·refine Qy1 10 rfl fun a w H_ hle hS ha hd=>?_;exact ao (v:=(.bool true)) ha Y Y Y fun a ha=>ql ha hS
 ·refine Qy1 10 rfl fun a w H_ hle hS ha hd=>?_;exact ao (v:=(iV 0)) ha Y Y Y fun a ha=>ql ha hS
 ·refine Qy1 11 rfl fun a w H_ hle hS ha hd=>?_;exact aB ha Y Y fun a ha=>ql ha hS
 ·refine Qy1 12 rfl fun a w H_ hle hS ha hd=>?_;exact aB ha Y Y fun a ha=>ql ha hS
 have hr126:=hr126.mono hle164;have hr135:=hr135.mono hle164;obtain⟨_,ha,rfl⟩:=Dd ha hdr_ 13 rfl;obtain⟨_,ha,rfl⟩:=Dd ha hdr_ 14 rfl;refine aa (wp_seq (wp_seq ?_));have hS:=hS.front 3 rfl;have hS:=hS.drop;have hS_:=hS;refine bE cC [FcV (iV 0),FcV (.bool false),FcV (.bool false),FcV (iV 0),FcV (.bool false),FcV (.bool false),FcV (.bool false),FcV (iV 0),FcV (.bool false),FcV (.bool false),FcV (.bool false),FcV (iV 0),FcV (.bool false),FcV (.bool false),FcV (.bool false),FcV (tv q18 A126 c126),FcT q1,FcT q1,fun H v=> ∃ A c,v=.slice A 2 c∧RowT H A c [q1,q1],FcT q16,FcV (.bool true),FcV (.bool false),FcV (.bool false),FcV (.bool false),FcV (tv q19 A135 c135),FcT q0,FcT q0,fun H v=> ∃ A c,v=.slice A 2 c∧RowT H A c [q0,q0],FcT q15,FcT q0,FcT q0,fun H v=> ∃ A c,v=.slice A 2 c∧RowT H A c [q0,q0],FcT q15,fun H v=> ∃ A c,v=.slice A 2 c∧RowT H A c [q15,q15],FcT q21,FcV (.bool true),FcV (.bool false),FcV (.bool false),FcV (.bool false),FcV (.slice A144 (([0]: List Int).length) c144),fun H v=> ∃ b,v=.slice (some ⟨b,0,none⟩) 1 1∧H b=some (.cells #[(iV 0)] 3 (0,0)),FcV (.bool true),FcV (.bool false),FcV (.bool false),FcV (.bool false),FcV (.bool true),FcV (.bool false),FcV (.bool false)] (N:=386) (E:= [(1,(pB b1)),(3,(pB ab128)),(4,(iV 0)),(5,(pB ab137)),(6,(iV 0)),(7,(.slice A144 (([0]: List Int).length) c144)),(8,(iV 0)),(9,(.bool true)),(10,(iV 0))]) mixed (by kernel_rfl) (by repeat' (first | exact Monos.nil | refine Monos.cons ?_ ?_ |(intro _ _ _ hl h;exact h) |(rintro _ _ _ hl ⟨A,c,h,hr⟩;exact⟨A,c,h,hr.mono hl⟩) |(rintro _ _ _ hl ⟨b,h,hb⟩;exact⟨b,h,hl _ _ hb⟩))) hS (ha.pk Y) (.c4 ?_ ?_ ?_ ?_ (.c4 ?_ ?_ ?_ ?_ (.c4 ?_ ?_ ?_ ?_ (.c4 ?_ ?_ ?_ ?_ (.c4 ?_ ?_ ?_ ?_ (.c4 ?_ ?_ ?_ ?_ (.c4 ?_ ?_ ?_ ?_ (.c4 ?_ ?_ ?_ ?_ (.c4 ?_ ?_ ?_ ?_ (.c4 ?_ ?_ ?_ ?_ (.c4 ?_ ?_ ?_ ?_ (.c4 ?_ ?_ ?_ ?_ (.nil))))))))))))) (fun a w H193 hle193 hS ha hdr_=>?_)
 ·refine Qy Y fun a w H_ hle hS ha hd=>?_;exact am ha Y Y fun a ha=>ql ha hS
 ·refine Qy1 0 rfl fun a w H_ hle hS ha hd=>?_;exact a7 (i:=0) (j:=0) ha Y Y Y fun a ha=>ql ha hS
 ·refine Qy1 1 rfl fun a w H_ hle hS ha hd=>?_;exact am ha Y Y fun a ha=>ql ha hS
 ·refine Qg 2 rfl fun a w H_ hle hS ha hd=>?_;exact am ha Y Y fun a ha=>ql ha hS
 ·refine Qg 2 rfl fun a w H_ hle hS ha hd=>?_;obtain⟨_,ha,rfl⟩:=hd.g ha 3 rfl;exact a7 (i:=0) (j:=0) ha Y Y Y fun a ha=>ql ha hS
 ·refine Qy1 2 rfl fun a w H_ hle hS ha hd=>?_;obtain⟨_,ha,rfl⟩:=hd.g ha 4 rfl;exact ah ha Y Y Y fun a ha=>ql ha hS
 ·refine Qy1 5 rfl fun a w H_ hle hS ha hd=>?_;exact am ha Y Y fun a ha=>ql ha hS
 ·refine Qg 6 rfl fun a w H_ hle hS ha hd=>?_;exact am ha Y Y fun a ha=>ql ha hS
 ·refine Qg 6 rfl fun a w H_ hle hS ha hd=>?_;obtain⟨_,ha,rfl⟩:=hd.g ha 7 rfl;exact a7 (i:=0) (j:=0) ha Y Y Y fun a ha=>ql ha hS
 ·refine Qy1 6 rfl fun a w H_ hle hS ha hd=>?_;obtain⟨_,ha,rfl⟩:=hd.g ha 8 rfl;exact ah ha Y Y Y fun a ha=>ql ha hS
 ·refine Qy1 9 rfl fun a w H_ hle hS ha hd=>?_;exact am ha Y Y fun a ha=>ql ha hS
 ·refine Qg 10 rfl fun a w H_ hle hS ha hd=>?_;exact am ha Y Y fun a ha=>ql ha hS
 ·refine Qg 10 rfl fun a w H_ hle hS ha hd=>?_;obtain⟨_,ha,rfl⟩:=hd.g ha 11 rfl;exact a7 (i:=0) (j:=0) ha Y Y Y fun a ha=>ql ha hS
 ·refine Qy1 10 rfl fun a w H_ hle hS ha hd=>?_;obtain⟨_,ha,rfl⟩:=hd.g ha 12 rfl;exact ah ha Y Y Y fun a ha=>ql ha hS
 ·refine Qy1 13 rfl fun a w H_ hle hS ha hd=>?_;exact am ha Y Y fun a ha=>ql ha hS
 ·refine Qg 14 rfl fun a w H_ hle hS ha hd=>?_;exact ag (vs:=(tL q18 A126 c126)) T26 Y ha Y (hS.blkL 2 rfl) Y (ae Y) Y fun a ha=>ql ha hS
 ·refine Qg 14 rfl fun a w H_ hle hS ha hd=>?_;exact Qd func39 ha Y (cd (n:=1) hS.inv.nil) hS
 ·refine Qg 14 rfl fun a w H_ hle hS ha hd=>?_;exact Qd func39 ha Y (cd (n:=1) hS.inv.nil) hS
 ·refine Qg 14 rfl fun a w H_ hle hS ha hd=>?_;obtain⟨_,ha,A165,c165,rfl,hr165⟩:=hd.g ha 16 rfl;obtain⟨_,ha,A167,c167,rfl,hr167⟩:=hd.g ha 17 rfl;refine id (aD (vs:= [(0,(tv q1 A165 c165)),(1,(tv q1 A167 c167))]) (cells:= [(iV q1.kind),(iV q1.n),(.string q1.s),(.slice A165 q1.l.length c165),(iV q1.kind),(iV q1.n),(.string q1.s),(.slice A167 q1.l.length c167)]) T22.und T26 hS ha (ha.evp Y) Y Y Y Y fun b169 a w hS ha=>?_);obtain⟨H169,hS,hle169,hb169⟩:=hS.give;have hr165:=hr165.mono hle169;have hr167:=hr167.mono hle169;have hr169: RowT H169 (some ⟨b169,0,none⟩) 2 [q1,q1]:=RowT.of_lit ([⟨q1,A165,c165⟩,⟨q1,A167,c167⟩]: List TV) hb169 (AllR.cons hr165 (AllR.cons hr167 (AllR.nil _))) (by simp) Y;exact qdone hle169 ha hS ⟨_,_,rfl,hr169⟩
 ·refine Qg 14 rfl fun a w H_ hle hS ha hd=>?_;obtain⟨_,ha,A169,c169,rfl,hr169⟩:=hd.g ha 18 rfl;exact Qd func47 ha Y (d9 (s:=⟨#[102]⟩) hS.inv.nil hr169) hS
 ·refine Qg 14 rfl fun a w H_ hle hS ha hd=>?_;obtain⟨_,ha,rfl⟩:=hd.g ha 15 rfl;obtain⟨_,ha,A170,c170,rfl,hr170⟩:=hd.g ha 19 rfl;have hr126:=hr126.mono hle;have hk172:=dj _ _ _ _ _ _ _ _ hr126 hr170 hS.inv.nil;rw [show eqT q18 q16=true from by kernel_rfl] at hk172;exact Cs func43 ha Y (hk172) hS fun a w ha hS=>ql ha hS
 ·refine Qg 14 rfl fun a w H_ hle hS ha hd=>?_;obtain⟨_,ha,rfl⟩:=hd.g ha 20 rfl;exact aJ ha Y Y fun a ha=>ql ha hS
 ·refine Qy1 14 rfl fun a w H_ hle hS ha hd=>?_;obtain⟨_,ha,rfl⟩:=hd.g ha 21 rfl;exact ah ha Y Y Y fun a ha=>ql ha hS
 ·refine Qy1 22 rfl fun a w H_ hle hS ha hd=>?_;exact am ha Y Y fun a ha=>ql ha hS
 ·refine Qg 23 rfl fun a w H_ hle hS ha hd=>?_;exact ag (vs:=(tL q19 A135 c135)) T26 Y ha Y (hS.blkL 1 rfl) Y (ae Y) Y fun a ha=>ql ha hS
 ·refine Qg 23 rfl fun a w H_ hle hS ha hd=>?_;exact Qd func39 ha Y (cd (n:=0) hS.inv.nil) hS
 ·refine Qg 23 rfl fun a w H_ hle hS ha hd=>?_;exact Qd func39 ha Y (cd (n:=0) hS.inv.nil) hS
 ·refine Qg 23 rfl fun a w H_ hle hS ha hd=>?_;obtain⟨_,ha,A173,c173,rfl,hr173⟩:=hd.g ha 25 rfl;obtain⟨_,ha,A175,c175,rfl,hr175⟩:=hd.g ha 26 rfl;refine id (aD (vs:= [(0,(tv q0 A173 c173)),(1,(tv q0 A175 c175))]) (cells:= [(iV q0.kind),(iV q0.n),(.string q0.s),(.slice A173 q0.l.length c173),(iV q0.kind),(iV q0.n),(.string q0.s),(.slice A175 q0.l.length c175)]) T22.und T26 hS ha (ha.evp Y) Y Y Y Y fun b177 a w hS ha=>?_);obtain⟨H177,hS,hle177,hb177⟩:=hS.give;have hr173:=hr173.mono hle177;have hr175:=hr175.mono hle177;have hr177: RowT H177 (some ⟨b177,0,none⟩) 2 [q0,q0]:=RowT.of_lit ([⟨q0,A173,c173⟩,⟨q0,A175,c175⟩]: List TV) hb177 (AllR.cons hr173 (AllR.cons hr175 (AllR.nil _))) (by simp) Y;exact qdone hle177 ha hS ⟨_,_,rfl,hr177⟩
 ·refine Qg 23 rfl fun a w H_ hle hS ha hd=>?_;obtain⟨_,ha,A177,c177,rfl,hr177⟩:=hd.g ha 27 rfl;exact Qd func47 ha Y (d9 (s:=⟨#[102]⟩) hS.inv.nil hr177) hS
 ·refine Qg 23 rfl fun a w H_ hle hS ha hd=>?_;exact Qd func39 ha Y (cd (n:=0) hS.inv.nil) hS
 ·refine Qg 23 rfl fun a w H_ hle hS ha hd=>?_;exact Qd func39 ha Y (cd (n:=0) hS.inv.nil) hS
 ·refine Qg 23 rfl fun a w H_ hle hS ha hd=>?_;obtain⟨_,ha,A180,c180,rfl,hr180⟩:=hd.g ha 29 rfl;obtain⟨_,ha,A182,c182,rfl,hr182⟩:=hd.g ha 30 rfl;refine id (aD (vs:= [(0,(tv q0 A180 c180)),(1,(tv q0 A182 c182))]) (cells:= [(iV q0.kind),(iV q0.n),(.string q0.s),(.slice A180 q0.l.length c180),(iV q0.kind),(iV q0.n),(.string q0.s),(.slice A182 q0.l.length c182)]) T22.und T26 hS ha (ha.evp Y) Y Y Y Y fun b184 a w hS ha=>?_);obtain⟨H184,hS,hle184,hb184⟩:=hS.give;have hr180:=hr180.mono hle184;have hr182:=hr182.mono hle184;have hr184: RowT H184 (some ⟨b184,0,none⟩) 2 [q0,q0]:=RowT.of_lit ([⟨q0,A180,c180⟩,⟨q0,A182,c182⟩]: List TV) hb184 (AllR.cons hr180 (AllR.cons hr182 (AllR.nil _))) (by simp) Y;exact qdone hle184 ha hS ⟨_,_,rfl,hr184⟩
 ·refine Qg 23 rfl fun a w H_ hle hS ha hd=>?_;obtain⟨_,ha,A184,c184,rfl,hr184⟩:=hd.g ha 31 rfl;exact Qd func47 ha Y (d9 (s:=⟨#[102]⟩) hS.inv.nil hr184) hS
 ·refine Qg 23 rfl fun a w H_ hle hS ha hd=>?_;obtain⟨_,ha,A178,c178,rfl,hr178⟩:=hd.g ha 28 rfl;obtain⟨_,ha,A185,c185,rfl,hr185⟩:=hd.g ha 32 rfl;refine id (aD (vs:= [(0,(tv q15 A178 c178)),(1,(tv q15 A185 c185))]) (cells:= [(iV q15.kind),(iV q15.n),(.string q15.s),(.slice A178 q15.l.length c178),(iV q15.kind),(iV q15.n),(.string q15.s),(.slice A185 q15.l.length c185)]) T22.und T26 hS ha (ha.evp Y) Y Y Y Y fun b187 a w hS ha=>?_);obtain⟨H187,hS,hle187,hb187⟩:=hS.give;have hr178:=hr178.mono hle187;have hr185:=hr185.mono hle187;have hr187: RowT H187 (some ⟨b187,0,none⟩) 2 [q15,q15]:=RowT.of_lit ([⟨q15,A178,c178⟩,⟨q15,A185,c185⟩]: List TV) hb187 (AllR.cons hr178 (AllR.cons hr185 (AllR.nil _))) (by simp) Y;exact qdone hle187 ha hS ⟨_,_,rfl,hr187⟩
 ·refine Qg 23 rfl fun a w H_ hle hS ha hd=>?_;obtain⟨_,ha,A187,c187,rfl,hr187⟩:=hd.g ha 33 rfl;exact Qd func47 ha Y (d9 (s:=⟨#[102]⟩) hS.inv.nil hr187) hS
 ·refine Qg 23 rfl fun a w H_ hle hS ha hd=>?_;obtain⟨_,ha,rfl⟩:=hd.g ha 24 rfl;obtain⟨_,ha,A188,c188,rfl,hr188⟩:=hd.g ha 34 rfl;have hr135:=hr135.mono hle;have hk190:=dj _ _ _ _ _ _ _ _ hr135 hr188 hS.inv.nil;rw [show eqT q19 q21=true from by kernel_rfl] at hk190;exact Cs func43 ha Y (hk190) hS fun a w ha hS=>ql ha hS
 ·refine Qg 23 rfl fun a w H_ hle hS ha hd=>?_;obtain⟨_,ha,rfl⟩:=hd.g ha 35 rfl;exact aJ ha Y Y fun a ha=>ql ha hS
 ·refine Qy1 23 rfl fun a w H_ hle hS ha hd=>?_;obtain⟨_,ha,rfl⟩:=hd.g ha 36 rfl;exact ah ha Y Y Y fun a ha=>ql ha hS
 ·refine Qy1 37 rfl fun a w H_ hle hS ha hd=>?_;exact am ha Y Y fun a ha=>ql ha hS
 ·refine Qg 38 rfl fun a w H_ hle hS ha hd=>?_;exact am ha Y Y fun a ha=>ql ha hS
 ·refine Qg 38 rfl fun a w H_ hle hS ha hd=>?_;refine id (aD (vs:= [(0,(iV 0))]) (cells:= [(iV 0)]) T43.und T3 hS ha (ha.evp Y) Y Y Y Y fun b191 a w hS ha=>?_);obtain⟨H191,hS,hle191,hb191⟩:=hS.give;exact qdone hle191 ha hS ⟨_,rfl,hb191⟩
 ·refine Qg 38 rfl fun a w H_ hle hS ha hd=>?_;obtain⟨_,ha,rfl⟩:=hd.g ha 39 rfl;obtain⟨_,ha,b191,rfl,hb191⟩:=hd.g ha 40 rfl;have hk192:=eX hS.inv.nil (RdI.of_row hS.inv hR144 0 rfl (by simp)) (RdI.of_data hS.inv (RowI.of_lit [0] hb191 (by simp) Y));rw [show decide (([0]: List Int)= [0])=true from by kernel_rfl] at hk192;exact Cs func44 ha Y (hk192) hS fun a w ha hS=>ql ha hS
 ·refine Qg 38 rfl fun a w H_ hle hS ha hd=>?_;obtain⟨_,ha,rfl⟩:=hd.g ha 41 rfl;exact aJ ha Y Y fun a ha=>ql ha hS
 ·refine Qy1 38 rfl fun a w H_ hle hS ha hd=>?_;obtain⟨_,ha,rfl⟩:=hd.g ha 42 rfl;exact ah ha Y Y Y fun a ha=>ql ha hS
 ·refine Qy1 43 rfl fun a w H_ hle hS ha hd=>?_;exact am ha Y Y fun a ha=>ql ha hS
 ·refine Qg 44 rfl fun a w H_ hle hS ha hd=>?_;exact am ha Y Y fun a ha=>ql ha hS
 ·refine Qg 44 rfl fun a w H_ hle hS ha hd=>?_;obtain⟨_,ha,rfl⟩:=hd.g ha 45 rfl;exact aJ ha Y Y fun a ha=>ql ha hS
 ·refine Qy1 44 rfl fun a w H_ hle hS ha hd=>?_;obtain⟨_,ha,rfl⟩:=hd.g ha 46 rfl;exact ah ha Y Y Y fun a ha=>ql ha hS
 obtain⟨_,ha,rfl⟩:=Dd ha hdr_ 47 rfl;refine aa (an ha Y (wp_skip (aa (wp_seq (ab ?_)))));have hk195:=c_New (n:=3) hS.inv.nil;rw [show newE 3=0 from by kernel_rfl] at hk195;refine lin Y (Co func24 ha Y (hk195) ?_);rintro e w ⟨H194,A194,c194,rfl,hr194,hc194⟩;refine⟨_,rfl,fun a ha=>?_⟩;have hS:=hS.call hc194;refine Lm Y ha fun a ha=>?_;refine lin Y (ao (v:=(.agg #[(.slice A194 ((newT 3).length) c194)])) ha Y Y Y fun a ha=>?_);refine lin Y (ao (v:=(iV 0)) ha Y Y Y fun a ha=>?_);refine lin Y (aC (cs:= #[(.slice none 0 0)]) T24 hS ha Y Y fun b196 a w hS ha=>?_);refine lin Y (aw (cs':= #[(.slice A194 ((newT 3).length) c194)]) T24 hS (i:=0) Y ha Y Y Y Y Y Y fun a w hS ha=>?_);refine Ls Y ha fun a ha=>?_;refine wpList_nil (aa (wp_seq ?_));have hS:=hS.front 1 rfl;have hS:=hS.drop;have hS:=hS.front 1 rfl;have hS:=hS.drop;have hS:=hS.front 1 rfl;have hS:=hS.drop;have hS_:=hS;refine As.c_draw_head (ini:=(As.il [])) (sup:=(As.sl [])) (als:= [9]) (s0:=⟨H194,fun _=>none⟩) (L:= [(some b196,(.cells #[(.slice A194 ((newT 3).length) c194)] 24 (0,0))),(some b1,(.cells aZ 26 (0,0)))]) (N:=386) (E:= [(1,(pB b1)),(4,(iV 0)),(11,(pB b196))]) 16 [FcV (.agg #[(.slice A194 ((newT 3).length) c194)]),As.lf (FcT q7),As.lf (FcT q0),As.lf (fun H v=> ∃ A c,v=.slice A 2 c∧RowT H A c [q7,q0]),As.lf (FcT q22),As.lf (FcT q0),As.lf (FcT q1),As.lf (fun H v=> ∃ A c,v=.slice A 2 c∧RowT H A c [q0,q1]),As.lf (FcT q3),fun s v=> ∃(A: Option Addr) (c: Nat) (en: Ent),s.ax 9=some [en]∧v=(.tuple #[(iV 3),(.slice A (([2,0,1]: List Int).length) c),(iV 0)])∧Row (.slice A (([2,0,1]: List Int).length) c) en 3 1 (([2,0,1]: List Int).length) (ints ([2,0,1]: List Int)),fun s v=> ∃(A: Option Addr) (c: Nat) (en: Ent),s.ax 9=some [en]∧v=(.tuple #[(iV 3),(.slice A (([2,0,1]: List Int).length) c),(iV 0)])∧Row (.slice A (([2,0,1]: List Int).length) c) en 3 1 (([2,0,1]: List Int).length) (ints ([2,0,1]: List Int)),FcV (iV 3),fun s v=> ∃(A: Option Addr) (c: Nat) (en: Ent),s.ax 9=some [en]∧v=(.slice A (([2,0,1]: List Int).length) c)∧Row (.slice A (([2,0,1]: List Int).length) c) en 3 1 (([2,0,1]: List Int).length) (ints ([2,0,1]: List Int)),FcV (iV 0),FcV (iV 3),fun s v=> ∃(A: Option Addr) (c: Nat) (en: Ent),s.ax 9=some [en]∧v=(.slice A (([2,0,1]: List Int).length) c)∧Row (.slice A (([2,0,1]: List Int).length) c) en 3 1 (([2,0,1]: List Int).length) (ints ([2,0,1]: List Int))] mixed (by kernel_rfl) (by kernel_rfl) (by kernel_rfl) (by repeat' (first | exact As.Monos.nil | refine As.Monos.cons ?_ ?_ |(intro _ _ _ hl h;exact h) |(rintro _ _ _ hl ⟨A,c,h,hr⟩;exact⟨A,c,h,hr.mono hl.le⟩) |(rintro _ _ _ hl ⟨b,h,hb⟩;exact⟨b,h,hl.le _ _ hb⟩) | exact fun _ _ _ hl ⟨A,c,en,h,e,hR⟩=>⟨A,c,en,hl.get h,e,hR⟩)) (fun _=>rfl) hS (ha.pk Y) (As.QuietsI.c4 ?_ ?_ ?_ ?_ (As.QuietsI.c4 ?_ ?_ ?_ ?_ (As.QuietsI.c4 ?_ ?_ ?_ ?_ (As.QuietsI.c4 ?_ ?_ ?_ ?_ (As.QuietsI.nil))))) (fun f_ a w s_ hls hS ha hdr_=>?_)
 ·refine As.Qx Y fun a w H_ ax_ hle hax_ hS ha hd hls=>?_;have hSf:=hS;have hS:=Step.dropN _ _ hS;exact ag (vs:= [(.slice A194 ((newT 3).length) c194)]) T24 Y ha Y (hS.blkL 0 rfl) Y (ae Y) Y fun a ha=>As.ql ha hSf
 ·refine As.Qx Y fun a w H_ ax_ hle hax_ hS ha hd hls=>?_;have hSf:=hS;have hSr:=Step.dropN _ _ hS;have hk199:=cd (n:=2) hS.inv.nil;refine id (Co func39 ha Y (hk199) ?_);rintro e w ⟨H198,A198,c198,rfl,hr198,hc198⟩;refine⟨_,rfl,fun a ha=>?_⟩;have hS:=hS.call hc198;exact As.qdone (s:=⟨H_,ax_⟩) hc198.le ha hS ⟨A198,c198,rfl,hr198⟩
 ·refine As.Qx Y fun a w H_ ax_ hle hax_ hS ha hd hls=>?_;have hSf:=hS;have hSr:=Step.dropN _ _ hS;have hk201:=cd (n:=0) hS.inv.nil;refine id (Co func39 ha Y (hk201) ?_);rintro e w ⟨H200,A200,c200,rfl,hr200,hc200⟩;refine⟨_,rfl,fun a ha=>?_⟩;have hS:=hS.call hc200;exact As.qdone (s:=⟨H_,ax_⟩) hc200.le ha hS ⟨A200,c200,rfl,hr200⟩
 ·refine As.Qx Y fun a w H_ ax_ hle hax_ hS ha hd hls=>?_;obtain⟨_,ha,A198,c198,rfl,hr198⟩:=hd.g ha 1 rfl;obtain⟨_,ha,A200,c200,rfl,hr200⟩:=hd.g ha 2 rfl;have hSf:=hS;have hSr:=Step.dropN _ _ hS;refine id (aD (vs:= [(0,(tv q7 A198 c198)),(1,(tv q0 A200 c200))]) (cells:= [(iV q7.kind),(iV q7.n),(.string q7.s),(.slice A198 q7.l.length c198),(iV q0.kind),(iV q0.n),(.string q0.s),(.slice A200 q0.l.length c200)]) T22.und T26 hS ha (ha.evp Y) Y Y Y Y fun b202 a w hS ha=>?_);obtain⟨H202,hS,hle202,hb202⟩:=hS.give;have hr198:=hr198.mono hle202;have hr200:=hr200.mono hle202;have hr202: RowT H202 (some ⟨b202,0,none⟩) 2 [q7,q0]:=RowT.of_lit ([⟨q7,A198,c198⟩,⟨q0,A200,c200⟩]: List TV) hb202 (AllR.cons hr198 (AllR.cons hr200 (AllR.nil _))) (by simp) Y;exact As.qdone (s:=⟨H_,ax_⟩) hle202 ha hS ⟨_,_,rfl,hr202⟩
 ·refine As.Qx Y fun a w H_ ax_ hle hax_ hS ha hd hls=>?_;obtain⟨_,ha,A202,c202,rfl,hr202⟩:=hd.g ha 3 rfl;have hSf:=hS;have hSr:=Step.dropN _ _ hS;have hk204:=d9 (s:=⟨#[102]⟩) hS.inv.nil hr202;refine id (Co func47 ha Y (hk204) ?_);rintro e w ⟨H203,A203,c203,rfl,hr203,hc203⟩;refine⟨_,rfl,fun a ha=>?_⟩;have hS:=hS.call hc203;exact As.qdone (s:=⟨H_,ax_⟩) hc203.le ha hS ⟨A203,c203,rfl,hr203⟩
 ·refine As.Qx Y fun a w H_ ax_ hle hax_ hS ha hd hls=>?_;have hSf:=hS;have hSr:=Step.dropN _ _ hS;have hk206:=cd (n:=0) hS.inv.nil;refine id (Co func39 ha Y (hk206) ?_);rintro e w ⟨H205,A205,c205,rfl,hr205,hc205⟩;refine⟨_,rfl,fun a ha=>?_⟩;have hS:=hS.call hc205;exact As.qdone (s:=⟨H_,ax_⟩) hc205.le ha hS ⟨A205,c205,rfl,hr205⟩
 ·refine As.Qx Y fun a w H_ ax_ hle hax_ hS ha hd hls=>?_;have hSf:=hS;have hSr:=Step.dropN _ _ hS;have hk208:=cd (n:=1) hS.inv.nil;refine id (Co func39 ha Y (hk208) ?_);rintro e w ⟨H207,A207,c207,rfl,hr207,hc207⟩;refine⟨_,rfl,fun a ha=>?_⟩;have hS:=hS.call hc207;exact As.qdone (s:=⟨H_,ax_⟩) hc207.le ha hS ⟨A207,c207,rfl,hr207⟩
 ·refine As.Qx Y fun a w H_ ax_ hle hax_ hS ha hd hls=>?_;obtain⟨_,ha,A205,c205,rfl,hr205⟩:=hd.g ha 5 rfl;obtain⟨_,ha,A207,c207,rfl,hr207⟩:=hd.g ha 6 rfl;have hSf:=hS;have hSr:=Step.dropN _ _ hS;refine id (aD (vs:= [(0,(tv q0 A205 c205)),(1,(tv q1 A207 c207))]) (cells:= [(iV q0.kind),(iV q0.n),(.string q0.s),(.slice A205 q0.l.length c205),(iV q1.kind),(iV q1.n),(.string q1.s),(.slice A207 q1.l.length c207)]) T22.und T26 hS ha (ha.evp Y) Y Y Y Y fun b209 a w hS ha=>?_);obtain⟨H209,hS,hle209,hb209⟩:=hS.give;have hr205:=hr205.mono hle209;have hr207:=hr207.mono hle209;have hr209: RowT H209 (some ⟨b209,0,none⟩) 2 [q0,q1]:=RowT.of_lit ([⟨q0,A205,c205⟩,⟨q1,A207,c207⟩]: List TV) hb209 (AllR.cons hr205 (AllR.cons hr207 (AllR.nil _))) (by simp) Y;exact As.qdone (s:=⟨H_,ax_⟩) hle209 ha hS ⟨_,_,rfl,hr209⟩
 ·refine As.Qx Y fun a w H_ ax_ hle hax_ hS ha hd hls=>?_;obtain⟨_,ha,A209,c209,rfl,hr209⟩:=hd.g ha 7 rfl;have hSf:=hS;have hSr:=Step.dropN _ _ hS;have hk211:=d9 (s:=⟨#[102]⟩) hS.inv.nil hr209;refine id (Co func47 ha Y (hk211) ?_);rintro e w ⟨H210,A210,c210,rfl,hr210,hc210⟩;refine⟨_,rfl,fun a ha=>?_⟩;have hS:=hS.call hc210;exact As.qdone (s:=⟨H_,ax_⟩) hc210.le ha hS ⟨A210,c210,rfl,hr210⟩
 ·refine As.Qx1 0 rfl fun a w H_ ax_ hle hax_ hS ha hd hls=>?_;obtain⟨_,ha,A203,c203,rfl,hr203⟩:=hd.g ha 4 rfl;obtain⟨_,ha,A210,c210,rfl,hr210⟩:=hd.g ha 8 rfl;have hr194:=hr194.mono hle;have hS: Step w0 H [] w H_ ((As.aents (As.il []) (As.sl []) [] ax_++As.aents (As.il []) (As.sl []) [] ax_++ [(some b196,(.cells #[(.slice A194 ((newT 3).length) c194)] 24 (0,0))),(some b1,(.cells aZ 26 (0,0)))])):=As.opn (s:=⟨H_,ax_⟩) [] [9] [] [] rfl (As.con0 hax_ Y) hS;have hk213:=c_Ask hS.inv.nil hr194 hr203 hr210;rw [show (askU (newT 3) q22 q3).1.1=3 from by kernel_rfl] at hk213;rw [show (askU (newT 3) q22 q3).1.2=([2,0,1]: List Int) from by kernel_rfl] at hk213;rw [show (askU (newT 3) q22 q3).2=0 from by kernel_rfl] at hk213;refine id (Co func21 ha Y (hk213) ?_);rintro e w ⟨H212,A212,c212,en212,rfl,hR212,hc212⟩;refine⟨_,rfl,fun a ha=>?_⟩;have hS:=Step.frame (Lc:= []) hS hc212;exact As.qown (i:=9) (dst:=some 204) (s:=⟨H_,ax_⟩) (E:= [en212]) [] [9] [] rfl Y hax_ hc212.le ha.dfr (As.has_at ha) hS As.con1 ⟨_,_,_,rfl,rfl,hR212⟩
 ·refine As.Qx Y fun a w H_ ax_ hle hax_ hS ha hd hls=>?_;obtain⟨_,ha,A212,c212,en212,hx_212,rfl,hR212⟩:=hd.g ha 9 rfl;have hx_212: ax_ 9=some [en212]:=hx_212;have hSf:=hS;refine id (am ha Y Y fun a ha=>?_);exact As.qdone (s:=⟨H_,ax_⟩) (Le.refl _) ha hSf ⟨A212,c212,en212,hx_212,rfl,hR212⟩
 ·refine As.Qx Y fun a w H_ ax_ hle hax_ hS ha hd hls=>?_;obtain⟨_,ha,A212,c212,en212,hx_212,rfl,hR212⟩:=hd.g ha 10 rfl;have hSf:=hS;exact ao (v:=(iV 3)) ha Y Y Y fun a ha=>As.ql ha hSf
 ·refine As.Qx Y fun a w H_ ax_ hle hax_ hS ha hd hls=>?_;obtain⟨_,ha,A212,c212,en212,hx_212,rfl,hR212⟩:=hd.g ha 10 rfl;have hSf:=hS;refine id (ao (v:=(.slice A212 (([2,0,1]: List Int).length) c212)) ha Y Y Y fun a ha=>?_);exact As.qdone (s:=⟨H_,ax_⟩) (Le.refl _) ha hSf ⟨A212,c212,en212,hx_212,rfl,hR212⟩
 ·refine As.Qx Y fun a w H_ ax_ hle hax_ hS ha hd hls=>?_;obtain⟨_,ha,A212,c212,en212,hx_212,rfl,hR212⟩:=hd.g ha 10 rfl;have hSf:=hS;exact ao (v:=(iV 0)) ha Y Y Y fun a ha=>As.ql ha hSf
 ·refine As.Qx1 11 rfl fun a w H_ ax_ hle hax_ hS ha hd hls=>?_;have hSf:=hS;exact aB ha Y Y fun a ha=>As.ql ha hSf
 ·refine As.Qx Y fun a w H_ ax_ hle hax_ hS ha hd hls=>?_;obtain⟨_,ha,A212,c212,en212,hx_212,rfl,hR212⟩:=hd.g ha 12 rfl;have hSf:=hS;refine id (aB ha Y Y fun a ha=>?_);exact As.qdone (s:=⟨H_,ax_⟩) (Le.refl _) ha hSf ⟨A212,c212,en212,hx_212,rfl,hR212⟩
 obtain⟨H215,ax_⟩:=s_;have hle215: Le H194 H215:=hls.le;dsimp only at hdr_ hS;have hr194:=hr194.mono hle215;obtain⟨_,hv_,A212,c212,en212,hx_212,rfl,hR212⟩:=hdr_ 9 _ _ Y Y;have hx_212: ax_ 9=some [en212]:=hx_212;obtain⟨_,ha,rfl⟩:=As.Dd ha hdr_ 13 rfl;obtain⟨_,ha,rfl⟩:=As.Dd ha hdr_ 14 rfl;obtain⟨_,ha,A212,c212,en212,hx_212,rfl,hR212⟩:=As.Dd ha hdr_ 15 rfl;have hx_212: ax_ 9=some [en212]:=hx_212;have hS: Step w0 H [] w H215 [en212,(some b196,(.cells #[(.slice A194 ((newT 3).length) c194)] 24 (0,0))),(some b1,(.cells aZ 26 (0,0)))]:=by
  have h_:=hS;unfold As.aents at h_;simp only [List.flatMap_cons,List.flatMap_nil,As.conE,show (As.sl []) 9=none from rfl,hx_212,Option.isSome_some,Option.getD_some,cond_true,cond_false,List.cons_append,List.nil_append,List.append_nil] at h_;exact h_
 refine any1 (i:=16) (by kernel_rfl) Y Y (aB ha Y Y fun a ha=>?_);refine any0 (by kernel_rfl) ?_;refine aa (wp_seq ?_);have hS_:=hS;refine As.c_draw_head (ini:=(As.il [])) (sup:=(As.sl [])) (als:= [7]) (s0:=⟨H215,fun _=>none⟩) (L:= [en212,(some b196,(.cells #[(.slice A194 ((newT 3).length) c194)] 24 (0,0))),(some b1,(.cells aZ 26 (0,0)))]) (N:=386) (E:= [(1,(pB b1)),(4,(iV 0)),(6,(iV 0)),(11,(pB b196)),(12,(iV 3)),(13,(.slice A212 (([2,0,1]: List Int).length) c212))]) 14 [FcV (.agg #[(.slice A194 ((newT 3).length) c194)]),As.lf (FcT q0),As.lf (fun H v=> ∃ A c,v=.slice A 1 c∧RowT H A c [q0]),As.lf (FcT q11),As.lf (FcT q1),As.lf (fun H v=> ∃ A c,v=.slice A 1 c∧RowT H A c [q1]),As.lf (FcT q12),fun s v=> ∃(A: Option Addr) (c: Nat) (en: Ent),s.ax 7=some [en]∧v=(.tuple #[(iV 2),(.slice A (([]: List Int).length) c),(iV 0)])∧Row (.slice A (([]: List Int).length) c) en 3 1 (([]: List Int).length) (ints ([]: List Int)),fun s v=> ∃(A: Option Addr) (c: Nat) (en: Ent),s.ax 7=some [en]∧v=(.tuple #[(iV 2),(.slice A (([]: List Int).length) c),(iV 0)])∧Row (.slice A (([]: List Int).length) c) en 3 1 (([]: List Int).length) (ints ([]: List Int)),FcV (iV 2),fun s v=> ∃(A: Option Addr) (c: Nat) (en: Ent),s.ax 7=some [en]∧v=(.slice A (([]: List Int).length) c)∧Row (.slice A (([]: List Int).length) c) en 3 1 (([]: List Int).length) (ints ([]: List Int)),FcV (iV 0),FcV (iV 2),fun s v=> ∃(A: Option Addr) (c: Nat) (en: Ent),s.ax 7=some [en]∧v=(.slice A (([]: List Int).length) c)∧Row (.slice A (([]: List Int).length) c) en 3 1 (([]: List Int).length) (ints ([]: List Int))] mixed (by kernel_rfl) (by kernel_rfl) (by kernel_rfl) (by repeat' (first | exact As.Monos.nil | refine As.Monos.cons ?_ ?_ |(intro _ _ _ hl h;exact h) |(rintro _ _ _ hl ⟨A,c,h,hr⟩;exact⟨A,c,h,hr.mono hl.le⟩) |(rintro _ _ _ hl ⟨b,h,hb⟩;exact⟨b,h,hl.le _ _ hb⟩) | exact fun _ _ _ hl ⟨A,c,en,h,e,hR⟩=>⟨A,c,en,hl.get h,e,hR⟩)) (fun _=>rfl) hS (ha.pk Y) (As.QuietsI.c4 ?_ ?_ ?_ ?_ (As.QuietsI.c4 ?_ ?_ ?_ ?_ (As.QuietsI.c4 ?_ ?_ ?_ ?_ (As.QuietsI.c2 ?_ ?_ (As.QuietsI.nil))))) (fun f_ a w s_ hls hS ha hdr_=>?_)
 ·refine As.Qx Y fun a w H_ ax_ hle hax_ hS ha hd hls=>?_;have hSf:=hS;have hS:=Step.dropN _ _ hS;exact ag (vs:= [(.slice A194 ((newT 3).length) c194)]) T24 Y ha Y (hS.blkL 1 rfl) Y (ae Y) Y fun a ha=>As.ql ha hSf
 ·refine As.Qx Y fun a w H_ ax_ hle hax_ hS ha hd hls=>?_;have hSf:=hS;have hSr:=Step.dropN _ _ hS;have hk217:=cd (n:=0) hS.inv.nil;refine id (Co func39 ha Y (hk217) ?_);rintro e w ⟨H216,A216,c216,rfl,hr216,hc216⟩;refine⟨_,rfl,fun a ha=>?_⟩;have hS:=hS.call hc216;exact As.qdone (s:=⟨H_,ax_⟩) hc216.le ha hS ⟨A216,c216,rfl,hr216⟩
 ·refine As.Qx Y fun a w H_ ax_ hle hax_ hS ha hd hls=>?_;obtain⟨_,ha,A216,c216,rfl,hr216⟩:=hd.g ha 1 rfl;have hSf:=hS;have hSr:=Step.dropN _ _ hS;refine id (aD (vs:= [(0,(tv q0 A216 c216))]) (cells:=(tL q0 A216 c216)) T22.und T26 hS ha (ha.evp Y) Y Y Y Y fun b218 a w hS ha=>?_);obtain⟨H218,hS,hle218,hb218⟩:=hS.give;have hr216:=hr216.mono hle218;have hr218: RowT H218 (some ⟨b218,0,none⟩) 1 [q0]:=RowT.of_lit ([⟨q0,A216,c216⟩]: List TV) hb218 (AllR.cons hr216 (AllR.nil _)) (by simp) Y;exact As.qdone (s:=⟨H_,ax_⟩) hle218 ha hS ⟨_,_,rfl,hr218⟩
 ·refine As.Qx Y fun a w H_ ax_ hle hax_ hS ha hd hls=>?_;obtain⟨_,ha,A218,c218,rfl,hr218⟩:=hd.g ha 2 rfl;have hSf:=hS;have hSr:=Step.dropN _ _ hS;have hk220:=d9 (s:=⟨#[102]⟩) hS.inv.nil hr218;refine id (Co func47 ha Y (hk220) ?_);rintro e w ⟨H219,A219,c219,rfl,hr219,hc219⟩;refine⟨_,rfl,fun a ha=>?_⟩;have hS:=hS.call hc219;exact As.qdone (s:=⟨H_,ax_⟩) hc219.le ha hS ⟨A219,c219,rfl,hr219⟩
 ·refine As.Qx Y fun a w H_ ax_ hle hax_ hS ha hd hls=>?_;have hSf:=hS;have hSr:=Step.dropN _ _ hS;have hk222:=cd (n:=1) hS.inv.nil;refine id (Co func39 ha Y (hk222) ?_);rintro e w ⟨H221,A221,c221,rfl,hr221,hc221⟩;refine⟨_,rfl,fun a ha=>?_⟩;have hS:=hS.call hc221;exact As.qdone (s:=⟨H_,ax_⟩) hc221.le ha hS ⟨A221,c221,rfl,hr221⟩
 ·refine As.Qx Y fun a w H_ ax_ hle hax_ hS ha hd hls=>?_;obtain⟨_,ha,A221,c221,rfl,hr221⟩:=hd.g ha 4 rfl;have hSf:=hS;have hSr:=Step.dropN _ _ hS;refine id (aD (vs:= [(0,(tv q1 A221 c221))]) (cells:=(tL q1 A221 c221)) T22.und T26 hS ha (ha.evp Y) Y Y Y Y fun b223 a w hS ha=>?_);obtain⟨H223,hS,hle223,hb223⟩:=hS.give;have hr221:=hr221.mono hle223;have hr223: RowT H223 (some ⟨b223,0,none⟩) 1 [q1]:=RowT.of_lit ([⟨q1,A221,c221⟩]: List TV) hb223 (AllR.cons hr221 (AllR.nil _)) (by simp) Y;exact As.qdone (s:=⟨H_,ax_⟩) hle223 ha hS ⟨_,_,rfl,hr223⟩
 ·refine As.Qx Y fun a w H_ ax_ hle hax_ hS ha hd hls=>?_;obtain⟨_,ha,A223,c223,rfl,hr223⟩:=hd.g ha 5 rfl;have hSf:=hS;have hSr:=Step.dropN _ _ hS;have hk225:=d9 (s:=⟨#[103]⟩) hS.inv.nil hr223;refine id (Co func47 ha Y (hk225) ?_);rintro e w ⟨H224,A224,c224,rfl,hr224,hc224⟩;refine⟨_,rfl,fun a ha=>?_⟩;have hS:=hS.call hc224;exact As.qdone (s:=⟨H_,ax_⟩) hc224.le ha hS ⟨A224,c224,rfl,hr224⟩
 ·refine As.Qx1 0 rfl fun a w H_ ax_ hle hax_ hS ha hd hls=>?_;obtain⟨_,ha,A219,c219,rfl,hr219⟩:=hd.g ha 3 rfl;obtain⟨_,ha,A224,c224,rfl,hr224⟩:=hd.g ha 6 rfl;have hr194:=hr194.mono hle;have hS: Step w0 H [] w H_ ((As.aents (As.il []) (As.sl []) [] ax_++As.aents (As.il []) (As.sl []) [] ax_++ [en212,(some b196,(.cells #[(.slice A194 ((newT 3).length) c194)] 24 (0,0))),(some b1,(.cells aZ 26 (0,0)))])):=As.opn (s:=⟨H_,ax_⟩) [] [7] [] [] rfl (As.con0 hax_ Y) hS;have hk227:=c_Ask hS.inv.nil hr194 hr219 hr224;rw [show (askU (newT 3) q11 q12).1.1=2 from by kernel_rfl] at hk227;rw [show (askU (newT 3) q11 q12).1.2=([]: List Int) from by kernel_rfl] at hk227;rw [show (askU (newT 3) q11 q12).2=0 from by kernel_rfl] at hk227;refine id (Co func21 ha Y (hk227) ?_);rintro e w ⟨H226,A226,c226,en226,rfl,hR226,hc226⟩;refine⟨_,rfl,fun a ha=>?_⟩;have hS:=Step.frame (Lc:= []) hS hc226;exact As.qown (i:=7) (dst:=some 216) (s:=⟨H_,ax_⟩) (E:= [en226]) [] [7] [] rfl Y hax_ hc226.le ha.dfr (As.has_at ha) hS As.con1 ⟨_,_,_,rfl,rfl,hR226⟩
 ·refine As.Qx Y fun a w H_ ax_ hle hax_ hS ha hd hls=>?_;obtain⟨_,ha,A226,c226,en226,hx_226,rfl,hR226⟩:=hd.g ha 7 rfl;have hx_226: ax_ 7=some [en226]:=hx_226;have hSf:=hS;refine id (am ha Y Y fun a ha=>?_);exact As.qdone (s:=⟨H_,ax_⟩) (Le.refl _) ha hSf ⟨A226,c226,en226,hx_226,rfl,hR226⟩
 ·refine As.Qx Y fun a w H_ ax_ hle hax_ hS ha hd hls=>?_;obtain⟨_,ha,A226,c226,en226,hx_226,rfl,hR226⟩:=hd.g ha 8 rfl;have hSf:=hS;exact ao (v:=(iV 2)) ha Y Y Y fun a ha=>As.ql ha hSf
 ·refine As.Qx Y fun a w H_ ax_ hle hax_ hS ha hd hls=>?_;obtain⟨_,ha,A226,c226,en226,hx_226,rfl,hR226⟩:=hd.g ha 8 rfl;have hSf:=hS;refine id (ao (v:=(.slice A226 (([]: List Int).length) c226)) ha Y Y Y fun a ha=>?_);exact As.qdone (s:=⟨H_,ax_⟩) (Le.refl _) ha hSf ⟨A226,c226,en226,hx_226,rfl,hR226⟩
 ·refine As.Qx Y fun a w H_ ax_ hle hax_ hS ha hd hls=>?_;obtain⟨_,ha,A226,c226,en226,hx_226,rfl,hR226⟩:=hd.g ha 8 rfl;have hSf:=hS;exact ao (v:=(iV 0)) ha Y Y Y fun a ha=>As.ql ha hSf
 ·refine As.Qx1 9 rfl fun a w H_ ax_ hle hax_ hS ha hd hls=>?_;have hSf:=hS;exact aB ha Y Y fun a ha=>As.ql ha hSf
 ·refine As.Qx Y fun a w H_ ax_ hle hax_ hS ha hd hls=>?_;obtain⟨_,ha,A226,c226,en226,hx_226,rfl,hR226⟩:=hd.g ha 10 rfl;have hSf:=hS;refine id (aB ha Y Y fun a ha=>?_);exact As.qdone (s:=⟨H_,ax_⟩) (Le.refl _) ha hSf ⟨A226,c226,en226,hx_226,rfl,hR226⟩
 obtain⟨H229,ax_⟩:=s_;have hle229: Le H215 H229:=hls.le;dsimp only at hdr_ hS;obtain⟨_,hv_,A226,c226,en226,hx_226,rfl,hR226⟩:=hdr_ 7 _ _ Y Y;have hx_226: ax_ 7=some [en226]:=hx_226;obtain⟨_,ha,rfl⟩:=As.Dd ha hdr_ 11 rfl;obtain⟨_,ha,rfl⟩:=As.Dd ha hdr_ 12 rfl;obtain⟨_,ha,A226,c226,en226,hx_226,rfl,hR226⟩:=As.Dd ha hdr_ 13 rfl;have hx_226: ax_ 7=some [en226]:=hx_226;have hS: Step w0 H [] w H229 [en226,en212,(some b196,(.cells #[(.slice A194 ((newT 3).length) c194)] 24 (0,0))),(some b1,(.cells aZ 26 (0,0)))]:=by
  have h_:=hS;unfold As.aents at h_;simp only [List.flatMap_cons,List.flatMap_nil,As.conE,show (As.sl []) 7=none from rfl,hx_226,Option.isSome_some,Option.getD_some,cond_true,cond_false,List.cons_append,List.nil_append,List.append_nil] at h_;exact h_
 refine any1 (i:=14) (by kernel_rfl) Y Y (aB ha Y Y fun a ha=>?_);refine any0 (by kernel_rfl) ?_;refine aa (wp_seq (wp_seq ?_));have hS:=hS.drop;have hS:=hS.front 1 rfl;have hS:=hS.drop;have hS_:=hS;refine bE cC [FcV (iV 0),FcV (.bool false),FcV (.bool false),FcV (iV 0),FcV (.bool false),FcV (.bool false),FcV (.bool false),FcV (iV 0),FcV (.bool false),FcV (.bool false),FcV (.bool false),FcV (iV 3),FcV (.bool false),FcV (.bool false),FcV (.bool false),FcV (.slice A212 (([2,0,1]: List Int).length) c212),fun H v=> ∃ b,v=.slice (some ⟨b,0,none⟩) 3 3∧H b=some (.cells #[(iV 2),(iV 0),(iV 1)] 3 (0,0)),FcV (.bool true),FcV (.bool false),FcV (.bool false),FcV (.bool false),FcV (iV 2),FcV (.bool false),FcV (.bool false),FcV (.bool false),FcT q1,FcV vZ,fun H v=> ∃ A c,v=.slice A 2 c∧RowT H A c [q1,tZ],fun H v=> ∃ A c,v=(.agg #[(.slice A k23.length c)])∧RowT H A c k23,FcV (iV 30),FcV (.bool false),FcV (.bool false),FcV (.bool false),FcT q0,fun H v=> ∃ A c,v=.slice A 1 c∧RowT H A c [q0],FcT q11,fun H v=> ∃ A c,v=.slice A 1 c∧RowT H A c [q11],fun H v=> ∃ A c,v=(.agg #[(.slice A k24.length c)])∧RowT H A c k24,FcV (iV 30),FcV (.bool false),FcV (.bool false),FcV (.bool false),FcT q1,fun H v=> ∃ A c,v=.slice A 1 c∧RowT H A c [q1],FcT q25,FcT q4,fun H v=> ∃ A c,v=.slice A 2 c∧RowT H A c [q25,q4],fun H v=> ∃ A c,v=(.agg #[(.slice A k26.length c)])∧RowT H A c k26,FcV (iV 0),FcV (.bool false),FcV (.bool false)] (N:=386) (E:= [(1,(pB b1)),(4,(iV 0)),(6,(iV 0)),(8,(iV 0)),(12,(iV 3)),(13,(.slice A212 (([2,0,1]: List Int).length) c212)),(14,(iV 2))]) mixed (by kernel_rfl) (by repeat' (first | exact Monos.nil | refine Monos.cons ?_ ?_ |(intro _ _ _ hl h;exact h) |(rintro _ _ _ hl ⟨A,c,h,hr⟩;exact⟨A,c,h,hr.mono hl⟩) |(rintro _ _ _ hl ⟨b,h,hb⟩;exact⟨b,h,hl _ _ hb⟩))) hS (ha.pk Y) (.c4 ?_ ?_ ?_ ?_ (.c4 ?_ ?_ ?_ ?_ (.c4 ?_ ?_ ?_ ?_ (.c4 ?_ ?_ ?_ ?_ (.c4 ?_ ?_ ?_ ?_ (.c4 ?_ ?_ ?_ ?_ (.c4 ?_ ?_ ?_ ?_ (.c4 ?_ ?_ ?_ ?_ (.c4 ?_ ?_ ?_ ?_ (.c4 ?_ ?_ ?_ ?_ (.c4 ?_ ?_ ?_ ?_ (.c4 ?_ ?_ ?_ ?_ (.c2 ?_ ?_ (.cons ?_ (.nil))))))))))))))) (fun a w H258 hle258 hS ha hdr_=>?_)
 ·refine Qy Y fun a w H_ hle hS ha hd=>?_;exact am ha Y Y fun a ha=>ql ha hS
 ·refine Qy1 0 rfl fun a w H_ hle hS ha hd=>?_;exact a7 (i:=0) (j:=0) ha Y Y Y fun a ha=>ql ha hS
 ·refine Qy1 1 rfl fun a w H_ hle hS ha hd=>?_;exact am ha Y Y fun a ha=>ql ha hS
 ·refine Qg 2 rfl fun a w H_ hle hS ha hd=>?_;exact am ha Y Y fun a ha=>ql ha hS
 ·refine Qg 2 rfl fun a w H_ hle hS ha hd=>?_;obtain⟨_,ha,rfl⟩:=hd.g ha 3 rfl;exact a7 (i:=0) (j:=0) ha Y Y Y fun a ha=>ql ha hS
 ·refine Qy1 2 rfl fun a w H_ hle hS ha hd=>?_;obtain⟨_,ha,rfl⟩:=hd.g ha 4 rfl;exact ah ha Y Y Y fun a ha=>ql ha hS
 ·refine Qy1 5 rfl fun a w H_ hle hS ha hd=>?_;exact am ha Y Y fun a ha=>ql ha hS
 ·refine Qg 6 rfl fun a w H_ hle hS ha hd=>?_;exact am ha Y Y fun a ha=>ql ha hS
 ·refine Qg 6 rfl fun a w H_ hle hS ha hd=>?_;obtain⟨_,ha,rfl⟩:=hd.g ha 7 rfl;exact a7 (i:=0) (j:=0) ha Y Y Y fun a ha=>ql ha hS
 ·refine Qy1 6 rfl fun a w H_ hle hS ha hd=>?_;obtain⟨_,ha,rfl⟩:=hd.g ha 8 rfl;exact ah ha Y Y Y fun a ha=>ql ha hS
 ·refine Qy1 9 rfl fun a w H_ hle hS ha hd=>?_;exact am ha Y Y fun a ha=>ql ha hS
 ·refine Qg 10 rfl fun a w H_ hle hS ha hd=>?_;exact am ha Y Y fun a ha=>ql ha hS
 ·refine Qg 10 rfl fun a w H_ hle hS ha hd=>?_;obtain⟨_,ha,rfl⟩:=hd.g ha 11 rfl;exact a7 (i:=3) (j:=3) ha Y Y Y fun a ha=>ql ha hS
 ·refine Qy1 10 rfl fun a w H_ hle hS ha hd=>?_;obtain⟨_,ha,rfl⟩:=hd.g ha 12 rfl;exact ah ha Y Y Y fun a ha=>ql ha hS
 ·refine Qy1 13 rfl fun a w H_ hle hS ha hd=>?_;exact am ha Y Y fun a ha=>ql ha hS
 ·refine Qg 14 rfl fun a w H_ hle hS ha hd=>?_;exact am ha Y Y fun a ha=>ql ha hS
 ·refine Qg 14 rfl fun a w H_ hle hS ha hd=>?_;refine id (aD (vs:= [(0,(iV 2)),(1,(iV 0)),(2,(iV 1))]) (cells:= [(iV 2),(iV 0),(iV 1)]) T43.und T3 hS ha (ha.evp Y) Y Y Y Y fun b230 a w hS ha=>?_);obtain⟨H230,hS,hle230,hb230⟩:=hS.give;exact qdone hle230 ha hS ⟨_,rfl,hb230⟩
 ·refine Qg 14 rfl fun a w H_ hle hS ha hd=>?_;obtain⟨_,ha,rfl⟩:=hd.g ha 15 rfl;obtain⟨_,ha,b230,rfl,hb230⟩:=hd.g ha 16 rfl;have hk231:=eX hS.inv.nil (RdI.of_row hS.inv hR212 0 rfl (by simp)) (RdI.of_data hS.inv (RowI.of_lit [2,0,1] hb230 (by simp) Y));rw [show decide (([2,0,1]: List Int)= [2,0,1])=true from by kernel_rfl] at hk231;exact Cs func44 ha Y (hk231) hS fun a w ha hS=>ql ha hS
 ·refine Qg 14 rfl fun a w H_ hle hS ha hd=>?_;obtain⟨_,ha,rfl⟩:=hd.g ha 17 rfl;exact aJ ha Y Y fun a ha=>ql ha hS
 ·refine Qy1 14 rfl fun a w H_ hle hS ha hd=>?_;obtain⟨_,ha,rfl⟩:=hd.g ha 18 rfl;exact ah ha Y Y Y fun a ha=>ql ha hS
 ·refine Qy1 19 rfl fun a w H_ hle hS ha hd=>?_;exact am ha Y Y fun a ha=>ql ha hS
 ·refine Qg 20 rfl fun a w H_ hle hS ha hd=>?_;exact am ha Y Y fun a ha=>ql ha hS
 ·refine Qg 20 rfl fun a w H_ hle hS ha hd=>?_;obtain⟨_,ha,rfl⟩:=hd.g ha 21 rfl;exact a7 (i:=2) (j:=2) ha Y Y Y fun a ha=>ql ha hS
 ·refine Qy1 20 rfl fun a w H_ hle hS ha hd=>?_;obtain⟨_,ha,rfl⟩:=hd.g ha 22 rfl;exact ah ha Y Y Y fun a ha=>ql ha hS
 ·refine Qy1 23 rfl fun a w H_ hle hS ha hd=>?_;exact am ha Y Y fun a ha=>ql ha hS
 ·refine Qg 24 rfl fun a w H_ hle hS ha hd=>?_;exact Qd func39 ha Y (cd (n:=1) hS.inv.nil) hS
 ·refine Qg 24 rfl fun a w H_ hle hS ha hd=>?_;exact ag (vs:=lZ) T26 Y ha Y (hS.blkL 1 rfl) Y (ae Y) Y fun a ha=>ql ha hS
 ·refine Qg 24 rfl fun a w H_ hle hS ha hd=>?_;obtain⟨_,ha,A232,c232,rfl,hr232⟩:=hd.g ha 25 rfl;obtain⟨_,ha,rfl⟩:=hd.g ha 26 rfl;refine id (aD (vs:= [(0,(tv q1 A232 c232)),(1,vZ)]) (cells:= [(iV q1.kind),(iV q1.n),(.string q1.s),(.slice A232 q1.l.length c232),(iV 0),(iV 0),(.string (⟨#[]⟩)),(.slice none 0 0)]) T22.und T26 hS ha (ha.evp Y) Y Y Y Y fun b234 a w hS ha=>?_);obtain⟨H234,hS,hle234,hb234⟩:=hS.give;have hr232:=hr232.mono hle234;have hr234: RowT H234 (some ⟨b234,0,none⟩) 2 [q1,tZ]:=RowT.of_lit ([⟨q1,A232,c232⟩,⟨tZ,none,0⟩]: List TV) hb234 (AllR.cons hr232 (AllR.cons (RowT.nil _) (AllR.nil _))) (by simp) Y;exact qdone hle234 ha hS ⟨_,_,rfl,hr234⟩
 ·refine Qg 24 rfl fun a w H_ hle hS ha hd=>?_;obtain⟨_,ha,A234,c234,rfl,hr234⟩:=hd.g ha 27 rfl;exact Qd func46 ha Y (aQ hS.inv.nil hr234) hS
 ·refine Qg 24 rfl fun a w H_ hle hS ha hd=>?_;obtain⟨_,ha,A235,c235,rfl,hr235⟩:=hd.g ha 28 rfl;have hk237:=cm hS.inv.nil hr235;rw [show stE k23=30 from by kernel_rfl] at hk237;exact Cs func16 ha Y (hk237) hS fun a w ha hS=>ql ha hS
 ·refine Qg 24 rfl fun a w H_ hle hS ha hd=>?_;obtain⟨_,ha,rfl⟩:=hd.g ha 29 rfl;exact a7 (i:=30) (j:=30) ha Y Y Y fun a ha=>ql ha hS
 ·refine Qy1 24 rfl fun a w H_ hle hS ha hd=>?_;obtain⟨_,ha,rfl⟩:=hd.g ha 30 rfl;exact ah ha Y Y Y fun a ha=>ql ha hS
 ·refine Qy1 31 rfl fun a w H_ hle hS ha hd=>?_;exact am ha Y Y fun a ha=>ql ha hS
 ·refine Qg 32 rfl fun a w H_ hle hS ha hd=>?_;exact Qd func39 ha Y (cd (n:=0) hS.inv.nil) hS
 ·refine Qg 32 rfl fun a w H_ hle hS ha hd=>?_;obtain⟨_,ha,A238,c238,rfl,hr238⟩:=hd.g ha 33 rfl;refine id (aD (vs:= [(0,(tv q0 A238 c238))]) (cells:=(tL q0 A238 c238)) T22.und T26 hS ha (ha.evp Y) Y Y Y Y fun b240 a w hS ha=>?_);obtain⟨H240,hS,hle240,hb240⟩:=hS.give;have hr238:=hr238.mono hle240;have hr240: RowT H240 (some ⟨b240,0,none⟩) 1 [q0]:=RowT.of_lit ([⟨q0,A238,c238⟩]: List TV) hb240 (AllR.cons hr238 (AllR.nil _)) (by simp) Y;exact qdone hle240 ha hS ⟨_,_,rfl,hr240⟩
 ·refine Qg 32 rfl fun a w H_ hle hS ha hd=>?_;obtain⟨_,ha,A240,c240,rfl,hr240⟩:=hd.g ha 34 rfl;exact Qd func47 ha Y (d9 (s:=⟨#[102]⟩) hS.inv.nil hr240) hS
 ·refine Qg 32 rfl fun a w H_ hle hS ha hd=>?_;obtain⟨_,ha,A241,c241,rfl,hr241⟩:=hd.g ha 35 rfl;refine id (aD (vs:= [(0,(tv q11 A241 c241))]) (cells:=(tL q11 A241 c241)) T22.und T26 hS ha (ha.evp Y) Y Y Y Y fun b243 a w hS ha=>?_);obtain⟨H243,hS,hle243,hb243⟩:=hS.give;have hr241:=hr241.mono hle243;have hr243: RowT H243 (some ⟨b243,0,none⟩) 1 [q11]:=RowT.of_lit ([⟨q11,A241,c241⟩]: List TV) hb243 (AllR.cons hr241 (AllR.nil _)) (by simp) Y;exact qdone hle243 ha hS ⟨_,_,rfl,hr243⟩
 ·refine Qg 32 rfl fun a w H_ hle hS ha hd=>?_;obtain⟨_,ha,A243,c243,rfl,hr243⟩:=hd.g ha 36 rfl;exact Qd func46 ha Y (aQ hS.inv.nil hr243) hS
 ·refine Qg 32 rfl fun a w H_ hle hS ha hd=>?_;obtain⟨_,ha,A244,c244,rfl,hr244⟩:=hd.g ha 37 rfl;have hk246:=cm hS.inv.nil hr244;rw [show stE k24=30 from by kernel_rfl] at hk246;exact Cs func16 ha Y (hk246) hS fun a w ha hS=>ql ha hS
 ·refine Qg 32 rfl fun a w H_ hle hS ha hd=>?_;obtain⟨_,ha,rfl⟩:=hd.g ha 38 rfl;exact a7 (i:=30) (j:=30) ha Y Y Y fun a ha=>ql ha hS
 ·refine Qy1 32 rfl fun a w H_ hle hS ha hd=>?_;obtain⟨_,ha,rfl⟩:=hd.g ha 39 rfl;exact ah ha Y Y Y fun a ha=>ql ha hS
 ·refine Qy1 40 rfl fun a w H_ hle hS ha hd=>?_;exact am ha Y Y fun a ha=>ql ha hS
 ·refine Qg 41 rfl fun a w H_ hle hS ha hd=>?_;exact Qd func39 ha Y (cd (n:=1) hS.inv.nil) hS
 ·refine Qg 41 rfl fun a w H_ hle hS ha hd=>?_;obtain⟨_,ha,A247,c247,rfl,hr247⟩:=hd.g ha 42 rfl;refine id (aD (vs:= [(0,(tv q1 A247 c247))]) (cells:=(tL q1 A247 c247)) T22.und T26 hS ha (ha.evp Y) Y Y Y Y fun b249 a w hS ha=>?_);obtain⟨H249,hS,hle249,hb249⟩:=hS.give;have hr247:=hr247.mono hle249;have hr249: RowT H249 (some ⟨b249,0,none⟩) 1 [q1]:=RowT.of_lit ([⟨q1,A247,c247⟩]: List TV) hb249 (AllR.cons hr247 (AllR.nil _)) (by simp) Y;exact qdone hle249 ha hS ⟨_,_,rfl,hr249⟩
 ·refine Qg 41 rfl fun a w H_ hle hS ha hd=>?_;obtain⟨_,ha,A249,c249,rfl,hr249⟩:=hd.g ha 43 rfl;exact Qd func47 ha Y (d9 (s:=⟨#[102]⟩) hS.inv.nil hr249) hS
 ·refine Qg 41 rfl fun a w H_ hle hS ha hd=>?_;exact Qd func23 ha Y (c_a (s:=⟨#[97]⟩) hS.inv.nil) hS
 ·refine Qg 41 rfl fun a w H_ hle hS ha hd=>?_;obtain⟨_,ha,A250,c250,rfl,hr250⟩:=hd.g ha 44 rfl;obtain⟨_,ha,A252,c252,rfl,hr252⟩:=hd.g ha 45 rfl;refine id (aD (vs:= [(0,(tv q25 A250 c250)),(1,(tv q4 A252 c252))]) (cells:= [(iV q25.kind),(iV q25.n),(.string q25.s),(.slice A250 q25.l.length c250),(iV q4.kind),(iV q4.n),(.string q4.s),(.slice A252 q4.l.length c252)]) T22.und T26 hS ha (ha.evp Y) Y Y Y Y fun b254 a w hS ha=>?_);obtain⟨H254,hS,hle254,hb254⟩:=hS.give;have hr250:=hr250.mono hle254;have hr252:=hr252.mono hle254;have hr254: RowT H254 (some ⟨b254,0,none⟩) 2 [q25,q4]:=RowT.of_lit ([⟨q25,A250,c250⟩,⟨q4,A252,c252⟩]: List TV) hb254 (AllR.cons hr250 (AllR.cons hr252 (AllR.nil _))) (by simp) Y;exact qdone hle254 ha hS ⟨_,_,rfl,hr254⟩
 ·refine Qg 41 rfl fun a w H_ hle hS ha hd=>?_;obtain⟨_,ha,A254,c254,rfl,hr254⟩:=hd.g ha 46 rfl;exact Qd func46 ha Y (aQ hS.inv.nil hr254) hS
 ·refine Qg 41 rfl fun a w H_ hle hS ha hd=>?_;obtain⟨_,ha,A255,c255,rfl,hr255⟩:=hd.g ha 47 rfl;have hk257:=cm hS.inv.nil hr255;rw [show stE k26=0 from by kernel_rfl] at hk257;exact Cs func16 ha Y (hk257) hS fun a w ha hS=>ql ha hS
 ·refine Qg 41 rfl fun a w H_ hle hS ha hd=>?_;obtain⟨_,ha,rfl⟩:=hd.g ha 48 rfl;exact a7 (i:=0) (j:=0) ha Y Y Y fun a ha=>ql ha hS
 ·refine Qy1 41 rfl fun a w H_ hle hS ha hd=>?_;obtain⟨_,ha,rfl⟩:=hd.g ha 49 rfl;exact ah ha Y Y Y fun a ha=>ql ha hS
 obtain⟨_,ha,rfl⟩:=Dd ha hdr_ 50 rfl;refine aa (an ha Y (wp_skip (aa (wp_seq ?_))));have hS:=hS.drop;have hS_:=hS;refine As.c_draw_head (ini:=(As.il [])) (sup:=(As.sl [(16,17)])) (als:= [16,17]) (s0:=⟨H258,fun _=>none⟩) (L:= [(some b1,(.cells aZ 26 (0,0)))]) (N:=386) (E:= [(1,(pB b1))]) 19 [As.lf (FcT q1),As.lf (fun H v=> ∃ A c,v=.slice A 1 c∧RowT H A c [q1]),As.lf (FcT q25),FcV vZ,As.lf (fun H v=> ∃ A c,v=.slice A 2 c∧RowT H A c [q25,tZ]),As.lf (fun H v=> ∃ A c,v=(.agg #[(.slice A k27.length c)])∧RowT H A c k27),FcV vZ,As.lf (FcT q4),As.lf (FcT q0),As.lf (fun H v=> ∃ A c,v=.slice A 3 c∧RowT H A c [tZ,q4,q0]),As.lf (fun H v=> ∃ A c,v=(.agg #[(.slice A k28.length c)])∧RowT H A c k28),As.lf (fun H v=> ∃ A c,v=(.tuple #[(.agg #[(.slice A k29.length c)]),(.bool true),(iV 0)])∧RowT H A c k29),As.lf (fun H v=> ∃ A c,v=(.tuple #[(.agg #[(.slice A k29.length c)]),(.bool true),(iV 0)])∧RowT H A c k29),As.lf (fun H v=> ∃ A c,v=(.agg #[(.slice A k29.length c)])∧RowT H A c k29),FcV (.bool true),FcV (iV 0),fun s v=> ∃ b,s.ax 16=some [(some b,(.cells #[(.slice none 0 0)] 24 (0,0)))]∧v=.pointer (some ⟨b,0,none⟩),fun s _=> ∃(b: Nat) (A: Option Addr) (c: Nat),s.ax 16=some [(some b,(.cells #[(.slice none 0 0)] 24 (0,0)))]∧s.ax 17=some [(some b,(.cells #[(.slice A k29.length c)] 24 (0,0)))]∧RowT s.H A c k29,FcV (.bool true)] mixed (by kernel_rfl) (by kernel_rfl) (by kernel_rfl) (by repeat' (first | exact As.Monos.nil | refine As.Monos.cons ?_ ?_ |(intro _ _ _ hl h;exact h) |(rintro _ _ _ hl ⟨A,c,h,hr⟩;exact⟨A,c,h,hr.mono hl.le⟩) |(rintro _ _ _ hl ⟨b,h,hb⟩;exact⟨b,h,hl.le _ _ hb⟩) | exact fun _ _ _ hl ⟨b,A,c,h1,h2,hr⟩=>⟨b,A,c,hl.get h1,hl.get h2,hr.mono hl.le⟩ | exact fun _ _ _ hl ⟨b,h,e⟩=>⟨b,hl.get h,e⟩)) (fun _=>rfl) hS (ha.pk Y) (As.QuietsI.c4 ?_ ?_ ?_ ?_ (As.QuietsI.c4 ?_ ?_ ?_ ?_ (As.QuietsI.c4 ?_ ?_ ?_ ?_ (As.QuietsI.c4 ?_ ?_ ?_ ?_ (As.QuietsI.c2 ?_ ?_ (As.QuietsI.cons ?_ (As.QuietsI.nil))))))) (fun f_ a w s_ hls hS ha hdr_=>?_)
 ·refine As.Qx Y fun a w H_ ax_ hle hax_ hS ha hd hls=>?_;have hSf:=hS;have hSr:=Step.dropN _ _ hS;have hk260:=cd (n:=1) hS.inv.nil;refine id (Co func39 ha Y (hk260) ?_);rintro e w ⟨H259,A259,c259,rfl,hr259,hc259⟩;refine⟨_,rfl,fun a ha=>?_⟩;have hS:=hS.call hc259;exact As.qdone (s:=⟨H_,ax_⟩) hc259.le ha hS ⟨A259,c259,rfl,hr259⟩
 ·refine As.Qx Y fun a w H_ ax_ hle hax_ hS ha hd hls=>?_;obtain⟨_,ha,A259,c259,rfl,hr259⟩:=hd.g ha 0 rfl;have hSf:=hS;have hSr:=Step.dropN _ _ hS;refine id (aD (vs:= [(0,(tv q1 A259 c259))]) (cells:=(tL q1 A259 c259)) T22.und T26 hS ha (ha.evp Y) Y Y Y Y fun b261 a w hS ha=>?_);obtain⟨H261,hS,hle261,hb261⟩:=hS.give;have hr259:=hr259.mono hle261;have hr261: RowT H261 (some ⟨b261,0,none⟩) 1 [q1]:=RowT.of_lit ([⟨q1,A259,c259⟩]: List TV) hb261 (AllR.cons hr259 (AllR.nil _)) (by simp) Y;exact As.qdone (s:=⟨H_,ax_⟩) hle261 ha hS ⟨_,_,rfl,hr261⟩
 ·refine As.Qx Y fun a w H_ ax_ hle hax_ hS ha hd hls=>?_;obtain⟨_,ha,A261,c261,rfl,hr261⟩:=hd.g ha 1 rfl;have hSf:=hS;have hSr:=Step.dropN _ _ hS;have hk263:=d9 (s:=⟨#[102]⟩) hS.inv.nil hr261;refine id (Co func47 ha Y (hk263) ?_);rintro e w ⟨H262,A262,c262,rfl,hr262,hc262⟩;refine⟨_,rfl,fun a ha=>?_⟩;have hS:=hS.call hc262;exact As.qdone (s:=⟨H_,ax_⟩) hc262.le ha hS ⟨A262,c262,rfl,hr262⟩
 ·refine As.Qx Y fun a w H_ ax_ hle hax_ hS ha hd hls=>?_;have hSf:=hS;have hS:=Step.dropN _ _ hS;exact ag (vs:=lZ) T26 Y ha Y (hS.blkL 0 rfl) Y (ae Y) Y fun a ha=>As.ql ha hSf
 ·refine As.Qx Y fun a w H_ ax_ hle hax_ hS ha hd hls=>?_;obtain⟨_,ha,A262,c262,rfl,hr262⟩:=hd.g ha 2 rfl;obtain⟨_,ha,rfl⟩:=hd.g ha 3 rfl;have hSf:=hS;have hSr:=Step.dropN _ _ hS;refine id (aD (vs:= [(0,(tv q25 A262 c262)),(1,vZ)]) (cells:= [(iV q25.kind),(iV q25.n),(.string q25.s),(.slice A262 q25.l.length c262),(iV 0),(iV 0),(.string (⟨#[]⟩)),(.slice none 0 0)]) T22.und T26 hS ha (ha.evp Y) Y Y Y Y fun b264 a w hS ha=>?_);obtain⟨H264,hS,hle264,hb264⟩:=hS.give;have hr262:=hr262.mono hle264;have hr264: RowT H264 (some ⟨b264,0,none⟩) 2 [q25,tZ]:=RowT.of_lit ([⟨q25,A262,c262⟩,⟨tZ,none,0⟩]: List TV) hb264 (AllR.cons hr262 (AllR.cons (RowT.nil _) (AllR.nil _))) (by simp) Y;exact As.qdone (s:=⟨H_,ax_⟩) hle264 ha hS ⟨_,_,rfl,hr264⟩
 ·refine As.Qx Y fun a w H_ ax_ hle hax_ hS ha hd hls=>?_;obtain⟨_,ha,A264,c264,rfl,hr264⟩:=hd.g ha 4 rfl;have hSf:=hS;have hSr:=Step.dropN _ _ hS;have hk266:=aQ hS.inv.nil hr264;refine id (Co func46 ha Y (hk266) ?_);rintro e w ⟨H265,A265,c265,rfl,hr265,hc265⟩;refine⟨_,rfl,fun a ha=>?_⟩;have hS:=hS.call hc265;exact As.qdone (s:=⟨H_,ax_⟩) hc265.le ha hS ⟨A265,c265,rfl,hr265⟩
 ·refine As.Qx Y fun a w H_ ax_ hle hax_ hS ha hd hls=>?_;have hSf:=hS;have hS:=Step.dropN _ _ hS;exact ag (vs:=lZ) T26 Y ha Y (hS.blkL 0 rfl) Y (ae Y) Y fun a ha=>As.ql ha hSf
 ·refine As.Qx Y fun a w H_ ax_ hle hax_ hS ha hd hls=>?_;have hSf:=hS;have hSr:=Step.dropN _ _ hS;have hk268:=c_a (s:=⟨#[97]⟩) hS.inv.nil;refine id (Co func23 ha Y (hk268) ?_);rintro e w ⟨H267,A267,c267,rfl,hr267,hc267⟩;refine⟨_,rfl,fun a ha=>?_⟩;have hS:=hS.call hc267;exact As.qdone (s:=⟨H_,ax_⟩) hc267.le ha hS ⟨A267,c267,rfl,hr267⟩
 ·refine As.Qx Y fun a w H_ ax_ hle hax_ hS ha hd hls=>?_;have hSf:=hS;have hSr:=Step.dropN _ _ hS;have hk270:=cd (n:=0) hS.inv.nil;refine id (Co func39 ha Y (hk270) ?_);rintro e w ⟨H269,A269,c269,rfl,hr269,hc269⟩;refine⟨_,rfl,fun a ha=>?_⟩;have hS:=hS.call hc269;exact As.qdone (s:=⟨H_,ax_⟩) hc269.le ha hS ⟨A269,c269,rfl,hr269⟩
 ·refine As.Qx1 6 rfl fun a w H_ ax_ hle hax_ hS ha hd hls=>?_;obtain⟨_,ha,A267,c267,rfl,hr267⟩:=hd.g ha 7 rfl;obtain⟨_,ha,A269,c269,rfl,hr269⟩:=hd.g ha 8 rfl;have hSf:=hS;have hSr:=Step.dropN _ _ hS;refine id (aD (vs:= [(0,vZ),(1,(tv q4 A267 c267)),(2,(tv q0 A269 c269))]) (cells:= [(iV 0),(iV 0),(.string (⟨#[]⟩)),(.slice none 0 0),(iV q4.kind),(iV q4.n),(.string q4.s),(.slice A267 q4.l.length c267),(iV q0.kind),(iV q0.n),(.string q0.s),(.slice A269 q0.l.length c269)]) T22.und T26 hS ha (ha.evp Y) Y Y Y Y fun b271 a w hS ha=>?_);obtain⟨H271,hS,hle271,hb271⟩:=hS.give;have hr267:=hr267.mono hle271;have hr269:=hr269.mono hle271;have hr271: RowT H271 (some ⟨b271,0,none⟩) 3 [tZ,q4,q0]:=RowT.of_lit ([⟨tZ,none,0⟩,⟨q4,A267,c267⟩,⟨q0,A269,c269⟩]: List TV) hb271 (AllR.cons (RowT.nil _) (AllR.cons hr267 (AllR.cons hr269 (AllR.nil _)))) (by simp) Y;exact As.qdone (s:=⟨H_,ax_⟩) hle271 ha hS ⟨_,_,rfl,hr271⟩
 ·refine As.Qx Y fun a w H_ ax_ hle hax_ hS ha hd hls=>?_;obtain⟨_,ha,A271,c271,rfl,hr271⟩:=hd.g ha 9 rfl;have hSf:=hS;have hSr:=Step.dropN _ _ hS;have hk273:=aQ hS.inv.nil hr271;refine id (Co func46 ha Y (hk273) ?_);rintro e w ⟨H272,A272,c272,rfl,hr272,hc272⟩;refine⟨_,rfl,fun a ha=>?_⟩;have hS:=hS.call hc272;exact As.qdone (s:=⟨H_,ax_⟩) hc272.le ha hS ⟨A272,c272,rfl,hr272⟩
 ·refine As.Qx Y fun a w H_ ax_ hle hax_ hS ha hd hls=>?_;obtain⟨_,ha,A265,c265,rfl,hr265⟩:=hd.g ha 5 rfl;obtain⟨_,ha,A272,c272,rfl,hr272⟩:=hd.g ha 10 rfl;have hSf:=hS;have hSr:=Step.dropN _ _ hS;have hk275:=c_Merge hS.inv.nil hr265 hr272;rw [show (mergeU k27 k28).1.2=true from by kernel_rfl] at hk275;rw [show (mergeU k27 k28).2=0 from by kernel_rfl] at hk275;refine id (Co func19 ha Y (hk275) ?_);rintro e w ⟨H274,A274,c274,rfl,hr274,hc274⟩;refine⟨_,rfl,fun a ha=>?_⟩;have hS:=hS.call hc274;exact As.qdone (s:=⟨H_,ax_⟩) hc274.le ha hS ⟨A274,c274,rfl,hr274⟩
 ·refine As.Qx Y fun a w H_ ax_ hle hax_ hS ha hd hls=>?_;obtain⟨_,ha,A274,c274,rfl,hr274⟩:=hd.g ha 11 rfl;have hSf:=hS;refine id (am ha Y Y fun a ha=>?_);exact As.qdone (s:=⟨H_,ax_⟩) (Le.refl _) ha hSf ⟨A274,c274,rfl,hr274⟩
 ·refine As.Qx Y fun a w H_ ax_ hle hax_ hS ha hd hls=>?_;obtain⟨_,ha,A274,c274,rfl,hr274⟩:=hd.g ha 12 rfl;have hSf:=hS;refine id (ao (v:=(.agg #[(.slice A274 k29.length c274)])) ha Y Y Y fun a ha=>?_);exact As.qdone (s:=⟨H_,ax_⟩) (Le.refl _) ha hSf ⟨A274,c274,rfl,hr274⟩
 ·refine As.Qx Y fun a w H_ ax_ hle hax_ hS ha hd hls=>?_;obtain⟨_,ha,A274,c274,rfl,hr274⟩:=hd.g ha 12 rfl;have hSf:=hS;exact ao (v:=(.bool true)) ha Y Y Y fun a ha=>As.ql ha hSf
 ·refine As.Qx Y fun a w H_ ax_ hle hax_ hS ha hd hls=>?_;obtain⟨_,ha,A274,c274,rfl,hr274⟩:=hd.g ha 12 rfl;have hSf:=hS;exact ao (v:=(iV 0)) ha Y Y Y fun a ha=>As.ql ha hSf
 ·refine As.Qx Y fun a w H_ ax_ hle hax_ hS ha hd hls=>?_;have hS: Step w0 H [] w H_ ((As.aents (As.il []) (As.sl [(16,17)]) [] ax_++As.aents (As.il []) (As.sl [(16,17)]) [17] ax_++ [(some b1,(.cells aZ 26 (0,0)))])):=As.opn (s:=⟨H_,ax_⟩) [] [16] [17] [] rfl (As.con0 hax_ Y) hS;refine aC (cs:= #[(.slice none 0 0)]) T24 hS ha Y Y fun ab276 a w hS ha=>?_;exact As.qown (i:=16) (dst:=some 16) (s:=⟨H_,ax_⟩) (E:= [(some ab276,(.cells #[(.slice none 0 0)] 24 (0,0)))]) [] [16] [17] rfl Y hax_ (Le.refl _) ha.dfr (As.has_at ha) hS As.con1 ⟨ab276,rfl,rfl⟩
 ·refine As.Qx Y fun a w H_ ax_ hle hax_ hS ha hd hls=>?_;obtain⟨_,ha,ab276,hx_ab276,rfl⟩:=hd.g ha 16 rfl;have hx_ab276: ax_ 16=some [(some ab276,(.cells #[(.slice none 0 0)] 24 (0,0)))]:=hx_ab276;obtain⟨_,ha,A274,c274,rfl,hr274⟩:=hd.g ha 13 rfl;have hS: Step w0 H [] w H_ ((some ab276,(.cells #[(.slice none 0 0)] 24 (0,0)))::(As.aents (As.il []) (As.sl [(16,17)]) [] ax_++As.aents (As.il []) (As.sl [(16,17)]) [] ax_++ [(some b1,(.cells aZ 26 (0,0)))])):=As.opn (s:=⟨H_,ax_⟩) [] [16,17] [] [(some ab276,(.cells #[(.slice none 0 0)] 24 (0,0)))] rfl (As.con2 Y Y Y hx_ab276 hax_) hS;refine id (aw (cs':= #[(.slice A274 k29.length c274)]) T24 hS (i:=0) Y ha Y Y Y Y Y Y fun a w hS ha=>?_);exact As.qown (i:=17) (dst:=none) (s:=⟨H_,ax_⟩) (E:= [(some ab276,(.cells #[(.slice A274 k29.length c274)] 24 (0,0)))]) [] [16,17] [] rfl Y hax_ (Le.refl _) ha.dfr (v:=undef) (fun _ h=>by cases h) hS (.inl (As.con2' Y Y)) ⟨ab276,A274,c274,hx_ab276,rfl,hr274⟩
 ·refine As.Qx1 14 rfl fun a w H_ ax_ hle hax_ hS ha hd hls=>?_;have hSf:=hS;exact aB ha Y Y fun a ha=>As.ql ha hSf
 obtain⟨H280,ax_⟩:=s_;have hle280: Le H258 H280:=hls.le;dsimp only at hdr_ hS;obtain⟨_,ha,rfl⟩:=As.Dd ha hdr_ 15 rfl;obtain⟨_,ha,ab276,hx_ab276,rfl⟩:=As.Dd ha hdr_ 16 rfl;have hx_ab276: ax_ 16=some [(some ab276,(.cells #[(.slice none 0 0)] 24 (0,0)))]:=hx_ab276;obtain⟨_,hv_,sb278,A274,c274,hq_sb278,hx_sb278,hr274⟩:=hdr_ 17 _ _ Y Y;have hx_sb278: ax_ 17=some [(some sb278,(.cells #[(.slice A274 k29.length c274)] 24 (0,0)))]:=hx_sb278;obtain rfl: ab276=sb278:=by have h_:=(hx_ab276).symm.trans hq_sb278;simpa using h_
 obtain⟨_,ha,rfl⟩:=As.Dd ha hdr_ 18 rfl;have hS: Step w0 H [] w H280 [(some ab276,(.cells #[(.slice A274 k29.length c274)] 24 (0,0))),(some b1,(.cells aZ 26 (0,0)))]:=by
  have h_:=hS;unfold As.aents at h_;simp only [List.flatMap_cons,List.flatMap_nil,As.conE,show (As.sl [(16,17)]) 16=some 17 from rfl,show (As.sl [(16,17)]) 17=none from rfl,hx_ab276,hx_sb278,Option.isSome_some,Option.getD_some,cond_true,cond_false,List.cons_append,List.nil_append,List.append_nil] at h_;exact h_
 refine any1 (i:=19) (by kernel_rfl) Y Y (aB ha Y Y fun a ha=>?_);refine any0 (by kernel_rfl) ?_;refine aa (wp_seq ?_);have hS_:=hS;refine bE cC [FcT q4,FcT q4,fun H v=> ∃ A c,v=.slice A 2 c∧RowT H A c [q4,q4],fun H v=> ∃ A c,v=(.agg #[(.slice A k30.length c)])∧RowT H A c k30,FcV vZ,FcT q0,fun H v=> ∃ A c,v=.slice A 2 c∧RowT H A c [tZ,q0],fun H v=> ∃ A c,v=(.agg #[(.slice A k31.length c)])∧RowT H A c k31,FcV (.tuple #[(.bool true),(iV 0)]),FcV (.tuple #[(.bool true),(iV 0)]),FcV (.bool true),FcV (iV 0),FcV (.bool true),FcV (iV 0)] (N:=386) (E:= [(1,(pB b1)),(4,(iV 0)),(16,(pB ab276)),(17,(.bool true))]) mixed (by kernel_rfl) (by repeat' (first | exact Monos.nil | refine Monos.cons ?_ ?_ |(intro _ _ _ hl h;exact h) |(rintro _ _ _ hl ⟨A,c,h,hr⟩;exact⟨A,c,h,hr.mono hl⟩) |(rintro _ _ _ hl ⟨b,h,hb⟩;exact⟨b,h,hl _ _ hb⟩))) hS (ha.pk Y) (.c4 ?_ ?_ ?_ ?_ (.c4 ?_ ?_ ?_ ?_ (.c4 ?_ ?_ ?_ ?_ (.c2 ?_ ?_ (.nil))))) (fun a w H295 hle295 hS ha hdr_=>?_)
 ·refine Qy Y fun a w H_ hle hS ha hd=>?_;exact Qd func23 ha Y (c_a (s:=⟨#[97]⟩) hS.inv.nil) hS
 ·refine Qy Y fun a w H_ hle hS ha hd=>?_;exact Qd func23 ha Y (c_a (s:=⟨#[97]⟩) hS.inv.nil) hS
 ·refine Qy Y fun a w H_ hle hS ha hd=>?_;obtain⟨_,ha,A281,c281,rfl,hr281⟩:=hd.g ha 0 rfl;obtain⟨_,ha,A283,c283,rfl,hr283⟩:=hd.g ha 1 rfl;refine id (aD (vs:= [(0,(tv q4 A281 c281)),(1,(tv q4 A283 c283))]) (cells:= [(iV q4.kind),(iV q4.n),(.string q4.s),(.slice A281 q4.l.length c281),(iV q4.kind),(iV q4.n),(.string q4.s),(.slice A283 q4.l.length c283)]) T22.und T26 hS ha (ha.evp Y) Y Y Y Y fun b285 a w hS ha=>?_);obtain⟨H285,hS,hle285,hb285⟩:=hS.give;have hr281:=hr281.mono hle285;have hr283:=hr283.mono hle285;have hr285: RowT H285 (some ⟨b285,0,none⟩) 2 [q4,q4]:=RowT.of_lit ([⟨q4,A281,c281⟩,⟨q4,A283,c283⟩]: List TV) hb285 (AllR.cons hr281 (AllR.cons hr283 (AllR.nil _))) (by simp) Y;exact qdone hle285 ha hS ⟨_,_,rfl,hr285⟩
 ·refine Qy Y fun a w H_ hle hS ha hd=>?_;obtain⟨_,ha,A285,c285,rfl,hr285⟩:=hd.g ha 2 rfl;exact Qd func46 ha Y (aQ hS.inv.nil hr285) hS
 ·refine Qy Y fun a w H_ hle hS ha hd=>?_;exact ag (vs:=lZ) T26 Y ha Y (hS.blkL 1 rfl) Y (ae Y) Y fun a ha=>ql ha hS
 ·refine Qy Y fun a w H_ hle hS ha hd=>?_;exact Qd func39 ha Y (cd (n:=0) hS.inv.nil) hS
 ·refine Qy1 4 rfl fun a w H_ hle hS ha hd=>?_;obtain⟨_,ha,A288,c288,rfl,hr288⟩:=hd.g ha 5 rfl;refine id (aD (vs:= [(0,vZ),(1,(tv q0 A288 c288))]) (cells:= [(iV 0),(iV 0),(.string (⟨#[]⟩)),(.slice none 0 0),(iV q0.kind),(iV q0.n),(.string q0.s),(.slice A288 q0.l.length c288)]) T22.und T26 hS ha (ha.evp Y) Y Y Y Y fun b290 a w hS ha=>?_);obtain⟨H290,hS,hle290,hb290⟩:=hS.give;have hr288:=hr288.mono hle290;have hr290: RowT H290 (some ⟨b290,0,none⟩) 2 [tZ,q0]:=RowT.of_lit ([⟨tZ,none,0⟩,⟨q0,A288,c288⟩]: List TV) hb290 (AllR.cons (RowT.nil _) (AllR.cons hr288 (AllR.nil _))) (by simp) Y;exact qdone hle290 ha hS ⟨_,_,rfl,hr290⟩
 ·refine Qy Y fun a w H_ hle hS ha hd=>?_;obtain⟨_,ha,A290,c290,rfl,hr290⟩:=hd.g ha 6 rfl;exact Qd func46 ha Y (aQ hS.inv.nil hr290) hS
 ·refine Qy Y fun a w H_ hle hS ha hd=>?_;obtain⟨_,ha,A286,c286,rfl,hr286⟩:=hd.g ha 3 rfl;obtain⟨_,ha,A291,c291,rfl,hr291⟩:=hd.g ha 7 rfl;have hk294:=c_Implies hS.inv.nil hr286 hr291;rw [show (impU k30 k31)=(true,0) from by kernel_rfl] at hk294;refine id (Co func49 ha Y (hk294) ?_);rintro e w ⟨H293,rfl,hc293⟩;refine⟨_,rfl,fun a ha=>?_⟩;have hS:=hS.call hc293;exact qdone hc293.le ha hS Y
 ·refine Qy1 8 rfl fun a w H_ hle hS ha hd=>?_;exact am ha Y Y fun a ha=>ql ha hS
 ·refine Qy1 9 rfl fun a w H_ hle hS ha hd=>?_;exact ao (v:=(.bool true)) ha Y Y Y fun a ha=>ql ha hS
 ·refine Qy1 9 rfl fun a w H_ hle hS ha hd=>?_;exact ao (v:=(iV 0)) ha Y Y Y fun a ha=>ql ha hS
 ·refine Qy1 10 rfl fun a w H_ hle hS ha hd=>?_;exact aB ha Y Y fun a ha=>ql ha hS
 ·refine Qy1 11 rfl fun a w H_ hle hS ha hd=>?_;exact aB ha Y Y fun a ha=>ql ha hS
 have hr274:=hr274.mono hle295;obtain⟨_,ha,rfl⟩:=Dd ha hdr_ 12 rfl;obtain⟨_,ha,rfl⟩:=Dd ha hdr_ 13 rfl;refine aa (wp_seq (ab (lin Y (ag (vs:=lZ) T26 Y ha Y (hS.blkL 1 rfl) Y (ae Y) Y fun a ha=>?_))));refine lin Y (aD (vs:= [(0,vZ)]) (cells:=lZ) T22.und T26 hS ha (ha.evp Y) Y Y Y Y fun b296 a w hS ha=>?_);obtain⟨H296,hS,hle296,hb296⟩:=hS.give;have hr274:=hr274.mono hle296;have hr296: RowT H296 (some ⟨b296,0,none⟩) 1 [tZ]:=RowT.of_lit ([⟨tZ,none,0⟩]: List TV) hb296 (AllR.cons (RowT.nil _) (AllR.nil _)) (by simp) Y;have hk298:=aQ hS.inv.nil hr296;refine lin Y (Co func46 ha Y (hk298) ?_);rintro e w ⟨H297,A297,c297,rfl,hr297,hc297⟩;refine⟨_,rfl,fun a ha=>?_⟩;have hS:=hS.call hc297;have hr274:=hr274.mono hc297.le;have hk300:=c_Open hS.inv.nil hr297;rw [show stE k32=0 from by kernel_rfl] at hk300;refine lin Y (Co func31 ha Y (hk300) ?_);rintro e w ⟨H299,L299,p299,rfl,hp299, -,hc299⟩;obtain⟨pw,rfl,hz⟩:=hp299 Y;refine⟨_,rfl,fun a ha=>?_⟩;have hS:=(Step.frame (Lc:= []) (R:= [(some ab276,(.cells #[(.slice A274 k29.length c274)] 24 (0,0))),(some b1,(.cells aZ 26 (0,0)))]) hS hc299).perm List.perm_append_comm;have hr274:=hr274.mono hc299.le;refine Lm Y ha fun a ha=>?_;refine lin Y (ao (v:=(pB pw)) ha Y Y Y fun a ha=>?_);refine lin Y (ao (v:=(iV 0)) ha Y Y Y fun a ha=>?_);refine Ls Y ha fun a ha=>?_;refine Ls Y ha fun a ha=>?_;refine wpList_nil (aa (wp_seq (wp_seq ?_)));have hS_:=hS;refine bE cC [FcV (iV 0),FcV (.bool false),FcV (.bool false),FcV (iV 0),FcV (.bool false),FcV (.bool false),FcV (.bool false),FcV (iV 0),FcV (.bool false),FcV (.bool false),FcV (.bool false),FcV (.bool true),FcV (.bool false),FcV (.bool false),FcV (.bool false),FcV (.bool true),FcV (.bool false),FcV (.bool false),FcV (.bool false),FcV (pB pw),FcV (.bool false),FcV (.bool false),FcV (.bool false),FcV (.agg #[(.slice A274 k29.length c274)]),FcT q1,fun H v=> ∃ A c,v=.slice A 1 c∧RowT H A c [q1],FcT q25,FcT q4,FcT q1,fun H v=> ∃ A c,v=.slice A 1 c∧RowT H A c [q1],FcT q25,fun H v=> ∃ A c,v=.slice A 3 c∧RowT H A c [q25,q4,q25],fun H v=> ∃ A c,v=(.agg #[(.slice A k33.length c)])∧RowT H A c k33,FcV (.bool true),FcV (.bool false),FcV (.bool false)] (N:=386) (E:= [(1,(pB b1)),(4,(iV 0)),(6,(iV 0)),(8,(iV 0)),(16,(pB ab276)),(17,(.bool true)),(18,(.bool true)),(19,(pB pw))]) mixed (by kernel_rfl) (by repeat' (first | exact Monos.nil | refine Monos.cons ?_ ?_ |(intro _ _ _ hl h;exact h) |(rintro _ _ _ hl ⟨A,c,h,hr⟩;exact⟨A,c,h,hr.mono hl⟩) |(rintro _ _ _ hl ⟨b,h,hb⟩;exact⟨b,h,hl _ _ hb⟩))) hS (ha.pk Y) (.c4 ?_ ?_ ?_ ?_ (.c4 ?_ ?_ ?_ ?_ (.c4 ?_ ?_ ?_ ?_ (.c4 ?_ ?_ ?_ ?_ (.c4 ?_ ?_ ?_ ?_ (.c4 ?_ ?_ ?_ ?_ (.c4 ?_ ?_ ?_ ?_ (.c4 ?_ ?_ ?_ ?_ (.c4 ?_ ?_ ?_ ?_ (.nil)))))))))) (fun a w H317 hle317 hS ha hdr_=>?_)
 ·refine Qy Y fun a w H_ hle hS ha hd=>?_;exact am ha Y Y fun a ha=>ql ha hS
 ·refine Qy1 0 rfl fun a w H_ hle hS ha hd=>?_;exact a7 (i:=0) (j:=0) ha Y Y Y fun a ha=>ql ha hS
 ·refine Qy1 1 rfl fun a w H_ hle hS ha hd=>?_;exact am ha Y Y fun a ha=>ql ha hS
 ·refine Qg 2 rfl fun a w H_ hle hS ha hd=>?_;exact am ha Y Y fun a ha=>ql ha hS
 ·refine Qg 2 rfl fun a w H_ hle hS ha hd=>?_;obtain⟨_,ha,rfl⟩:=hd.g ha 3 rfl;exact a7 (i:=0) (j:=0) ha Y Y Y fun a ha=>ql ha hS
 ·refine Qy1 2 rfl fun a w H_ hle hS ha hd=>?_;obtain⟨_,ha,rfl⟩:=hd.g ha 4 rfl;exact ah ha Y Y Y fun a ha=>ql ha hS
 ·refine Qy1 5 rfl fun a w H_ hle hS ha hd=>?_;exact am ha Y Y fun a ha=>ql ha hS
 ·refine Qg 6 rfl fun a w H_ hle hS ha hd=>?_;exact am ha Y Y fun a ha=>ql ha hS
 ·refine Qg 6 rfl fun a w H_ hle hS ha hd=>?_;obtain⟨_,ha,rfl⟩:=hd.g ha 7 rfl;exact a7 (i:=0) (j:=0) ha Y Y Y fun a ha=>ql ha hS
 ·refine Qy1 6 rfl fun a w H_ hle hS ha hd=>?_;obtain⟨_,ha,rfl⟩:=hd.g ha 8 rfl;exact ah ha Y Y Y fun a ha=>ql ha hS
 ·refine Qy1 9 rfl fun a w H_ hle hS ha hd=>?_;exact am ha Y Y fun a ha=>ql ha hS
 ·refine Qg 10 rfl fun a w H_ hle hS ha hd=>?_;exact am ha Y Y fun a ha=>ql ha hS
 ·refine Qg 10 rfl fun a w H_ hle hS ha hd=>?_;obtain⟨_,ha,rfl⟩:=hd.g ha 11 rfl;exact aJ ha Y Y fun a ha=>ql ha hS
 ·refine Qy1 10 rfl fun a w H_ hle hS ha hd=>?_;obtain⟨_,ha,rfl⟩:=hd.g ha 12 rfl;exact ah ha Y Y Y fun a ha=>ql ha hS
 ·refine Qy1 13 rfl fun a w H_ hle hS ha hd=>?_;exact am ha Y Y fun a ha=>ql ha hS
 ·refine Qg 14 rfl fun a w H_ hle hS ha hd=>?_;exact am ha Y Y fun a ha=>ql ha hS
 ·refine Qg 14 rfl fun a w H_ hle hS ha hd=>?_;obtain⟨_,ha,rfl⟩:=hd.g ha 15 rfl;exact aJ ha Y Y fun a ha=>ql ha hS
 ·refine Qy1 14 rfl fun a w H_ hle hS ha hd=>?_;obtain⟨_,ha,rfl⟩:=hd.g ha 16 rfl;exact ah ha Y Y Y fun a ha=>ql ha hS
 ·refine Qy1 17 rfl fun a w H_ hle hS ha hd=>?_;exact am ha Y Y fun a ha=>ql ha hS
 ·refine Qg 18 rfl fun a w H_ hle hS ha hd=>?_;exact am ha Y Y fun a ha=>ql ha hS
 ·refine Qg 18 rfl fun a w H_ hle hS ha hd=>?_;obtain⟨_,ha,rfl⟩:=hd.g ha 19 rfl;exact bO T56.und T105 ha Y Y Y fun a ha=>ql ha hS
 ·refine Qy1 18 rfl fun a w H_ hle hS ha hd=>?_;obtain⟨_,ha,rfl⟩:=hd.g ha 20 rfl;exact ah ha Y Y Y fun a ha=>ql ha hS
 ·refine Qy1 21 rfl fun a w H_ hle hS ha hd=>?_;exact am ha Y Y fun a ha=>ql ha hS
 ·refine Qg 22 rfl fun a w H_ hle hS ha hd=>?_;exact ag (vs:= [(.slice A274 k29.length c274)]) T24 Y ha Y (hS.blkL 0 rfl) Y (ae Y) Y fun a ha=>ql ha hS
 ·refine Qg 22 rfl fun a w H_ hle hS ha hd=>?_;exact Qd func39 ha Y (cd (n:=1) hS.inv.nil) hS
 ·refine Qg 22 rfl fun a w H_ hle hS ha hd=>?_;obtain⟨_,ha,A301,c301,rfl,hr301⟩:=hd.g ha 24 rfl;refine id (aD (vs:= [(0,(tv q1 A301 c301))]) (cells:=(tL q1 A301 c301)) T22.und T26 hS ha (ha.evp Y) Y Y Y Y fun b303 a w hS ha=>?_);obtain⟨H303,hS,hle303,hb303⟩:=hS.give;have hr301:=hr301.mono hle303;have hr303: RowT H303 (some ⟨b303,0,none⟩) 1 [q1]:=RowT.of_lit ([⟨q1,A301,c301⟩]: List TV) hb303 (AllR.cons hr301 (AllR.nil _)) (by simp) Y;exact qdone hle303 ha hS ⟨_,_,rfl,hr303⟩
 ·refine Qg 22 rfl fun a w H_ hle hS ha hd=>?_;obtain⟨_,ha,A303,c303,rfl,hr303⟩:=hd.g ha 25 rfl;exact Qd func47 ha Y (d9 (s:=⟨#[102]⟩) hS.inv.nil hr303) hS
 ·refine Qg 22 rfl fun a w H_ hle hS ha hd=>?_;exact Qd func23 ha Y (c_a (s:=⟨#[97]⟩) hS.inv.nil) hS
 ·refine Qg 22 rfl fun a w H_ hle hS ha hd=>?_;exact Qd func39 ha Y (cd (n:=1) hS.inv.nil) hS
 ·refine Qg 22 rfl fun a w H_ hle hS ha hd=>?_;obtain⟨_,ha,A308,c308,rfl,hr308⟩:=hd.g ha 28 rfl;refine id (aD (vs:= [(0,(tv q1 A308 c308))]) (cells:=(tL q1 A308 c308)) T22.und T26 hS ha (ha.evp Y) Y Y Y Y fun b310 a w hS ha=>?_);obtain⟨H310,hS,hle310,hb310⟩:=hS.give;have hr308:=hr308.mono hle310;have hr310: RowT H310 (some ⟨b310,0,none⟩) 1 [q1]:=RowT.of_lit ([⟨q1,A308,c308⟩]: List TV) hb310 (AllR.cons hr308 (AllR.nil _)) (by simp) Y;exact qdone hle310 ha hS ⟨_,_,rfl,hr310⟩
 ·refine Qg 22 rfl fun a w H_ hle hS ha hd=>?_;obtain⟨_,ha,A310,c310,rfl,hr310⟩:=hd.g ha 29 rfl;exact Qd func47 ha Y (d9 (s:=⟨#[102]⟩) hS.inv.nil hr310) hS
 ·refine Qg 22 rfl fun a w H_ hle hS ha hd=>?_;obtain⟨_,ha,A304,c304,rfl,hr304⟩:=hd.g ha 26 rfl;obtain⟨_,ha,A306,c306,rfl,hr306⟩:=hd.g ha 27 rfl;obtain⟨_,ha,A311,c311,rfl,hr311⟩:=hd.g ha 30 rfl;refine id (aD (vs:= [(0,(tv q25 A304 c304)),(1,(tv q4 A306 c306)),(2,(tv q25 A311 c311))]) (cells:= [(iV q25.kind),(iV q25.n),(.string q25.s),(.slice A304 q25.l.length c304),(iV q4.kind),(iV q4.n),(.string q4.s),(.slice A306 q4.l.length c306),(iV q25.kind),(iV q25.n),(.string q25.s),(.slice A311 q25.l.length c311)]) T22.und T26 hS ha (ha.evp Y) Y Y Y Y fun b313 a w hS ha=>?_);obtain⟨H313,hS,hle313,hb313⟩:=hS.give;have hr304:=hr304.mono hle313;have hr306:=hr306.mono hle313;have hr311:=hr311.mono hle313;have hr313: RowT H313 (some ⟨b313,0,none⟩) 3 [q25,q4,q25]:=RowT.of_lit ([⟨q25,A304,c304⟩,⟨q4,A306,c306⟩,⟨q25,A311,c311⟩]: List TV) hb313 (AllR.cons hr304 (AllR.cons hr306 (AllR.cons hr311 (AllR.nil _)))) (by simp) Y;exact qdone hle313 ha hS ⟨_,_,rfl,hr313⟩
 ·refine Qg 22 rfl fun a w H_ hle hS ha hd=>?_;obtain⟨_,ha,A313,c313,rfl,hr313⟩:=hd.g ha 31 rfl;exact Qd func46 ha Y (aQ hS.inv.nil hr313) hS
 ·refine Qg 22 rfl fun a w H_ hle hS ha hd=>?_;obtain⟨_,ha,rfl⟩:=hd.g ha 23 rfl;obtain⟨_,ha,A314,c314,rfl,hr314⟩:=hd.g ha 32 rfl;have hr274:=hr274.mono hle;have hk316:=aL hS.inv.nil hr274 hr314;rw [show eqL k29 k33=true from by kernel_rfl] at hk316;exact Cs func28 ha Y (hk316) hS fun a w ha hS=>ql ha hS
 ·refine Qg 22 rfl fun a w H_ hle hS ha hd=>?_;obtain⟨_,ha,rfl⟩:=hd.g ha 33 rfl;exact aJ ha Y Y fun a ha=>ql ha hS
 ·refine Qy1 22 rfl fun a w H_ hle hS ha hd=>?_;obtain⟨_,ha,rfl⟩:=hd.g ha 34 rfl;exact ah ha Y Y Y fun a ha=>ql ha hS
 have hz:=ZS.mono hz (hle317);obtain⟨_,ha,rfl⟩:=Dd ha hdr_ 35 rfl;refine aa (an ha Y (wp_skip (aa (wp_seq (ab (Lm Y ha fun a ha=>?_))))));have hk319:=c_Var (Inv.tail (Es:= [(some ab276,(.cells #[(.slice A274 k29.length c274)] 24 (0,0))),(some b1,(.cells aZ 26 (0,0)))]) hS.inv) hz (Nat.le_of_ble_eq_true (by kernel_rfl));rw [show (sVar k32 ([])).2.1=1 from by kernel_rfl] at hk319;rw [show (sVar k32 ([])).2.2=0 from by kernel_rfl] at hk319;refine lin Y (Co func34 ha Y (hk319) ?_);rintro e w ⟨H318,L318,rfl,hz318,hc318⟩;refine⟨_,rfl,fun a ha=>?_⟩;have hS:=Step.call_tail (Es:= [(some ab276,(.cells #[(.slice A274 k29.length c274)] 24 (0,0))),(some b1,(.cells aZ 26 (0,0)))]) hS hc318;have hz:=hz318;refine Lm Y ha fun a ha=>?_;refine lin Y (ao (v:=(iV 1)) ha Y Y Y fun a ha=>?_);refine lin Y (ao (v:=(iV 0)) ha Y Y Y fun a ha=>?_);refine Ls Y ha fun a ha=>?_;refine Ls Y ha fun a ha=>?_;refine wpList_nil (aa (wp_seq (ab (Lm Y ha fun a ha=>?_))));have hk321:=cd (n:=0) hS.inv.nil;refine lin Y (Co func39 ha Y (hk321) ?_);rintro e w ⟨H320,A320,c320,rfl,hr320,hc320⟩;refine⟨_,rfl,fun a ha=>?_⟩;have hS:=hS.call hc320;have hz:=ZS.mono hz (hc320.le);have hk323:=cd (n:=1) hS.inv.nil;refine lin Y (Co func39 ha Y (hk323) ?_);rintro e w ⟨H322,A322,c322,rfl,hr322,hc322⟩;refine⟨_,rfl,fun a ha=>?_⟩;have hS:=hS.call hc322;have hr320:=hr320.mono hc322.le;have hz:=ZS.mono hz (hc322.le);have hk325:=c_SUnify (Inv.tail (Es:= [(some ab276,(.cells #[(.slice A274 k29.length c274)] 24 (0,0))),(some b1,(.cells aZ 26 (0,0)))]) hS.inv) hz (Gst.ofB (by kernel_rfl) (by kernel_rfl)) (GS.of (by kernel_rfl) (by kernel_rfl)) hr320 hr322;rw [show (sUni k34 k35 q0 q1).2.1=true from by kernel_rfl] at hk325;rw [show (sUni k34 k35 q0 q1).2.2=0 from by kernel_rfl] at hk325;refine lin Y (Co func35 ha Y (hk325) ?_);rintro e w ⟨H324,L324,rfl,hz324,hc324⟩;refine⟨_,rfl,fun a ha=>?_⟩;have hS:=Step.call_tail (Es:= [(some ab276,(.cells #[(.slice A274 k29.length c274)] 24 (0,0))),(some b1,(.cells aZ 26 (0,0)))]) hS hc324;have hz:=hz324;refine Lm Y ha fun a ha=>?_;refine lin Y (ao (v:=(.bool true)) ha Y Y Y fun a ha=>?_);refine lin Y (ao (v:=(iV 0)) ha Y Y Y fun a ha=>?_);refine Ls Y ha fun a ha=>?_;refine Ls Y ha fun a ha=>?_;refine wpList_nil (aa (wp_seq ?_));have hS:=hS.drop;have hS_:=hS;refine c_draw_head (N:=386) (E:= [(1,(pB b1)),(4,(iV 0)),(6,(iV 0)),(19,(pB pw)),(20,(iV 1)),(21,(.bool true))]) br 20 [FcV (iV 0),FcV (.bool true),FcV (.bool true),FcV (iV 0),FcV (.bool true),FcV (.bool true),FcV (.bool true),FcV (iV 1),FcV (.bool true),FcV (.bool true),FcV (.bool true),FcV (.bool true),FcV (.bool true),FcV (.bool true),FcV (pB pw),FcV (iV 2),FcV (.bool true),FcV (.bool true),FcV (.bool true),FcV (pB pw)] mixed Y Y Y (by repeat' (first | exact Monos.nil | refine Monos.cons ?_ ?_ |(intro _ _ _ hl h;exact h) |(rintro _ _ _ hl ⟨A,c,h,hr⟩;exact⟨A,c,h,hr.mono hl⟩) |(rintro _ _ _ hl ⟨b,h,hb⟩;exact⟨b,h,hl _ _ hb⟩))) hS (ha.pk Y) (Quiets.c4 ?_ ?_ ?_ ?_ (Quiets.c4 ?_ ?_ ?_ ?_ (Quiets.c4 ?_ ?_ ?_ ?_ (Quiets.c4 ?_ ?_ ?_ ?_ (Quiets.c4 ?_ ?_ ?_ ?_ (Quiets.nil)))))) (fun f_ a w H328 hle328 hS ha hdr_=>?_)
 ·refine Qz Y fun a w hS ha hd=>?_;exact am ha Y Y fun a ha=>qe ha hS
 ·refine Qz1 0 rfl fun a w hS ha hd=>?_;exact aV (i:=0) (j:=0) ha Y Y Y fun a ha=>qe ha hS
 ·refine Qz1 1 rfl fun a w hS ha hd=>?_;exact am ha Y Y fun a ha=>qe ha hS
 ·intro a w H_ hle hS ha hd;subst hle;obtain⟨_,ha,rfl⟩:=hd.g ha 2 rfl;rw [if_pos (ai Y ha Y Y Y)];exact am ha Y Y fun a ha=>qe ha hS
 ·intro a w H_ hle hS ha hd;subst hle;obtain⟨_,ha,rfl⟩:=hd.g ha 3 rfl;obtain⟨_,ha,rfl⟩:=hd.g ha 2 rfl;rw [if_pos (ai Y ha Y Y Y)];exact aV (i:=0) (j:=0) ha Y Y Y fun a ha=>qe ha hS
 ·refine Qz1 2 rfl fun a w hS ha hd=>?_;obtain⟨_,ha,rfl⟩:=hd.g ha 4 rfl;exact aj ha Y Y Y fun a ha=>qe ha hS
 ·refine Qz1 5 rfl fun a w hS ha hd=>?_;exact am ha Y Y fun a ha=>qe ha hS
 ·intro a w H_ hle hS ha hd;subst hle;obtain⟨_,ha,rfl⟩:=hd.g ha 6 rfl;rw [if_pos (ai Y ha Y Y Y)];exact am ha Y Y fun a ha=>qe ha hS
 ·intro a w H_ hle hS ha hd;subst hle;obtain⟨_,ha,rfl⟩:=hd.g ha 7 rfl;obtain⟨_,ha,rfl⟩:=hd.g ha 6 rfl;rw [if_pos (ai Y ha Y Y Y)];exact aV (i:=1) (j:=1) ha Y Y Y fun a ha=>qe ha hS
 ·refine Qz1 6 rfl fun a w hS ha hd=>?_;obtain⟨_,ha,rfl⟩:=hd.g ha 8 rfl;exact aj ha Y Y Y fun a ha=>qe ha hS
 ·refine Qz1 9 rfl fun a w hS ha hd=>?_;exact am ha Y Y fun a ha=>qe ha hS
 ·intro a w H_ hle hS ha hd;subst hle;obtain⟨_,ha,rfl⟩:=hd.g ha 10 rfl;rw [if_pos (ai Y ha Y Y Y)];exact am ha Y Y fun a ha=>qe ha hS
 ·refine Qz1 10 rfl fun a w hS ha hd=>?_;obtain⟨_,ha,rfl⟩:=hd.g ha 11 rfl;exact aj ha Y Y Y fun a ha=>qe ha hS
 ·refine Qz1 12 rfl fun a w hS ha hd=>?_;exact am ha Y Y fun a ha=>qe ha hS
 ·intro a w H_ hle hS ha hd;subst hle;obtain⟨_,ha,rfl⟩:=hd.g ha 13 rfl;rw [if_pos (ai Y ha Y Y Y)];exact am ha Y Y fun a ha=>qe ha hS
 ·intro a w H_ hle hS ha hd;subst hle;obtain⟨_,ha,rfl⟩:=hd.g ha 14 rfl;obtain⟨_,ha,rfl⟩:=hd.g ha 13 rfl;rw [if_pos (ai Y ha Y Y Y)];have hk327:=c_Mark (Inv.tail (Es:= [(some b1,(.cells aZ 26 (0,0)))]) hS.inv) hz;rw [show ((List.length k37: Nat): Int)=2 from by kernel_rfl] at hk327;refine id (Co func33 ha Y (hk327) ?_);rintro e w ⟨rfl,hc326⟩;refine⟨_,rfl,fun a ha=>?_⟩;have hS:=Step.call_tail (Es:= [(some b1,(.cells aZ 26 (0,0)))]) hS hc326;exact qe ha hS
 ·intro a w H_ hle hS ha hd;subst hle;obtain⟨_,ha,rfl⟩:=hd.g ha 15 rfl;obtain⟨_,ha,rfl⟩:=hd.g ha 13 rfl;rw [if_pos (ai Y ha Y Y Y)];exact aV (i:=2) (j:=2) ha Y Y Y fun a ha=>qe ha hS
 ·refine Qz1 13 rfl fun a w hS ha hd=>?_;obtain⟨_,ha,rfl⟩:=hd.g ha 16 rfl;exact aj ha Y Y Y fun a ha=>qe ha hS
 ·refine Qz1 17 rfl fun a w hS ha hd=>?_;exact am ha Y Y fun a ha=>qe ha hS
 ·intro a w H_ hle hS ha hd;subst hle;obtain⟨_,ha,rfl⟩:=hd.g ha 18 rfl;rw [if_pos (ai Y ha Y Y Y)];exact am ha Y Y fun a ha=>qe ha hS
 subst hle328;obtain⟨_,ha,rfl⟩:=Dd ha hdr_ 18 rfl;obtain⟨_,ha,rfl⟩:=Dd ha hdr_ 19 rfl;have hk330:=c_Back (mark:=1) (Inv.tail (Es:= [(some b1,(.cells aZ 26 (0,0)))]) hS.inv) hz (WfT.of (by kernel_rfl));rw [show (sBack k36 k37 1).2=0 from by kernel_rfl] at hk330;refine anyw1 (i:=20) (by kernel_rfl) Y (ai Y ha Y Y Y) (Co func36 ha Y (hk330) ?_);rintro e w ⟨H329,L329,rfl,hz329,hc329⟩;refine⟨_,rfl,fun a ha=>?_⟩;have hS:=Step.call_tail (Es:= [(some b1,(.cells aZ 26 (0,0)))]) hS hc329;have hz:=hz329;refine anyw1 (i:=21) (by kernel_rfl) Y (ai Y ha Y Y Y) (aV (i:=0) (j:=0) ha Y Y Y fun a ha=>?_);refine anyw1 (i:=22) (by kernel_rfl) Y (ay Y) (aj ha Y Y Y fun a ha=>?_);refine anyw1 (i:=23) (by kernel_rfl) Y (ay Y) (am ha Y Y fun a ha=>?_);refine anyw3 (i:=24) (i':=26) (i'':=27) (by kernel_rfl) Y (ai Y ha Y Y Y) Y (ai Y ha Y Y Y) Y (ai Y ha Y Y Y) ?_ ?_ ?_
 ·refine id (am ha Y Y fun a ha=>?_);refine anyw3 (i:=25) (i':=26) (i'':=27) (by kernel_rfl) Y (ai Y ha Y Y Y) Y (ai Y ha Y Y Y) Y (ai Y ha Y Y Y) ?_ ?_ ?_
  ·have hk332:=ba (Inv.tail (Es:= [(some b1,(.cells aZ 26 (0,0)))]) hS.inv) hz;refine id (Co func32 ha Y (hk332) ?_);rintro e w ⟨H331,A331,c331,rfl,hr331,hz331,hc331⟩;refine⟨_,rfl,fun a ha=>?_⟩;have hS:=Step.call_tail (Es:= [(some b1,(.cells aZ 26 (0,0)))]) hS hc331;refine anyw2 (i:=26) (i':=27) (by kernel_rfl) Y (ai Y ha Y Y Y) Y (ai Y ha Y Y Y) ?_ ?_
   ·refine id (ag (vs:=lZ) T26 Y ha Y (hS.blkL 0 rfl) Y (ae Y) Y fun a ha=>?_);refine anyw1 (i:=27) (by kernel_rfl) Y (ai Y ha Y Y Y) (ag (vs:=lZ) T26 Y ha Y (hS.blkL 0 rfl) Y (ae Y) Y fun a ha=>?_);refine anyw1 (i:=28) (by kernel_rfl) Y (ai Y ha Y Y Y) (aD (vs:= [(0,vZ),(1,vZ)]) (cells:= [(iV 0),(iV 0),(.string (⟨#[]⟩)),(.slice none 0 0),(iV 0),(iV 0),(.string (⟨#[]⟩)),(.slice none 0 0)]) T22.und T26 hS ha (ha.evp Y) Y Y Y Y fun b333 a w hS ha=>?_);obtain⟨H333,hS,hle333,hb333⟩:=hS.give;have hr331:=hr331.mono hle333;have hr333: RowT H333 (some ⟨b333,0,none⟩) 2 [tZ,tZ]:=RowT.of_lit ([⟨tZ,none,0⟩,⟨tZ,none,0⟩]: List TV) hb333 (AllR.cons (RowT.nil _) (AllR.cons (RowT.nil _) (AllR.nil _))) (by simp) Y;have hk335:=aQ hS.inv.nil hr333;refine anyw1 (i:=29) (by kernel_rfl) Y (ai Y ha Y Y Y) (Co func46 ha Y (hk335) ?_);rintro e w ⟨H334,A334,c334,rfl,hr334,hc334⟩;refine⟨_,rfl,fun a ha=>?_⟩;have hS:=hS.call hc334;have hr331:=hr331.mono hc334.le;have hk336:=aL hS.inv.nil hr331 hr334;rw [show eqL k38 k40=true from by kernel_rfl] at hk336;refine anyw1 (i:=30) (by kernel_rfl) Y (ai Y ha Y Y Y) (Co func28 ha Y (hk336) ?_);rintro e w ⟨rfl,hc⟩;refine⟨_,rfl,fun a ha=>?_⟩;have hS:=hS.call hc;refine anyw1 (i:=31) (by kernel_rfl) Y (ay Y) (aj ha Y Y Y fun a ha=>?_);refine anyw1 (i:=32) (by kernel_rfl) Y (ay Y) (aB ha Y Y fun a ha=>?_);refine any0 (by kernel_rfl) ?_;refine aa (wp_ret (ret1 Y ha Y ?_));exact⟨_,rfl,hS.drop_all⟩
   ·refine id (ag (vs:=lZ) T26 Y ha Y (hS.blkL 0 rfl) Y (ae Y) Y fun a ha=>?_);refine anyw1 (i:=26) (by kernel_rfl) Y (ai Y ha Y Y Y) (ag (vs:=lZ) T26 Y ha Y (hS.blkL 0 rfl) Y (ae Y) Y fun a ha=>?_);refine anyw1 (i:=28) (by kernel_rfl) Y (ai Y ha Y Y Y) (aD (vs:= [(0,vZ),(1,vZ)]) (cells:= [(iV 0),(iV 0),(.string (⟨#[]⟩)),(.slice none 0 0),(iV 0),(iV 0),(.string (⟨#[]⟩)),(.slice none 0 0)]) T22.und T26 hS ha (ha.evp Y) Y Y Y Y fun b337 a w hS ha=>?_);obtain⟨H337,hS,hle337,hb337⟩:=hS.give;have hr331:=hr331.mono hle337;have hr337: RowT H337 (some ⟨b337,0,none⟩) 2 [tZ,tZ]:=RowT.of_lit ([⟨tZ,none,0⟩,⟨tZ,none,0⟩]: List TV) hb337 (AllR.cons (RowT.nil _) (AllR.cons (RowT.nil _) (AllR.nil _))) (by simp) Y;have hk339:=aQ hS.inv.nil hr337;refine anyw1 (i:=29) (by kernel_rfl) Y (ai Y ha Y Y Y) (Co func46 ha Y (hk339) ?_);rintro e w ⟨H338,A338,c338,rfl,hr338,hc338⟩;refine⟨_,rfl,fun a ha=>?_⟩;have hS:=hS.call hc338;have hr331:=hr331.mono hc338.le;have hk340:=aL hS.inv.nil hr331 hr338;rw [show eqL k38 k40=true from by kernel_rfl] at hk340;refine anyw1 (i:=30) (by kernel_rfl) Y (ai Y ha Y Y Y) (Co func28 ha Y (hk340) ?_);rintro e w ⟨rfl,hc⟩;refine⟨_,rfl,fun a ha=>?_⟩;have hS:=hS.call hc;refine anyw1 (i:=31) (by kernel_rfl) Y (ay Y) (aj ha Y Y Y fun a ha=>?_);refine anyw1 (i:=32) (by kernel_rfl) Y (ay Y) (aB ha Y Y fun a ha=>?_);refine any0 (by kernel_rfl) ?_;refine aa (wp_ret (ret1 Y ha Y ?_));exact⟨_,rfl,hS.drop_all⟩
  ·refine id (ag (vs:=lZ) T26 Y ha Y (hS.blkL 0 rfl) Y (ae Y) Y fun a ha=>?_);refine anyw2 (i:=25) (i':=27) (by kernel_rfl) Y (ai Y ha Y Y Y) Y (ai Y ha Y Y Y) ?_ ?_
   ·have hk342:=ba (Inv.tail (Es:= [(some b1,(.cells aZ 26 (0,0)))]) hS.inv) hz;refine id (Co func32 ha Y (hk342) ?_);rintro e w ⟨H341,A341,c341,rfl,hr341,hz341,hc341⟩;refine⟨_,rfl,fun a ha=>?_⟩;have hS:=Step.call_tail (Es:= [(some b1,(.cells aZ 26 (0,0)))]) hS hc341;refine anyw1 (i:=27) (by kernel_rfl) Y (ai Y ha Y Y Y) (ag (vs:=lZ) T26 Y ha Y (hS.blkL 0 rfl) Y (ae Y) Y fun a ha=>?_);refine anyw1 (i:=28) (by kernel_rfl) Y (ai Y ha Y Y Y) (aD (vs:= [(0,vZ),(1,vZ)]) (cells:= [(iV 0),(iV 0),(.string (⟨#[]⟩)),(.slice none 0 0),(iV 0),(iV 0),(.string (⟨#[]⟩)),(.slice none 0 0)]) T22.und T26 hS ha (ha.evp Y) Y Y Y Y fun b343 a w hS ha=>?_);obtain⟨H343,hS,hle343,hb343⟩:=hS.give;have hr341:=hr341.mono hle343;have hr343: RowT H343 (some ⟨b343,0,none⟩) 2 [tZ,tZ]:=RowT.of_lit ([⟨tZ,none,0⟩,⟨tZ,none,0⟩]: List TV) hb343 (AllR.cons (RowT.nil _) (AllR.cons (RowT.nil _) (AllR.nil _))) (by simp) Y;have hk345:=aQ hS.inv.nil hr343;refine anyw1 (i:=29) (by kernel_rfl) Y (ai Y ha Y Y Y) (Co func46 ha Y (hk345) ?_);rintro e w ⟨H344,A344,c344,rfl,hr344,hc344⟩;refine⟨_,rfl,fun a ha=>?_⟩;have hS:=hS.call hc344;have hr341:=hr341.mono hc344.le;have hk346:=aL hS.inv.nil hr341 hr344;rw [show eqL k38 k40=true from by kernel_rfl] at hk346;refine anyw1 (i:=30) (by kernel_rfl) Y (ai Y ha Y Y Y) (Co func28 ha Y (hk346) ?_);rintro e w ⟨rfl,hc⟩;refine⟨_,rfl,fun a ha=>?_⟩;have hS:=hS.call hc;refine anyw1 (i:=31) (by kernel_rfl) Y (ay Y) (aj ha Y Y Y fun a ha=>?_);refine anyw1 (i:=32) (by kernel_rfl) Y (ay Y) (aB ha Y Y fun a ha=>?_);refine any0 (by kernel_rfl) ?_;refine aa (wp_ret (ret1 Y ha Y ?_));exact⟨_,rfl,hS.drop_all⟩
   ·refine id (ag (vs:=lZ) T26 Y ha Y (hS.blkL 0 rfl) Y (ae Y) Y fun a ha=>?_);refine anyw2 (i:=25) (i':=28) (by kernel_rfl) Y (ai Y ha Y Y Y) Y (ai Y ha Y Y Y) ?_ ?_
    ·have hk348:=ba (Inv.tail (Es:= [(some b1,(.cells aZ 26 (0,0)))]) hS.inv) hz;refine id (Co func32 ha Y (hk348) ?_);rintro e w ⟨H347,A347,c347,rfl,hr347,hz347,hc347⟩;refine⟨_,rfl,fun a ha=>?_⟩;have hS:=Step.call_tail (Es:= [(some b1,(.cells aZ 26 (0,0)))]) hS hc347;refine anyw1 (i:=28) (by kernel_rfl) Y (ai Y ha Y Y Y) (aD (vs:= [(0,vZ),(1,vZ)]) (cells:= [(iV 0),(iV 0),(.string (⟨#[]⟩)),(.slice none 0 0),(iV 0),(iV 0),(.string (⟨#[]⟩)),(.slice none 0 0)]) T22.und T26 hS ha (ha.evp Y) Y Y Y Y fun b349 a w hS ha=>?_);obtain⟨H349,hS,hle349,hb349⟩:=hS.give;have hr347:=hr347.mono hle349;have hr349: RowT H349 (some ⟨b349,0,none⟩) 2 [tZ,tZ]:=RowT.of_lit ([⟨tZ,none,0⟩,⟨tZ,none,0⟩]: List TV) hb349 (AllR.cons (RowT.nil _) (AllR.cons (RowT.nil _) (AllR.nil _))) (by simp) Y;have hk351:=aQ hS.inv.nil hr349;refine anyw1 (i:=29) (by kernel_rfl) Y (ai Y ha Y Y Y) (Co func46 ha Y (hk351) ?_);rintro e w ⟨H350,A350,c350,rfl,hr350,hc350⟩;refine⟨_,rfl,fun a ha=>?_⟩;have hS:=hS.call hc350;have hr347:=hr347.mono hc350.le;have hk352:=aL hS.inv.nil hr347 hr350;rw [show eqL k38 k40=true from by kernel_rfl] at hk352;refine anyw1 (i:=30) (by kernel_rfl) Y (ai Y ha Y Y Y) (Co func28 ha Y (hk352) ?_);rintro e w ⟨rfl,hc⟩;refine⟨_,rfl,fun a ha=>?_⟩;have hS:=hS.call hc;refine anyw1 (i:=31) (by kernel_rfl) Y (ay Y) (aj ha Y Y Y fun a ha=>?_);refine anyw1 (i:=32) (by kernel_rfl) Y (ay Y) (aB ha Y Y fun a ha=>?_);refine any0 (by kernel_rfl) ?_;refine aa (wp_ret (ret1 Y ha Y ?_));exact⟨_,rfl,hS.drop_all⟩
    ·refine id (aD (vs:= [(0,vZ),(1,vZ)]) (cells:= [(iV 0),(iV 0),(.string (⟨#[]⟩)),(.slice none 0 0),(iV 0),(iV 0),(.string (⟨#[]⟩)),(.slice none 0 0)]) T22.und T26 hS ha (ha.evp Y) Y Y Y Y fun b353 a w hS ha=>?_);obtain⟨H353,hS,hle353,hb353⟩:=hS.give;have hz:=ZS.mono hz (hle353);have hr353: RowT H353 (some ⟨b353,0,none⟩) 2 [tZ,tZ]:=RowT.of_lit ([⟨tZ,none,0⟩,⟨tZ,none,0⟩]: List TV) hb353 (AllR.cons (RowT.nil _) (AllR.cons (RowT.nil _) (AllR.nil _))) (by simp) Y;have hk355:=ba (Inv.tail (Es:= [(some b1,(.cells aZ 26 (0,0)))]) hS.inv) hz;refine anyw1 (i:=25) (by kernel_rfl) Y (ai Y ha Y Y Y) (Co func32 ha Y (hk355) ?_);rintro e w ⟨H354,A354,c354,rfl,hr354,hz354,hc354⟩;refine⟨_,rfl,fun a ha=>?_⟩;have hS:=Step.call_tail (Es:= [(some b1,(.cells aZ 26 (0,0)))]) hS hc354;have hr353:=hr353.mono hc354.le;have hk357:=aQ hS.inv.nil hr353;refine anyw1 (i:=29) (by kernel_rfl) Y (ai Y ha Y Y Y) (Co func46 ha Y (hk357) ?_);rintro e w ⟨H356,A356,c356,rfl,hr356,hc356⟩;refine⟨_,rfl,fun a ha=>?_⟩;have hS:=hS.call hc356;have hr354:=hr354.mono hc356.le;have hk358:=aL hS.inv.nil hr354 hr356;rw [show eqL k38 k40=true from by kernel_rfl] at hk358;refine anyw1 (i:=30) (by kernel_rfl) Y (ai Y ha Y Y Y) (Co func28 ha Y (hk358) ?_);rintro e w ⟨rfl,hc⟩;refine⟨_,rfl,fun a ha=>?_⟩;have hS:=hS.call hc;refine anyw1 (i:=31) (by kernel_rfl) Y (ay Y) (aj ha Y Y Y fun a ha=>?_);refine anyw1 (i:=32) (by kernel_rfl) Y (ay Y) (aB ha Y Y fun a ha=>?_);refine any0 (by kernel_rfl) ?_;refine aa (wp_ret (ret1 Y ha Y ?_));exact⟨_,rfl,hS.drop_all⟩
  ·refine id (ag (vs:=lZ) T26 Y ha Y (hS.blkL 0 rfl) Y (ae Y) Y fun a ha=>?_);refine anyw2 (i:=25) (i':=26) (by kernel_rfl) Y (ai Y ha Y Y Y) Y (ai Y ha Y Y Y) ?_ ?_
   ·have hk360:=ba (Inv.tail (Es:= [(some b1,(.cells aZ 26 (0,0)))]) hS.inv) hz;refine id (Co func32 ha Y (hk360) ?_);rintro e w ⟨H359,A359,c359,rfl,hr359,hz359,hc359⟩;refine⟨_,rfl,fun a ha=>?_⟩;have hS:=Step.call_tail (Es:= [(some b1,(.cells aZ 26 (0,0)))]) hS hc359;refine anyw1 (i:=26) (by kernel_rfl) Y (ai Y ha Y Y Y) (ag (vs:=lZ) T26 Y ha Y (hS.blkL 0 rfl) Y (ae Y) Y fun a ha=>?_);refine anyw1 (i:=28) (by kernel_rfl) Y (ai Y ha Y Y Y) (aD (vs:= [(0,vZ),(1,vZ)]) (cells:= [(iV 0),(iV 0),(.string (⟨#[]⟩)),(.slice none 0 0),(iV 0),(iV 0),(.string (⟨#[]⟩)),(.slice none 0 0)]) T22.und T26 hS ha (ha.evp Y) Y Y Y Y fun b361 a w hS ha=>?_);obtain⟨H361,hS,hle361,hb361⟩:=hS.give;have hr359:=hr359.mono hle361;have hr361: RowT H361 (some ⟨b361,0,none⟩) 2 [tZ,tZ]:=RowT.of_lit ([⟨tZ,none,0⟩,⟨tZ,none,0⟩]: List TV) hb361 (AllR.cons (RowT.nil _) (AllR.cons (RowT.nil _) (AllR.nil _))) (by simp) Y;have hk363:=aQ hS.inv.nil hr361;refine anyw1 (i:=29) (by kernel_rfl) Y (ai Y ha Y Y Y) (Co func46 ha Y (hk363) ?_);rintro e w ⟨H362,A362,c362,rfl,hr362,hc362⟩;refine⟨_,rfl,fun a ha=>?_⟩;have hS:=hS.call hc362;have hr359:=hr359.mono hc362.le;have hk364:=aL hS.inv.nil hr359 hr362;rw [show eqL k38 k40=true from by kernel_rfl] at hk364;refine anyw1 (i:=30) (by kernel_rfl) Y (ai Y ha Y Y Y) (Co func28 ha Y (hk364) ?_);rintro e w ⟨rfl,hc⟩;refine⟨_,rfl,fun a ha=>?_⟩;have hS:=hS.call hc;refine anyw1 (i:=31) (by kernel_rfl) Y (ay Y) (aj ha Y Y Y fun a ha=>?_);refine anyw1 (i:=32) (by kernel_rfl) Y (ay Y) (aB ha Y Y fun a ha=>?_);refine any0 (by kernel_rfl) ?_;refine aa (wp_ret (ret1 Y ha Y ?_));exact⟨_,rfl,hS.drop_all⟩
   ·refine id (ag (vs:=lZ) T26 Y ha Y (hS.blkL 0 rfl) Y (ae Y) Y fun a ha=>?_);refine anyw2 (i:=25) (i':=28) (by kernel_rfl) Y (ai Y ha Y Y Y) Y (ai Y ha Y Y Y) ?_ ?_
    ·have hk366:=ba (Inv.tail (Es:= [(some b1,(.cells aZ 26 (0,0)))]) hS.inv) hz;refine id (Co func32 ha Y (hk366) ?_);rintro e w ⟨H365,A365,c365,rfl,hr365,hz365,hc365⟩;refine⟨_,rfl,fun a ha=>?_⟩;have hS:=Step.call_tail (Es:= [(some b1,(.cells aZ 26 (0,0)))]) hS hc365;refine anyw1 (i:=28) (by kernel_rfl) Y (ai Y ha Y Y Y) (aD (vs:= [(0,vZ),(1,vZ)]) (cells:= [(iV 0),(iV 0),(.string (⟨#[]⟩)),(.slice none 0 0),(iV 0),(iV 0),(.string (⟨#[]⟩)),(.slice none 0 0)]) T22.und T26 hS ha (ha.evp Y) Y Y Y Y fun b367 a w hS ha=>?_);obtain⟨H367,hS,hle367,hb367⟩:=hS.give;have hr365:=hr365.mono hle367;have hr367: RowT H367 (some ⟨b367,0,none⟩) 2 [tZ,tZ]:=RowT.of_lit ([⟨tZ,none,0⟩,⟨tZ,none,0⟩]: List TV) hb367 (AllR.cons (RowT.nil _) (AllR.cons (RowT.nil _) (AllR.nil _))) (by simp) Y;have hk369:=aQ hS.inv.nil hr367;refine anyw1 (i:=29) (by kernel_rfl) Y (ai Y ha Y Y Y) (Co func46 ha Y (hk369) ?_);rintro e w ⟨H368,A368,c368,rfl,hr368,hc368⟩;refine⟨_,rfl,fun a ha=>?_⟩;have hS:=hS.call hc368;have hr365:=hr365.mono hc368.le;have hk370:=aL hS.inv.nil hr365 hr368;rw [show eqL k38 k40=true from by kernel_rfl] at hk370;refine anyw1 (i:=30) (by kernel_rfl) Y (ai Y ha Y Y Y) (Co func28 ha Y (hk370) ?_);rintro e w ⟨rfl,hc⟩;refine⟨_,rfl,fun a ha=>?_⟩;have hS:=hS.call hc;refine anyw1 (i:=31) (by kernel_rfl) Y (ay Y) (aj ha Y Y Y fun a ha=>?_);refine anyw1 (i:=32) (by kernel_rfl) Y (ay Y) (aB ha Y Y fun a ha=>?_);refine any0 (by kernel_rfl) ?_;refine aa (wp_ret (ret1 Y ha Y ?_));exact⟨_,rfl,hS.drop_all⟩
    ·refine id (aD (vs:= [(0,vZ),(1,vZ)]) (cells:= [(iV 0),(iV 0),(.string (⟨#[]⟩)),(.slice none 0 0),(iV 0),(iV 0),(.string (⟨#[]⟩)),(.slice none 0 0)]) T22.und T26 hS ha (ha.evp Y) Y Y Y Y fun b371 a w hS ha=>?_);obtain⟨H371,hS,hle371,hb371⟩:=hS.give;have hz:=ZS.mono hz (hle371);have hr371: RowT H371 (some ⟨b371,0,none⟩) 2 [tZ,tZ]:=RowT.of_lit ([⟨tZ,none,0⟩,⟨tZ,none,0⟩]: List TV) hb371 (AllR.cons (RowT.nil _) (AllR.cons (RowT.nil _) (AllR.nil _))) (by simp) Y;have hk373:=ba (Inv.tail (Es:= [(some b1,(.cells aZ 26 (0,0)))]) hS.inv) hz;refine anyw1 (i:=25) (by kernel_rfl) Y (ai Y ha Y Y Y) (Co func32 ha Y (hk373) ?_);rintro e w ⟨H372,A372,c372,rfl,hr372,hz372,hc372⟩;refine⟨_,rfl,fun a ha=>?_⟩;have hS:=Step.call_tail (Es:= [(some b1,(.cells aZ 26 (0,0)))]) hS hc372;have hr371:=hr371.mono hc372.le;have hk375:=aQ hS.inv.nil hr371;refine anyw1 (i:=29) (by kernel_rfl) Y (ai Y ha Y Y Y) (Co func46 ha Y (hk375) ?_);rintro e w ⟨H374,A374,c374,rfl,hr374,hc374⟩;refine⟨_,rfl,fun a ha=>?_⟩;have hS:=hS.call hc374;have hr372:=hr372.mono hc374.le;have hk376:=aL hS.inv.nil hr372 hr374;rw [show eqL k38 k40=true from by kernel_rfl] at hk376;refine anyw1 (i:=30) (by kernel_rfl) Y (ai Y ha Y Y Y) (Co func28 ha Y (hk376) ?_);rintro e w ⟨rfl,hc⟩;refine⟨_,rfl,fun a ha=>?_⟩;have hS:=hS.call hc;refine anyw1 (i:=31) (by kernel_rfl) Y (ay Y) (aj ha Y Y Y fun a ha=>?_);refine anyw1 (i:=32) (by kernel_rfl) Y (ay Y) (aB ha Y Y fun a ha=>?_);refine any0 (by kernel_rfl) ?_;refine aa (wp_ret (ret1 Y ha Y ?_));exact⟨_,rfl,hS.drop_all⟩
 ·refine id (ag (vs:=lZ) T26 Y ha Y (hS.blkL 0 rfl) Y (ae Y) Y fun a ha=>?_);refine anyw2 (i:=24) (i':=27) (by kernel_rfl) Y (ai Y ha Y Y Y) Y (ai Y ha Y Y Y) ?_ ?_
  ·refine id (am ha Y Y fun a ha=>?_);refine anyw2 (i:=25) (i':=27) (by kernel_rfl) Y (ai Y ha Y Y Y) Y (ai Y ha Y Y Y) ?_ ?_
   ·have hk378:=ba (Inv.tail (Es:= [(some b1,(.cells aZ 26 (0,0)))]) hS.inv) hz;refine id (Co func32 ha Y (hk378) ?_);rintro e w ⟨H377,A377,c377,rfl,hr377,hz377,hc377⟩;refine⟨_,rfl,fun a ha=>?_⟩;have hS:=Step.call_tail (Es:= [(some b1,(.cells aZ 26 (0,0)))]) hS hc377;refine anyw1 (i:=27) (by kernel_rfl) Y (ai Y ha Y Y Y) (ag (vs:=lZ) T26 Y ha Y (hS.blkL 0 rfl) Y (ae Y) Y fun a ha=>?_);refine anyw1 (i:=28) (by kernel_rfl) Y (ai Y ha Y Y Y) (aD (vs:= [(0,vZ),(1,vZ)]) (cells:= [(iV 0),(iV 0),(.string (⟨#[]⟩)),(.slice none 0 0),(iV 0),(iV 0),(.string (⟨#[]⟩)),(.slice none 0 0)]) T22.und T26 hS ha (ha.evp Y) Y Y Y Y fun b379 a w hS ha=>?_);obtain⟨H379,hS,hle379,hb379⟩:=hS.give;have hr377:=hr377.mono hle379;have hr379: RowT H379 (some ⟨b379,0,none⟩) 2 [tZ,tZ]:=RowT.of_lit ([⟨tZ,none,0⟩,⟨tZ,none,0⟩]: List TV) hb379 (AllR.cons (RowT.nil _) (AllR.cons (RowT.nil _) (AllR.nil _))) (by simp) Y;have hk381:=aQ hS.inv.nil hr379;refine anyw1 (i:=29) (by kernel_rfl) Y (ai Y ha Y Y Y) (Co func46 ha Y (hk381) ?_);rintro e w ⟨H380,A380,c380,rfl,hr380,hc380⟩;refine⟨_,rfl,fun a ha=>?_⟩;have hS:=hS.call hc380;have hr377:=hr377.mono hc380.le;have hk382:=aL hS.inv.nil hr377 hr380;rw [show eqL k38 k40=true from by kernel_rfl] at hk382;refine anyw1 (i:=30) (by kernel_rfl) Y (ai Y ha Y Y Y) (Co func28 ha Y (hk382) ?_);rintro e w ⟨rfl,hc⟩;refine⟨_,rfl,fun a ha=>?_⟩;have hS:=hS.call hc;refine anyw1 (i:=31) (by kernel_rfl) Y (ay Y) (aj ha Y Y Y fun a ha=>?_);refine anyw1 (i:=32) (by kernel_rfl) Y (ay Y) (aB ha Y Y fun a ha=>?_);refine any0 (by kernel_rfl) ?_;refine aa (wp_ret (ret1 Y ha Y ?_));exact⟨_,rfl,hS.drop_all⟩
   ·refine id (ag (vs:=lZ) T26 Y ha Y (hS.blkL 0 rfl) Y (ae Y) Y fun a ha=>?_);refine anyw2 (i:=25) (i':=28) (by kernel_rfl) Y (ai Y ha Y Y Y) Y (ai Y ha Y Y Y) ?_ ?_
    ·have hk384:=ba (Inv.tail (Es:= [(some b1,(.cells aZ 26 (0,0)))]) hS.inv) hz;refine id (Co func32 ha Y (hk384) ?_);rintro e w ⟨H383,A383,c383,rfl,hr383,hz383,hc383⟩;refine⟨_,rfl,fun a ha=>?_⟩;have hS:=Step.call_tail (Es:= [(some b1,(.cells aZ 26 (0,0)))]) hS hc383;refine anyw1 (i:=28) (by kernel_rfl) Y (ai Y ha Y Y Y) (aD (vs:= [(0,vZ),(1,vZ)]) (cells:= [(iV 0),(iV 0),(.string (⟨#[]⟩)),(.slice none 0 0),(iV 0),(iV 0),(.string (⟨#[]⟩)),(.slice none 0 0)]) T22.und T26 hS ha (ha.evp Y) Y Y Y Y fun b385 a w hS ha=>?_);obtain⟨H385,hS,hle385,hb385⟩:=hS.give;have hr383:=hr383.mono hle385;have hr385: RowT H385 (some ⟨b385,0,none⟩) 2 [tZ,tZ]:=RowT.of_lit ([⟨tZ,none,0⟩,⟨tZ,none,0⟩]: List TV) hb385 (AllR.cons (RowT.nil _) (AllR.cons (RowT.nil _) (AllR.nil _))) (by simp) Y;have hk387:=aQ hS.inv.nil hr385;refine anyw1 (i:=29) (by kernel_rfl) Y (ai Y ha Y Y Y) (Co func46 ha Y (hk387) ?_);rintro e w ⟨H386,A386,c386,rfl,hr386,hc386⟩;refine⟨_,rfl,fun a ha=>?_⟩;have hS:=hS.call hc386;have hr383:=hr383.mono hc386.le;have hk388:=aL hS.inv.nil hr383 hr386;rw [show eqL k38 k40=true from by kernel_rfl] at hk388;refine anyw1 (i:=30) (by kernel_rfl) Y (ai Y ha Y Y Y) (Co func28 ha Y (hk388) ?_);rintro e w ⟨rfl,hc⟩;refine⟨_,rfl,fun a ha=>?_⟩;have hS:=hS.call hc;refine anyw1 (i:=31) (by kernel_rfl) Y (ay Y) (aj ha Y Y Y fun a ha=>?_);refine anyw1 (i:=32) (by kernel_rfl) Y (ay Y) (aB ha Y Y fun a ha=>?_);refine any0 (by kernel_rfl) ?_;refine aa (wp_ret (ret1 Y ha Y ?_));exact⟨_,rfl,hS.drop_all⟩
    ·refine id (aD (vs:= [(0,vZ),(1,vZ)]) (cells:= [(iV 0),(iV 0),(.string (⟨#[]⟩)),(.slice none 0 0),(iV 0),(iV 0),(.string (⟨#[]⟩)),(.slice none 0 0)]) T22.und T26 hS ha (ha.evp Y) Y Y Y Y fun b389 a w hS ha=>?_);obtain⟨H389,hS,hle389,hb389⟩:=hS.give;have hz:=ZS.mono hz (hle389);have hr389: RowT H389 (some ⟨b389,0,none⟩) 2 [tZ,tZ]:=RowT.of_lit ([⟨tZ,none,0⟩,⟨tZ,none,0⟩]: List TV) hb389 (AllR.cons (RowT.nil _) (AllR.cons (RowT.nil _) (AllR.nil _))) (by simp) Y;have hk391:=ba (Inv.tail (Es:= [(some b1,(.cells aZ 26 (0,0)))]) hS.inv) hz;refine anyw1 (i:=25) (by kernel_rfl) Y (ai Y ha Y Y Y) (Co func32 ha Y (hk391) ?_);rintro e w ⟨H390,A390,c390,rfl,hr390,hz390,hc390⟩;refine⟨_,rfl,fun a ha=>?_⟩;have hS:=Step.call_tail (Es:= [(some b1,(.cells aZ 26 (0,0)))]) hS hc390;have hr389:=hr389.mono hc390.le;have hk393:=aQ hS.inv.nil hr389;refine anyw1 (i:=29) (by kernel_rfl) Y (ai Y ha Y Y Y) (Co func46 ha Y (hk393) ?_);rintro e w ⟨H392,A392,c392,rfl,hr392,hc392⟩;refine⟨_,rfl,fun a ha=>?_⟩;have hS:=hS.call hc392;have hr390:=hr390.mono hc392.le;have hk394:=aL hS.inv.nil hr390 hr392;rw [show eqL k38 k40=true from by kernel_rfl] at hk394;refine anyw1 (i:=30) (by kernel_rfl) Y (ai Y ha Y Y Y) (Co func28 ha Y (hk394) ?_);rintro e w ⟨rfl,hc⟩;refine⟨_,rfl,fun a ha=>?_⟩;have hS:=hS.call hc;refine anyw1 (i:=31) (by kernel_rfl) Y (ay Y) (aj ha Y Y Y fun a ha=>?_);refine anyw1 (i:=32) (by kernel_rfl) Y (ay Y) (aB ha Y Y fun a ha=>?_);refine any0 (by kernel_rfl) ?_;refine aa (wp_ret (ret1 Y ha Y ?_));exact⟨_,rfl,hS.drop_all⟩
  ·refine id (ag (vs:=lZ) T26 Y ha Y (hS.blkL 0 rfl) Y (ae Y) Y fun a ha=>?_);refine anyw2 (i:=24) (i':=28) (by kernel_rfl) Y (ai Y ha Y Y Y) Y (ai Y ha Y Y Y) ?_ ?_
   ·refine id (am ha Y Y fun a ha=>?_);refine anyw2 (i:=25) (i':=28) (by kernel_rfl) Y (ai Y ha Y Y Y) Y (ai Y ha Y Y Y) ?_ ?_
    ·have hk396:=ba (Inv.tail (Es:= [(some b1,(.cells aZ 26 (0,0)))]) hS.inv) hz;refine id (Co func32 ha Y (hk396) ?_);rintro e w ⟨H395,A395,c395,rfl,hr395,hz395,hc395⟩;refine⟨_,rfl,fun a ha=>?_⟩;have hS:=Step.call_tail (Es:= [(some b1,(.cells aZ 26 (0,0)))]) hS hc395;refine anyw1 (i:=28) (by kernel_rfl) Y (ai Y ha Y Y Y) (aD (vs:= [(0,vZ),(1,vZ)]) (cells:= [(iV 0),(iV 0),(.string (⟨#[]⟩)),(.slice none 0 0),(iV 0),(iV 0),(.string (⟨#[]⟩)),(.slice none 0 0)]) T22.und T26 hS ha (ha.evp Y) Y Y Y Y fun b397 a w hS ha=>?_);obtain⟨H397,hS,hle397,hb397⟩:=hS.give;have hr395:=hr395.mono hle397;have hr397: RowT H397 (some ⟨b397,0,none⟩) 2 [tZ,tZ]:=RowT.of_lit ([⟨tZ,none,0⟩,⟨tZ,none,0⟩]: List TV) hb397 (AllR.cons (RowT.nil _) (AllR.cons (RowT.nil _) (AllR.nil _))) (by simp) Y;have hk399:=aQ hS.inv.nil hr397;refine anyw1 (i:=29) (by kernel_rfl) Y (ai Y ha Y Y Y) (Co func46 ha Y (hk399) ?_);rintro e w ⟨H398,A398,c398,rfl,hr398,hc398⟩;refine⟨_,rfl,fun a ha=>?_⟩;have hS:=hS.call hc398;have hr395:=hr395.mono hc398.le;have hk400:=aL hS.inv.nil hr395 hr398;rw [show eqL k38 k40=true from by kernel_rfl] at hk400;refine anyw1 (i:=30) (by kernel_rfl) Y (ai Y ha Y Y Y) (Co func28 ha Y (hk400) ?_);rintro e w ⟨rfl,hc⟩;refine⟨_,rfl,fun a ha=>?_⟩;have hS:=hS.call hc;refine anyw1 (i:=31) (by kernel_rfl) Y (ay Y) (aj ha Y Y Y fun a ha=>?_);refine anyw1 (i:=32) (by kernel_rfl) Y (ay Y) (aB ha Y Y fun a ha=>?_);refine any0 (by kernel_rfl) ?_;refine aa (wp_ret (ret1 Y ha Y ?_));exact⟨_,rfl,hS.drop_all⟩
    ·refine id (aD (vs:= [(0,vZ),(1,vZ)]) (cells:= [(iV 0),(iV 0),(.string (⟨#[]⟩)),(.slice none 0 0),(iV 0),(iV 0),(.string (⟨#[]⟩)),(.slice none 0 0)]) T22.und T26 hS ha (ha.evp Y) Y Y Y Y fun b401 a w hS ha=>?_);obtain⟨H401,hS,hle401,hb401⟩:=hS.give;have hz:=ZS.mono hz (hle401);have hr401: RowT H401 (some ⟨b401,0,none⟩) 2 [tZ,tZ]:=RowT.of_lit ([⟨tZ,none,0⟩,⟨tZ,none,0⟩]: List TV) hb401 (AllR.cons (RowT.nil _) (AllR.cons (RowT.nil _) (AllR.nil _))) (by simp) Y;have hk403:=ba (Inv.tail (Es:= [(some b1,(.cells aZ 26 (0,0)))]) hS.inv) hz;refine anyw1 (i:=25) (by kernel_rfl) Y (ai Y ha Y Y Y) (Co func32 ha Y (hk403) ?_);rintro e w ⟨H402,A402,c402,rfl,hr402,hz402,hc402⟩;refine⟨_,rfl,fun a ha=>?_⟩;have hS:=Step.call_tail (Es:= [(some b1,(.cells aZ 26 (0,0)))]) hS hc402;have hr401:=hr401.mono hc402.le;have hk405:=aQ hS.inv.nil hr401;refine anyw1 (i:=29) (by kernel_rfl) Y (ai Y ha Y Y Y) (Co func46 ha Y (hk405) ?_);rintro e w ⟨H404,A404,c404,rfl,hr404,hc404⟩;refine⟨_,rfl,fun a ha=>?_⟩;have hS:=hS.call hc404;have hr402:=hr402.mono hc404.le;have hk406:=aL hS.inv.nil hr402 hr404;rw [show eqL k38 k40=true from by kernel_rfl] at hk406;refine anyw1 (i:=30) (by kernel_rfl) Y (ai Y ha Y Y Y) (Co func28 ha Y (hk406) ?_);rintro e w ⟨rfl,hc⟩;refine⟨_,rfl,fun a ha=>?_⟩;have hS:=hS.call hc;refine anyw1 (i:=31) (by kernel_rfl) Y (ay Y) (aj ha Y Y Y fun a ha=>?_);refine anyw1 (i:=32) (by kernel_rfl) Y (ay Y) (aB ha Y Y fun a ha=>?_);refine any0 (by kernel_rfl) ?_;refine aa (wp_ret (ret1 Y ha Y ?_));exact⟨_,rfl,hS.drop_all⟩
   ·refine id (aD (vs:= [(0,vZ),(1,vZ)]) (cells:= [(iV 0),(iV 0),(.string (⟨#[]⟩)),(.slice none 0 0),(iV 0),(iV 0),(.string (⟨#[]⟩)),(.slice none 0 0)]) T22.und T26 hS ha (ha.evp Y) Y Y Y Y fun b407 a w hS ha=>?_);obtain⟨H407,hS,hle407,hb407⟩:=hS.give;have hz:=ZS.mono hz (hle407);have hr407: RowT H407 (some ⟨b407,0,none⟩) 2 [tZ,tZ]:=RowT.of_lit ([⟨tZ,none,0⟩,⟨tZ,none,0⟩]: List TV) hb407 (AllR.cons (RowT.nil _) (AllR.cons (RowT.nil _) (AllR.nil _))) (by simp) Y;refine anyw1 (i:=24) (by kernel_rfl) Y (ai Y ha Y Y Y) (am ha Y Y fun a ha=>?_);have hk409:=ba (Inv.tail (Es:= [(some b1,(.cells aZ 26 (0,0)))]) hS.inv) hz;refine anyw1 (i:=25) (by kernel_rfl) Y (ai Y ha Y Y Y) (Co func32 ha Y (hk409) ?_);rintro e w ⟨H408,A408,c408,rfl,hr408,hz408,hc408⟩;refine⟨_,rfl,fun a ha=>?_⟩;have hS:=Step.call_tail (Es:= [(some b1,(.cells aZ 26 (0,0)))]) hS hc408;have hr407:=hr407.mono hc408.le;have hk411:=aQ hS.inv.nil hr407;refine anyw1 (i:=29) (by kernel_rfl) Y (ai Y ha Y Y Y) (Co func46 ha Y (hk411) ?_);rintro e w ⟨H410,A410,c410,rfl,hr410,hc410⟩;refine⟨_,rfl,fun a ha=>?_⟩;have hS:=hS.call hc410;have hr408:=hr408.mono hc410.le;have hk412:=aL hS.inv.nil hr408 hr410;rw [show eqL k38 k40=true from by kernel_rfl] at hk412;refine anyw1 (i:=30) (by kernel_rfl) Y (ai Y ha Y Y Y) (Co func28 ha Y (hk412) ?_);rintro e w ⟨rfl,hc⟩;refine⟨_,rfl,fun a ha=>?_⟩;have hS:=hS.call hc;refine anyw1 (i:=31) (by kernel_rfl) Y (ay Y) (aj ha Y Y Y fun a ha=>?_);refine anyw1 (i:=32) (by kernel_rfl) Y (ay Y) (aB ha Y Y fun a ha=>?_);refine any0 (by kernel_rfl) ?_;refine aa (wp_ret (ret1 Y ha Y ?_));exact⟨_,rfl,hS.drop_all⟩
 ·refine id (ag (vs:=lZ) T26 Y ha Y (hS.blkL 0 rfl) Y (ae Y) Y fun a ha=>?_);refine anyw2 (i:=24) (i':=26) (by kernel_rfl) Y (ai Y ha Y Y Y) Y (ai Y ha Y Y Y) ?_ ?_
  ·refine id (am ha Y Y fun a ha=>?_);refine anyw2 (i:=25) (i':=26) (by kernel_rfl) Y (ai Y ha Y Y Y) Y (ai Y ha Y Y Y) ?_ ?_
   ·have hk414:=ba (Inv.tail (Es:= [(some b1,(.cells aZ 26 (0,0)))]) hS.inv) hz;refine id (Co func32 ha Y (hk414) ?_);rintro e w ⟨H413,A413,c413,rfl,hr413,hz413,hc413⟩;refine⟨_,rfl,fun a ha=>?_⟩;have hS:=Step.call_tail (Es:= [(some b1,(.cells aZ 26 (0,0)))]) hS hc413;refine anyw1 (i:=26) (by kernel_rfl) Y (ai Y ha Y Y Y) (ag (vs:=lZ) T26 Y ha Y (hS.blkL 0 rfl) Y (ae Y) Y fun a ha=>?_);refine anyw1 (i:=28) (by kernel_rfl) Y (ai Y ha Y Y Y) (aD (vs:= [(0,vZ),(1,vZ)]) (cells:= [(iV 0),(iV 0),(.string (⟨#[]⟩)),(.slice none 0 0),(iV 0),(iV 0),(.string (⟨#[]⟩)),(.slice none 0 0)]) T22.und T26 hS ha (ha.evp Y) Y Y Y Y fun b415 a w hS ha=>?_);obtain⟨H415,hS,hle415,hb415⟩:=hS.give;have hr413:=hr413.mono hle415;have hr415: RowT H415 (some ⟨b415,0,none⟩) 2 [tZ,tZ]:=RowT.of_lit ([⟨tZ,none,0⟩,⟨tZ,none,0⟩]: List TV) hb415 (AllR.cons (RowT.nil _) (AllR.cons (RowT.nil _) (AllR.nil _))) (by simp) Y;have hk417:=aQ hS.inv.nil hr415;refine anyw1 (i:=29) (by kernel_rfl) Y (ai Y ha Y Y Y) (Co func46 ha Y (hk417) ?_);rintro e w ⟨H416,A416,c416,rfl,hr416,hc416⟩;refine⟨_,rfl,fun a ha=>?_⟩;have hS:=hS.call hc416;have hr413:=hr413.mono hc416.le;have hk418:=aL hS.inv.nil hr413 hr416;rw [show eqL k38 k40=true from by kernel_rfl] at hk418;refine anyw1 (i:=30) (by kernel_rfl) Y (ai Y ha Y Y Y) (Co func28 ha Y (hk418) ?_);rintro e w ⟨rfl,hc⟩;refine⟨_,rfl,fun a ha=>?_⟩;have hS:=hS.call hc;refine anyw1 (i:=31) (by kernel_rfl) Y (ay Y) (aj ha Y Y Y fun a ha=>?_);refine anyw1 (i:=32) (by kernel_rfl) Y (ay Y) (aB ha Y Y fun a ha=>?_);refine any0 (by kernel_rfl) ?_;refine aa (wp_ret (ret1 Y ha Y ?_));exact⟨_,rfl,hS.drop_all⟩
   ·refine id (ag (vs:=lZ) T26 Y ha Y (hS.blkL 0 rfl) Y (ae Y) Y fun a ha=>?_);refine anyw2 (i:=25) (i':=28) (by kernel_rfl) Y (ai Y ha Y Y Y) Y (ai Y ha Y Y Y) ?_ ?_
    ·have hk420:=ba (Inv.tail (Es:= [(some b1,(.cells aZ 26 (0,0)))]) hS.inv) hz;refine id (Co func32 ha Y (hk420) ?_);rintro e w ⟨H419,A419,c419,rfl,hr419,hz419,hc419⟩;refine⟨_,rfl,fun a ha=>?_⟩;have hS:=Step.call_tail (Es:= [(some b1,(.cells aZ 26 (0,0)))]) hS hc419;refine anyw1 (i:=28) (by kernel_rfl) Y (ai Y ha Y Y Y) (aD (vs:= [(0,vZ),(1,vZ)]) (cells:= [(iV 0),(iV 0),(.string (⟨#[]⟩)),(.slice none 0 0),(iV 0),(iV 0),(.string (⟨#[]⟩)),(.slice none 0 0)]) T22.und T26 hS ha (ha.evp Y) Y Y Y Y fun b421 a w hS ha=>?_);obtain⟨H421,hS,hle421,hb421⟩:=hS.give;have hr419:=hr419.mono hle421;have hr421: RowT H421 (some ⟨b421,0,none⟩) 2 [tZ,tZ]:=RowT.of_lit ([⟨tZ,none,0⟩,⟨tZ,none,0⟩]: List TV) hb421 (AllR.cons (RowT.nil _) (AllR.cons (RowT.nil _) (AllR.nil _))) (by simp) Y;have hk423:=aQ hS.inv.nil hr421;refine anyw1 (i:=29) (by kernel_rfl) Y (ai Y ha Y Y Y) (Co func46 ha Y (hk423) ?_);rintro e w ⟨H422,A422,c422,rfl,hr422,hc422⟩;refine⟨_,rfl,fun a ha=>?_⟩;have hS:=hS.call hc422;have hr419:=hr419.mono hc422.le;have hk424:=aL hS.inv.nil hr419 hr422;rw [show eqL k38 k40=true from by kernel_rfl] at hk424;refine anyw1 (i:=30) (by kernel_rfl) Y (ai Y ha Y Y Y) (Co func28 ha Y (hk424) ?_);rintro e w ⟨rfl,hc⟩;refine⟨_,rfl,fun a ha=>?_⟩;have hS:=hS.call hc;refine anyw1 (i:=31) (by kernel_rfl) Y (ay Y) (aj ha Y Y Y fun a ha=>?_);refine anyw1 (i:=32) (by kernel_rfl) Y (ay Y) (aB ha Y Y fun a ha=>?_);refine any0 (by kernel_rfl) ?_;refine aa (wp_ret (ret1 Y ha Y ?_));exact⟨_,rfl,hS.drop_all⟩
    ·refine id (aD (vs:= [(0,vZ),(1,vZ)]) (cells:= [(iV 0),(iV 0),(.string (⟨#[]⟩)),(.slice none 0 0),(iV 0),(iV 0),(.string (⟨#[]⟩)),(.slice none 0 0)]) T22.und T26 hS ha (ha.evp Y) Y Y Y Y fun b425 a w hS ha=>?_);obtain⟨H425,hS,hle425,hb425⟩:=hS.give;have hz:=ZS.mono hz (hle425);have hr425: RowT H425 (some ⟨b425,0,none⟩) 2 [tZ,tZ]:=RowT.of_lit ([⟨tZ,none,0⟩,⟨tZ,none,0⟩]: List TV) hb425 (AllR.cons (RowT.nil _) (AllR.cons (RowT.nil _) (AllR.nil _))) (by simp) Y;have hk427:=ba (Inv.tail (Es:= [(some b1,(.cells aZ 26 (0,0)))]) hS.inv) hz;refine anyw1 (i:=25) (by kernel_rfl) Y (ai Y ha Y Y Y) (Co func32 ha Y (hk427) ?_);rintro e w ⟨H426,A426,c426,rfl,hr426,hz426,hc426⟩;refine⟨_,rfl,fun a ha=>?_⟩;have hS:=Step.call_tail (Es:= [(some b1,(.cells aZ 26 (0,0)))]) hS hc426;have hr425:=hr425.mono hc426.le;have hk429:=aQ hS.inv.nil hr425;refine anyw1 (i:=29) (by kernel_rfl) Y (ai Y ha Y Y Y) (Co func46 ha Y (hk429) ?_);rintro e w ⟨H428,A428,c428,rfl,hr428,hc428⟩;refine⟨_,rfl,fun a ha=>?_⟩;have hS:=hS.call hc428;have hr426:=hr426.mono hc428.le;have hk430:=aL hS.inv.nil hr426 hr428;rw [show eqL k38 k40=true from by kernel_rfl] at hk430;refine anyw1 (i:=30) (by kernel_rfl) Y (ai Y ha Y Y Y) (Co func28 ha Y (hk430) ?_);rintro e w ⟨rfl,hc⟩;refine⟨_,rfl,fun a ha=>?_⟩;have hS:=hS.call hc;refine anyw1 (i:=31) (by kernel_rfl) Y (ay Y) (aj ha Y Y Y fun a ha=>?_);refine anyw1 (i:=32) (by kernel_rfl) Y (ay Y) (aB ha Y Y fun a ha=>?_);refine any0 (by kernel_rfl) ?_;refine aa (wp_ret (ret1 Y ha Y ?_));exact⟨_,rfl,hS.drop_all⟩
  ·refine id (ag (vs:=lZ) T26 Y ha Y (hS.blkL 0 rfl) Y (ae Y) Y fun a ha=>?_);refine anyw2 (i:=24) (i':=28) (by kernel_rfl) Y (ai Y ha Y Y Y) Y (ai Y ha Y Y Y) ?_ ?_
   ·refine id (am ha Y Y fun a ha=>?_);refine anyw2 (i:=25) (i':=28) (by kernel_rfl) Y (ai Y ha Y Y Y) Y (ai Y ha Y Y Y) ?_ ?_
    ·have hk432:=ba (Inv.tail (Es:= [(some b1,(.cells aZ 26 (0,0)))]) hS.inv) hz;refine id (Co func32 ha Y (hk432) ?_);rintro e w ⟨H431,A431,c431,rfl,hr431,hz431,hc431⟩;refine⟨_,rfl,fun a ha=>?_⟩;have hS:=Step.call_tail (Es:= [(some b1,(.cells aZ 26 (0,0)))]) hS hc431;refine anyw1 (i:=28) (by kernel_rfl) Y (ai Y ha Y Y Y) (aD (vs:= [(0,vZ),(1,vZ)]) (cells:= [(iV 0),(iV 0),(.string (⟨#[]⟩)),(.slice none 0 0),(iV 0),(iV 0),(.string (⟨#[]⟩)),(.slice none 0 0)]) T22.und T26 hS ha (ha.evp Y) Y Y Y Y fun b433 a w hS ha=>?_);obtain⟨H433,hS,hle433,hb433⟩:=hS.give;have hr431:=hr431.mono hle433;have hr433: RowT H433 (some ⟨b433,0,none⟩) 2 [tZ,tZ]:=RowT.of_lit ([⟨tZ,none,0⟩,⟨tZ,none,0⟩]: List TV) hb433 (AllR.cons (RowT.nil _) (AllR.cons (RowT.nil _) (AllR.nil _))) (by simp) Y;have hk435:=aQ hS.inv.nil hr433;refine anyw1 (i:=29) (by kernel_rfl) Y (ai Y ha Y Y Y) (Co func46 ha Y (hk435) ?_);rintro e w ⟨H434,A434,c434,rfl,hr434,hc434⟩;refine⟨_,rfl,fun a ha=>?_⟩;have hS:=hS.call hc434;have hr431:=hr431.mono hc434.le;have hk436:=aL hS.inv.nil hr431 hr434;rw [show eqL k38 k40=true from by kernel_rfl] at hk436;refine anyw1 (i:=30) (by kernel_rfl) Y (ai Y ha Y Y Y) (Co func28 ha Y (hk436) ?_);rintro e w ⟨rfl,hc⟩;refine⟨_,rfl,fun a ha=>?_⟩;have hS:=hS.call hc;refine anyw1 (i:=31) (by kernel_rfl) Y (ay Y) (aj ha Y Y Y fun a ha=>?_);refine anyw1 (i:=32) (by kernel_rfl) Y (ay Y) (aB ha Y Y fun a ha=>?_);refine any0 (by kernel_rfl) ?_;refine aa (wp_ret (ret1 Y ha Y ?_));exact⟨_,rfl,hS.drop_all⟩
    ·refine id (aD (vs:= [(0,vZ),(1,vZ)]) (cells:= [(iV 0),(iV 0),(.string (⟨#[]⟩)),(.slice none 0 0),(iV 0),(iV 0),(.string (⟨#[]⟩)),(.slice none 0 0)]) T22.und T26 hS ha (ha.evp Y) Y Y Y Y fun b437 a w hS ha=>?_);obtain⟨H437,hS,hle437,hb437⟩:=hS.give;have hz:=ZS.mono hz (hle437);have hr437: RowT H437 (some ⟨b437,0,none⟩) 2 [tZ,tZ]:=RowT.of_lit ([⟨tZ,none,0⟩,⟨tZ,none,0⟩]: List TV) hb437 (AllR.cons (RowT.nil _) (AllR.cons (RowT.nil _) (AllR.nil _))) (by simp) Y;have hk439:=ba (Inv.tail (Es:= [(some b1,(.cells aZ 26 (0,0)))]) hS.inv) hz;refine anyw1 (i:=25) (by kernel_rfl) Y (ai Y ha Y Y Y) (Co func32 ha Y (hk439) ?_);rintro e w ⟨H438,A438,c438,rfl,hr438,hz438,hc438⟩;refine⟨_,rfl,fun a ha=>?_⟩;have hS:=Step.call_tail (Es:= [(some b1,(.cells aZ 26 (0,0)))]) hS hc438;have hr437:=hr437.mono hc438.le;have hk441:=aQ hS.inv.nil hr437;refine anyw1 (i:=29) (by kernel_rfl) Y (ai Y ha Y Y Y) (Co func46 ha Y (hk441) ?_);rintro e w ⟨H440,A440,c440,rfl,hr440,hc440⟩;refine⟨_,rfl,fun a ha=>?_⟩;have hS:=hS.call hc440;have hr438:=hr438.mono hc440.le;have hk442:=aL hS.inv.nil hr438 hr440;rw [show eqL k38 k40=true from by kernel_rfl] at hk442;refine anyw1 (i:=30) (by kernel_rfl) Y (ai Y ha Y Y Y) (Co func28 ha Y (hk442) ?_);rintro e w ⟨rfl,hc⟩;refine⟨_,rfl,fun a ha=>?_⟩;have hS:=hS.call hc;refine anyw1 (i:=31) (by kernel_rfl) Y (ay Y) (aj ha Y Y Y fun a ha=>?_);refine anyw1 (i:=32) (by kernel_rfl) Y (ay Y) (aB ha Y Y fun a ha=>?_);refine any0 (by kernel_rfl) ?_;refine aa (wp_ret (ret1 Y ha Y ?_));exact⟨_,rfl,hS.drop_all⟩
   ·refine id (aD (vs:= [(0,vZ),(1,vZ)]) (cells:= [(iV 0),(iV 0),(.string (⟨#[]⟩)),(.slice none 0 0),(iV 0),(iV 0),(.string (⟨#[]⟩)),(.slice none 0 0)]) T22.und T26 hS ha (ha.evp Y) Y Y Y Y fun b443 a w hS ha=>?_);obtain⟨H443,hS,hle443,hb443⟩:=hS.give;have hz:=ZS.mono hz (hle443);have hr443: RowT H443 (some ⟨b443,0,none⟩) 2 [tZ,tZ]:=RowT.of_lit ([⟨tZ,none,0⟩,⟨tZ,none,0⟩]: List TV) hb443 (AllR.cons (RowT.nil _) (AllR.cons (RowT.nil _) (AllR.nil _))) (by simp) Y;refine anyw1 (i:=24) (by kernel_rfl) Y (ai Y ha Y Y Y) (am ha Y Y fun a ha=>?_);have hk445:=ba (Inv.tail (Es:= [(some b1,(.cells aZ 26 (0,0)))]) hS.inv) hz;refine anyw1 (i:=25) (by kernel_rfl) Y (ai Y ha Y Y Y) (Co func32 ha Y (hk445) ?_);rintro e w ⟨H444,A444,c444,rfl,hr444,hz444,hc444⟩;refine⟨_,rfl,fun a ha=>?_⟩;have hS:=Step.call_tail (Es:= [(some b1,(.cells aZ 26 (0,0)))]) hS hc444;have hr443:=hr443.mono hc444.le;have hk447:=aQ hS.inv.nil hr443;refine anyw1 (i:=29) (by kernel_rfl) Y (ai Y ha Y Y Y) (Co func46 ha Y (hk447) ?_);rintro e w ⟨H446,A446,c446,rfl,hr446,hc446⟩;refine⟨_,rfl,fun a ha=>?_⟩;have hS:=hS.call hc446;have hr444:=hr444.mono hc446.le;have hk448:=aL hS.inv.nil hr444 hr446;rw [show eqL k38 k40=true from by kernel_rfl] at hk448;refine anyw1 (i:=30) (by kernel_rfl) Y (ai Y ha Y Y Y) (Co func28 ha Y (hk448) ?_);rintro e w ⟨rfl,hc⟩;refine⟨_,rfl,fun a ha=>?_⟩;have hS:=hS.call hc;refine anyw1 (i:=31) (by kernel_rfl) Y (ay Y) (aj ha Y Y Y fun a ha=>?_);refine anyw1 (i:=32) (by kernel_rfl) Y (ay Y) (aB ha Y Y fun a ha=>?_);refine any0 (by kernel_rfl) ?_;refine aa (wp_ret (ret1 Y ha Y ?_));exact⟨_,rfl,hS.drop_all⟩
end Go.Vk.Try
namespace Go.Vk
open Go.RowKit
mutual
def nds: Tm→List Tm
 | .mk k n s l=>.mk k n s l::ndsL l
def ndsL: List Tm→List Tm
 | []=> []
 | t::ts=>nds t++ndsL ts
end
theorem eU (t: Tm): nds t=t::ndsL t.l:=by cases t;rw [nds];rfl
theorem cJ: ∀(ts us: List Tm),ndsL (ts++us)=ndsL ts++ndsL us
 | [],us=>rfl
 | t::ts,us=>by rw [List.cons_append,ndsL,ndsL,cJ ts us,List.append_assoc]
theorem ndsL_snoc {ts: List Tm} {k: Nat} {u: Tm} (h: ts[k]? =some u): ndsL (ts.take (k+1))=ndsL (ts.take k)++nds u:=by
 rw [bI h,cJ,ndsL,ndsL,List.append_nil]
theorem dJ {ts: List Tm} {k: Nat} {u: Tm} (h: ts[k]? =some u): ndsL ts=ndsL (ts.take k)++(nds u++ndsL (ts.drop (k+1))):=by
 have e: ts=ts.take k++u::ts.drop (k+1):=by rw [← aI h,List.take_append_drop]
 have e2:=congrArg ndsL e;rw [cJ,ndsL] at e2;exact e2
mutual
theorem nds_len: ∀ t: Tm,(nds t).length=t.sz
 | .mk k n s l=>by rw [nds,List.length_cons,dZ l,Tm.sz];omega
theorem dZ: ∀ ts: List Tm,(ndsL ts).length=Tm.szL ts
 | []=>rfl
 | t::ts=>by rw [ndsL,List.length_append,nds_len t,dZ ts,Tm.szL]
end
theorem nds_at {ns rest: List Tm} {t: Tm} {k: Nat} (h: ns.drop k=nds t++rest): ns[k]? =some t:=by
 have h2:=congrArg (fun l=>l[0]?) h;simp only [List.getElem?_drop,Nat.add_zero] at h2;rw [h2,eU];rfl
theorem nds_sub {ns rest: List Tm} {t u: Tm} {k j: Nat} (h: ns.drop k=nds t++rest) (hu: t.l[j]? =some u): ns.drop (k+1+(ndsL (t.l.take j)).length)=nds u++(ndsL (t.l.drop (j+1))++rest):=by
 have h1: ns.drop (k+1)=ndsL t.l++rest:=by
  have h2:=congrArg (List.drop 1) h;rw [List.drop_drop,eU] at h2;exact h2
 rw [← List.drop_drop,h1,dJ hu,List.append_assoc,List.drop_left,List.append_assoc]
def NArg (ns: List Tm) (k: Nat) (H: PHeap) (v: Value): Prop:= ∃ t A c,ns[k]? =some t∧v=tv t A c∧RowT H A c t.l
def newV (out: List Int) (x: Tm): List Int:=if x.kind=1∧out.reverse.contains x.n=false then out++ [x.n] else out
theorem newV_yes {out: List Int} {x: Tm} (h: x.kind=1) (h2: out.reverse.contains x.n=false): newV out x=out++ [x.n]:=by unfold newV;rw [if_pos ⟨h,h2⟩]
theorem eg {out: List Int} {x: Tm} (h: ¬ x.kind=1): newV out x=out:=by unfold newV;rw [if_neg (fun h2=>h h2.1)]
theorem newV_old {out: List Int} {x: Tm} (h2: out.reverse.contains x.n=true): newV out x=out:=by unfold newV;rw [if_neg (fun h=>by rw [h.2] at h2;cases h2)]
theorem ez {ns: List Tm} {k: Nat} {x: Tm} {o o0: List Int} (h: ns[k]? =some x) (ho: o=(ns.take k).foldl newV o0): newV o x=(ns.take (k+1)).foldl newV o0:=by
 rw [bI h,List.foldl_append,← ho];rfl
def varsN (ts: List Tm): List Int:=(ndsL ts).foldl newV []
theorem newV_len (out: List Int) (x: Tm):(newV out x).length≤out.length+1:=by unfold newV;split <;> simp
theorem fold_len: ∀(ns: List Tm) (o: List Int),(ns.foldl newV o).length≤o.length+ns.length
 | [],o=>Nat.le_refl _
 | x::ns,o=>by
  have:=fold_len ns (newV o x);have:=newV_len o x;rw [List.foldl_cons,List.length_cons];omega
def IterF (P: Program) (gf: Nat) (lb: Array Value) (n: Nat) (arg: Nat→PHeap→Value→Prop) (H: PHeap): Prop:=
 ∀(l: Nat) (Φ: Nat→PHeap→List Ent→Prop) (W: World) (H1: PHeap) (L1: List Ent),
  (∀ k v W H1 L1,k < n→arg k H1 v→Φ k H1 L1→Inv W H1 L1→YieldAt Fence.wide 0 P l #[v] W fun e W'=>e=.returned (.bool true)∧∃ H2 L2,Φ (k+1) H2 L2∧Step W H1 L1 W' H2 L2)→
  Le H H1→Φ 0 H1 L1→Inv W H1 L1→Calls P gf (#[.func (.yield l) #[] #[]]++lb) W fun e W'=>e=.returned (.tuple #[])∧∃ H2 L2,Φ n H2 L2∧Step W H1 L1 W' H2 L2
section
variable {P: Program} {Q: Exit→Act→World→Prop} {a: Act} {w: World} {N: Nat} {m: Env} {D: List Deferred} {w0: World} {H0 H: PHeap} {L0 L: List Ent}
theorem cIn_true {F: Fence} {n: Nat} {c: Operand} {x y: Code} (ha: Has D a N m) (hc: ev m c=some (.bool true)) (h: x.wpIn F n P Q a w):(Code.cond c x y).wpIn F n P Q a w:=wpIn_cond_true (ha.ev hc) h
theorem cIn_false {F: Fence} {n: Nat} {c: Operand} {x y: Code} (ha: Has D a N m) (hc: ev m c=some (.bool false)) (h: y.wpIn F n P Q a w):(Code.cond c x y).wpIn F n P Q a w:=wpIn_cond_false (ha.ev hc) h
theorem c_range1 {g: Operand} {p1: Nat} {assign body: Code} {gf: Nat} {lb: Array Value} {n: Nat} {arg: Nat→PHeap→Value→Prop} {fn: Func} {c: Code}
  (hf: P.funcs[gf]? =some fn) (hb: fn.body=some c) (hnm:(fn.name == "runtime.NumGoroutine")=false) (hg: ev m g=some (.func (.func gf) #[] lb)) (hp1: Nat.blt p1 N=true)
  (ha: Has D a N m) (hS: Step w0 H0 L0 w H L) (hit: IterF P gf lb n arg H)
  (Ψ: Nat→PHeap→List Ent→Prop) (h0: Ψ 0 H L)
  (Mid: Nat→Value→PHeap→List Ent→Act→Prop)
  (hassign: ∀ l k v W el er Hy Ly a1,k < n→arg k Hy v→Ψ k Hy Ly→Step W Hy (el::er::Ly) W Hy (el::er::Ly)→Has [] a1 N ((p1,v)::m)→
   assign.wpIn (RFence l) 0 P (fun e a2 W2=>e=.normal∧∃ E,Mid k v Hy E a2∧Step W Hy (el::er::Ly) W2 Hy (el::er::(E++Ly))) a1 W)
  (hbody: ∀ l k v W0 Hz Lz W el er Hy Ly E a2,k < n→arg k Hy v→Ψ k Hy Ly→Mid k v Hy E a2→Step W0 Hz Lz W Hy (el::er::(E++Ly))→
   body.wpIn (RFence l) 0 P (fun e a3 W3=>e=.normal∧∃ H2 L2,Ψ (k+1) H2 L2∧Step W0 Hz Lz W3 H2 (el::er::L2)) a2 W)
  (hdone: ∀ r W H2 L2 a',Ψ n H2 L2→Step w0 H0 L0 W H2 (openBlk r::L2)→Has (markOf r::D) a' N m→Q .normal a' W) :
  (Code.rangeFunc g #[p1] assign body).wp P Q a w:=by
 refine wpIn_wide.1 (wpIn_rangeFunc (F:=Fence.wide) (n:=0) ?_);intro f _;obtain⟨rec,hrec⟩: ∃ rec: LoopState→Option Code→Loop,rec=fun st pe=> { state:=st,pending:=pe,fn:=f,tmps:=a.tmps,params:= #[p1],assign,body,defers:=w.heap.size }:=⟨_,rfl⟩;have hS1:=(hS.alloc (.deferred (some []))).alloc (.loop (rec .ready none));rw [World.size_alloc] at hS1;obtain⟨W1,hW1⟩: ∃ W1,(w.alloc (.deferred (some []))).alloc (.loop (rec .ready none))=W1:=⟨_,rfl⟩;rw [hW1] at hS1;have hfn2:(fn.name= "runtime.NumGoroutine")=False:=by simpa using hnm
 refine⟨w.heap.size+1, [markOf w.heap.size],W1,{ target:=.fn (.func gf) lb,args:= #[.func (.yield (w.heap.size+1)) #[] #[]] },W1,gf,#[.func (.yield (w.heap.size+1)) #[] #[]]++lb,W1,?_,?_,fun _ _=>trivial,?_,fun h=>(by cases h),?_⟩
 ·rw [← hW1,hrec];exact run_enterLoop_outer _ _ _ _ _
 ·simp [resolve,ha.ev hg,Deferred.ofValue];rfl
 ·simp [invoke,callFunc,hf,hfn2,hb]
 ·refine callsIn_wide.2 (Calls.mono (hit (w.heap.size+1) (fun k H1 L1=> ∃ L2,L1=(some (w.heap.size+1),.loop (rec .ready none))::openBlk w.heap.size::L2∧Ψ k H1 L2) W1 H _ ?_ (Le.refl _) ⟨L,rfl,h0⟩ hS1.inv) ?_)
  ·rintro k v W H1 L1 hk harg ⟨L2,rfl,hs⟩ hI;have hT:=Step.refl hI;have hl: W.heap[w.heap.size+1]? =some (.loop (rec .ready none)):=hT.inv.at_ 0 rfl;have hy:=run_yield (P:=P) (args:= #[v]) hl (by rw [hrec];rfl);refine⟨f,_,assign,body,by rw [hrec] at hy;exact hy,roundIn_of_wpIn trivial ?_⟩;refine wpIn_mono (hassign (w.heap.size+1) k v W _ _ H1 L2 _ hk harg hs hT ?_) ?_
   ·have h1:=(⟨ha.size,rfl,ha.get⟩: Has [] { tmps:=a.tmps,defers:= [] } N m);have h2:=h1.put hp1 v;simpa [Act.put] using h2
   ·rintro e a2 W2 ⟨rfl,E,hmid,hT2⟩;have hl2: W2.heap[w.heap.size+1]? =some (.loop (rec .ready none)):=hT2.inv.at_ 0 rfl;refine⟨_,run_beginRound hl2 (by rw [hrec]),?_⟩;have hT3:=hT2.putObj 0 (b:=w.heap.size+1) Y (.loop { rec .ready none with state:=.busy });refine wpIn_mono (hbody (w.heap.size+1) k v _ _ _ _ _ _ H1 L2 E a2 hk harg hs hmid hT3) ?_;rintro e a3 W3 ⟨rfl,H2,L3,hs',hT4⟩;have hl4: W3.heap[w.heap.size+1]? =some (.loop { rec .ready none with state:=.busy }):=hT4.inv.at_ 0 rfl;refine⟨_,_,run_endRound none hl4,rfl,H2,_,⟨L3,rfl,hs'⟩,?_⟩;have hT5:=hT4.putObj 0 (b:=w.heap.size+1) Y (.loop {({ rec .ready none with state:=.busy }: Loop) with state:=if (none: Option Code).isNone then .ready else .done,pending:=none });rw [hrec] at hT5 ⊢;exact hT5
  ·rintro e W ⟨rfl,H2,L2,⟨L3,rfl,hs⟩,hc⟩;have hT:=hS1.calls hc;have hl: W.heap[w.heap.size+1]? =some (.loop (rec .ready none)):=hT.inv.at_ 0 rfl;refine⟨none,_,by have:=run_endLoop (P:=P) hl (by rw [hrec];simp);rw [hrec] at this;exact this,?_⟩;have hT2:=(hT.putObj 0 (b:=w.heap.size+1) Y (.loop { rec .ready none with state:=.exhausted })).drop;refine hdone w.heap.size _ H2 L3 _ hs (by rw [hrec] at hT2;exact hT2) ⟨ha.size,?_,ha.get⟩
   show [markOf w.heap.size]++a.defers=_
   rw [ha.dfr];rfl
end
end Go.Vk
namespace Go.Vk
def RkB (B: List Tm) (rk: Int→Nat): Prop:= ∀ v: Int,∀ x ∈ occ (bnd B v),rk x < rk v
def Pth (rk: Int→Nat) (st todo: List Int): Prop:= ∀ u: Int,0≤u→mrk st u=1→∃ pre post,todo=pre++u::post∧∀ x ∈ pre,rk x < rk u
theorem eJ {st: List Int} {v u c: Int} (hv: v.toNat < st.length) (h0: 0≤v) (h1: 0≤u): mrk (st.set v.toNat c) u=if u=v then c else mrk st u:=by
 unfold mrk;rw [List.getD_eq_getElem?_getD,List.getElem?_set,List.getD_eq_getElem?_getD]
 by_cases h: u=v
 ·subst h;rw [if_pos rfl,if_pos hv,if_pos rfl];rfl
 ·rw [if_neg (by omega),if_neg h]
theorem fk {st: List Int}: ∀(ds todo: List Int),(∀ x ∈ ds,mrk st x≠1)→∃ xs,inn st ds todo=some (xs++todo)∧∀ x ∈ xs,x ∈ ds
 | [],todo,_=>⟨[],rfl,fun x hx=>by cases hx⟩
 | x::xs,todo,h=>by
  have h1:=h x List.mem_cons_self;have hr: ∀ y ∈ xs,mrk st y≠1:=fun y hy=>h y (List.mem_cons_of_mem _ hy)
  by_cases h0: mrk st x=0
  ·obtain⟨zs,h2,h3⟩:=fk xs (x::todo) hr;refine⟨zs++ [x],?_,fun y hy=>?_⟩
   ·rw [inn_0 h0,h2,List.append_assoc];rfl
   ·rcases List.mem_append.1 hy with hy | hy
    ·exact List.mem_cons_of_mem _ (h3 y hy)
    ·rw [List.mem_singleton.1 hy];exact List.mem_cons_self
  ·obtain⟨zs,h2,h3⟩:=fk xs todo hr;exact⟨zs,by rw [inn_2 h1 h0,h2],fun y hy=>List.mem_cons_of_mem _ (h3 y hy)⟩
theorem eW {B: List Tm} {rk: Int→Nat} (hr: RkB B rk) (hB: ∀ v: Int,∀ x ∈ occ (bnd B v),0≤x∧x.toNat < B.length): ∀(f: Nat) (st todo: List Int),st.length=B.length→(∀ x ∈ todo,0≤x∧x.toNat < B.length)→Pth rk st todo→mmeas B st todo < f→∃ st',mid B f st todo=some st'∧st'.length=B.length∧Pth rk st' []
 | 0,st,todo,_,_,_,h=>by omega
 | f+1,st, [],hl,_,hp,_=>⟨st,rfl,hl,hp⟩
 | f+1,st,v::ts,hl,hv,hp,hm=>by
  have hvl:=hv v List.mem_cons_self;rw [mid]
  split
  ·rename_i hne
   have:=dz (B:=B) (ts:=ts) (by omega) hne;refine eW hr hB f _ _ (by rw [List.length_set];exact hl) (fun x hx=>hv x (List.mem_cons_of_mem _ hx)) ?_ (by omega);intro u hu h1;rw [eJ (by omega) hvl.1 hu] at h1
   split at h1
   ·exact absurd h1 (by decide)
   ·rename_i hne2
    obtain⟨pre,post,h2,h3⟩:=hp u hu h1
    cases pre with
    | nil=>exact absurd (List.cons.inj h2).1.symm hne2
    | cons y pre=>exact ⟨pre,post,(List.cons.inj h2).2,fun x hx=>h3 x (List.mem_cons_of_mem _ hx)⟩
  ·rename_i hz
   have hz: mrk st v=0:=Classical.byContradiction hz;have hno: ∀ x ∈ occ (bnd B v),mrk (st.set v.toNat 1) x≠1:=by
    intro x hx h1;have hx0:=hB v x hx;have hlt:=hr v x hx;rw [eJ (by omega) hvl.1 hx0.1] at h1
    split at h1
    ·rename_i e;subst e;omega
    ·rename_i hne
     obtain⟨pre,post,h2,h3⟩:=hp x hx0.1 h1
     cases pre with
     | nil=>exact hne (List.cons.inj h2).1.symm
     | cons y pre =>
      have:=h3 y List.mem_cons_self;rw [←(List.cons.inj h2).1] at this;omega
   obtain⟨xs,h2,h3⟩:=fk _ (v::ts) hno;have hml:=cL (B:=B) (ts:=ts) hl hvl.2 hz (dx _ _ _ h2);rw [h2];refine eW hr hB f _ _ (by rw [List.length_set];exact hl) (fun x hx=>?_) ?_ (by omega)
   ·rcases List.mem_append.1 hx with hx | hx
    ·exact hB v x (h3 x hx)
    ·exact hv x hx
   ·intro u hu h1;rw [eJ (by omega) hvl.1 hu] at h1
    split at h1
    ·rename_i e
     subst e;exact⟨xs,ts,rfl,fun x hx=>hr u x (h3 x hx)⟩
    ·rename_i hne
     obtain⟨pre,post,h4,h5⟩:=hp u hu h1;refine⟨xs++pre,post,by rw [h4,List.append_assoc],fun x hx=>?_⟩
     rcases List.mem_append.1 hx with hx | hx
     ·have h6:=hr v x (h3 x hx)
      cases pre with
      | nil=>exact absurd (List.cons.inj h4).1.symm hne
      | cons y pre =>
       have h7:=h5 y List.mem_cons_self;rw [←(List.cons.inj h4).1] at h7;omega
     ·exact h5 x hx
theorem Pth.zero {rk: Int→Nat} {st: List Int} (h: Pth rk st []) (t: List Int): Pth rk st t:=fun u hu h1=>by
 obtain⟨pre,post,h2,_⟩:=h u hu h1
 cases pre <;> cases h2
theorem circF_no {B: List Tm} {rk: Int→Nat} (hr: RkB B rk) (hB: ∀ v: Int,∀ x ∈ occ (bnd B v),0≤x∧x.toNat < B.length): ∀(k i: Nat) (st: List Int),i+k≤B.length→st.length=B.length→Pth rk st []→circF B k i st=false
 | 0,i,st,_,_,_=>rfl
 | k+1,i,st,hk,hl,hp=>by
  obtain⟨st',h1,h2,h3⟩:=eW hr hB (mmeas B st [(i: Int)]+1) st [(i: Int)] hl (fun x hx=>by rw [List.mem_singleton.1 hx];omega) (hp.zero _) (by omega);rw [circF];unfold MID;rw [h1];exact circF_no hr hB k (i+1) st' (by omega) h2 h3
theorem acyc_circ {n: Nat} {B: List Tm} (hG: Gst n B) (ha: Acyc B): circB B=false:=by
 obtain⟨rk,hr⟩:=ha;have hV:=hG.allV;have hO: ∀ v: Int,∀ x ∈ occ (bnd B v),0≤x∧x.toNat < B.length:=by
  intro v x hx;unfold bnd at hx;rw [List.getD_eq_getElem?_getD] at hx
  cases hb: B[v.toNat]? with
  | none=>rw [hb] at hx;cases hx
  | some t =>
   rw [hb] at hx;have:=hV.occ (List.mem_of_getElem? hb) x hx;omega
 unfold circB;refine circF_no (rk:=fun x=>rk x.toNat) ?_ hO _ 0 _ (by omega) (by simp) ?_
 ·intro v x hx;unfold bnd at hx;rw [List.getD_eq_getElem?_getD] at hx
  cases hb: B[v.toNat]? with
  | none=>rw [hb] at hx;cases hx
  | some t =>
   rw [hb] at hx;refine hr v.toNat t hb (fun hk=>?_) x hx
   rcases hG.el _ _ hb with h1 | h1
   ·rw [dK h1] at hx;cases hx
   ·have:=fc h1.1;omega
 ·intro u hu h1;unfold mrk at h1;rw [List.getD_eq_getElem?_getD,List.getElem?_replicate] at h1
  split at h1 <;> cases h1
theorem fe {B: List Tm} (hG: Gst B.length B) (ha: Acyc B): stU B=true:=stU_mk hG (acyc_circ hG ha)
def Eqs (σ: Int→Tm) (ps: List (Tm × Tm)): Prop:= ∀ p ∈ ps,app σ p.1=app σ p.2
theorem Eqs.cons {σ: Int→Tm} {a b: Tm} {ps: List (Tm × Tm)}: Eqs σ ((a,b)::ps)↔app σ a=app σ b∧Eqs σ ps:=by
 constructor
 ·intro h;exact⟨h _ List.mem_cons_self,fun p hp=>h p (List.mem_cons_of_mem _ hp)⟩
 ·rintro⟨h1,h2⟩ p hp
  rcases List.mem_cons.1 hp with rfl | hp
  ·exact h1
  ·exact h2 p hp
theorem Eqs.app {σ: Int→Tm} {ps qs: List (Tm × Tm)}: Eqs σ (ps++qs)↔Eqs σ ps∧Eqs σ qs:=by
 constructor
 ·intro h;exact⟨fun p hp=>h p (List.mem_append_left _ hp),fun p hp=>h p (List.mem_append_right _ hp)⟩
 ·rintro⟨h1,h2⟩ p hp
  rcases List.mem_append.1 hp with hp | hp
  ·exact h1 p hp
  ·exact h2 p hp
theorem zip_eqs {σ: Int→Tm}: ∀ xs ys: List Tm,xs.length=ys.length→(Eqs σ (xs.zip ys)↔appL σ xs=appL σ ys)
 | [], [],_=>by simp [Eqs]
 | [],y::ys,h=>by simp at h
 | x::xs, [],h=>by simp at h
 | x::xs,y::ys,h=>by
  rw [List.zip_cons_cons,Eqs.cons,zip_eqs xs ys (by simpa using h),appL,appL,List.cons.injEq]
theorem alk_parts {x y: Tm} (h: alkB x y=true): x.kind=y.kind∧x.n=y.n∧x.s=y.s∧x.l.length=y.l.length:=by
 unfold alkB at h;simp only [Bool.and_eq_true,decide_eq_true_eq] at h;exact⟨h.1.1.1,h.1.1.2,h.1.2,by omega⟩
theorem alk_app {σ: Int→Tm} {x y: Tm} (hx: x.kind≠1) (hy: y.kind≠1) (h: alkB x y=true): app σ x=app σ y↔Eqs σ (x.l.zip y.l):=by
 obtain⟨h1,h2,h3,h4⟩:=alk_parts h;rw [zip_eqs _ _ h4,bD hx,bD hy,h1,h2,h3]
 constructor
 ·intro e;injection e
 ·intro e;rw [e]
theorem alk_clash {σ: Int→Tm} {x y: Tm} (hx: x.kind≠1) (hy: y.kind≠1) (h: alkB x y=false): app σ x≠app σ y:=by
 intro e;rw [bD hx,bD hy] at e;injection e with e1 e2 e3 e4
 rw [cj,cj] at e4;have e5: x.l.length=y.l.length:=by have:=congrArg List.length e4;simpa using this
 unfold alkB at h;rw [e1,e2,e3,e5] at h;simp at h
theorem Sol.step {n: Nat} {B: List Tm} (hG: Gst n B) {σ: Int→Tm} (hs: Sol B σ) {a: Tm} (ha: okT n a=true): app σ (Vk.follow B a)=app σ a:=hs.follow hG.vis (d7 hG ha)
theorem same_eq {a b: Tm} (h:((decide (a.kind=1)&&decide (b.kind=1))&&decide (a.n=b.n))=true) (σ: Int→Tm): app σ a=app σ b:=by
 simp only [Bool.and_eq_true,decide_eq_true_eq] at h;rw [a8 h.1.1,a8 h.1.2,h.2]
end Go.Vk
namespace Go.Vk
def Can (B: List Tm) (σ: Int→Tm): Prop:=Sol B σ∧∀ i: Int,(i < 0∨¬ bound B i.toNat)→σ i=vr i
theorem opn_free {B: List Tm} {v: Int} (h: opn B v=true): ¬ bound B v.toNat:=by
 rintro⟨t,h1,h2⟩;unfold opn at h;rw [decide_eq_true_eq,getD_some h1] at h;exact h2 h
theorem Can.opn {B: List Tm} {σ: Int→Tm} (h: Can B σ) {v: Int} (ho: opn B v=true): σ v=vr v:=h.2 v (.inr (opn_free ho))
theorem vr_inj {i j: Int} (h: vr i=vr j): i=j:=by injection h
theorem same_false {a b: Tm} (h: ¬((decide (a.kind=1)&&decide (b.kind=1))&&decide (a.n=b.n))=true):((decide (a.kind=1)&&decide (b.kind=1))&&decide (a.n=b.n))=false:=by simpa using h
section
variable {n: Nat} {B: List Tm}
theorem eqw_sound (hG: Gst n B) (k: Nat): ∀ ps: List (Tm × Tm),okP n ps→
  ((wlk (fun _: Unit=>B) bdE k ps ()).1=(true,0)→∀ σ,Sol B σ→Eqs σ ps)∧
  ((wlk (fun _: Unit=>B) bdE k ps ()).1=(false,0)→∀ σ,Can B σ→¬ Eqs σ ps):=by
 induction k with
 | zero =>
  intro ps _
  cases ps with
  | nil=>exact ⟨fun _ σ _ p hp=>(by cases hp),fun h=>(by cases h)⟩
  | cons p ps=>exact ⟨fun h=>(by cases h),fun h=>(by cases h)⟩
 | succ k IH =>
  intro ps hok
  cases ps with
  | nil=>exact ⟨fun _ σ _ p hp=>(by cases hp),fun h=>(by cases h)⟩
  | cons p ps =>
  obtain⟨a,b⟩:=p;obtain⟨ha,hb⟩:=hok.head;have hx:=bp hG ha;have hy:=bp hG hb;have ex: ∀ σ,Sol B σ→app σ (follow B a)=app σ a:=fun σ hs=>hs.step hG ha;have ey: ∀ σ,Sol B σ→app σ (follow B b)=app σ b:=fun σ hs=>hs.step hG hb
  by_cases h1:((decide (a.kind=1)&&decide (b.kind=1))&&decide (a.n=b.n))=true
  ·rw [wlk_same (Bof:=fun _: Unit=>B) (bd:=bdE) (s:=()) h1];have ih:=IH ps hok.tail;exact⟨fun h σ hs=>Eqs.cons.2 ⟨same_eq h1 σ,ih.1 h σ hs⟩,fun h σ hs he=>ih.2 h σ hs (Eqs.cons.1 he).2⟩
  have h1:=same_false h1
  by_cases h2:(decide ((follow B a).kind=1)&&decide ((follow B b).kind=1))=true
  ·have hk:=h2;simp only [Bool.and_eq_true,decide_eq_true_eq] at hk
   by_cases h3:(follow B a).n=(follow B b).n
   ·rw [wlk_vs (Bof:=fun _: Unit=>B) (bd:=bdE) (s:=()) h1 h2 h3];have ih:=IH ps hok.tail;have e: ∀ σ,Sol B σ→app σ a=app σ b:=fun σ hs=>by rw [← ex σ hs,← ey σ hs,a8 hk.1,a8 hk.2,h3]
    exact⟨fun h σ hs=>Eqs.cons.2 ⟨e σ hs,ih.1 h σ hs⟩,fun h σ hs he=>ih.2 h σ hs (Eqs.cons.1 he).2⟩
   ·rw [wlk_vf (Bof:=fun _: Unit=>B) (bd:=bdE) (s:=()) h1 h2 h3 rfl];refine⟨fun h=>(by cases h),fun _ σ hs he=>?_⟩;have h4:=(Eqs.cons.1 he).1;rw [← ex σ hs.1,← ey σ hs.1,a8 hk.1,a8 hk.2,hs.opn (hx.2 hk.1),hs.opn (hy.2 hk.2)] at h4;exact h3 (vr_inj h4)
  have h2:(decide ((follow B a).kind=1)&&decide ((follow B b).kind=1))=false:=by simpa using h2
  by_cases h3:(follow B a).kind=1
  ·have hky:(follow B b).kind≠1:=fun h=>by rw [h3,h] at h2;cases h2
   rw [wlk_xf (Bof:=fun _: Unit=>B) (bd:=bdE) (s:=()) h1 h2 h3 rfl];refine⟨fun h=>(by cases h),fun _ σ hs he=>?_⟩;have h4:=(Eqs.cons.1 he).1;rw [← ex σ hs.1,← ey σ hs.1,a8 h3,bD hky,hs.opn (hx.2 h3)] at h4;injection h4 with h5
   exact hky h5.symm
  by_cases h5:(follow B b).kind=1
  ·rw [wlk_yf (Bof:=fun _: Unit=>B) (bd:=bdE) (s:=()) h1 h3 h5 rfl];refine⟨fun h=>(by cases h),fun _ σ hs he=>?_⟩;have h4:=(Eqs.cons.1 he).1;rw [← ex σ hs.1,← ey σ hs.1,a8 h5,bD h3,hs.opn (hy.2 h5)] at h4;injection h4 with h6
   exact h3 h6
  by_cases h4: alkB (follow B a) (follow B b)=true
  ·rw [wlk_nt (Bof:=fun _: Unit=>B) (bd:=bdE) (s:=()) h1 h3 h5 h4];have ih:=IH _ (okP.zip hx.1 hy.1 hok.tail);have e: ∀ σ,Sol B σ→(app σ a=app σ b↔Eqs σ ((follow B a).l.zip (follow B b).l)):=fun σ hs=>by
    rw [← ex σ hs,← ey σ hs];exact alk_app h3 h5 h4
   refine⟨fun h σ hs=>?_,fun h σ hs he=>ih.2 h σ hs ?_⟩
   ·have h6:=Eqs.app.1 (ih.1 h σ hs);exact Eqs.cons.2 ⟨(e σ hs).2 h6.1,h6.2⟩
   ·have h6:=Eqs.cons.1 he;exact Eqs.app.2 ⟨(e σ hs.1).1 h6.1,h6.2⟩
  ·have h4: alkB (follow B a) (follow B b)=false:=by simpa using h4
   rw [wlk_nf (Bof:=fun _: Unit=>B) (bd:=bdE) (s:=()) h1 h3 h5 h4];refine⟨fun h=>(by cases h),fun _ σ hs he=>?_⟩;have h6:=(Eqs.cons.1 he).1;rw [← ex σ hs.1,← ey σ hs.1] at h6;exact alk_clash h3 h5 h4 h6
theorem eqW_true (hG: Gst n B) {a b: Tm} (ha: okT n a=true) (hb: okT n b=true) (h: eqW B a b=(true,0)) {σ: Int→Tm} (hs: Sol B σ): app σ a=app σ b:=
 (Eqs.cons.1 ((eqw_sound hG 20000 [(a,b)] (fun p hp=>by rw [List.mem_singleton.1 hp];exact⟨ha,hb⟩)).1 h σ hs)).1
theorem eqW_false (hG: Gst n B) {a b: Tm} (ha: okT n a=true) (hb: okT n b=true) (h: eqW B a b=(false,0)) {σ: Int→Tm} (hs: Can B σ): app σ a≠app σ b:=fun he =>
 (eqw_sound hG 20000 [(a,b)] (fun p hp=>by rw [List.mem_singleton.1 hp];exact⟨ha,hb⟩)).2 h σ hs (Eqs.cons.2 ⟨he,fun p hp=>(by cases hp)⟩)
theorem fF (hG: Gst n B) (hA: Acyc B) {a b: Tm} (ha: okT n a=true) (hb: okT n b=true) (h:(eqW B a b).2=0):(eqW B a b).1=true↔∀ σ,Sol B σ→app σ a=app σ b:=by
 have e: eqW B a b=((eqW B a b).1,0):=by rw [← h]
 constructor
 ·intro h1 σ hs;rw [h1] at e;exact eqW_true hG ha hb e hs
 ·intro h1
  cases h2:(eqW B a b).1 with
  | true=>rfl
  | false =>
   rw [h2] at e;obtain⟨σ,hs,hc⟩:=exists_sol hA (fun i t hi=>by rw [hG.len];intro j hj;have:=hG.allV.occ (List.mem_of_getElem? hi) j hj;rw [hG.len] at this;exact this);exact absurd (h1 σ hs) (eqW_false hG ha hb e ⟨hs,hc⟩)
end
theorem Sol.ext {B: List Tm} {m: Int} {σ: Int→Tm}: Sol (extS B m) σ↔Sol B σ:=by
 unfold extS
 constructor
 ·intro h i t hi hk;refine h i t ?_ hk;rw [List.getElem?_append_left (List.getElem?_eq_some_iff.1 hi).1,hi]
 ·intro h i t hi hk;rw [List.getElem?_append] at hi
  split at hi
  ·exact h i t hi hk
  ·rw [List.getElem?_replicate] at hi
   split at hi
   ·obtain rfl:=Option.some.inj hi;exact absurd rfl hk
   ·cases hi
theorem Acyc.ext {B: List Tm} {m: Int} (h: Acyc B): Acyc (extS B m):=by
 obtain⟨rk,hr⟩:=h;refine⟨rk,fun i t hi hk j hj=>?_⟩;unfold extS at hi;rw [List.getElem?_append] at hi
 split at hi
 ·exact hr i t hi hk j hj
 ·rw [List.getElem?_replicate] at hi
  split at hi
  ·obtain rfl:=Option.some.inj hi;exact absurd rfl hk
  ·cases hi
theorem impL_iff {n: Nat} {B: List Tm} (hG: Gst n B) (hA: Acyc B): ∀(ts: List Tm) (i: Nat),(∀(j: Nat) (t: Tm),ts[j]? =some t→t.kind≠0→okT n t=true∧i+j < n)→(impL B i ts).2=0→
  ((impL B i ts).1=true↔∀ σ,Sol B σ→∀(j: Nat) (t: Tm),ts[j]? =some t→t.kind≠0→σ ((i+j: Nat): Int)=app σ t)
 | [],i,_,_=>⟨fun _ σ _ j t hj=>by simp at hj,fun _=>rfl⟩
 | t::ts,i,hv,h=>by
  rw [impL] at h ⊢;have ih:=impL_iff hG hA ts (i+1) (fun j u hj hk=>by have:=hv (j+1) u (by simpa using hj) hk;exact⟨this.1,by omega⟩);have sh: ∀ σ,(∀(j: Nat) (u: Tm),ts[j]? =some u→u.kind≠0→σ ((i+1+j: Nat): Int)=app σ u)↔∀(j: Nat) (u: Tm),(t::ts)[j+1]? =some u→u.kind≠0→σ ((i+(j+1): Nat): Int)=app σ u:=fun σ=>by
   constructor
   ·intro hh j u hj hk;rw [show i+(j+1)=i+1+j by omega];exact hh j u (by simpa using hj) hk
   ·intro hh j u hj hk;rw [show i+1+j=i+(j+1) by omega];exact hh j u (by simpa using hj) hk
  by_cases hk: t.kind=0
  ·rw [if_pos hk] at h ⊢;rw [ih h]
   constructor
   ·intro hh σ hs j u hj hu
    cases j with
    | zero=>obtain rfl:=Option.some.inj hj;exact absurd hk hu
    | succ j=>exact (sh σ).1 (hh σ hs) j u hj hu
   ·intro hh σ hs;exact(sh σ).2 fun j u hj hu=>hh σ hs (j+1) u hj hu
  ·rw [if_neg hk] at h ⊢;have h0:=hv 0 t rfl hk;have hvr: okT n (vr (i: Int))=true:=fP (by omega) (by omega) hG.le
   split at h
   ·rename_i hc
    rw [if_pos hc];have hf:(eqW B (vr (i: Int)) t).1=false:=by
     rw [h] at hc;simpa using hc
    refine⟨fun hh=>(by cases hh),fun hh=>?_⟩;have:=(fF hG hA hvr h0.1 h).2 fun σ hs=>by
     have:=hh σ hs 0 t rfl hk;rw [a8 (t:=vr (i: Int)) rfl];simpa [vr,Tm.n] using this
    rw [hf] at this;cases this
   ·rename_i hc
    rw [if_neg hc];have hc':(eqW B (vr (i: Int)) t).2=0∧(eqW B (vr (i: Int)) t).1=true:=by simpa using hc
    rw [ih h];have h4:=(fF hG hA hvr h0.1 hc'.1).1 hc'.2
    constructor
    ·intro hh σ hs j u hj hu
     cases j with
     | zero =>
      obtain rfl:=Option.some.inj hj;have:=h4 σ hs;rw [a8 (t:=vr (i: Int)) rfl] at this;simpa [vr,Tm.n] using this
     | succ j=>exact (sh σ).1 (hh σ hs) j u hj hu
    ·intro hh σ hs;exact(sh σ).2 fun j u hj hu=>hh σ hs (j+1) u hj hu
theorem eM {s u: List Tm}: s.length+(difS s u).toNat=max s.length u.length:=by unfold difS;omega
theorem impU_iff {s u: List Tm} (hs: Gst s.length s) (ha: Acyc s) (hu: Gst u.length u) (hb: Acyc u) (h:(impU s u).2=0):(impU s u).1=true↔∀ σ,Sol s σ→Sol u σ:=by
 have e1: stE s=0:=dm.2 (fe hs ha);have e2: stE u=0:=dm.2 (fe hu hb);have hl: s.length+(difS s u).toNat≤100000:=by rw [eM];have:=hs.le;have:=hu.le;omega
 have hG:=hs.ext hl;unfold impU at h ⊢;rw [e1,e2] at h ⊢;simp only [decide_true,Bool.not_true,Bool.or_self,Bool.false_eq_true,if_false] at h ⊢;rw [impL_iff hG (ha.ext) u 0 (fun j t hj hk=>by
  have h1:=hu.bnd hj hk;have h2:=(List.getElem?_eq_some_iff.1 hj).1;exact⟨eV (by rw [eM];omega) h1.1,by rw [eM];omega⟩) h]
 constructor
 ·intro hh σ hσ i t hi hk;have:=hh σ (Sol.ext.2 hσ) i t hi hk
  rwa [Nat.zero_add] at this
 ·intro hh σ hσ j t hj hk;rw [Nat.zero_add];exact hh σ (Sol.ext.1 hσ) j t hj hk
end Go.Vk
namespace Go.Vk
theorem du {j: Int}: ∀ {ts: List Tm},j ∈ occL ts→∃ t,t ∈ ts∧j ∈ occ t
 | [],h=>by rw [occL] at h;cases h
 | t::ts,h=>by
  rw [occL] at h
  rcases List.mem_append.1 h with h | h
  ·exact⟨t,List.mem_cons_self,h⟩
  ·obtain⟨u,hu,hj⟩:=du h;exact⟨u,List.mem_cons_of_mem _ hu,hj⟩
theorem dl {j: Int}: ∀ {ts: List Tm} {t: Tm},t ∈ ts→j ∈ occ t→j ∈ occL ts
 | u::ts,t,ht,hj=>by
  rw [occL]
  rcases List.mem_cons.1 ht with rfl | ht
  ·exact List.mem_append_left _ hj
  ·exact List.mem_append_right _ (dl ht hj)
theorem vfree_out {B: List Tm} {stop: Int→Bool}: ∀(f: Nat) (todo: List Tm) (seen out: List Int) (b: Bool) (out': List Int),vfree B stop f todo seen out=(b,out')→∀ j ∈ out,j ∈ out':=by
 intro f
 induction f with
 | zero=>intro todo seen out b out' h j hj;simp only [vfree] at h;cases h;exact hj
 | succ f ih =>
  intro todo seen out b out' h j hj
  cases todo with
  | nil=>simp only [vfree] at h;cases h;exact hj
  | cons t ts =>
   simp only [vfree] at h
   repeat' split at h
   all_goals first | exact ih _ _ _ _ _ h j hj | exact ih _ _ _ _ _ h j (List.mem_append_left _ hj) |(cases h;exact List.mem_append_left _ hj)
theorem vfree_false {B: List Tm} (hB: AllV B.length B) (stop: Int→Bool): ∀(f: Nat) (todo: List Tm) (seen out out': List Int),AllV B.length todo→vmeas B todo seen < f→vfree B stop f todo seen out=(false,out')→
  ∃ S: Int→Prop,(∀ j ∈ seen,S j)∧(∀ t ∈ todo,∀ j ∈ occ t,S j)∧∀ j,S j→j ∈ seen∨((opn B j=true→stop j=false∧j ∈ out')∧(opn B j=false→∀ i ∈ occ (B.getD j.toNat default),S i)):=by
 intro f
 induction f with
 | zero=>intro todo seen out out' _ h;omega
 | succ f ih =>
  intro todo seen out out' hv hm h
  cases todo with
  | nil=>exact ⟨fun j=>j ∈ seen,fun j hj=>hj,fun t ht=>(by cases ht),fun j hj=>.inl hj⟩
  | cons t ts =>
   simp only [vfree] at h
   split at h
   ·rename_i hk
    have hr:=bN (hv t List.mem_cons_self) hk;have ho: ∀ j ∈ occ t,j=t.n:=fun j hj=>by rw [bV,if_pos hk] at hj;exact List.mem_singleton.1 hj
    split at h
    ·rename_i hs
     have:=cG B t ts seen;obtain⟨S,h1,h2,h3⟩:=ih _ _ _ _ hv.tail (by omega) h;refine⟨S,h1,fun u hu j hj=>?_,h3⟩
     rcases List.mem_cons.1 hu with rfl | hu
     ·rw [ho j hj];exact h1 _ (by simpa using hs)
     ·exact h2 u hu j hj
    ·rename_i hs
     have hs': seen.contains t.n=false:=by simpa using hs
     split at h
     ·rename_i hop
      split at h
      ·cases h
      ·rename_i hst
       have:=cH (B:=B) (t:=t) (ts:=ts) (seen:=seen);obtain⟨S,h1,h2,h3⟩:=ih _ _ _ _ hv.tail (by omega) h;refine⟨S,fun j hj=>h1 j (List.mem_cons_of_mem _ hj),fun u hu j hj=>?_,fun j hj=>?_⟩
       ·rcases List.mem_cons.1 hu with rfl | hu
        ·rw [ho j hj];exact h1 _ List.mem_cons_self
        ·exact h2 u hu j hj
       ·rcases h3 j hj with h4 | h4
        ·rcases List.mem_cons.1 h4 with rfl | h4
         ·refine .inr ⟨fun _=>⟨by simpa using hst,vfree_out _ _ _ _ _ _ h _ (List.mem_append_right _ (List.mem_singleton.2 rfl))⟩,fun h5=>?_⟩;rw [hop] at h5;cases h5
         ·exact .inl h4
        ·exact .inr h4
     ·rename_i hop
      have:=cD (ts:=ts) hr hs';obtain⟨S,h1,h2,h3⟩:=ih _ _ _ _ (hB.bind hv hk) (by omega) h;refine⟨S,fun j hj=>h1 j (List.mem_cons_of_mem _ hj),fun u hu j hj=>?_,fun j hj=>?_⟩
      ·rcases List.mem_cons.1 hu with rfl | hu
       ·rw [ho j hj];exact h1 _ List.mem_cons_self
       ·exact h2 u (List.mem_cons_of_mem _ hu) j hj
      ·rcases h3 j hj with h4 | h4
       ·rcases List.mem_cons.1 h4 with rfl | h4
        ·exact .inr ⟨fun h5=>absurd h5 hop,fun _=>h2 _ List.mem_cons_self⟩
        ·exact .inl h4
       ·exact .inr h4
   ·rename_i hk
    have:=cS B t ts seen;obtain⟨S,h1,h2,h3⟩:=ih _ _ _ _ hv.sub (by omega) h;refine⟨S,h1,fun u hu j hj=>?_,h3⟩
    rcases List.mem_cons.1 hu with rfl | hu
    ·rw [bV,if_neg hk] at hj;obtain⟨x,hx,hj⟩:=du hj;exact h2 x (List.mem_append_left _ hx) j hj
    ·exact h2 u (List.mem_append_right _ hu) j hj
theorem bR (i: Int): occ (vr i)= [i]:=by rw [bV];rfl
theorem Reach.of_occ {B: List Tm} {t: Tm} {j v: Int} (hj: j ∈ Vk.occ t) (h: Reach B (vr j) v): Reach B t v:=by
 cases h with
 | occ h1=>rw [bR] at h1;rw [List.mem_singleton.1 h1];exact .occ hj
 | step h1 h2 h3 h4=>rw [bR] at h1;rw [List.mem_singleton.1 h1] at h2;exact .step hj h2 h3 h4
theorem Reach.split {B: List Tm} {t: Tm} {v: Int} (h: Reach B t v): ∃ j,j ∈ Vk.occ t∧Reach B (vr j) v:=by
 cases h with
 | occ h1=>exact ⟨v,h1,.occ (by rw [bR];exact List.mem_singleton.2 rfl)⟩
 | @step _ u j _ h1 h2 h3 h4=>exact ⟨j,h1,.step (by rw [bR];exact List.mem_singleton.2 rfl) h2 h3 h4⟩
theorem Reach.sub {B: List Tm} {t x: Tm} {v: Int} (hk: ¬ t.kind=1) (hx: x ∈ t.l) (h: Reach B x v): Reach B t v:=by
 obtain⟨j,h1,h2⟩:=h.split;exact .of_occ (by rw [bV,if_neg hk];exact dl hx h1) h2
theorem VF_reach {B: List Tm} (hB: AllV B.length B) {stop: Int→Bool} {todo: List Tm} {out: List Int} (hv: AllV B.length todo) (h: VF B stop todo [] []=(false,out)) {t: Tm} (ht: t ∈ todo) {v: Int} (hr: Reach B t v) (ho: opn B v=true): stop v=false∧v ∈ out:=by
 obtain⟨S,_,h2,h3⟩:=vfree_false hB stop _ _ _ _ _ hv (by omega) h;have key: ∀ {u: Tm} {w: Int},Reach B u w→(∀ j ∈ occ u,S j)→S w:=by
  intro u w hr
  induction hr with
  | occ h'=>intro hh;exact hh _ h'
  | @step t u j v hj hu hb hr ih =>
   intro hh;refine ih fun i hi=>?_
   rcases h3 j (hh j hj) with h4 | h4
   ·cases h4
   ·refine h4.2 ?_ i (by rw [getD_some hu];exact hi);unfold opn;rw [getD_some hu];exact decide_eq_false hb
 rcases h3 v (key hr (h2 t ht)) with h4 | h4
 ·cases h4
 ·exact h4.1 ho
theorem occB_false {n: Nat} {B: List Tm} (hG: Gst n B) {v: Int} {t: Tm} (ht: okT n t=true) (ho: opn B v=true) (h: occB B v t=false): ¬ Reach B t v:=fun hr=>by
 unfold occB at h;have hv: AllV B.length [t]:=fun u hu=>by rw [List.mem_singleton.1 hu,hG.len];exact cP ht
 have:=(VF_reach hG.allV hv (Prod.ext h rfl) (List.mem_singleton.2 rfl) hr ho).1;simp at this
theorem rk_max (rk: Nat→Nat): ∀(l: List Int) (j: Int),j ∈ l→rk j.toNat≤l.foldr (fun i m=>max (rk i.toNat) m) 0
 | i::l,j,h=>by
  rw [List.foldr_cons]
  rcases List.mem_cons.1 h with rfl | h
  ·omega
  ·have:=rk_max rk l j h;omega
theorem Gst.occV {n: Nat} {B: List Tm} (hG: Gst n B) (i: Nat) (t: Tm) (hi: B[i]? =some t): OccV B.length t:=fun j hj=>hG.allV.occ (List.mem_of_getElem? hi) j hj
theorem fr {n: Nat} {t: Tm} (h: okT n t=true): ∀ j ∈ occ t,0≤j∧j < n:=(show AllV n [t] from fun u hu=>by rw [List.mem_singleton.1 hu];exact cP h).occ (List.mem_singleton.2 rfl)
theorem Acyc.set {n: Nat} {B: List Tm} (hG: Gst n B) (hA: Acyc B) {v: Int} {t: Tm} (hb: BC n B v t) (hn: ¬ Reach B t v): Acyc (B.set v.toNat t):=by
 obtain⟨rk,hr⟩:=hA;have hv0:=hb.lo
 classical
 refine⟨fun i=>if Reach B (vr (i: Int)) v then rk i+((occ t).foldr (fun i m=>max (rk i.toNat) m) 0+1) else rk i,fun i u hi hk j hj=>?_⟩;rw [List.getElem?_set] at hi
 split at hi
 ·rename_i e
  split at hi
  ·obtain rfl:=Option.some.inj hi;have hj0:=fr hb.ok j hj;have e1:((j.toNat: Nat): Int)=j:=by omega
   have e2:((i: Nat): Int)=v:=by omega
   simp only [e1,e2];rw [if_neg (fun h=>hn (.of_occ hj h)),if_pos (Reach.occ (by rw [bR];exact List.mem_singleton.2 rfl))];have:=rk_max rk (occ t) j hj;omega
  ·cases hi
 ·have h1:=hr i u hi hk j hj;have hj0:=hG.occV i u hi j hj;have e1:((j.toNat: Nat): Int)=j:=by omega
  simp only [e1]
  by_cases h2: Reach B (vr j) v
  ·have h3: Reach B (vr (i: Int)) v:=.step (j:=(i: Int)) (by rw [bR];exact List.mem_singleton.2 rfl) (by rw [show ((i: Nat): Int).toNat=i by omega];exact hi) hk (.of_occ hj h2);rw [if_pos h2,if_pos h3];omega
  ·rw [if_neg h2]
   split <;> omega
theorem eS {B: List Tm} {v: Int} {t: Tm} (ho: opn B v=true) (h: B[v.toNat]? =some t): t.kind=0:=by
 unfold opn at ho;rw [getD_some h] at ho;exact of_decide_eq_true ho
theorem Sol.set {n: Nat} {B: List Tm} (hG: Gst n B) {v: Int} {t: Tm} (hb: BC n B v t) {σ: Int→Tm}: Sol (B.set v.toNat t) σ↔Sol B σ∧σ v=app σ t:=by
 have h0:=hb.lo;have h1:=hb.hi;have hl:=hG.len;have hv: v.toNat < B.length:=by omega
 have e:((v.toNat: Nat): Int)=v:=by omega
 constructor
 ·intro h;refine⟨fun i u hi hk=>?_,?_⟩
  ·refine h i u ?_ hk;rw [List.getElem?_set]
   split
   ·rename_i e1
    rw [← e1] at hi;exact absurd (eS hb.op hi) hk
   ·exact hi
  ·have h2:=h v.toNat t (by rw [List.getElem?_set,if_pos rfl,if_pos hv]) (by have:=fc hb.ok;omega)
   rwa [e] at h2
 ·rintro⟨h2,h3⟩ i u hi hk;rw [List.getElem?_set] at hi
  split at hi
  ·rename_i e1
   obtain rfl:=Option.some.inj hi;rw [← e1,e];exact h3
  ·exact h2 i u hi hk
theorem reach_open {B: List Tm} {w v: Int} (ho: opn B w=true) (h: Reach B (vr w) v): v=w:=by
 cases h with
 | occ h1=>rw [bR] at h1;exact List.mem_singleton.1 h1
 | step h1 h2 h3 h4=>rw [bR] at h1;rw [List.mem_singleton.1 h1] at h2;exact absurd (eS ho h2) h3
section
variable {τ: Type} {bb: τ→Int→τ} {n: Nat}
theorem bdJ_yes {s: List Tm × τ} {v: Int} {t: Tm} (hG: Gst n s.1) (hA: Acyc s.1) (hb: BC n s.1 v t) (ho: t.kind=1→opn s.1 t.n=true) (h:(bdJ bb s v t).1=true):(bdJ bb s v t).2.1=s.1.set v.toNat t∧Acyc (s.1.set v.toNat t):=by
 by_cases hc:(!decide (t.kind=1)&&occB s.1 v t)=true
 ·rw [bdJ_occ hc] at h;cases h
 ·have hc:(!decide (t.kind=1)&&occB s.1 v t)=false:=by simpa using hc
  refine⟨by rw [bdJ_set hc],hA.set hG hb ?_⟩
  by_cases hk: t.kind=1
  ·rw [okT_vr hb.ok hk];intro hr;have:=reach_open (ho hk) hr;have:=hb.dn hk;omega
  ·rw [decide_eq_false hk] at hc;exact occB_false hG hb.ok hb.op (by simpa using hc)
structure JW (n: Nat) (B: List Tm) (ps: List (Tm × Tm)) (r:(Bool × Int) ×(List Tm × τ)): Prop where
 g: Gst n r.2.1
 a: Acyc r.2.1
 keep: ∀(i: Nat) (t: Tm),B[i]? =some t→t.kind≠0→r.2.1[i]? =some t
 yes: r.1=(true,0)→∀ σ,Sol r.2.1 σ↔Sol B σ∧Eqs σ ps
 no: r.1=(false,0)→∀ σ,Sol B σ→¬ Eqs σ ps
theorem JW.bind {s: List Tm × τ} {a b: Tm} {ps: List (Tm × Tm)} {v: Int} {t: Tm} {k: Nat} (hG: Gst n s.1) (hA: Acyc s.1) (hok: okP n ps) (hb: BC n s.1 v t) (ho: t.kind=1→opn s.1 t.n=true)
  (e: ∀ σ,Sol s.1 σ→(app σ a=app σ b↔σ v=app σ t)) (IH: ∀(s: List Tm × τ),Gst n s.1→Acyc s.1→JW n s.1 ps (wlk Prod.fst (bdJ bb) k ps s))
  (h:(bdJ bb s v t).1=true): JW n s.1 ((a,b)::ps) (wlk Prod.fst (bdJ bb) k ps (bdJ bb s v t).2):=by
 obtain⟨h1,h2⟩:=bdJ_yes (bb:=bb) hG hA hb ho h;have ih:=IH (bdJ bb s v t).2 (by rw [h1];exact hG.set hb) (by rw [h1];exact h2);refine⟨ih.g,ih.a,fun i u hi hk=>ih.keep i u ?_ hk,fun h3 σ=>?_,fun h3 σ hs he=>?_⟩
 ·rw [h1,List.getElem?_set]
  split
  ·rename_i e1
   rw [← e1] at hi;exact absurd (eS hb.op hi) hk
  ·exact hi
 ·rw [ih.yes h3 σ,h1,Sol.set hG hb,Eqs.cons];exact⟨fun h4=>⟨h4.1.1,(e σ h4.1.1).2 h4.1.2,h4.2⟩,fun h4=>⟨⟨h4.1,(e σ h4.1).1 h4.2.1⟩,h4.2.2⟩⟩
 ·have h4:=Eqs.cons.1 he;exact ih.no h3 σ (by rw [h1];exact(Sol.set hG hb).2 ⟨hs,(e σ hs).1 h4.1⟩) h4.2
end
end Go.Vk
namespace Go.Vk
mutual
theorem varR_mem: ∀(t: Tm) (out: List Int) (j: Int),nodesR t=true→(j ∈ varR t out↔j ∈ out∨j ∈ occ t)
 | .mk k n s l,out,j,h=>by
  rw [nodesR,Bool.and_eq_true] at h;rw [varR,ei l _ j h.2,occ]
  by_cases hk: k=1
  ·have hl:=(bW h.1 hk).2.2.2;change l= [] at hl;subst hl;rw [if_pos hk,decide_eq_true hk,occL]
   by_cases hc: out.contains n=true
   ·rw [hc];have: n ∈ out:=by simpa using hc
    simp;intro e;rw [e];exact this
   ·have hc: out.contains n=false:=by simpa using hc
    rw [hc];simp
  ·rw [if_neg hk,decide_eq_false hk];simp
theorem ei: ∀(ts: List Tm) (out: List Int) (j: Int),nodesRL ts=true→(j ∈ varRL ts out↔j ∈ out∨j ∈ occL ts)
 | [],out,j,_=>by rw [varRL,occL];simp
 | t::ts,out,j,h=>by
  rw [nodesRL,Bool.and_eq_true] at h;rw [varRL,ei ts _ j h.2,varR_mem t out j h.1,occL,List.mem_append,or_assoc]
end
mutual
theorem varR_nodup: ∀(t: Tm) (out: List Int),out.Nodup→(varR t out).Nodup
 | .mk k n s l,out,h=>by
  rw [varR];refine dr l _ ?_
  split
  ·rename_i hc
   rw [List.nodup_append];refine⟨h,by simp,fun a ha b hb e=>?_⟩;rw [List.mem_singleton.1 hb] at e;subst e;simp at hc;exact hc.2 ha
  ·exact h
theorem dr: ∀(ts: List Tm) (out: List Int),out.Nodup→(varRL ts out).Nodup
 | [],out,h=>by rw [varRL];exact h
 | t::ts,out,h=>by rw [varRL];exact dr ts _ (varR_nodup t out h)
end
def dps (B: List Tm) (m: Nat): List Int:=if (B.getD m default).kind=0 then [] else varRL [B.getD m default] []
theorem dps_nodup (B: List Tm) (m: Nat):(dps B m).Nodup:=by
 unfold dps
 split
 ·exact List.nodup_nil
 ·exact dr _ _ List.nodup_nil
theorem eF {n: Nat} {B: List Tm} (hG: Gst n B) {m: Nat} {t: Tm} (h: B[m]? =some t) (hk: t.kind≠0) (j: Int): j ∈ dps B m↔j ∈ occ t:=by
 have h1:=(bH (cl (hG.bnd h hk).1)).2.2;unfold dps;rw [getD_some h,if_neg hk,ei _ _ _ (by rw [nodesRL,h1];rfl),occL,occL];simp
theorem fh {n: Nat} {B: List Tm} (hG: Gst n B) {m: Nat} {j: Int} (h: j ∈ dps B m): 0≤j∧j < B.length:=by
 have hk:(B.getD m default).kind≠0:=fun hk=>by unfold dps at h;rw [if_pos hk] at h;cases h
 have hb:=bj hk;rw [eF hG hb hk] at h;exact hG.occV m _ hb j h
def usA (us: List (List Int)) (i: Int): List Int→List (List Int)
 | []=>us
 | x::xs=>usA (us.set x.toNat (us.getD x.toNat []++ [i])) i xs
theorem usA_len (i: Int): ∀(l: List Int) (us: List (List Int)),(usA us i l).length=us.length
 | [],us=>rfl
 | x::xs,us=>by rw [usA,usA_len i xs,List.length_set]
theorem eT {α: Type} {l: List α} {i j: Nat} {x d: α} (h: i < l.length):(l.set i x).getD j d=if i=j then x else l.getD j d:=by
 rw [List.getD_eq_getElem?_getD,List.getElem?_set,List.getD_eq_getElem?_getD]
 by_cases e: i=j
 ·rw [if_pos e,if_pos e,if_pos (by omega)];rfl
 ·rw [if_neg e,if_neg e]
theorem usA_get (i: Int): ∀(l: List Int) (us: List (List Int)),l.Nodup→(∀ x ∈ l,0≤x∧x.toNat < us.length)→∀ j: Nat,(usA us i l).getD j []=us.getD j []++(if (j: Int) ∈ l then [i] else [])
 | [],us,_,_,j=>by rw [usA];simp
 | x::xs,us,hn,hr,j=>by
  have hx:=hr x List.mem_cons_self;have hn':=List.nodup_cons.1 hn;rw [usA,usA_get i xs _ hn'.2 (fun y hy=>by rw [List.length_set];exact hr y (List.mem_cons_of_mem _ hy)) j,eT hx.2]
  by_cases e: x.toNat=j
  ·have e':(j: Int)=x:=by omega
   rw [if_pos e,e',if_neg hn'.1,if_pos List.mem_cons_self,← e];simp
  ·have e':(j: Int)≠x:=by omega
   rw [if_neg e]
   by_cases hj:(j: Int) ∈ xs
   ·rw [if_pos hj,if_pos (List.mem_cons_of_mem _ hj)]
   ·rw [if_neg hj,if_neg (by rw [List.mem_cons];exact fun h=>h.elim e' hj)]
structure K0 (B: List Tm) (k: Nat) (us: List (List Int)) (lf nx: List Int): Prop where
 ul: us.length=B.length
 ll: lf.length=B.length
 mem: ∀(j: Nat) (i: Int),i ∈ us.getD j []↔∃ m: Nat,m < k∧i=m∧(j: Int) ∈ dps B m
 nd: ∀ j: Nat,(us.getD j []).Nodup
 sz: ∀ j: Nat,(us.getD j []).length≤k
 lt: ∀ m: Nat,m < B.length→lf.getD m 0=if m < k then ((dps B m).length: Int) else 0
 nn: nx.Nodup
 nm: ∀ i: Int,i ∈ nx↔∃ m: Nat,m < k∧i=m∧dps B m= []
 nl: nx.length≤k
theorem K0.zero (B: List Tm): K0 B 0 (List.replicate B.length []) (List.replicate B.length 0) []:=by
 have hg: ∀ j: Nat,(List.replicate B.length ([]: List Int)).getD j []= []:=fun j=>by
  rw [List.getD_eq_getElem?_getD,List.getElem?_replicate];split <;> rfl
 refine⟨by simp,by simp,fun j i=>?_,fun j=>?_,fun j=>?_,fun m hm=>?_,List.nodup_nil,fun i=>?_,by simp⟩
 ·rw [hg];simp
 ·rw [hg];exact List.nodup_nil
 ·rw [hg];simp
 ·rw [if_neg (by omega),List.getD_eq_getElem?_getD,List.getElem?_replicate];split <;> rfl
 ·simp
theorem K0.step {n: Nat} {B: List Tm} (hG: Gst n B) {k: Nat} {us: List (List Int)} {lf nx: List Int} (h: K0 B k us lf nx) (hk: k < B.length) :
  K0 B (k+1) (usA us (k: Int) (dps B k)) (lf.set k ((dps B k).length: Int)) (if ((dps B k).length: Int)=0 then nx++ [(k: Int)] else nx):=by
 have hg:=usA_get (k: Int) (dps B k) us (dps_nodup B k) (fun x hx=>by have:=fh hG hx;rw [h.ul];omega);have hnot: ∀ j: Nat,(k: Int) ∉ us.getD j []:=fun j hj=>by
  obtain⟨m,h1,h2,_⟩:=(h.mem j k).1 hj;omega
 have hnn:(k: Int) ∉ nx:=fun hj=>by
  obtain⟨m,h1,h2,_⟩:=(h.nm k).1 hj;omega
 refine⟨by rw [usA_len];exact h.ul,by rw [List.length_set];exact h.ll,fun j i=>?_,fun j=>?_,fun j=>?_,fun m hm=>?_,?_,fun i=>?_,?_⟩
 ·rw [hg,List.mem_append,h.mem]
  constructor
  ·rintro(⟨m,h1,h2,h3⟩ | h1)
   ·exact⟨m,by omega,h2,h3⟩
   ·split at h1
    ·exact⟨k,by omega,List.mem_singleton.1 h1,by assumption⟩
    ·cases h1
  ·rintro⟨m,h1,h2,h3⟩
   by_cases e: m=k
   ·subst e
    right
    rw [if_pos h3,h2];exact List.mem_singleton.2 rfl
   ·exact .inl ⟨m,by omega,h2,h3⟩
 ·rw [hg]
  split
  ·rw [List.nodup_append];refine⟨h.nd j,by simp,fun a ha b hb e=>?_⟩;rw [List.mem_singleton.1 hb] at e;subst e;exact hnot j ha
  ·rw [List.append_nil];exact h.nd j
 ·rw [hg,List.length_append];have:=h.sz j
  split <;> simp only [List.length_cons,List.length_nil] <;> omega
 ·rw [eT (by rw [h.ll];exact hk)]
  by_cases e: k=m
  ·subst e;rw [if_pos rfl,if_pos (by omega)]
  ·rw [if_neg e,h.lt m hm]
   by_cases h1: m < k
   ·rw [if_pos h1,if_pos (by omega)]
   ·rw [if_neg h1,if_neg (by omega)]
 ·split
  ·rw [List.nodup_append];refine⟨h.nn,by simp,fun a ha b hb e=>?_⟩;rw [List.mem_singleton.1 hb] at e;subst e;exact hnn ha
  ·exact h.nn
 ·constructor
  ·intro hi
   split at hi
   ·rename_i hc
    rcases List.mem_append.1 hi with hi | hi
    ·obtain⟨m,h1,h2,h3⟩:=(h.nm i).1 hi;exact⟨m,by omega,h2,h3⟩
    ·exact⟨k,by omega,List.mem_singleton.1 hi,List.eq_nil_of_length_eq_zero (by omega)⟩
   ·obtain⟨m,h1,h2,h3⟩:=(h.nm i).1 hi;exact⟨m,by omega,h2,h3⟩
  ·rintro⟨m,h1,h2,h3⟩
   by_cases e: m=k
   ·subst e;rw [h3];simp [h2]
   ·have:=(h.nm i).2 ⟨m,by omega,h2,h3⟩
    split
    ·exact List.mem_append_left _ this
    ·exact this
 ·have:=h.nl
  split <;> simp <;> omega
def khN: List Int→List Int→List Int→List Int × List Int
 | [],lf,nx=>(lf,nx)
 | x::xs,lf,nx=>khN xs (lf.set x.toNat (mrk lf x - 1)) (if mrk lf x - 1=0 then nx++ [x] else nx)
theorem khN_len: ∀(xs lf nx: List Int),(khN xs lf nx).1.length=lf.length
 | [],lf,nx=>rfl
 | x::xs,lf,nx=>by rw [khN,khN_len xs,List.length_set]
theorem khN_get: ∀(xs lf nx: List Int),xs.Nodup→(∀ x ∈ xs,0≤x∧x.toNat < lf.length)→(∀ m: Nat,(khN xs lf nx).1.getD m 0=lf.getD m 0 - (if (m: Int) ∈ xs then 1 else 0))∧(khN xs lf nx).2=nx++xs.filter (fun x=>decide (mrk lf x=1))
 | [],lf,nx,_,_=>by rw [khN];simp
 | x::xs,lf,nx,hn,hr=>by
  have hx:=hr x List.mem_cons_self;have hn':=List.nodup_cons.1 hn;obtain⟨h1,h2⟩:=khN_get xs (lf.set x.toNat (mrk lf x - 1)) (if mrk lf x - 1=0 then nx++ [x] else nx) hn'.2 (fun y hy=>by rw [List.length_set];exact hr y (List.mem_cons_of_mem _ hy));rw [khN]
  constructor
  ·intro m;rw [h1,eT hx.2]
   by_cases e: x.toNat=m
   ·have e':(m: Int)=x:=by omega
    rw [if_pos e,e',if_neg hn'.1,if_pos List.mem_cons_self];unfold mrk;rw [e];omega
   ·have e':(m: Int)≠x:=by omega
    rw [if_neg e]
    by_cases hj:(m: Int) ∈ xs
    ·rw [if_pos hj,if_pos (List.mem_cons_of_mem _ hj)]
    ·rw [if_neg hj,if_neg (by rw [List.mem_cons];exact fun h=>h.elim e' hj)]
  ·have hf: xs.filter (fun y=>decide (mrk (lf.set x.toNat (mrk lf x - 1)) y=1))=xs.filter (fun y=>decide (mrk lf y=1)):=by
    refine List.filter_congr fun y hy=>?_;have hy0:=hr y (List.mem_cons_of_mem _ hy);have hne: y≠x:=fun e=>hn'.1 (e ▸ hy);rw [eJ hx.2 hx.1 hy0.1,if_neg hne]
   rw [h2,hf,List.filter_cons]
   by_cases e: mrk lf x=1
   ·rw [if_pos (by omega),if_pos (decide_eq_true e)];simp
   ·rw [if_neg (by omega),if_neg (by simpa using e)]
structure KI (B: List Tm) (d: Nat) (us: List (List Int)) (lf nx: List Int): Prop where
 ul: us.length=B.length
 ll: lf.length=B.length
 mem: ∀(j: Nat) (i: Int),i ∈ us.getD j []↔∃ m: Nat,m < B.length∧i=m∧(j: Int) ∈ dps B m
 nd: ∀ j: Nat,(us.getD j []).Nodup
 sz: ∀ j: Nat,(us.getD j []).length≤B.length
 lt: ∀ m: Nat,m < B.length→lf.getD m 0=(((dps B m).filter (fun j=>!(nx.take d).contains j)).length: Int)
 nn: nx.Nodup
 rg: ∀ i ∈ nx,0≤i∧i < B.length
 zr: ∀ m: Nat,m < B.length→((m: Int) ∈ nx↔lf.getD m 0=0)
 od: ∀(p: Nat) (i: Int),nx[p]? =some i→∀ j ∈ dps B i.toNat,j ∈ nx.take p
 le: d≤nx.length
theorem K0.done {B: List Tm} {us: List (List Int)} {lf nx: List Int} (h: K0 B B.length us lf nx): KI B 0 us lf nx:=by
 have hl: ∀ m: Nat,m < B.length→lf.getD m 0=((dps B m).length: Int):=fun m hm=>by rw [h.lt m hm,if_pos hm]
 refine⟨h.ul,h.ll,h.mem,h.nd,h.sz,fun m hm=>?_,h.nn,fun i hi=>?_,fun m hm=>?_,fun p i hp j hj=>?_,Nat.zero_le _⟩
 ·rw [hl m hm,List.filter_eq_self.2 (fun j _=>by simp)]
 ·obtain⟨m,h1,h2,_⟩:=(h.nm i).1 hi;omega
 ·rw [h.nm,hl m hm]
  constructor
  ·rintro⟨m',h1,h2,h3⟩;obtain rfl: m=m':=by omega
   rw [h3];rfl
  ·intro h1;exact⟨m,hm,rfl,List.eq_nil_of_length_eq_zero (by omega)⟩
 ·obtain⟨m,h1,h2,h3⟩:=(h.nm i).1 (List.mem_of_getElem? hp);rw [h2,show ((m: Nat): Int).toNat=m by omega,h3] at hj
  cases hj
theorem dG {l: List Int} {p q: Int→Bool} {v: Int} (hn: l.Nodup) (hv: v ∈ l) (hp: p v=true) (hq: q v=false) (h: ∀ x ∈ l,x≠v→p x=q x):(l.filter p).length=(l.filter q).length+1:=by
 induction l with
 | nil=>cases hv
 | cons x xs ih =>
  have hn':=List.nodup_cons.1 hn
  by_cases e: x=v
  ·subst e;have he: xs.filter p=xs.filter q:=List.filter_congr fun y hy=>h y (List.mem_cons_of_mem _ hy) (fun e=>hn'.1 (e ▸ hy));rw [List.filter_cons,if_pos hp,List.filter_cons,if_neg (by rw [hq];simp),he,List.length_cons]
  ·have hv': v ∈ xs:=by
    rcases List.mem_cons.1 hv with e' | hv'
    ·exact absurd e'.symm e
    ·exact hv'
   have:=ih hn'.2 hv' (fun y hy=>h y (List.mem_cons_of_mem _ hy));rw [List.filter_cons,List.filter_cons,h x List.mem_cons_self e]
   split
   ·rw [List.length_cons,List.length_cons,this]
   ·exact this
theorem ee {nx: List Int} {d: Nat} {v: Int} (h: nx[d]? =some v) (j: Int):(nx.take (d+1)).contains j=((nx.take d).contains j||decide (j=v)):=by
 rw [Bool.eq_iff_iff];simp only [List.contains_iff_mem,Bool.or_eq_true,decide_eq_true_eq];rw [List.take_add_one,h,List.mem_append];simp
theorem nodup_take_not {nx: List Int} {d: Nat} {v: Int} (hn: nx.Nodup) (h: nx[d]? =some v): v ∉ nx.take d:=by
 intro hm;obtain⟨i,hi⟩:=List.getElem?_of_mem hm;rw [List.getElem?_take] at hi
 split at hi
 ·rename_i hlt
  have hd:=(List.getElem?_eq_some_iff.1 h);have hi':=(List.getElem?_eq_some_iff.1 hi);have:=(List.getElem_inj (xs:=nx) hn (i:=i) (j:=d) (h₀:=hi'.1) (h₁:=hd.1)).1 (by rw [hd.2,hi'.2]);omega
 ·cases hi
end Go.Vk
