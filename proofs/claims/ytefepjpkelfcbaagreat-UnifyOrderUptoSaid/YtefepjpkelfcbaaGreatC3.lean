/- Part 3 of the proof of unifyOrder_holds. Conditions: none. -/
import Derived.Test.YtefepjpkelfcbaaGreatC2
set_option linter.unusedVariables false
set_option linter.unusedSimpArgs false
set_option linter.unusedSectionVars false
set_option maxRecDepth 100000
open Go.Proofs.Tryz
namespace Go.Vk.Tryz
open Go.RowKit
theorem c_Mark {w0: World} {H: PHeap} {L0: List Ent} (hI: Inv w0 H L0) {pw: Nat} {B: List Tm} {tr: List Chg} (hz: ZS 26 115 1 82 86 pw B tr H L0): Calls prog 34 #[(pB pw)] w0 (fun e w'=>e=.returned (iV ((tr.length: Nat): Int))∧Step w0 H L0 w' H L0):=by
 obtain⟨A,c,xs,en,A2,c2,vs,en2,rfl,hR,hA,hm,hR2,hT,hl1,hl2⟩:=hz;have hS:=Step.refl hI;have hxl:=aR hm;have hcap1:=Row.cap hR;have hcap2:=Row.cap hR2;have htl:=hT.len;rw [List.length_reverse] at htl;refine enter [(pB pw)] func34 Y ntmps34 Y fun a ha=>?_;refine wp_seq (ab (Ls Y ha fun a ha=>?_));refine wpList_nil (aa (wp_seq (wp_seq (ab (Lm Y ha fun a ha=>?_)))));refine lin Y (bM T50.und T115 ha Y Y Y fun a ha=>?_);refine wpList_nil (aa (an ha Y (wp_skip (aa (wp_seq (ab (Lm Y ha fun a ha=>?_)))))));refine lin Y (aS ha Y Y fun a ha=>?_);refine lin Y (ac (f:=1) (o2:=1) T115 T113 Y Y Y Y ha Y Y fun a ha=>?_);refine lin Y (ae (v:=(.slice A2 vs.length c2)) T113 Y ha Y (hS.blkL 1 rfl) Y Y fun a ha=>?_);refine lin Y (aD T113.und ha Y Y fun a ha=>?_);refine Ls Y ha fun a ha=>?_;refine wpList_nil (aa (wp_ret (ret1 Y ha Y ?_)));rw [htl];exact⟨rfl,hS⟩
theorem bi {w0: World} {H: PHeap} {L0: List Ent} (hI: Inv w0 H L0) {pw: Nat} {B: List Tm} {tr: List Chg} (hz: ZS 26 115 1 82 86 pw B tr H L0): Calls prog 36 #[(pB pw)] w0 (fun e w'=> ∃ H' A c,e=.returned (sv A B.length c)∧RowT H' A c B∧ZS 26 115 1 82 86 pw B tr H' L0∧Step w0 H L0 w' H' L0):=by
 have hS:=Step.refl hI;refine enter [(pB pw)] func36 Y ntmps36 Y fun a ha=>?_;refine wp_seq (ab (lin Y (aF (cs:= #[(.slice none 0 0)]) T24 hS ha Y Y fun b1 a w hS ha=>?_)));refine wpList_nil (aa (wp_seq (wp_seq (ab (Lm Y ha fun a ha=>?_)))));refine lin Y (bM T50.und T115 ha Y Y Y fun a ha=>?_);refine wpList_nil (aa (an ha Y (wp_skip (aa (wp_seq (ab (Lm Y ha fun a ha=>?_)))))));refine lin Y (aS ha Y Y fun a ha=>?_);refine lin Y (ac (f:=0) (o2:=0) T115 T112 Y Y Y Y ha Y Y fun a ha=>?_);obtain⟨Ac_,cc_,hC_⟩:=(fv 26 115 1 82 86 pw).rd (Inv.tail (Es:= [(some b1,(.cells #[(.slice none 0 0)] 24 (0,0)))]) hS.inv) hz;have hk4:=dO hS.inv.nil hC_;refine lin Y (Co func76 ha Y (hk4) ?_);rintro e w ⟨H3,A3,c3,rfl,hr3,hc3⟩;refine⟨_,rfl,fun a ha=>?_⟩;have hS:=hS.call hc3;have hz:=hz.mono hc3.le;refine lin Y (aw (cs':= #[(.slice A3 B.length c3)]) T24 hS (i:=0) Y ha Y Y Y Y Y Y fun a w hS ha=>?_);refine wpList_nil (aa (wp_ret (retA (i:=0) (cs:= #[(.slice A3 B.length c3)]) Y T24 Y hS Y ha Y Y ?_)));have hS:=hS.drop;exact⟨_,_,_,rfl,hr3,hz,hS⟩
theorem c_Back {w0: World} {H: PHeap} {L0: List Ent} (hI: Inv w0 H L0) {pw: Nat} {B: List Tm} {tr: List Chg} (hz: ZS 26 115 1 82 86 pw B tr H L0) {mark: Int} (hW: WfT B.length tr): Calls prog 35 #[(pB pw),(iV mark)] w0 (fun e w'=> ∃ H' L',e=.returned (iV (sBack B tr mark).2)∧ZS 26 115 1 82 86 pw (sBack B tr mark).1.1 (sBack B tr mark).1.2 H' L'∧Step w0 H L0 w' H' L'):=by
 have hz0:=hz;obtain⟨A,c,xs,en,A2,c2,vs,en2,rfl,hR,hA,hm,hR2,hT,hl1,hl2⟩:=hz0;have hS:=Step.refl hI;have hxl:=aR hm;have hcap1:=Row.cap hR;have hcap2:=Row.cap hR2;have htl:=hT.len;rw [List.length_reverse] at htl;refine enter [(pB pw),(iV mark)] func35 Y ntmps35 Y fun a ha=>?_;refine wp_seq (ab (Ls Y ha fun a ha=>?_));refine wpList_nil (aa (wp_seq (wp_seq (bk (D:= []) (N:=23) (E:= [(0,(pB pw)),(1,(iV mark)),(19,(.bool ((decide (mark < 0))||(decide (((vs.length: Nat): Int) < mark)))))]) (fun a ha=>?_) ?_))));rotate_left
 ·refine Lm Y ha fun a ha=>?_;refine lin Y (bM T50.und T115 ha Y Y Y fun a ha=>?_);refine Lm Y ha fun a ha=>?_;refine ad Y ha Y Y Y (ak ha Y Y fun a ha=>?_);refine ad Y ha Y Y Y (aV (i:=mark) (j:=0) ha Y Y Y fun a ha=>?_);refine lin Y (ai ha Y Y Y fun a ha=>?_);refine Lm Y ha fun a ha=>?_;refine al (t:=11) ha Y (fun h1 ha=>?_) (fun h1 ha=>?_)
  ·refine Lf Y ha Y Y fun a ha=>?_;refine Lf Y ha Y Y fun a ha=>?_;refine Lf Y ha Y Y fun a ha=>?_;refine Lf Y ha Y Y fun a ha=>?_;refine Lf Y ha Y Y fun a ha=>?_;refine Lf Y ha Y Y fun a ha=>?_;refine Lf Y ha Y Y fun a ha=>?_;refine lin Y (am ha Y Y Y fun a ha=>?_);exact wpList_nil ⟨rfl,rfl,Has.cons ha Y (Has.cons ha Y (Has.cons ha (by simp [lk,Nat.beq,h1]) (ha.nil)))⟩
  ·refine ad Y ha Y Y Y (ak ha Y Y fun a ha=>?_);refine ad Y ha Y Y Y (ak ha Y Y fun a ha=>?_);refine ad Y ha Y Y Y (aS ha Y Y fun a ha=>?_);refine ad Y ha Y Y Y (ac (f:=1) (o2:=1) T115 T113 Y Y Y Y ha Y Y fun a ha=>?_);refine ad Y ha Y Y Y (ae (v:=(.slice A2 vs.length c2)) T113 Y ha Y (hS.blkL 1 rfl) Y Y fun a ha=>?_);refine ad Y ha Y Y Y (aD T113.und ha Y Y fun a ha=>?_);refine ad Y ha Y Y Y (cI (i:=mark) (j:=((vs.length: Nat): Int)) ha Y Y Y fun a ha=>?_);refine lin Y (ai ha Y Y Y fun a ha=>?_);exact wpList_nil ⟨rfl,rfl,Has.cons ha Y (Has.cons ha Y (Has.cons ha (by simp [lk,Nat.beq,h1]) (ha.nil)))⟩
 refine aa (?_);have hmk_:(decide (mark < 0)||decide (((vs.length: Nat): Int) < mark))=(decide (mark < 0)||decide (((tr.length: Nat): Int) < mark)):=by rw [htl]
 refine aq (t:=19) ha Y (fun h2 ha=>?_) (fun h2 ha=>?_)
 ·refine ar ha Y (wp_seq (ab (Ls Y ha fun a ha=>?_)));refine wpList_nil (aa (wp_ret (aj (ret1 Y ha Y ?_))));have hv_: sBack B tr mark=((B,tr),1):=by unfold sBack;rw [← hmk_,if_pos (by simpa using h2)]
  rw [hv_];exact⟨_,_,rfl,hz,hS⟩
 ·have hmn_:=h2;simp only [Bool.or_eq_false_iff,decide_eq_false_iff_not] at hmn_;refine an ha Y (wp_skip (aa (wp_seq (ab (Lm Y ha fun a ha=>?_)))));refine Lm Y ha fun a ha=>?_;have hk3:=fh hS.inv hz (many:=mark) (by omega) hW;refine lin Y (Co func83 ha Y (hk3) ?_);rintro e w ⟨H3,L3,rfl,hz3,hc3⟩;refine⟨_,rfl,fun a ha=>?_⟩;have hS:=hS.calls hc3;refine wpList_nil (aa (wp_seq (ab (Ls Y ha fun a ha=>?_))));refine wpList_nil (aa (wp_ret (ret1 Y ha Y ?_)));have hv_: sBack B tr mark=(undoS B tr mark.toNat,0):=by unfold sBack;rw [← hmk_,if_neg (by rw [show _=false from h2];simp)]
  rw [hv_];exact⟨_,_,rfl,hz3,hS⟩
theorem map_setlast {xs: List TV} {B: List Tm} {z z': TV} (h: xs.map TV.t=B) (hz: z'.t=Tm.zero):((xs++ [z]).set xs.length z').map TV.t=B++ [Tm.zero]:=by
 rw [List.set_append_right _ _ (Nat.le_refl _),Nat.sub_self,List.set_cons_zero,List.map_append,h,List.map_cons,hz];rfl
theorem map_addlast {xs: List TV} {B: List Tm} {z: TV} (h: xs.map TV.t=B) (hz: z.t=Tm.zero):(xs++ [z]).map TV.t=B++ [Tm.zero]:=by
 rw [List.map_append,h,List.map_cons,hz];rfl
set_option maxHeartbeats 2000000 in
theorem c_Var {w0: World} {H: PHeap} {L0: List Ent} (hI: Inv w0 H L0) {pw: Nat} {B: List Tm} {tr: List Chg} (hz: ZS 26 115 1 82 86 pw B tr H L0) (hlt: tr.length≤900000000): Calls prog 33 #[(pB pw)] w0 (fun e w'=> ∃ H' L',e=.returned (.tuple #[.int .i64 (sVar B tr).2.1,.int .i64 (sVar B tr).2.2])∧ZS 26 115 1 82 86 pw (sVar B tr).1.1 (sVar B tr).1.2 H' L'∧Step w0 H L0 w' H' L'):=by
 obtain⟨A,c,xs,en,A2,c2,vs,en2,rfl,hR,hA,hm,hR2,hT,hl1,hl2⟩:=hz;have hS:=Step.refl hI;have hxl:=aR hm;have hcap1:=Row.cap hR;have hcap2:=Row.cap hR2;have htl:=hT.len;rw [List.length_reverse] at htl;refine enter [(pB pw)] func33 Y ntmps33 Y fun a ha=>?_;refine wp_seq (ab (lin Y (aG (cs:= #[(pB pw)]) hS ha Y Y Y fun b1 a w hS ha=>?_)));obtain⟨H3,hS,hle3,hb3⟩:=hS.give;have hA:=hA.mono hle3;have hT:=TrL.mono (hle3) hT;refine Ls Y ha fun a ha=>?_;refine Ls Y ha fun a ha=>?_;refine wpList_nil (aa (wp_seq (wp_seq (ab (lin Y (ae (v:=(pB pw)) T50 Y ha Y (hS.blkH hb3) Y Y fun a ha=>?_))))));refine lin Y (bM T50.und T115 ha Y Y Y fun a ha=>?_);refine wpList_nil (aa (an ha Y (wp_skip (aa (wp_seq (ab (lin Y (ae (v:=(pB pw)) T50 Y ha Y (hS.blkH hb3) Y Y fun a ha=>?_))))))));refine lin Y (aS ha Y Y fun a ha=>?_);refine lin Y (ac (f:=0) (o2:=0) T115 T112 Y Y Y Y ha Y Y fun a ha=>?_);refine lin Y (ac (f:=0) (o2:=0) T112 T22 Y Y Y Y ha Y Y fun a ha=>?_);refine lin Y (ae (v:=(.slice A xs.length c)) T22 Y ha Y (hS.blkL 1 rfl) Y Y fun a ha=>?_);refine lin Y (aD T22.und ha Y Y fun a ha=>?_);refine lin Y (aF (cs:= #[(iV 0)]) T3 hS ha Y Y fun b4 a w hS ha=>?_);refine lin Y (aw (cs':= #[(iV ((xs.length: Nat): Int))]) T3 hS (i:=0) Y ha Y Y Y Y Y Y fun a w hS ha=>?_);obtain⟨H6,hS,hle6,hb6⟩:=hS.give;have hA:=hA.mono hle6;have hb3:=hle6 _ _ hb3;have hT:=TrL.mono (hle6) hT;refine wpList_nil (aa (wp_seq (wp_seq (ab (lin Y (ae (v:=(iV ((xs.length: Nat): Int))) T3 Y ha Y (hS.blkH hb6) Y Y fun a ha=>?_))))));refine lin Y (cZ (i:=((xs.length: Nat): Int)) (j:=100000) ha Y Y Y fun a ha=>?_);refine wpList_nil (aa (al (t:=14) ha Y (fun h7 ha=>?_) (fun h7 ha=>?_)))
 ·refine ar ha Y (wp_seq (ab (Ls Y ha fun a ha=>?_)));refine Ls Y ha fun a ha=>?_;refine wpList_nil (aa (wp_ret (aj (ret2 Y ha Y Y ?_))));have hv_: sVar B tr=((B,tr),(0,2)):=by unfold sVar;rw [if_pos (by omega)]
  rw [hv_];have hb_: Row (.slice A (xs).length c) en 26 4 (xs).length (flat xs):=by have h_:=hR;simpa using h_
  have hv_: Row (.slice A2 (vs).length c2) en2 1 1 (vs).length vs:=by have h_:=hR2;simpa using h_
  exact⟨_,_,rfl,⟨_,_,xs,_,_,_,vs,_,by simp,hb_,hA,hm,hv_,hT,by first | omega |(simp;omega),by first | omega |(simp;omega)⟩,hS⟩
 ·refine an ha Y (wp_skip (aa (wp_seq (wp_seq (c_any mixed hS (fun w hS=>?_))))));refine any1 (i:=0) (by kernel_rfl) Y Y (aF (cs:= #[(.bool false)]) T4 hS ha Y Y fun b8 a w hS ha=>?_);refine any2 (i:=1) (i':=2) (by kernel_rfl) Y Y Y Y ?_ ?_
  ·refine id (aw (cs':= #[(.bool true)]) T4 hS (i:=0) Y ha Y Y Y Y Y Y fun a w hS ha=>?_);refine any1 (i:=2) (by kernel_rfl) Y Y (aw (cs':= #[(.bool false)]) T4 hS (i:=0) Y ha Y Y Y Y Y Y fun a w hS ha=>?_);refine any1 (i:=3) (by kernel_rfl) Y Y (ae (v:=(.bool false)) T4 Y ha Y (hS.blkL 0 rfl) Y Y fun a ha=>?_);refine any0 (by kernel_rfl) ?_;refine aa (an ha Y ?_);have hS:=hS.front 1 rfl;have hS_:=hS;refine As.c_draw_head (ini:=(As.il [(8, [en])])) (sup:=(As.sl [])) (als:= [8]) (s0:=⟨H6,fun _=>none⟩) (L:= [(some b8,(.cells #[(.bool false)] 4 (0,0))),(some pw,(.cells #[(.slice A xs.length c),(.slice A2 vs.length c2)] 115 (0,0))),en2]) (N:=53) (E:= [(1,(pB b1)),(4,(pB b4))]) 9 [FcV (pB pw),FcV (pB pw),FcV (pB pw),FcV (pB pw),FcV (pB pw),FcV (.slice A xs.length c),FcV vZ,fun q_ v=>(fun H v=> ∃ b,v=.slice (some ⟨b,0,none⟩) 1 1∧H b=some (.cells aZ 26 (0,0))) q_.H v,fun s v=> ∃(A: Option Addr) (c: Nat) (en: Ent),s.ax 8=some [en]∧v=.slice A ((xs++([⟨tZ,none,0⟩]: List TV)).length) c∧Row (.slice A ((xs++([⟨tZ,none,0⟩]: List TV)).length) c) en 26 4 ((xs++([⟨tZ,none,0⟩]: List TV)).length) (flat (xs++([⟨tZ,none,0⟩]: List TV)))] mixed Y Y Y (As.M1 (As.M1 (As.M1 (As.M1 (As.M1 (As.M1 (As.M1 (As.Monos.cons (fun _ _ v hl h=>(fun _ _ _ hl ⟨b,h,hb⟩=>⟨b,h,hl _ _ hb⟩: ∀(H H': PHeap) (v: Value),Le H H'→(fun H v=> ∃ b,v=.slice (some ⟨b,0,none⟩) 1 1∧H b=some (.cells aZ 26 (0,0))) H v→(fun H v=> ∃ b,v=.slice (some ⟨b,0,none⟩) 1 1∧H b=some (.cells aZ 26 (0,0))) H' v) _ _ _ hl.le h) (As.Monos.cons (fun _ _ _ hl ⟨A,c,en,h,e⟩=>⟨A,c,en,hl.get h,e⟩) (As.Monos.nil)))))))))) (fun _=>rfl) hS (ha.pk Y) (As.QuietsI.c4 ?_ ?_ ?_ ?_ (As.QuietsI.c4 ?_ ?_ ?_ ?_ (As.QuietsI.cons ?_ (As.QuietsI.nil)))) (fun f_ a w s_ hls hS ha hdr_=>?_)
   ·refine As.Qx Y fun a w H_ ax_ hle hax_ hS ha hd hls=>?_;have hb3:=hle _ _ hb3;have hSf:=hS;have hS:=Step.dropN _ _ hS;exact ae (v:=(pB pw)) T50 Y ha Y (hS.blkH hb3) Y Y fun a ha=>As.ql ha hSf
   ·refine As.Qx Y fun a w H_ ax_ hle hax_ hS ha hd hls=>?_;have hb3:=hle _ _ hb3;have hSf:=hS;have hS:=Step.dropN _ _ hS;exact ae (v:=(pB pw)) T50 Y ha Y (hS.blkH hb3) Y Y fun a ha=>As.ql ha hSf
   ·refine As.Qx1 1 rfl fun a w H_ ax_ hle hax_ hS ha hd hls=>?_;have hSf:=hS;exact aS ha Y Y fun a ha=>As.ql ha hSf
   ·refine As.Qx1 2 rfl fun a w H_ ax_ hle hax_ hS ha hd hls=>?_;have hSf:=hS;exact ac (f:=0) (o2:=0) T115 T112 Y Y Y Y ha Y Y fun a ha=>As.ql ha hSf
   ·refine As.Qx1 3 rfl fun a w H_ ax_ hle hax_ hS ha hd hls=>?_;have hSf:=hS;exact ac (f:=0) (o2:=0) T112 T22 Y Y Y Y ha Y Y fun a ha=>As.ql ha hSf
   ·refine As.Qx1 4 rfl fun a w H_ ax_ hle hax_ hS ha hd hls=>?_;have hSf:=hS;have hS:=Step.dropN _ _ hS;exact ae (v:=(.slice A xs.length c)) T22 Y ha Y (hS.blkL 1 rfl) Y Y fun a ha=>As.ql ha hSf
   ·refine As.Qx Y fun a w H_ ax_ hle hax_ hS ha hd hls=>?_;have hSf:=hS;exact aO (vs:= []) (cells:=lZ) T26 PL26 ha (ha.evp Y) Y Y fun a ha=>As.ql ha hSf
   ·refine As.Qx1 6 rfl fun a w H_ ax_ hle hax_ hS ha hd hls=>?_;have hSf:=hS;have hSr:=Step.dropN _ _ hS;refine id (aE (vs:= [(0,vZ)]) (cells:=lZ) T22.und T26 hS ha (ha.evp Y) Y Y Y Y fun b10 a w hS ha=>?_);obtain⟨H10,hS,hle10,hb10⟩:=hS.give;have hr10: RowT H10 (some ⟨b10,0,none⟩) 1 [tZ]:=RowT.of_lit ([⟨tZ,none,0⟩]: List TV) hb10 (AllR.cons (RowT.nil _) (AllR.nil _)) (by simp) Y;exact As.qdone (s:=⟨H_,ax_⟩) hle10 ha hS ⟨_,rfl,hb10⟩
   ·refine As.Qx1 5 rfl fun a w H_ ax_ hle hax_ hS ha hd hls=>?_;obtain⟨_,ha,b10,rfl,hb10⟩:=hd.g ha 7 rfl;have hS: Step w0 H [en,(some pw,.cells #[.slice A xs.length c,.slice A2 vs.length c2] 115 (0,0)),en2] w H_ (en::(As.aents (As.il [(8, [en])]) (As.sl []) [] ax_++As.aents (As.il [(8, [en])]) (As.sl []) [] ax_++ [(some b8,(.cells #[(.bool false)] 4 (0,0))),(some pw,(.cells #[(.slice A xs.length c),(.slice A2 vs.length c2)] 115 (0,0))),en2])):=As.opn (s:=⟨H_,ax_⟩) [] [8] [] [en] rfl (As.con0s hax_ Y) hS;refine id (aW (news:=(flat ([⟨tZ,none,0⟩]: List TV))) (xs:=(flat xs)) T22.und T26 Y Y hS hR ha Y Y Y (fun _=>⟨b10,0,_,_,_,rfl,hS.blkH hb10,af Y⟩) (bt Y) (by omega) Y Y fun v11 en11 a w hR11 hS ha=>?_);rw [← br] at hR11;obtain⟨A11,c11,rfl⟩:=hR11.slice;have hn_:(xs.length+1)=(xs++([⟨tZ,none,0⟩]: List TV)).length:=by have h_:=hR11.1;rw [aK] at h_;omega
    rw [show Value.slice A11 (xs.length+1) c11=Value.slice A11 (xs++([⟨tZ,none,0⟩]: List TV)).length c11 from by rw [hn_]] at ha;rw [hn_] at hR11;exact As.qown (i:=8) (dst:=some 38) (s:=⟨H_,ax_⟩) (E:= [en11]) [] [8] [] rfl Y hax_ (Le.refl _) ha.dfr (As.has_at ha) hS As.con1 ⟨_,_,_,rfl,rfl,hR11⟩
   obtain⟨H12,ax_⟩:=s_;have hle12: Le H6 H12:=hls.le;dsimp only at hdr_ hS;have hA:=hA.mono hle12;have hb3:=hle12 _ _ hb3;have hb6:=hle12 _ _ hb6;have hT:=TrL.mono (hle12) hT;obtain⟨_,ha,rfl⟩:=As.Dd ha hdr_ 0 rfl;obtain⟨_,ha,A11,c11,en11,hx_11,rfl,hR11⟩:=As.Dd ha hdr_ 8 rfl;have hx_11: ax_ 8=some [en11]:=hx_11;have hS: Step w0 H [en,(some pw,.cells #[.slice A xs.length c,.slice A2 vs.length c2] 115 (0,0)),en2] w H12 [en11,(some b8,(.cells #[(.bool false)] 4 (0,0))),(some pw,(.cells #[(.slice A xs.length c),(.slice A2 vs.length c2)] 115 (0,0))),en2]:=by
    have h_:=hS;unfold As.aents at h_;simp only [List.flatMap_cons,List.flatMap_nil,As.conE,show (As.sl []) 8=none from rfl,hx_11,Option.isSome_some,Option.getD_some,cond_true,cond_false,List.cons_append,List.nil_append,List.append_nil] at h_;exact h_
   refine any1 (i:=9) (by kernel_rfl) Y Y (aS ha Y Y fun a ha=>?_);refine any1 (i:=10) (by kernel_rfl) Y Y (ac (f:=0) (o2:=0) T115 T112 Y Y Y Y ha Y Y fun a ha=>?_);refine any1 (i:=11) (by kernel_rfl) Y Y (ac (f:=0) (o2:=0) T112 T22 Y Y Y Y ha Y Y fun a ha=>?_);refine any1 (i:=12) (by kernel_rfl) Y Y (aw (cs':= #[(.slice A11 ((xs++([⟨tZ,none,0⟩]: List TV)).length) c11),(.slice A2 vs.length c2)]) T22 hS (i:=2) Y ha Y Y Y Y Y Y fun a w hS ha=>?_);refine any0 (by kernel_rfl) ?_;refine aa (wp_seq ?_);have hS:=hS.front 3 rfl;have hS_:=hS;refine As.c_draw_head (ini:=(As.il [(7, [en2])])) (sup:=(As.sl [])) (als:= [7]) (s0:=⟨H12,fun _=>none⟩) (L:= [en11,(some b8,(.cells #[(.bool false)] 4 (0,0))),(some pw,(.cells #[(.slice A11 ((xs++([⟨tZ,none,0⟩]: List TV)).length) c11),(.slice A2 vs.length c2)] 115 (0,0)))]) (N:=53) (E:= [(1,(pB b1)),(4,(pB b4))]) 8 [FcV (pB pw),FcV (pB pw),FcV (pB pw),FcV (.pointer (some ⟨pw,1,none⟩)),FcV (.slice A2 vs.length c2),FcV (.func (.func 82) #[] #[(pB b1),(pB b4)]),fun q_ v=>(fun H v=> ∃ b,v=.slice (some ⟨b,0,none⟩) 1 1∧H b=some (.cells #[(.func (.func 82) #[] #[(pB b1),(pB b4)])] 1 (0,0))) q_.H v,fun s v=> ∃(A: Option Addr) (c: Nat) (en: Ent),s.ax 7=some [en]∧v=.slice A (vs.length+1) c∧Row (.slice A (vs.length+1) c) en 1 1 (vs.length+1) (vs++([(.func (.func 82) #[] #[(pB b1),(pB b4)])]: List Value))] mixed Y Y Y (As.M1 (As.M1 (As.M1 (As.M1 (As.M1 (As.M1 (As.Monos.cons (fun _ _ v hl h=>(fun _ _ _ hl ⟨b,h,hb⟩=>⟨b,h,hl _ _ hb⟩: ∀(H H': PHeap) (v: Value),Le H H'→(fun H v=> ∃ b,v=.slice (some ⟨b,0,none⟩) 1 1∧H b=some (.cells #[(.func (.func 82) #[] #[(pB b1),(pB b4)])] 1 (0,0))) H v→(fun H v=> ∃ b,v=.slice (some ⟨b,0,none⟩) 1 1∧H b=some (.cells #[(.func (.func 82) #[] #[(pB b1),(pB b4)])] 1 (0,0))) H' v) _ _ _ hl.le h) (As.Monos.cons (fun _ _ _ hl ⟨A,c,en,h,e⟩=>⟨A,c,en,hl.get h,e⟩) (As.Monos.nil))))))))) (fun _=>rfl) hS (ha.pk Y) (As.QuietsI.c4 ?_ ?_ ?_ ?_ (As.QuietsI.c4 ?_ ?_ ?_ ?_ (As.QuietsI.nil))) (fun f_ a w s_ hls hS ha hdr_=>?_)
   ·refine As.Qx Y fun a w H_ ax_ hle hax_ hS ha hd hls=>?_;have hb3:=hle _ _ hb3;have hSf:=hS;have hS:=Step.dropN _ _ hS;exact ae (v:=(pB pw)) T50 Y ha Y (hS.blkH hb3) Y Y fun a ha=>As.ql ha hSf
   ·refine As.Qx Y fun a w H_ ax_ hle hax_ hS ha hd hls=>?_;have hb3:=hle _ _ hb3;have hSf:=hS;have hS:=Step.dropN _ _ hS;exact ae (v:=(pB pw)) T50 Y ha Y (hS.blkH hb3) Y Y fun a ha=>As.ql ha hSf
   ·refine As.Qx1 1 rfl fun a w H_ ax_ hle hax_ hS ha hd hls=>?_;have hSf:=hS;exact aS ha Y Y fun a ha=>As.ql ha hSf
   ·refine As.Qx1 2 rfl fun a w H_ ax_ hle hax_ hS ha hd hls=>?_;have hSf:=hS;exact ac (f:=1) (o2:=1) T115 T113 Y Y Y Y ha Y Y fun a ha=>As.ql ha hSf
   ·refine As.Qx1 3 rfl fun a w H_ ax_ hle hax_ hS ha hd hls=>?_;have hSf:=hS;have hS:=Step.dropN _ _ hS;exact ae (v:=(.slice A2 vs.length c2)) T113 Y ha Y (hS.blkL 2 rfl) Y Y fun a ha=>As.ql ha hSf
   ·refine As.Qx Y fun a w H_ ax_ hle hax_ hS ha hd hls=>?_;have hSf:=hS;exact bI (fs:= #[]) (cs:= #[(pB b1),(pB b4)]) ha (ha.evs (xs:= []) Y) (ha.evs Y) Y fun a ha=>As.ql ha hSf
   ·refine As.Qx1 5 rfl fun a w H_ ax_ hle hax_ hS ha hd hls=>?_;have hSf:=hS;have hSr:=Step.dropN _ _ hS;refine id (aE (vs:= [(0,(.func (.func 82) #[] #[(pB b1),(pB b4)]))]) (cells:= [(.func (.func 82) #[] #[(pB b1),(pB b4)])]) T113.und T1 hS ha (ha.evp Y) Y Y Y Y fun b13 a w hS ha=>?_);obtain⟨H13,hS,hle13,hb13⟩:=hS.give;exact As.qdone (s:=⟨H_,ax_⟩) hle13 ha hS ⟨_,rfl,hb13⟩
   ·refine As.Qx1 4 rfl fun a w H_ ax_ hle hax_ hS ha hd hls=>?_;obtain⟨_,ha,b13,rfl,hb13⟩:=hd.g ha 6 rfl;have hS: Step w0 H [en,(some pw,.cells #[.slice A xs.length c,.slice A2 vs.length c2] 115 (0,0)),en2] w H_ (en2::(As.aents (As.il [(7, [en2])]) (As.sl []) [] ax_++As.aents (As.il [(7, [en2])]) (As.sl []) [] ax_++ [en11,(some b8,(.cells #[(.bool false)] 4 (0,0))),(some pw,(.cells #[(.slice A11 ((xs++([⟨tZ,none,0⟩]: List TV)).length) c11),(.slice A2 vs.length c2)] 115 (0,0)))])):=As.opn (s:=⟨H_,ax_⟩) [] [7] [] [en2] rfl (As.con0s hax_ Y) hS;refine id (aW (news:=([(.func (.func 82) #[] #[(pB b1),(pB b4)])]: List Value)) (xs:=vs) T113.und T1 Y Y hS hR2 ha Y Y Y (fun _=>⟨b13,0,_,_,_,rfl,hS.blkH hb13,af Y⟩) (bt Y) (by omega) Y Y fun v14 en14 a w hR14 hS ha=>?_);obtain⟨A14,c14,rfl⟩:=hR14.slice;exact As.qown (i:=7) (dst:=some 49) (s:=⟨H_,ax_⟩) (E:= [en14]) [] [7] [] rfl Y hax_ (Le.refl _) ha.dfr (As.has_at ha) hS As.con1 ⟨_,_,_,rfl,rfl,hR14⟩
   obtain⟨H15,ax_⟩:=s_;have hle15: Le H12 H15:=hls.le;dsimp only at hdr_ hS;have hA:=hA.mono hle15;have hb3:=hle15 _ _ hb3;have hb6:=hle15 _ _ hb6;have hT:=TrL.mono (hle15) hT;obtain⟨_,ha,rfl⟩:=As.Dd ha hdr_ 0 rfl;obtain⟨_,ha,A14,c14,en14,hx_14,rfl,hR14⟩:=As.Dd ha hdr_ 7 rfl;have hx_14: ax_ 7=some [en14]:=hx_14;have hS: Step w0 H [en,(some pw,.cells #[.slice A xs.length c,.slice A2 vs.length c2] 115 (0,0)),en2] w H15 [en14,en11,(some b8,(.cells #[(.bool false)] 4 (0,0))),(some pw,(.cells #[(.slice A11 ((xs++([⟨tZ,none,0⟩]: List TV)).length) c11),(.slice A2 vs.length c2)] 115 (0,0)))]:=by
    have h_:=hS;unfold As.aents at h_;simp only [List.flatMap_cons,List.flatMap_nil,As.conE,show (As.sl []) 7=none from rfl,hx_14,Option.isSome_some,Option.getD_some,cond_true,cond_false,List.cons_append,List.nil_append,List.append_nil] at h_;exact h_
   refine any1 (i:=8) (by kernel_rfl) Y Y (aS ha Y Y fun a ha=>?_);refine any1 (i:=9) (by kernel_rfl) Y Y (ac (f:=1) (o2:=1) T115 T113 Y Y Y Y ha Y Y fun a ha=>?_);refine any1 (i:=10) (by kernel_rfl) Y Y (aw (cs':= #[(.slice A11 ((xs++([⟨tZ,none,0⟩]: List TV)).length) c11),(.slice A14 (vs.length+1) c14)]) T113 hS (i:=3) Y ha Y Y Y Y Y Y fun a w hS ha=>?_);refine any0 (by kernel_rfl) ?_;refine aa (wp_seq (ab (lin Y (ae (v:=(iV ((xs.length: Nat): Int))) T3 Y ha Y (hS.blkH hb6) Y Y fun a ha=>?_))));refine Ls Y ha fun a ha=>?_;refine Ls Y ha fun a ha=>?_;refine wpList_nil (aa (wp_ret (ret2 Y ha Y Y ?_)));have hv_: sVar B tr=((B++ [Tm.zero],.add B.length::tr),(((B.length: Nat): Int),0)):=by unfold sVar;rw [if_neg (by omega)]
   rw [hv_];have hS:=hS.front 2 rfl;have hS:=hS.drop;have hS:=hS.front 2 rfl;have hS:=hS.front 2 rfl;have hb_: Row (.slice A11 ((xs++([⟨tZ,none,0⟩]: List TV))).length c11) en11 26 4 ((xs++([⟨tZ,none,0⟩]: List TV))).length (flat (xs++([⟨tZ,none,0⟩]: List TV))):=by have h_:=hR11;simpa using h_
   have hv_: Row (.slice A14 ((vs++([(.func (.func 82) #[] #[(pB b1),(pB b4)])]: List Value))).length c14) en14 1 1 ((vs++([(.func (.func 82) #[] #[(pB b1),(pB b4)])]: List Value))).length (vs++([(.func (.func 82) #[] #[(pB b1),(pB b4)])]: List Value)):=by have h_:=hR14;simpa using h_
   exact⟨_,_,by rw [hxl],⟨_,_,(xs++([⟨tZ,none,0⟩]: List TV)),_,_,_,(vs++([(.func (.func 82) #[] #[(pB b1),(pB b4)])]: List Value)),_,by simp,hb_,(AllR.append hA (AllR.cons (RowT.nil _) (AllR.nil _))),(map_addlast hm Y),hv_,(hT.push ⟨_,_,_,_,rfl,hb3,by rw [← hxl];exact hb6⟩),by first | omega |(simp;omega),by first | omega |(simp;omega)⟩,hS⟩
  ·refine id (aw (cs':= #[(.bool false)]) T4 hS (i:=0) Y ha Y Y Y Y Y Y fun a w hS ha=>?_);refine any1 (i:=1) (by kernel_rfl) Y Y (aw (cs':= #[(.bool true)]) T4 hS (i:=0) Y ha Y Y Y Y Y Y fun a w hS ha=>?_);refine any1 (i:=3) (by kernel_rfl) Y Y (ae (v:=(.bool true)) T4 Y ha Y (hS.blkL 0 rfl) Y Y fun a ha=>?_);refine any0 (by kernel_rfl) ?_;refine aa (ar ha Y (wp_seq (ab (lin Y (ae (v:=(pB pw)) T50 Y ha Y (hS.blkH hb3) Y Y fun a ha=>?_)))));refine lin Y (aS ha Y Y fun a ha=>?_);refine lin Y (ac (f:=0) (o2:=0) T115 T112 Y Y Y Y ha Y Y fun a ha=>?_);refine lin Y (ac (f:=0) (o2:=0) T112 T22 Y Y Y Y ha Y Y fun a ha=>?_);refine lin Y (ae (v:=(.slice A xs.length c)) T22 Y ha Y (hS.blkL 2 rfl) Y Y fun a ha=>?_);refine lin Y (aO (vs:= []) (cells:=lZ) T26 PL26 ha (ha.evp Y) Y Y fun a ha=>?_);refine lin Y (aD T22.und ha Y Y fun a ha=>?_);refine lin Y (aE (vs:= [(0,vZ)]) (cells:=lZ) T22.und T26 hS ha (ha.evp Y) Y Y Y Y fun b16 a w hS ha=>?_);obtain⟨H16,hS,hle16,hb16⟩:=hS.give;have hA:=hA.mono hle16;have hb3:=hle16 _ _ hb3;have hb6:=hle16 _ _ hb6;have hT:=TrL.mono (hle16) hT;have hr16: RowT H16 (some ⟨b16,0,none⟩) 1 [tZ]:=RowT.of_lit ([⟨tZ,none,0⟩]: List TV) hb16 (AllR.cons (RowT.nil _) (AllR.nil _)) (by simp) Y;have hS:=hS.front 1 rfl;refine lin Y (aW (news:=(flat ([⟨tZ,none,0⟩]: List TV))) (xs:=(flat xs)) T22.und T26 Y Y hS hR ha Y Y Y (fun _=>⟨b16,0,_,_,_,rfl,hS.blkH hb16,af Y⟩) (bt Y) (by omega) Y Y fun v17 en17 a w hR17 hS ha=>?_);rw [← br] at hR17;obtain⟨A17,c17,rfl⟩:=hR17.slice;have hn_:(xs.length+1)=(xs++([⟨tZ,none,0⟩]: List TV)).length:=by have h_:=hR17.1;rw [aK] at h_;omega
   rw [show Value.slice A17 (xs.length+1) c17=Value.slice A17 (xs++([⟨tZ,none,0⟩]: List TV)).length c17 from by rw [hn_]] at ha;rw [hn_] at hR17;refine lin Y (aS ha Y Y fun a ha=>?_);refine lin Y (ac (f:=0) (o2:=0) T115 T112 Y Y Y Y ha Y Y fun a ha=>?_);refine lin Y (ac (f:=0) (o2:=0) T112 T22 Y Y Y Y ha Y Y fun a ha=>?_);refine lin Y (aw (cs':= #[(.slice A17 ((xs++([⟨tZ,none,0⟩]: List TV)).length) c17),(.slice A2 vs.length c2)]) T22 hS (i:=2) Y ha Y Y Y Y Y Y fun a w hS ha=>?_);refine wpList_nil (aa (ab ?_));obtain⟨x18,b18,cap18,cur18,hx18,hv18,he18,hc18⟩:=hR17.get (j:=xs.length) (by omega);have hA18:(A17: Option Addr)=some ⟨b18,0,none⟩:=by injection hv18
   have hq18:=(AllR.append hA (AllR.cons (RowT.nil _) (AllR.nil _))) _ (List.mem_of_getElem? hx18);refine lin Y (av (b:=b18) (o:=0) (j:=xs.length) T22.und T26 hA18 ha Y Y (by omega) (by omega) Y fun a ha=>?_);refine lin Y (bL (j:=xs.length) T26 hS (i:=0) Y hR17 Y hA18 (by omega) Y ha Y Y Y Y fun en19 a w hR19 he19 hS ha=>?_);rw [show (Value.cells _).toList=TV.cells ⟨tZ,none,0⟩ from rfl,aU (by first | omega |(simp;omega))] at hR19;refine wpList_nil (aa (wp_seq ?_));have hS:=hS.front 3 rfl;have hS_:=hS;refine As.c_draw_head (ini:=(As.il [(7, [en2])])) (sup:=(As.sl [])) (als:= [7]) (s0:=⟨H16,fun _=>none⟩) (L:= [en19,(some b8,(.cells #[(.bool true)] 4 (0,0))),(some pw,(.cells #[(.slice A17 ((xs++([⟨tZ,none,0⟩]: List TV)).length) c17),(.slice A2 vs.length c2)] 115 (0,0)))]) (N:=53) (E:= [(1,(pB b1)),(4,(pB b4))]) 8 [FcV (pB pw),FcV (pB pw),FcV (pB pw),FcV (.pointer (some ⟨pw,1,none⟩)),FcV (.slice A2 vs.length c2),FcV (.func (.func 82) #[] #[(pB b1),(pB b4)]),fun q_ v=>(fun H v=> ∃ b,v=.slice (some ⟨b,0,none⟩) 1 1∧H b=some (.cells #[(.func (.func 82) #[] #[(pB b1),(pB b4)])] 1 (0,0))) q_.H v,fun s v=> ∃(A: Option Addr) (c: Nat) (en: Ent),s.ax 7=some [en]∧v=.slice A (vs.length+1) c∧Row (.slice A (vs.length+1) c) en 1 1 (vs.length+1) (vs++([(.func (.func 82) #[] #[(pB b1),(pB b4)])]: List Value))] mixed Y Y Y (As.M1 (As.M1 (As.M1 (As.M1 (As.M1 (As.M1 (As.Monos.cons (fun _ _ v hl h=>(fun _ _ _ hl ⟨b,h,hb⟩=>⟨b,h,hl _ _ hb⟩: ∀(H H': PHeap) (v: Value),Le H H'→(fun H v=> ∃ b,v=.slice (some ⟨b,0,none⟩) 1 1∧H b=some (.cells #[(.func (.func 82) #[] #[(pB b1),(pB b4)])] 1 (0,0))) H v→(fun H v=> ∃ b,v=.slice (some ⟨b,0,none⟩) 1 1∧H b=some (.cells #[(.func (.func 82) #[] #[(pB b1),(pB b4)])] 1 (0,0))) H' v) _ _ _ hl.le h) (As.Monos.cons (fun _ _ _ hl ⟨A,c,en,h,e⟩=>⟨A,c,en,hl.get h,e⟩) (As.Monos.nil))))))))) (fun _=>rfl) hS (ha.pk Y) (As.QuietsI.c4 ?_ ?_ ?_ ?_ (As.QuietsI.c4 ?_ ?_ ?_ ?_ (As.QuietsI.nil))) (fun f_ a w s_ hls hS ha hdr_=>?_)
   ·refine As.Qx Y fun a w H_ ax_ hle hax_ hS ha hd hls=>?_;have hb3:=hle _ _ hb3;have hSf:=hS;have hS:=Step.dropN _ _ hS;exact ae (v:=(pB pw)) T50 Y ha Y (hS.blkH hb3) Y Y fun a ha=>As.ql ha hSf
   ·refine As.Qx Y fun a w H_ ax_ hle hax_ hS ha hd hls=>?_;have hb3:=hle _ _ hb3;have hSf:=hS;have hS:=Step.dropN _ _ hS;exact ae (v:=(pB pw)) T50 Y ha Y (hS.blkH hb3) Y Y fun a ha=>As.ql ha hSf
   ·refine As.Qx1 1 rfl fun a w H_ ax_ hle hax_ hS ha hd hls=>?_;have hSf:=hS;exact aS ha Y Y fun a ha=>As.ql ha hSf
   ·refine As.Qx1 2 rfl fun a w H_ ax_ hle hax_ hS ha hd hls=>?_;have hSf:=hS;exact ac (f:=1) (o2:=1) T115 T113 Y Y Y Y ha Y Y fun a ha=>As.ql ha hSf
   ·refine As.Qx1 3 rfl fun a w H_ ax_ hle hax_ hS ha hd hls=>?_;have hSf:=hS;have hS:=Step.dropN _ _ hS;exact ae (v:=(.slice A2 vs.length c2)) T113 Y ha Y (hS.blkL 2 rfl) Y Y fun a ha=>As.ql ha hSf
   ·refine As.Qx Y fun a w H_ ax_ hle hax_ hS ha hd hls=>?_;have hSf:=hS;exact bI (fs:= #[]) (cs:= #[(pB b1),(pB b4)]) ha (ha.evs (xs:= []) Y) (ha.evs Y) Y fun a ha=>As.ql ha hSf
   ·refine As.Qx1 5 rfl fun a w H_ ax_ hle hax_ hS ha hd hls=>?_;have hSf:=hS;have hSr:=Step.dropN _ _ hS;refine id (aE (vs:= [(0,(.func (.func 82) #[] #[(pB b1),(pB b4)]))]) (cells:= [(.func (.func 82) #[] #[(pB b1),(pB b4)])]) T113.und T1 hS ha (ha.evp Y) Y Y Y Y fun b20 a w hS ha=>?_);obtain⟨H20,hS,hle20,hb20⟩:=hS.give;exact As.qdone (s:=⟨H_,ax_⟩) hle20 ha hS ⟨_,rfl,hb20⟩
   ·refine As.Qx1 4 rfl fun a w H_ ax_ hle hax_ hS ha hd hls=>?_;obtain⟨_,ha,b20,rfl,hb20⟩:=hd.g ha 6 rfl;have hS: Step w0 H [en,(some pw,.cells #[.slice A xs.length c,.slice A2 vs.length c2] 115 (0,0)),en2] w H_ (en2::(As.aents (As.il [(7, [en2])]) (As.sl []) [] ax_++As.aents (As.il [(7, [en2])]) (As.sl []) [] ax_++ [en19,(some b8,(.cells #[(.bool true)] 4 (0,0))),(some pw,(.cells #[(.slice A17 ((xs++([⟨tZ,none,0⟩]: List TV)).length) c17),(.slice A2 vs.length c2)] 115 (0,0)))])):=As.opn (s:=⟨H_,ax_⟩) [] [7] [] [en2] rfl (As.con0s hax_ Y) hS;refine id (aW (news:=([(.func (.func 82) #[] #[(pB b1),(pB b4)])]: List Value)) (xs:=vs) T113.und T1 Y Y hS hR2 ha Y Y Y (fun _=>⟨b20,0,_,_,_,rfl,hS.blkH hb20,af Y⟩) (bt Y) (by omega) Y Y fun v21 en21 a w hR21 hS ha=>?_);obtain⟨A21,c21,rfl⟩:=hR21.slice;exact As.qown (i:=7) (dst:=some 49) (s:=⟨H_,ax_⟩) (E:= [en21]) [] [7] [] rfl Y hax_ (Le.refl _) ha.dfr (As.has_at ha) hS As.con1 ⟨_,_,_,rfl,rfl,hR21⟩
   obtain⟨H22,ax_⟩:=s_;have hle22: Le H16 H22:=hls.le;dsimp only at hdr_ hS;have hA:=hA.mono hle22;have hb3:=hle22 _ _ hb3;have hb6:=hle22 _ _ hb6;have hT:=TrL.mono (hle22) hT;obtain⟨_,ha,rfl⟩:=As.Dd ha hdr_ 0 rfl;obtain⟨_,ha,A21,c21,en21,hx_21,rfl,hR21⟩:=As.Dd ha hdr_ 7 rfl;have hx_21: ax_ 7=some [en21]:=hx_21;have hS: Step w0 H [en,(some pw,.cells #[.slice A xs.length c,.slice A2 vs.length c2] 115 (0,0)),en2] w H22 [en21,en19,(some b8,(.cells #[(.bool true)] 4 (0,0))),(some pw,(.cells #[(.slice A17 ((xs++([⟨tZ,none,0⟩]: List TV)).length) c17),(.slice A2 vs.length c2)] 115 (0,0)))]:=by
    have h_:=hS;unfold As.aents at h_;simp only [List.flatMap_cons,List.flatMap_nil,As.conE,show (As.sl []) 7=none from rfl,hx_21,Option.isSome_some,Option.getD_some,cond_true,cond_false,List.cons_append,List.nil_append,List.append_nil] at h_;exact h_
   refine any1 (i:=8) (by kernel_rfl) Y Y (aS ha Y Y fun a ha=>?_);refine any1 (i:=9) (by kernel_rfl) Y Y (ac (f:=1) (o2:=1) T115 T113 Y Y Y Y ha Y Y fun a ha=>?_);refine any1 (i:=10) (by kernel_rfl) Y Y (aw (cs':= #[(.slice A17 ((xs++([⟨tZ,none,0⟩]: List TV)).length) c17),(.slice A21 (vs.length+1) c21)]) T113 hS (i:=3) Y ha Y Y Y Y Y Y fun a w hS ha=>?_);refine any0 (by kernel_rfl) ?_;refine aa (wp_seq (ab (lin Y (ae (v:=(iV ((xs.length: Nat): Int))) T3 Y ha Y (hS.blkH hb6) Y Y fun a ha=>?_))));refine Ls Y ha fun a ha=>?_;refine Ls Y ha fun a ha=>?_;refine wpList_nil (aa (wp_ret (ret2 Y ha Y Y ?_)));have hv_: sVar B tr=((B++ [Tm.zero],.add B.length::tr),(((B.length: Nat): Int),0)):=by unfold sVar;rw [if_neg (by omega)]
   rw [hv_];have hS:=hS.front 2 rfl;have hS:=hS.drop;have hS:=hS.front 2 rfl;have hS:=hS.front 2 rfl;have hb_: Row (.slice A17 (((xs++([⟨tZ,none,0⟩]: List TV)).set xs.length ⟨tZ,none,0⟩)).length c17) en19 26 4 (((xs++([⟨tZ,none,0⟩]: List TV)).set xs.length ⟨tZ,none,0⟩)).length (flat ((xs++([⟨tZ,none,0⟩]: List TV)).set xs.length ⟨tZ,none,0⟩)):=by have h_:=hR19;simpa using h_
   have hv_: Row (.slice A21 ((vs++([(.func (.func 82) #[] #[(pB b1),(pB b4)])]: List Value))).length c21) en21 1 1 ((vs++([(.func (.func 82) #[] #[(pB b1),(pB b4)])]: List Value))).length (vs++([(.func (.func 82) #[] #[(pB b1),(pB b4)])]: List Value)):=by have h_:=hR21;simpa using h_
   exact⟨_,_,by rw [hxl],⟨_,_,((xs++([⟨tZ,none,0⟩]: List TV)).set xs.length ⟨tZ,none,0⟩),_,_,_,(vs++([(.func (.func 82) #[] #[(pB b1),(pB b4)])]: List Value)),_,by simp,hb_,(AllR.set (x:=⟨tZ,none,0⟩) (AllR.append hA (AllR.cons (RowT.nil _) (AllR.nil _))) (RowT.nil _)),(map_setlast hm Y),hv_,(hT.push ⟨_,_,_,_,rfl,hb3,by rw [← hxl];exact hb6⟩),by first | omega |(simp;omega),by first | omega |(simp;omega)⟩,hS⟩
theorem c_sjoin {n pw bw ew: Nat} {w0: World} {H: PHeap} {L0: List Ent} (hI: Inv w0 H L0) {B: List Tm} {tr: List Chg} (hbw: H bw=some (.cells #[.pointer (some ⟨pw,0,none⟩)] ew (0,0))) (hG: Gst n B) (hGs: GS n B tr) (hz: ZS 26 115 1 82 86 pw B tr H L0) {ta tb: Tm} {Aa Ab: Option Addr} {ca cb: Nat} (hra: RowT H Aa ca ta.l) (hrb: RowT H Ab cb tb.l) (hoa: okT n ta=true) (hob: okT n tb=true) :
  Calls prog 74 #[.pointer (some ⟨pw,0,none⟩),tv ta Aa ca,tv tb Ab cb,.func (.func 85) #[] #[.pointer (some ⟨bw,0,none⟩)]] w0 (fun e w'=> ∃ H' L',e=.returned (.tuple #[.bool (joinS B tr ta tb).1.1,.int .i64 (joinS B tr ta tb).1.2])∧(Gst n (joinS B tr ta tb).2.1∧GS n (joinS B tr ta tb).2.1 (joinS B tr ta tb).2.2)∧ZS 26 115 1 82 86 pw (joinS B tr ta tb).2.1 (joinS B tr ta tb).2.2 H' L'∧Step w0 H L0 w' H' L'):=by
 refine(c_cjoin (CellZ.and (fv 26 115 1 82 86 pw) (F:=fun H=>H bw=some (.cells #[.pointer (some ⟨pw,0,none⟩)] ew (0,0))) (fun H H' h hl=>hl _ _ h)) (bf:=85) (bcap:= #[.pointer (some ⟨bw,0,none⟩)]) (G:=GS n) (bb:=bbS) ⟨_,_,func85,rfl,rfl⟩ (fun B s v t w H L hg hb hI hz=>?_) GS_step hI hG hGs ⟨hz,hbw⟩ hra hrb hoa hob).mono fun e w' ⟨H',L',h1,h2,h3,h4⟩=>⟨H',L',h1,h2,h3.1,h4⟩;have hc:=c_bound hI hz.1 hz.2 (vi:=v) (by have h_:=hg.2.2;omega);refine hc.mono fun e w' ⟨H',L',h1,h2,h3⟩=>⟨H',L',h1,⟨h2,h3.le _ _ hz.2⟩,h3⟩
theorem Inv.sub3 {w: World} {H: PHeap} {L L': List Ent} (h: Inv w H L) (hp: ∃ R,L.Perm (L'++R)): Inv w H L':=by
 obtain⟨R,hp⟩:=hp;exact Inv.left (h.perm hp)
set_option maxHeartbeats 2000000 in
theorem c_SUnify {w0: World} {H: PHeap} {L0: List Ent} (hI: Inv w0 H L0) {pw: Nat} {B: List Tm} {tr: List Chg} (hz: ZS 26 115 1 82 86 pw B tr H L0) (hG: Gst B.length B) (hGs: GS B.length B tr) {ta tb: Tm} {Aa Ab: Option Addr} {ca cb: Nat} (hra: RowT H Aa ca ta.l) (hrb: RowT H Ab cb tb.l): Calls prog 40 #[(pB pw),(tv ta Aa ca),(tv tb Ab cb)] w0 (fun e w'=> ∃ H' L',e=.returned (.tuple #[.bool (sUni B tr ta tb).2.1,.int .i64 (sUni B tr ta tb).2.2])∧ZS 26 115 1 82 86 pw (sUni B tr ta tb).1.1 (sUni B tr ta tb).1.2 H' L'∧Step w0 H L0 w' H' L'):=by
 have hz0:=hz;obtain⟨A,c,xs,en,A2,c2,vs,en2,rfl,hR,hA,hm,hR2,hT,hl1,hl2⟩:=hz0;have hS:=Step.refl hI;have hxl:=aR hm;have hcap1:=Row.cap hR;have hcap2:=Row.cap hR2;have htl:=hT.len;rw [List.length_reverse] at htl;refine enter [(pB pw),(tv ta Aa ca),(tv tb Ab cb)] func40 Y ntmps40 Y fun a ha=>?_;refine wp_seq (ab (lin Y (aG (cs:= #[(pB pw)]) hS ha Y Y Y fun b1 a w hS ha=>?_)));obtain⟨H3,hS,hle3,hb3⟩:=hS.give;have hA:=hA.mono hle3;have hra:=hra.mono hle3;have hrb:=hrb.mono hle3;have hT:=TrL.mono (hle3) hT;have hz:=ZS.mono hz (hle3);refine lin Y (aG (cs:=(tA ta Aa ca)) hS ha Y Y Y fun b4 a w hS ha=>?_);refine lin Y (aG (cs:=(tA tb Ab cb)) hS ha Y Y Y fun b6 a w hS ha=>?_);refine Ls Y ha fun a ha=>?_;refine Ls Y ha fun a ha=>?_;refine wpList_nil (aa (wp_seq (wp_block (wp_seq (ab (lin Y (ae (v:=(pB pw)) T50 Y ha Y (hS.blkH hb3) Y Y fun a ha=>?_)))))));refine lin Y (bM T50.und T115 ha Y Y Y fun a ha=>?_);refine Ls Y ha fun a ha=>?_;refine wpList_nil (aa (an ha Y (wp_seq ?_)));have hS_:=hS;refine bG cn [FcV (pB pw),FcV (pB pw),FcV (pB pw),FcV (tv ta Aa ca),FcV (tv tb Ab cb),fun H v=> ∃ A c,v=.slice A 2 c∧RowT H A c [ta,tb],FcV (.bool ([ta,tb].all (okT B.length))),FcV (.bool (!([ta,tb].all (okT B.length)))),FcV (.bool (!([ta,tb].all (okT B.length))))] (N:=47) (E:= [(3,(pB b1)),(4,(pB b4)),(5,(pB b6))]) mixed Y (M1 (M1 (M1 (M1 (M1 (Monos.cons (fun _ _ _ hl ⟨A,c,h,hr⟩=>⟨A,c,h,hr.mono hl⟩) (M1 (M1 (M1 (Monos.nil)))))))))) hS (ha.pk Y) (.c4 ?_ ?_ ?_ ?_ (.c4 ?_ ?_ ?_ ?_ (.cons ?_ (.nil)))) (fun a w H10 hle10 hS ha hdr_=>?_)
 ·refine Qy Y fun a w H_ hle hS ha hd=>?_;have hb3:=hle _ _ hb3;exact ae (v:=(pB pw)) T50 Y ha Y (hS.blkH hb3) Y Y fun a ha=>ql ha hS
 ·refine Qy1 0 rfl fun a w H_ hle hS ha hd=>?_;exact aS ha Y Y fun a ha=>ql ha hS
 ·refine Qy1 1 rfl fun a w H_ hle hS ha hd=>?_;exact ac (f:=0) (o2:=0) T115 T112 Y Y Y Y ha Y Y fun a ha=>ql ha hS
 ·refine Qy Y fun a w H_ hle hS ha hd=>?_;exact ah (vs:=(tL ta Aa ca)) T26 Y ha Y (hS.blkL 1 rfl) Y (af Y) Y fun a ha=>ql ha hS
 ·refine Qy Y fun a w H_ hle hS ha hd=>?_;exact ah (vs:=(tL tb Ab cb)) T26 Y ha Y (hS.blkL 0 rfl) Y (af Y) Y fun a ha=>ql ha hS
 ·refine Qy1 3 rfl fun a w H_ hle hS ha hd=>?_;obtain⟨_,ha,rfl⟩:=hd.g ha 4 rfl;have hra:=hra.mono hle;have hrb:=hrb.mono hle;refine id (aE (vs:= [(0,(tv ta Aa ca)),(1,(tv tb Ab cb))]) (cells:= [(iV ta.kind),(iV ta.n),(.string ta.s),(.slice Aa ta.l.length ca),(iV tb.kind),(iV tb.n),(.string tb.s),(.slice Ab tb.l.length cb)]) T22.und T26 hS ha (ha.evp Y) Y Y Y Y fun b8 a w hS ha=>?_);obtain⟨H8,hS,hle8,hb8⟩:=hS.give;have hra:=hra.mono hle8;have hrb:=hrb.mono hle8;have hr8: RowT H8 (some ⟨b8,0,none⟩) 2 [ta,tb]:=RowT.of_lit ([⟨ta,Aa,ca⟩,⟨tb,Ab,cb⟩]: List TV) hb8 (AllR.cons hra (AllR.cons hrb (AllR.nil _))) (by simp) Y;exact qdone hle8 ha hS ⟨_,_,rfl,hr8⟩
 ·refine Qy1 2 rfl fun a w H_ hle hS ha hd=>?_;obtain⟨_,ha,A8,c8,rfl,hr8⟩:=hd.g ha 5 rfl;have hz:=ZS.mono hz (hle);obtain⟨Ac9,cc9,hC9⟩: ∃ A c,CRd _ _ pw A c B:=(fv 26 115 1 82 86 pw).rd (Inv.sub3 hS.inv ⟨[(some b6,(.cells (tA tb Ab cb) 26 (0,0))),(some b4,(.cells (tA ta Aa ca) 26 (0,0)))],by simpa using (List.perm_append_comm (l₁:= [(some b6,(.cells (tA tb Ab cb) 26 (0,0))),(some b4,(.cells (tA ta Aa ca) 26 (0,0)))]) (l₂:= [en,(some pw,(.cells #[(.slice A xs.length c),(.slice A2 vs.length c2)] 115 (0,0))),en2]))⟩) hz;have hk9:=fR (ts:= [ta,tb]) hS.inv.nil hC9 hr8;rw [all_over] at hk9;exact Cs func84 ha Y (hk9) hS fun a w ha hS=>ql ha hS
 ·refine Qy1 6 rfl fun a w H_ hle hS ha hd=>?_;exact aP ha Y Y fun a ha=>ql ha hS
 ·refine Qy1 7 rfl fun a w H_ hle hS ha hd=>?_;exact aB ha Y Y fun a ha=>ql ha hS
 have hA:=hA.mono hle10;have hra:=hra.mono hle10;have hrb:=hrb.mono hle10;have hb3:=hle10 _ _ hb3;have hT:=TrL.mono (hle10) hT;have hz:=ZS.mono hz (hle10);obtain⟨_,ha,rfl⟩:=Dd ha hdr_ 8 rfl;refine aa (aq (t:=14) ha Y (fun h11 ha=>?_) (fun h11 ha=>?_))
 ·refine ar ha Y (wp_seq (ab (Ls Y ha fun a ha=>?_)));refine Ls Y ha fun a ha=>?_;refine wpList_nil (aa (wp_ret (ay (aj (ret2 Y ha Y Y ?_)))));have hS:=hS.drop;have hS:=hS.drop;have hv_: sUni B tr ta tb=((B,tr),(false,3)):=by unfold sUni;rw [if_neg (by rw [show ([ta,tb]: List Tm).all (okT B.length)=false from by have h_:=h11;rw [Bool.not_eq_true'] at h_;exact h_];simp)]
  rw [hv_];have hb_: Row (.slice A (xs).length c) en 26 4 (xs).length (flat xs):=by have h_:=hR;simpa using h_
  have hv_: Row (.slice A2 (vs).length c2) en2 1 1 (vs).length vs:=by have h_:=hR2;simpa using h_
  exact⟨_,_,rfl,⟨_,_,xs,_,_,_,vs,_,by simp,hb_,hA,hm,hv_,hT,by first | omega |(simp;omega),by first | omega |(simp;omega)⟩,hS⟩
 ·have hov:([ta,tb]: List Tm).all (okT B.length)=true:=by simpa using h11
  refine an ha Y (wp_skip (au (aa (wp_seq (ab (lin Y (ae (v:=(pB pw)) T50 Y ha Y (hS.blkH hb3) Y Y fun a ha=>?_)))))));refine lin Y (aS ha Y Y fun a ha=>?_);refine lin Y (ac (f:=1) (o2:=1) T115 T113 Y Y Y Y ha Y Y fun a ha=>?_);refine lin Y (ae (v:=(.slice A2 vs.length c2)) T113 Y ha Y (hS.blkL 3 rfl) Y Y fun a ha=>?_);refine lin Y (aD T113.und ha Y Y fun a ha=>?_);refine Ls Y ha fun a ha=>?_;refine wpList_nil (aa (wp_seq ?_));have hS_:=hS;refine c_draw_head (N:=47) (E:= [(3,(pB b1)),(4,(pB b4)),(5,(pB b6)),(8,(iV ((vs.length: Nat): Int)))]) cn 8 [FcV (pB pw),FcV (pB pw),FcV (pB pw),FcV (tv ta Aa ca),fun H v=> ∃ A c,v=tv ta A c∧RowT H A c (ta).l,FcV (tv tb Ab cb),fun H v=> ∃ A c,v=tv tb A c∧RowT H A c (tb).l,FcV (.func (.func 85) #[] #[(pB b1)])] mixed Y Y Y (M1 (M1 (M1 (M1 (Monos.cons (fun _ _ _ hl ⟨A,c,h,hr⟩=>⟨A,c,h,hr.mono hl⟩) (M1 (Monos.cons (fun _ _ _ hl ⟨A,c,h,hr⟩=>⟨A,c,h,hr.mono hl⟩) (M1 (Monos.nil))))))))) hS (ha.pk Y) (Quiets.c4 ?_ ?_ ?_ ?_ (Quiets.c4 ?_ ?_ ?_ ?_ (Quiets.nil))) (fun f_ a w H16 hle16 hS ha hdr_=>?_)
  ·refine Qy Y fun a w H_ hle hS ha hd=>?_;have hb3:=hle _ _ hb3;exact ae (v:=(pB pw)) T50 Y ha Y (hS.blkH hb3) Y Y fun a ha=>ql ha hS
  ·refine Qy1 0 rfl fun a w H_ hle hS ha hd=>?_;exact aS ha Y Y fun a ha=>ql ha hS
  ·refine Qy1 1 rfl fun a w H_ hle hS ha hd=>?_;exact ac (f:=0) (o2:=0) T115 T112 Y Y Y Y ha Y Y fun a ha=>ql ha hS
  ·refine Qy Y fun a w H_ hle hS ha hd=>?_;exact ah (vs:=(tL ta Aa ca)) T26 Y ha Y (hS.blkL 1 rfl) Y (af Y) Y fun a ha=>ql ha hS
  ·refine Qy1 3 rfl fun a w H_ hle hS ha hd=>?_;have hra:=hra.mono hle;exact Qd func63 ha Y (dD _ _ _ _ _ hra hS.inv.nil) hS
  ·refine Qy Y fun a w H_ hle hS ha hd=>?_;exact ah (vs:=(tL tb Ab cb)) T26 Y ha Y (hS.blkL 0 rfl) Y (af Y) Y fun a ha=>ql ha hS
  ·refine Qy1 5 rfl fun a w H_ hle hS ha hd=>?_;have hrb:=hrb.mono hle;exact Qd func63 ha Y (dD _ _ _ _ _ hrb hS.inv.nil) hS
  ·refine Qy Y fun a w H_ hle hS ha hd=>?_;exact bI (fs:= #[]) (cs:= #[(pB b1)]) ha (ha.evs (xs:= []) Y) (ha.evs Y) Y fun a ha=>ql ha hS
  have hb3:=hle16 _ _ hb3;have hz:=ZS.mono hz (hle16);obtain⟨_,ha,rfl⟩:=Dd ha hdr_ 2 rfl;obtain⟨_,ha,A12,c12,rfl,hr12⟩:=Dd ha hdr_ 4 rfl;obtain⟨_,ha,A14,c14,rfl,hr14⟩:=Dd ha hdr_ 6 rfl;obtain⟨_,ha,rfl⟩:=Dd ha hdr_ 7 rfl;have hS:=hS.front 4 rfl;have hS:=hS.front 4 rfl;have hS:=hS.front 4 rfl;have hk17:=c_sjoin (ta:=ta) (Aa:=A12) (ca:=c12) (tb:=tb) (Ab:=A14) (cb:=c14) (n:=B.length) (Inv.left (L:= [en,(some pw,(.cells #[(.slice A xs.length c),(.slice A2 vs.length c2)] 115 (0,0))),en2]) hS.inv) hb3 hG hGs hz hr12 hr14 (List.all_eq_true.1 hov _ (by simp)) (List.all_eq_true.1 hov _ (by simp));refine any1 (i:=8) (by kernel_rfl) Y Y (Co func74 ha Y (hk17) ?_);rintro e w ⟨H17,L17,rfl,hg17,hz17,hc17⟩;refine⟨_,rfl,fun a ha=>?_⟩;have hS:=Step.frame (Lc:= [en,(some pw,(.cells #[(.slice A xs.length c),(.slice A2 vs.length c2)] 115 (0,0))),en2]) hS hc17;have hb3:=hc17.le _ _ hb3;have hS:=(hS.perm List.perm_append_comm);refine any1 (i:=9) (by kernel_rfl) Y Y (ak ha Y Y fun a ha=>?_);refine any2 (i:=10) (i':=11) (by kernel_rfl) Y Y Y Y ?_ ?_
  ·refine id (ap (v:=(.bool ((joinS B tr ta tb).1.1))) ha Y Y Y fun a ha=>?_);refine any2 (i:=11) (i':=12) (by kernel_rfl) Y Y Y Y ?_ ?_
   ·refine id (ap (v:=(iV ((joinS B tr ta tb).1.2))) ha Y Y Y fun a ha=>?_);refine any1 (i:=12) (by kernel_rfl) Y Y (aB ha Y Y fun a ha=>?_);refine any1 (i:=13) (by kernel_rfl) Y Y (aB ha Y Y fun a ha=>?_);refine any0 (by kernel_rfl) ?_;refine aa (wp_seq (wp_seq (ab (Lm Y ha fun a ha=>?_))));refine lin Y (aP ha Y Y fun a ha=>?_);refine wpList_nil (aa (aq (t:=41) ha Y (fun h18 ha=>?_) (fun h18 ha=>?_)))
    ·refine ar ha Y (ab (lin Y (ae (v:=(pB pw)) T50 Y ha Y (hS.blkH hb3) Y Y fun a ha=>?_)));refine Lm Y ha fun a ha=>?_;have hk19:=fh (Inv.tail (Es:= [(some b6,(.cells (tA tb Ab cb) 26 (0,0))),(some b4,(.cells (tA ta Aa ca) 26 (0,0)))]) hS.inv) hz17 (many:=((vs.length: Nat): Int)) (by omega) (by rw [hg17.1.len];exact hg17.2.2.1);refine lin Y (Co func83 ha Y (hk19) ?_);rintro e w ⟨H19,L19,rfl,hz19,hc19⟩;refine⟨_,rfl,fun a ha=>?_⟩;have hS:=Step.call_tail (Es:= [(some b6,(.cells (tA tb Ab cb) 26 (0,0))),(some b4,(.cells (tA ta Aa ca) 26 (0,0)))]) hS hc19;refine wpList_nil (aa (wp_seq (ab (Lm Y ha fun a ha=>?_))));refine Lm Y ha fun a ha=>?_;refine Ls Y ha fun a ha=>?_;refine Ls Y ha fun a ha=>?_;refine wpList_nil (aa (wp_ret (ret2 Y ha Y Y ?_)));have hS:=hS.drop;have hS:=hS.drop;have hv_: sUni B tr ta tb=(undoS (joinS B tr ta tb).2.1 (joinS B tr ta tb).2.2 tr.length,(joinS B tr ta tb).1):=by unfold sUni;rw [if_pos hov,if_neg (by simpa using h18)]
     rw [hv_];have hz_:=hz19;rw [show ((vs.length: Nat): Int).toNat=tr.length by omega] at hz_;exact⟨_,_,rfl,hz_,hS⟩
    ·refine an ha Y (wp_skip (aa (wp_seq (ab (Lm Y ha fun a ha=>?_)))));refine Lm Y ha fun a ha=>?_;refine Ls Y ha fun a ha=>?_;refine Ls Y ha fun a ha=>?_;refine wpList_nil (aa (wp_ret (ret2 Y ha Y Y ?_)));have hS:=hS.drop;have hS:=hS.drop;have hv_: sUni B tr ta tb=((joinS B tr ta tb).2,(joinS B tr ta tb).1):=by unfold sUni;rw [if_pos hov,if_pos (by simpa using h18)]
     rw [hv_];exact⟨_,_,rfl,hz17,hS⟩
   ·refine id (aB ha Y Y fun a ha=>?_);refine any1 (i:=11) (by kernel_rfl) Y Y (ap (v:=(iV ((joinS B tr ta tb).1.2))) ha Y Y Y fun a ha=>?_);refine any1 (i:=13) (by kernel_rfl) Y Y (aB ha Y Y fun a ha=>?_);refine any0 (by kernel_rfl) ?_;refine aa (wp_seq (wp_seq (ab (Lm Y ha fun a ha=>?_))));refine lin Y (aP ha Y Y fun a ha=>?_);refine wpList_nil (aa (aq (t:=41) ha Y (fun h20 ha=>?_) (fun h20 ha=>?_)))
    ·refine ar ha Y (ab (lin Y (ae (v:=(pB pw)) T50 Y ha Y (hS.blkH hb3) Y Y fun a ha=>?_)));refine Lm Y ha fun a ha=>?_;have hk21:=fh (Inv.tail (Es:= [(some b6,(.cells (tA tb Ab cb) 26 (0,0))),(some b4,(.cells (tA ta Aa ca) 26 (0,0)))]) hS.inv) hz17 (many:=((vs.length: Nat): Int)) (by omega) (by rw [hg17.1.len];exact hg17.2.2.1);refine lin Y (Co func83 ha Y (hk21) ?_);rintro e w ⟨H21,L21,rfl,hz21,hc21⟩;refine⟨_,rfl,fun a ha=>?_⟩;have hS:=Step.call_tail (Es:= [(some b6,(.cells (tA tb Ab cb) 26 (0,0))),(some b4,(.cells (tA ta Aa ca) 26 (0,0)))]) hS hc21;refine wpList_nil (aa (wp_seq (ab (Lm Y ha fun a ha=>?_))));refine Lm Y ha fun a ha=>?_;refine Ls Y ha fun a ha=>?_;refine Ls Y ha fun a ha=>?_;refine wpList_nil (aa (wp_ret (ret2 Y ha Y Y ?_)));have hS:=hS.drop;have hS:=hS.drop;have hv_: sUni B tr ta tb=(undoS (joinS B tr ta tb).2.1 (joinS B tr ta tb).2.2 tr.length,(joinS B tr ta tb).1):=by unfold sUni;rw [if_pos hov,if_neg (by simpa using h20)]
     rw [hv_];have hz_:=hz21;rw [show ((vs.length: Nat): Int).toNat=tr.length by omega] at hz_;exact⟨_,_,rfl,hz_,hS⟩
    ·refine an ha Y (wp_skip (aa (wp_seq (ab (Lm Y ha fun a ha=>?_)))));refine Lm Y ha fun a ha=>?_;refine Ls Y ha fun a ha=>?_;refine Ls Y ha fun a ha=>?_;refine wpList_nil (aa (wp_ret (ret2 Y ha Y Y ?_)));have hS:=hS.drop;have hS:=hS.drop;have hv_: sUni B tr ta tb=((joinS B tr ta tb).2,(joinS B tr ta tb).1):=by unfold sUni;rw [if_pos hov,if_pos (by simpa using h20)]
     rw [hv_];exact⟨_,_,rfl,hz17,hS⟩
  ·refine id (ap (v:=(iV ((joinS B tr ta tb).1.2))) ha Y Y Y fun a ha=>?_);refine any1 (i:=10) (by kernel_rfl) Y Y (ap (v:=(.bool ((joinS B tr ta tb).1.1))) ha Y Y Y fun a ha=>?_);refine any1 (i:=12) (by kernel_rfl) Y Y (aB ha Y Y fun a ha=>?_);refine any1 (i:=13) (by kernel_rfl) Y Y (aB ha Y Y fun a ha=>?_);refine any0 (by kernel_rfl) ?_;refine aa (wp_seq (wp_seq (ab (Lm Y ha fun a ha=>?_))));refine lin Y (aP ha Y Y fun a ha=>?_);refine wpList_nil (aa (aq (t:=41) ha Y (fun h22 ha=>?_) (fun h22 ha=>?_)))
   ·refine ar ha Y (ab (lin Y (ae (v:=(pB pw)) T50 Y ha Y (hS.blkH hb3) Y Y fun a ha=>?_)));refine Lm Y ha fun a ha=>?_;have hk23:=fh (Inv.tail (Es:= [(some b6,(.cells (tA tb Ab cb) 26 (0,0))),(some b4,(.cells (tA ta Aa ca) 26 (0,0)))]) hS.inv) hz17 (many:=((vs.length: Nat): Int)) (by omega) (by rw [hg17.1.len];exact hg17.2.2.1);refine lin Y (Co func83 ha Y (hk23) ?_);rintro e w ⟨H23,L23,rfl,hz23,hc23⟩;refine⟨_,rfl,fun a ha=>?_⟩;have hS:=Step.call_tail (Es:= [(some b6,(.cells (tA tb Ab cb) 26 (0,0))),(some b4,(.cells (tA ta Aa ca) 26 (0,0)))]) hS hc23;refine wpList_nil (aa (wp_seq (ab (Lm Y ha fun a ha=>?_))));refine Lm Y ha fun a ha=>?_;refine Ls Y ha fun a ha=>?_;refine Ls Y ha fun a ha=>?_;refine wpList_nil (aa (wp_ret (ret2 Y ha Y Y ?_)));have hS:=hS.drop;have hS:=hS.drop;have hv_: sUni B tr ta tb=(undoS (joinS B tr ta tb).2.1 (joinS B tr ta tb).2.2 tr.length,(joinS B tr ta tb).1):=by unfold sUni;rw [if_pos hov,if_neg (by simpa using h22)]
    rw [hv_];have hz_:=hz23;rw [show ((vs.length: Nat): Int).toNat=tr.length by omega] at hz_;exact⟨_,_,rfl,hz_,hS⟩
   ·refine an ha Y (wp_skip (aa (wp_seq (ab (Lm Y ha fun a ha=>?_)))));refine Lm Y ha fun a ha=>?_;refine Ls Y ha fun a ha=>?_;refine Ls Y ha fun a ha=>?_;refine wpList_nil (aa (wp_ret (ret2 Y ha Y Y ?_)));have hS:=hS.drop;have hS:=hS.drop;have hv_: sUni B tr ta tb=((joinS B tr ta tb).2,(joinS B tr ta tb).1):=by unfold sUni;rw [if_pos hov,if_pos (by simpa using h22)]
    rw [hv_];exact⟨_,_,rfl,hz17,hS⟩
end Go.Vk.Tryz
namespace Go.Vk.Tryz
open Go.RowKit
def givesB (x y: Tm) (want: List Tm): Bool:=((unifyU [tZ,tZ,tZ] x y).1.2&&decide ((unifyU [tZ,tZ,tZ] x y).2=0))&&eqL (unifyU [tZ,tZ,tZ] x y).1.1 want
def failsB (x y: Tm): Bool:=(!(unifyU [tZ,tZ,tZ] x y).1.2&&decide ((unifyU [tZ,tZ,tZ] x y).2=0))&&decide ((((unifyU [tZ,tZ,tZ] x y).1.1.length: Nat): Int)=3)
set_option maxHeartbeats 2000000 in
theorem fq {w0: World} {H: PHeap} (hI: Inv w0 H []) {x y: Tm} {Ax Ay: Option Addr} {cx cy: Nat} (hrx: RowT H Ax cx x.l) (hry: RowT H Ay cy y.l) {Aw: Option Addr} {cw: Nat} {ws: List Tm} (hw: RowT H Aw cw ws): Calls prog 52 #[(tv x Ax cx),(tv y Ay cy),(.agg #[(.slice Aw ws.length cw)])] w0 (fun e w'=> ∃ H',e=.returned (.bool (givesB x y ws))∧Step w0 H [] w' H' []):=by
 have hS:=Step.refl hI;refine enter [(tv x Ax cx),(tv y Ay cy),(.agg #[(.slice Aw ws.length cw)])] func52 Y ntmps52 Y fun a ha=>?_;refine wp_seq (ab (lin Y (aG (cs:=(tA x Ax cx)) hS ha Y Y Y fun b1 a w hS ha=>?_)));refine lin Y (aG (cs:=(tA y Ay cy)) hS ha Y Y Y fun b3 a w hS ha=>?_);refine lin Y (aG (cs:= #[(.slice Aw ws.length cw)]) hS ha Y Y Y fun b5 a w hS ha=>?_);refine Ls Y ha fun a ha=>?_;refine wpList_nil (aa (wp_seq ?_));have hS_:=hS;refine As.c_draw_head (ini:=(As.il [])) (sup:=(As.sl [(12,13)])) (als:= [12,13]) (s0:=⟨H,fun _=>none⟩) (L:= [(some b5,(.cells #[(.slice Aw ws.length cw)] 24 (0,0))),(some b3,(.cells (tA y Ay cy) 26 (0,0))),(some b1,(.cells (tA x Ax cx) 26 (0,0)))]) (N:=32) (E:= [(3,(pB b1)),(4,(pB b3)),(5,(pB b5))]) 15 [FcV vZ,FcV vZ,FcV vZ,fun q_ v=>(fun H v=> ∃ A c,v=.slice A 3 c∧RowT H A c [tZ,tZ,tZ]) q_.H v,fun q_ v=>(fun H v=> ∃ A c,v=(.agg #[(.slice A (([tZ,tZ,tZ]).length) c)])∧RowT H A c ([tZ,tZ,tZ])) q_.H v,FcV (tv x Ax cx),FcV (tv y Ay cy),fun q_ v=>(fun H v=> ∃ A c,v=(.tuple #[(.agg #[(.slice A (((unifyU ([tZ,tZ,tZ]) x y).1.1).length) c)]),(.bool ((unifyU ([tZ,tZ,tZ]) x y).1.2)),(iV ((unifyU ([tZ,tZ,tZ]) x y).2))])∧RowT H A c ((unifyU ([tZ,tZ,tZ]) x y).1.1)) q_.H v,fun q_ v=>(fun H v=> ∃ A c,v=(.tuple #[(.agg #[(.slice A (((unifyU ([tZ,tZ,tZ]) x y).1.1).length) c)]),(.bool ((unifyU ([tZ,tZ,tZ]) x y).1.2)),(iV ((unifyU ([tZ,tZ,tZ]) x y).2))])∧RowT H A c ((unifyU ([tZ,tZ,tZ]) x y).1.1)) q_.H v,fun q_ v=>(fun H v=> ∃ A c,v=(.agg #[(.slice A (((unifyU ([tZ,tZ,tZ]) x y).1.1).length) c)])∧RowT H A c ((unifyU ([tZ,tZ,tZ]) x y).1.1)) q_.H v,FcV (.bool ((unifyU ([tZ,tZ,tZ]) x y).1.2)),FcV (iV ((unifyU ([tZ,tZ,tZ]) x y).2)),fun s v=> ∃ b,s.ax 12=some [(some b,(.cells #[(.slice none 0 0)] 24 (0,0)))]∧v=.pointer (some ⟨b,0,none⟩),fun s _=> ∃(b: Nat) (A: Option Addr) (c: Nat),s.ax 12=some [(some b,(.cells #[(.slice none 0 0)] 24 (0,0)))]∧s.ax 13=some [(some b,(.cells #[(.slice A (((unifyU ([tZ,tZ,tZ]) x y).1.1).length) c)] 24 (0,0)))]∧RowT s.H A c ((unifyU ([tZ,tZ,tZ]) x y).1.1),FcV (.bool ((unifyU ([tZ,tZ,tZ]) x y).1.2))] mixed Y Y Y (As.M1 (As.M1 (As.M1 (As.Monos.cons (fun _ _ v hl h=>(fun _ _ _ hl ⟨A,c,h,hr⟩=>⟨A,c,h,hr.mono hl⟩: ∀(H H': PHeap) (v: Value),Le H H'→(fun H v=> ∃ A c,v=.slice A 3 c∧RowT H A c [tZ,tZ,tZ]) H v→(fun H v=> ∃ A c,v=.slice A 3 c∧RowT H A c [tZ,tZ,tZ]) H' v) _ _ _ hl.le h) (As.Monos.cons (fun _ _ v hl h=>(fun _ _ _ hl ⟨A,c,h,hr⟩=>⟨A,c,h,hr.mono hl⟩: ∀(H H': PHeap) (v: Value),Le H H'→(fun H v=> ∃ A c,v=(.agg #[(.slice A (([tZ,tZ,tZ]).length) c)])∧RowT H A c ([tZ,tZ,tZ])) H v→(fun H v=> ∃ A c,v=(.agg #[(.slice A (([tZ,tZ,tZ]).length) c)])∧RowT H A c ([tZ,tZ,tZ])) H' v) _ _ _ hl.le h) (As.M1 (As.M1 (As.Monos.cons (fun _ _ v hl h=>(fun _ _ _ hl ⟨A,c,h,hr⟩=>⟨A,c,h,hr.mono hl⟩: ∀(H H': PHeap) (v: Value),Le H H'→(fun H v=> ∃ A c,v=(.tuple #[(.agg #[(.slice A (((unifyU ([tZ,tZ,tZ]) x y).1.1).length) c)]),(.bool ((unifyU ([tZ,tZ,tZ]) x y).1.2)),(iV ((unifyU ([tZ,tZ,tZ]) x y).2))])∧RowT H A c ((unifyU ([tZ,tZ,tZ]) x y).1.1)) H v→(fun H v=> ∃ A c,v=(.tuple #[(.agg #[(.slice A (((unifyU ([tZ,tZ,tZ]) x y).1.1).length) c)]),(.bool ((unifyU ([tZ,tZ,tZ]) x y).1.2)),(iV ((unifyU ([tZ,tZ,tZ]) x y).2))])∧RowT H A c ((unifyU ([tZ,tZ,tZ]) x y).1.1)) H' v) _ _ _ hl.le h) (As.Monos.cons (fun _ _ v hl h=>(fun _ _ _ hl ⟨A,c,h,hr⟩=>⟨A,c,h,hr.mono hl⟩: ∀(H H': PHeap) (v: Value),Le H H'→(fun H v=> ∃ A c,v=(.tuple #[(.agg #[(.slice A (((unifyU ([tZ,tZ,tZ]) x y).1.1).length) c)]),(.bool ((unifyU ([tZ,tZ,tZ]) x y).1.2)),(iV ((unifyU ([tZ,tZ,tZ]) x y).2))])∧RowT H A c ((unifyU ([tZ,tZ,tZ]) x y).1.1)) H v→(fun H v=> ∃ A c,v=(.tuple #[(.agg #[(.slice A (((unifyU ([tZ,tZ,tZ]) x y).1.1).length) c)]),(.bool ((unifyU ([tZ,tZ,tZ]) x y).1.2)),(iV ((unifyU ([tZ,tZ,tZ]) x y).2))])∧RowT H A c ((unifyU ([tZ,tZ,tZ]) x y).1.1)) H' v) _ _ _ hl.le h) (As.Monos.cons (fun _ _ v hl h=>(fun _ _ _ hl ⟨A,c,h,hr⟩=>⟨A,c,h,hr.mono hl⟩: ∀(H H': PHeap) (v: Value),Le H H'→(fun H v=> ∃ A c,v=(.agg #[(.slice A (((unifyU ([tZ,tZ,tZ]) x y).1.1).length) c)])∧RowT H A c ((unifyU ([tZ,tZ,tZ]) x y).1.1)) H v→(fun H v=> ∃ A c,v=(.agg #[(.slice A (((unifyU ([tZ,tZ,tZ]) x y).1.1).length) c)])∧RowT H A c ((unifyU ([tZ,tZ,tZ]) x y).1.1)) H' v) _ _ _ hl.le h) (As.M1 (As.M1 (As.Monos.cons (fun _ _ _ hl ⟨b,h,e⟩=>⟨b,hl.get h,e⟩) (As.Monos.cons (fun _ _ _ hl ⟨b,A,c,h1,h2,hr⟩=>⟨b,A,c,hl.get h1,hl.get h2,hr.mono hl.le⟩) (As.M1 (As.Monos.nil)))))))))))))))) (fun _=>rfl) hS (ha.pk Y) (As.QuietsI.c4 ?_ ?_ ?_ ?_ (As.QuietsI.c4 ?_ ?_ ?_ ?_ (As.QuietsI.c4 ?_ ?_ ?_ ?_ (As.QuietsI.c2 ?_ ?_ (As.QuietsI.cons ?_ (As.QuietsI.nil)))))) (fun f_ a w s_ hls hS ha hdr_=>?_)
 ·refine As.Qx Y fun a w H_ ax_ hle hax_ hS ha hd hls=>?_;have hSf:=hS;exact aO (vs:= []) (cells:=lZ) T26 PL26 ha (ha.evp Y) Y Y fun a ha=>As.ql ha hSf
 ·refine As.Qx Y fun a w H_ ax_ hle hax_ hS ha hd hls=>?_;have hSf:=hS;exact aO (vs:= []) (cells:=lZ) T26 PL26 ha (ha.evp Y) Y Y fun a ha=>As.ql ha hSf
 ·refine As.Qx Y fun a w H_ ax_ hle hax_ hS ha hd hls=>?_;have hSf:=hS;exact aO (vs:= []) (cells:=lZ) T26 PL26 ha (ha.evp Y) Y Y fun a ha=>As.ql ha hSf
 ·refine As.Qx1 0 rfl fun a w H_ ax_ hle hax_ hS ha hd hls=>?_;obtain⟨_,ha,rfl⟩:=hd.g ha 1 rfl;obtain⟨_,ha,rfl⟩:=hd.g ha 2 rfl;have hSf:=hS;have hSr:=Step.dropN _ _ hS;refine id (aE (vs:= [(0,vZ),(1,vZ),(2,vZ)]) (cells:= [(iV 0),(iV 0),(.string (⟨#[]⟩)),(.slice none 0 0),(iV 0),(iV 0),(.string (⟨#[]⟩)),(.slice none 0 0),(iV 0),(iV 0),(.string (⟨#[]⟩)),(.slice none 0 0)]) T22.und T26 hS ha (ha.evp Y) Y Y Y Y fun b7 a w hS ha=>?_);obtain⟨H7,hS,hle7,hb7⟩:=hS.give;have hr7: RowT H7 (some ⟨b7,0,none⟩) 3 [tZ,tZ,tZ]:=RowT.of_lit ([⟨tZ,none,0⟩,⟨tZ,none,0⟩,⟨tZ,none,0⟩]: List TV) hb7 (AllR.cons (RowT.nil _) (AllR.cons (RowT.nil _) (AllR.cons (RowT.nil _) (AllR.nil _)))) (by simp) Y;exact As.qdone (s:=⟨H_,ax_⟩) hle7 ha hS ⟨_,_,rfl,hr7⟩
 ·refine As.Qx Y fun a w H_ ax_ hle hax_ hS ha hd hls=>?_;obtain⟨_,ha,A7,c7,rfl,hr7⟩:=hd.g ha 3 rfl;have hSf:=hS;have hSr:=Step.dropN _ _ hS;have hk9:=aQ hS.inv.nil hr7;refine id (Co func54 ha Y (hk9) ?_);rintro e w ⟨H8,A8,c8,rfl,hr8,hc8⟩;refine⟨_,rfl,fun a ha=>?_⟩;have hS:=hS.call hc8;exact As.qdone (s:=⟨H_,ax_⟩) hc8.le ha hS ⟨A8,c8,rfl,hr8⟩
 ·refine As.Qx Y fun a w H_ ax_ hle hax_ hS ha hd hls=>?_;have hSf:=hS;have hS:=Step.dropN _ _ hS;exact ah (vs:=(tL x Ax cx)) T26 Y ha Y (hS.blkL 2 rfl) Y (af Y) Y fun a ha=>As.ql ha hSf
 ·refine As.Qx Y fun a w H_ ax_ hle hax_ hS ha hd hls=>?_;have hSf:=hS;have hS:=Step.dropN _ _ hS;exact ah (vs:=(tL y Ay cy)) T26 Y ha Y (hS.blkL 1 rfl) Y (af Y) Y fun a ha=>As.ql ha hSf
 ·refine As.Qx Y fun a w H_ ax_ hle hax_ hS ha hd hls=>?_;obtain⟨_,ha,A8,c8,rfl,hr8⟩:=hd.g ha 4 rfl;obtain⟨_,ha,rfl⟩:=hd.g ha 5 rfl;obtain⟨_,ha,rfl⟩:=hd.g ha 6 rfl;have hrx:=hrx.mono hle;have hry:=hry.mono hle;have hSf:=hS;have hSr:=Step.dropN _ _ hS;have hk11:=ff hS.inv.nil hr8 hrx hry;refine id (Co func21 ha Y (hk11) ?_);rintro e w ⟨H10,A10,c10,rfl,hr10,hc10⟩;refine⟨_,rfl,fun a ha=>?_⟩;have hS:=hS.call hc10;exact As.qdone (s:=⟨H_,ax_⟩) hc10.le ha hS ⟨A10,c10,rfl,hr10⟩
 ·refine As.Qx Y fun a w H_ ax_ hle hax_ hS ha hd hls=>?_;obtain⟨_,ha,A10,c10,rfl,hr10⟩:=hd.g ha 7 rfl;have hSf:=hS;refine id (ak ha Y Y fun a ha=>?_);exact As.qdone (s:=⟨H_,ax_⟩) (Le.refl _) ha hSf ⟨A10,c10,rfl,hr10⟩
 ·refine As.Qx Y fun a w H_ ax_ hle hax_ hS ha hd hls=>?_;obtain⟨_,ha,A10,c10,rfl,hr10⟩:=hd.g ha 8 rfl;have hSf:=hS;refine id (ap (v:=(.agg #[(.slice A10 (((unifyU ([tZ,tZ,tZ]) x y).1.1).length) c10)])) ha Y Y Y fun a ha=>?_);exact As.qdone (s:=⟨H_,ax_⟩) (Le.refl _) ha hSf ⟨A10,c10,rfl,hr10⟩
 ·refine As.Qx Y fun a w H_ ax_ hle hax_ hS ha hd hls=>?_;obtain⟨_,ha,A10,c10,rfl,hr10⟩:=hd.g ha 8 rfl;have hSf:=hS;exact ap (v:=(.bool ((unifyU ([tZ,tZ,tZ]) x y).1.2))) ha Y Y Y fun a ha=>As.ql ha hSf
 ·refine As.Qx Y fun a w H_ ax_ hle hax_ hS ha hd hls=>?_;obtain⟨_,ha,A10,c10,rfl,hr10⟩:=hd.g ha 8 rfl;have hSf:=hS;exact ap (v:=(iV ((unifyU ([tZ,tZ,tZ]) x y).2))) ha Y Y Y fun a ha=>As.ql ha hSf
 ·refine As.Qx Y fun a w H_ ax_ hle hax_ hS ha hd hls=>?_;have hS: Step w0 H [] w H_ ((As.aents (As.il []) (As.sl [(12,13)]) [] ax_++As.aents (As.il []) (As.sl [(12,13)]) [13] ax_++ [(some b5,(.cells #[(.slice Aw ws.length cw)] 24 (0,0))),(some b3,(.cells (tA y Ay cy) 26 (0,0))),(some b1,(.cells (tA x Ax cx) 26 (0,0)))])):=As.opn (s:=⟨H_,ax_⟩) [] [12] [13] [] rfl (As.con0 hax_ Y) hS;refine aF (cs:= #[(.slice none 0 0)]) T24 hS ha Y Y fun ab12 a w hS ha=>?_;exact As.qown (i:=12) (dst:=some 7) (s:=⟨H_,ax_⟩) (E:= [(some ab12,(.cells #[(.slice none 0 0)] 24 (0,0)))]) [] [12] [13] rfl Y hax_ (Le.refl _) ha.dfr (As.has_at ha) hS As.con1 ⟨ab12,rfl,rfl⟩
 ·refine As.Qx Y fun a w H_ ax_ hle hax_ hS ha hd hls=>?_;obtain⟨_,ha,ab12,hx_ab12,rfl⟩:=hd.g ha 12 rfl;have hx_ab12: ax_ 12=some [(some ab12,(.cells #[(.slice none 0 0)] 24 (0,0)))]:=hx_ab12;obtain⟨_,ha,A10,c10,rfl,hr10⟩:=hd.g ha 9 rfl;have hS: Step w0 H [] w H_ ((some ab12,(.cells #[(.slice none 0 0)] 24 (0,0)))::(As.aents (As.il []) (As.sl [(12,13)]) [] ax_++As.aents (As.il []) (As.sl [(12,13)]) [] ax_++ [(some b5,(.cells #[(.slice Aw ws.length cw)] 24 (0,0))),(some b3,(.cells (tA y Ay cy) 26 (0,0))),(some b1,(.cells (tA x Ax cx) 26 (0,0)))])):=As.opn (s:=⟨H_,ax_⟩) [] [12,13] [] [(some ab12,(.cells #[(.slice none 0 0)] 24 (0,0)))] rfl (As.con2 Y Y Y hx_ab12 hax_) hS;refine id (aw (cs':= #[(.slice A10 (((unifyU ([tZ,tZ,tZ]) x y).1.1).length) c10)]) T24 hS (i:=0) Y ha Y Y Y Y Y Y fun a w hS ha=>?_);exact As.qown (i:=13) (dst:=none) (s:=⟨H_,ax_⟩) (E:= [(some ab12,(.cells #[(.slice A10 (((unifyU ([tZ,tZ,tZ]) x y).1.1).length) c10)] 24 (0,0)))]) [] [12,13] [] rfl Y hax_ (Le.refl _) ha.dfr (v:=undef) (fun _ h=>by cases h) hS (.inl (As.con2' Y Y)) ⟨ab12,A10,c10,hx_ab12,rfl,hr10⟩
 ·refine As.Qx1 10 rfl fun a w H_ ax_ hle hax_ hS ha hd hls=>?_;have hSf:=hS;exact aB ha Y Y fun a ha=>As.ql ha hSf
 obtain⟨H16,ax_⟩:=s_;have hle16: Le H H16:=hls.le;dsimp only at hdr_ hS;have hw:=hw.mono hle16;obtain⟨_,ha,rfl⟩:=As.Dd ha hdr_ 11 rfl;obtain⟨_,ha,ab12,hx_ab12,rfl⟩:=As.Dd ha hdr_ 12 rfl;have hx_ab12: ax_ 12=some [(some ab12,(.cells #[(.slice none 0 0)] 24 (0,0)))]:=hx_ab12;obtain⟨_,hv_,sb14,A10,c10,hq_sb14,hx_sb14,hr10⟩:=hdr_ 13 _ _ Y Y;have hx_sb14: ax_ 13=some [(some sb14,(.cells #[(.slice A10 (((unifyU ([tZ,tZ,tZ]) x y).1.1).length) c10)] 24 (0,0)))]:=hx_sb14;obtain rfl: ab12=sb14:=by have h_:=(hx_ab12).symm.trans hq_sb14;simpa using h_
 obtain⟨_,ha,rfl⟩:=As.Dd ha hdr_ 14 rfl;have hS: Step w0 H [] w H16 [(some ab12,(.cells #[(.slice A10 (((unifyU ([tZ,tZ,tZ]) x y).1.1).length) c10)] 24 (0,0))),(some b5,(.cells #[(.slice Aw ws.length cw)] 24 (0,0))),(some b3,(.cells (tA y Ay cy) 26 (0,0))),(some b1,(.cells (tA x Ax cx) 26 (0,0)))]:=by
  have h_:=hS;unfold As.aents at h_;simp only [List.flatMap_cons,List.flatMap_nil,As.conE,show (As.sl [(12,13)]) 12=some 13 from rfl,show (As.sl [(12,13)]) 13=none from rfl,hx_ab12,hx_sb14,Option.isSome_some,Option.getD_some,cond_true,cond_false,List.cons_append,List.nil_append,List.append_nil] at h_;exact h_
 refine any1 (i:=15) (by kernel_rfl) Y Y (aB ha Y Y fun a ha=>?_);refine any0 (by kernel_rfl) ?_;refine aa (wp_seq (bV (w0:=w0) (H0:=H) (L0:= []) (H:=H16) (L:= [(some ab12,(.cells #[(.slice A10 (((unifyU ([tZ,tZ,tZ]) x y).1.1).length) c10)] 24 (0,0))),(some b5,(.cells #[(.slice Aw ws.length cw)] 24 (0,0))),(some b3,(.cells (tA y Ay cy) 26 (0,0))),(some b1,(.cells (tA x Ax cx) 26 (0,0)))]) (D:= []) (N:=32) (E:= [(5,(pB b5)),(6,(.bool (((unifyU ([tZ,tZ,tZ]) x y).1.2&&(decide (((unifyU ([tZ,tZ,tZ]) x y).2)=0)))&&(eqL ((unifyU ([tZ,tZ,tZ]) x y).1.1) ws)))),(7,(pB ab12)),(8,(.bool ((unifyU ([tZ,tZ,tZ]) x y).1.2))),(9,(iV ((unifyU ([tZ,tZ,tZ]) x y).2)))]) (fun a w hS ha=>?_) ?_));rotate_left
 ·refine Lm Y ha fun a ha=>?_;refine Lm Y ha fun a ha=>?_;refine aq (t:=23) ha Y (fun h18 ha=>?_) (fun h18 ha=>?_)
  ·refine ad Y ha Y Y Y (ak ha Y Y fun a ha=>?_);refine ad Y ha Y Y Y (aX (i:=((unifyU ([tZ,tZ,tZ]) x y).2)) (j:=0) ha Y Y Y fun a ha=>?_);refine lin Y (am ha Y Y Y fun a ha=>?_);refine Lm Y ha fun a ha=>?_;refine al (t:=27) ha Y (fun h19 ha=>?_) (fun h19 ha=>?_)
   ·refine ad Y ha Y Y Y (ah (vs:= [(.slice A10 (((unifyU ([tZ,tZ,tZ]) x y).1.1).length) c10)]) T24 Y ha Y (hS.blkL 0 rfl) Y (af Y) Y fun a ha=>?_);refine ad Y ha Y Y Y (ah (vs:= [(.slice Aw ws.length cw)]) T24 Y ha Y (hS.blkL 1 rfl) Y (af Y) Y fun a ha=>?_);have hk20:=aL hS.inv.nil hr10 hw;refine ad Y ha Y Y Y (Co func23 ha Y (hk20) ?_);rintro e w ⟨rfl,hc⟩;refine⟨_,rfl,fun a ha=>?_⟩;have hS:=hS.call hc;refine lin Y (am ha Y Y Y fun a ha=>?_);refine Ls Y ha fun a ha=>?_;exact wpList_nil ⟨rfl,hS,Has.cons ha Y (Has.cons ha (by simp [lk,Nat.beq,h18,h19]) (ha.pk Y))⟩
   ·refine Lf Y ha Y Y fun a ha=>?_;refine Lf Y ha Y Y fun a ha=>?_;refine Lf Y ha Y Y fun a ha=>?_;refine lin Y (ai ha Y Y Y fun a ha=>?_);refine Ls Y ha fun a ha=>?_;exact wpList_nil ⟨rfl,hS,Has.cons ha Y (Has.cons ha (by simp [lk,Nat.beq,h18,h19]) (ha.pk Y))⟩
  ·refine Lf Y ha Y Y fun a ha=>?_;refine Lf Y ha Y Y fun a ha=>?_;refine lin Y (ai ha Y Y Y fun a ha=>?_);refine Lm Y ha fun a ha=>?_;refine Lf Y ha Y Y fun a ha=>?_;refine Lf Y ha Y Y fun a ha=>?_;refine Lf Y ha Y Y fun a ha=>?_;refine lin Y (ai ha Y Y Y fun a ha=>?_);refine Ls Y ha fun a ha=>?_;exact wpList_nil ⟨rfl,hS,Has.cons ha Y (Has.cons ha (by simp [lk,Nat.beq,h18]) (ha.pk Y))⟩
 refine aa (wp_ret (ret1 Y ha Y ?_));exact⟨_,rfl,hS.drop_all⟩
set_option maxHeartbeats 2000000 in
theorem fu {w0: World} {H: PHeap} (hI: Inv w0 H []) {x y: Tm} {Ax Ay: Option Addr} {cx cy: Nat} (hrx: RowT H Ax cx x.l) (hry: RowT H Ay cy y.l): Calls prog 57 #[(tv x Ax cx),(tv y Ay cy)] w0 (fun e w'=> ∃ H',e=.returned (.bool (failsB x y))∧Step w0 H [] w' H' []):=by
 have hS:=Step.refl hI;refine enter [(tv x Ax cx),(tv y Ay cy)] func57 Y ntmps57 Y fun a ha=>?_;refine wp_seq (ab (lin Y (aG (cs:=(tA x Ax cx)) hS ha Y Y Y fun b1 a w hS ha=>?_)));refine lin Y (aG (cs:=(tA y Ay cy)) hS ha Y Y Y fun b3 a w hS ha=>?_);refine Ls Y ha fun a ha=>?_;refine wpList_nil (aa (wp_seq ?_));have hS_:=hS;refine As.c_draw_head (ini:=(As.il [])) (sup:=(As.sl [(12,13)])) (als:= [12,13]) (s0:=⟨H,fun _=>none⟩) (L:= [(some b3,(.cells (tA y Ay cy) 26 (0,0))),(some b1,(.cells (tA x Ax cx) 26 (0,0)))]) (N:=32) (E:= [(2,(pB b1)),(3,(pB b3))]) 15 [FcV vZ,FcV vZ,FcV vZ,fun q_ v=>(fun H v=> ∃ A c,v=.slice A 3 c∧RowT H A c [tZ,tZ,tZ]) q_.H v,fun q_ v=>(fun H v=> ∃ A c,v=(.agg #[(.slice A (([tZ,tZ,tZ]).length) c)])∧RowT H A c ([tZ,tZ,tZ])) q_.H v,FcV (tv x Ax cx),FcV (tv y Ay cy),fun q_ v=>(fun H v=> ∃ A c,v=(.tuple #[(.agg #[(.slice A (((unifyU ([tZ,tZ,tZ]) x y).1.1).length) c)]),(.bool ((unifyU ([tZ,tZ,tZ]) x y).1.2)),(iV ((unifyU ([tZ,tZ,tZ]) x y).2))])∧RowT H A c ((unifyU ([tZ,tZ,tZ]) x y).1.1)) q_.H v,fun q_ v=>(fun H v=> ∃ A c,v=(.tuple #[(.agg #[(.slice A (((unifyU ([tZ,tZ,tZ]) x y).1.1).length) c)]),(.bool ((unifyU ([tZ,tZ,tZ]) x y).1.2)),(iV ((unifyU ([tZ,tZ,tZ]) x y).2))])∧RowT H A c ((unifyU ([tZ,tZ,tZ]) x y).1.1)) q_.H v,fun q_ v=>(fun H v=> ∃ A c,v=(.agg #[(.slice A (((unifyU ([tZ,tZ,tZ]) x y).1.1).length) c)])∧RowT H A c ((unifyU ([tZ,tZ,tZ]) x y).1.1)) q_.H v,FcV (.bool ((unifyU ([tZ,tZ,tZ]) x y).1.2)),FcV (iV ((unifyU ([tZ,tZ,tZ]) x y).2)),fun s v=> ∃ b,s.ax 12=some [(some b,(.cells #[(.slice none 0 0)] 24 (0,0)))]∧v=.pointer (some ⟨b,0,none⟩),fun s _=> ∃(b: Nat) (A: Option Addr) (c: Nat),s.ax 12=some [(some b,(.cells #[(.slice none 0 0)] 24 (0,0)))]∧s.ax 13=some [(some b,(.cells #[(.slice A (((unifyU ([tZ,tZ,tZ]) x y).1.1).length) c)] 24 (0,0)))]∧RowT s.H A c ((unifyU ([tZ,tZ,tZ]) x y).1.1),FcV (.bool ((unifyU ([tZ,tZ,tZ]) x y).1.2))] mixed Y Y Y (As.M1 (As.M1 (As.M1 (As.Monos.cons (fun _ _ v hl h=>(fun _ _ _ hl ⟨A,c,h,hr⟩=>⟨A,c,h,hr.mono hl⟩: ∀(H H': PHeap) (v: Value),Le H H'→(fun H v=> ∃ A c,v=.slice A 3 c∧RowT H A c [tZ,tZ,tZ]) H v→(fun H v=> ∃ A c,v=.slice A 3 c∧RowT H A c [tZ,tZ,tZ]) H' v) _ _ _ hl.le h) (As.Monos.cons (fun _ _ v hl h=>(fun _ _ _ hl ⟨A,c,h,hr⟩=>⟨A,c,h,hr.mono hl⟩: ∀(H H': PHeap) (v: Value),Le H H'→(fun H v=> ∃ A c,v=(.agg #[(.slice A (([tZ,tZ,tZ]).length) c)])∧RowT H A c ([tZ,tZ,tZ])) H v→(fun H v=> ∃ A c,v=(.agg #[(.slice A (([tZ,tZ,tZ]).length) c)])∧RowT H A c ([tZ,tZ,tZ])) H' v) _ _ _ hl.le h) (As.M1 (As.M1 (As.Monos.cons (fun _ _ v hl h=>(fun _ _ _ hl ⟨A,c,h,hr⟩=>⟨A,c,h,hr.mono hl⟩: ∀(H H': PHeap) (v: Value),Le H H'→(fun H v=> ∃ A c,v=(.tuple #[(.agg #[(.slice A (((unifyU ([tZ,tZ,tZ]) x y).1.1).length) c)]),(.bool ((unifyU ([tZ,tZ,tZ]) x y).1.2)),(iV ((unifyU ([tZ,tZ,tZ]) x y).2))])∧RowT H A c ((unifyU ([tZ,tZ,tZ]) x y).1.1)) H v→(fun H v=> ∃ A c,v=(.tuple #[(.agg #[(.slice A (((unifyU ([tZ,tZ,tZ]) x y).1.1).length) c)]),(.bool ((unifyU ([tZ,tZ,tZ]) x y).1.2)),(iV ((unifyU ([tZ,tZ,tZ]) x y).2))])∧RowT H A c ((unifyU ([tZ,tZ,tZ]) x y).1.1)) H' v) _ _ _ hl.le h) (As.Monos.cons (fun _ _ v hl h=>(fun _ _ _ hl ⟨A,c,h,hr⟩=>⟨A,c,h,hr.mono hl⟩: ∀(H H': PHeap) (v: Value),Le H H'→(fun H v=> ∃ A c,v=(.tuple #[(.agg #[(.slice A (((unifyU ([tZ,tZ,tZ]) x y).1.1).length) c)]),(.bool ((unifyU ([tZ,tZ,tZ]) x y).1.2)),(iV ((unifyU ([tZ,tZ,tZ]) x y).2))])∧RowT H A c ((unifyU ([tZ,tZ,tZ]) x y).1.1)) H v→(fun H v=> ∃ A c,v=(.tuple #[(.agg #[(.slice A (((unifyU ([tZ,tZ,tZ]) x y).1.1).length) c)]),(.bool ((unifyU ([tZ,tZ,tZ]) x y).1.2)),(iV ((unifyU ([tZ,tZ,tZ]) x y).2))])∧RowT H A c ((unifyU ([tZ,tZ,tZ]) x y).1.1)) H' v) _ _ _ hl.le h) (As.Monos.cons (fun _ _ v hl h=>(fun _ _ _ hl ⟨A,c,h,hr⟩=>⟨A,c,h,hr.mono hl⟩: ∀(H H': PHeap) (v: Value),Le H H'→(fun H v=> ∃ A c,v=(.agg #[(.slice A (((unifyU ([tZ,tZ,tZ]) x y).1.1).length) c)])∧RowT H A c ((unifyU ([tZ,tZ,tZ]) x y).1.1)) H v→(fun H v=> ∃ A c,v=(.agg #[(.slice A (((unifyU ([tZ,tZ,tZ]) x y).1.1).length) c)])∧RowT H A c ((unifyU ([tZ,tZ,tZ]) x y).1.1)) H' v) _ _ _ hl.le h) (As.M1 (As.M1 (As.Monos.cons (fun _ _ _ hl ⟨b,h,e⟩=>⟨b,hl.get h,e⟩) (As.Monos.cons (fun _ _ _ hl ⟨b,A,c,h1,h2,hr⟩=>⟨b,A,c,hl.get h1,hl.get h2,hr.mono hl.le⟩) (As.M1 (As.Monos.nil)))))))))))))))) (fun _=>rfl) hS (ha.pk Y) (As.QuietsI.c4 ?_ ?_ ?_ ?_ (As.QuietsI.c4 ?_ ?_ ?_ ?_ (As.QuietsI.c4 ?_ ?_ ?_ ?_ (As.QuietsI.c2 ?_ ?_ (As.QuietsI.cons ?_ (As.QuietsI.nil)))))) (fun f_ a w s_ hls hS ha hdr_=>?_)
 ·refine As.Qx Y fun a w H_ ax_ hle hax_ hS ha hd hls=>?_;have hSf:=hS;exact aO (vs:= []) (cells:=lZ) T26 PL26 ha (ha.evp Y) Y Y fun a ha=>As.ql ha hSf
 ·refine As.Qx Y fun a w H_ ax_ hle hax_ hS ha hd hls=>?_;have hSf:=hS;exact aO (vs:= []) (cells:=lZ) T26 PL26 ha (ha.evp Y) Y Y fun a ha=>As.ql ha hSf
 ·refine As.Qx Y fun a w H_ ax_ hle hax_ hS ha hd hls=>?_;have hSf:=hS;exact aO (vs:= []) (cells:=lZ) T26 PL26 ha (ha.evp Y) Y Y fun a ha=>As.ql ha hSf
 ·refine As.Qx1 0 rfl fun a w H_ ax_ hle hax_ hS ha hd hls=>?_;obtain⟨_,ha,rfl⟩:=hd.g ha 1 rfl;obtain⟨_,ha,rfl⟩:=hd.g ha 2 rfl;have hSf:=hS;have hSr:=Step.dropN _ _ hS;refine id (aE (vs:= [(0,vZ),(1,vZ),(2,vZ)]) (cells:= [(iV 0),(iV 0),(.string (⟨#[]⟩)),(.slice none 0 0),(iV 0),(iV 0),(.string (⟨#[]⟩)),(.slice none 0 0),(iV 0),(iV 0),(.string (⟨#[]⟩)),(.slice none 0 0)]) T22.und T26 hS ha (ha.evp Y) Y Y Y Y fun b5 a w hS ha=>?_);obtain⟨H5,hS,hle5,hb5⟩:=hS.give;have hr5: RowT H5 (some ⟨b5,0,none⟩) 3 [tZ,tZ,tZ]:=RowT.of_lit ([⟨tZ,none,0⟩,⟨tZ,none,0⟩,⟨tZ,none,0⟩]: List TV) hb5 (AllR.cons (RowT.nil _) (AllR.cons (RowT.nil _) (AllR.cons (RowT.nil _) (AllR.nil _)))) (by simp) Y;exact As.qdone (s:=⟨H_,ax_⟩) hle5 ha hS ⟨_,_,rfl,hr5⟩
 ·refine As.Qx Y fun a w H_ ax_ hle hax_ hS ha hd hls=>?_;obtain⟨_,ha,A5,c5,rfl,hr5⟩:=hd.g ha 3 rfl;have hSf:=hS;have hSr:=Step.dropN _ _ hS;have hk7:=aQ hS.inv.nil hr5;refine id (Co func54 ha Y (hk7) ?_);rintro e w ⟨H6,A6,c6,rfl,hr6,hc6⟩;refine⟨_,rfl,fun a ha=>?_⟩;have hS:=hS.call hc6;exact As.qdone (s:=⟨H_,ax_⟩) hc6.le ha hS ⟨A6,c6,rfl,hr6⟩
 ·refine As.Qx Y fun a w H_ ax_ hle hax_ hS ha hd hls=>?_;have hSf:=hS;have hS:=Step.dropN _ _ hS;exact ah (vs:=(tL x Ax cx)) T26 Y ha Y (hS.blkL 1 rfl) Y (af Y) Y fun a ha=>As.ql ha hSf
 ·refine As.Qx Y fun a w H_ ax_ hle hax_ hS ha hd hls=>?_;have hSf:=hS;have hS:=Step.dropN _ _ hS;exact ah (vs:=(tL y Ay cy)) T26 Y ha Y (hS.blkL 0 rfl) Y (af Y) Y fun a ha=>As.ql ha hSf
 ·refine As.Qx Y fun a w H_ ax_ hle hax_ hS ha hd hls=>?_;obtain⟨_,ha,A6,c6,rfl,hr6⟩:=hd.g ha 4 rfl;obtain⟨_,ha,rfl⟩:=hd.g ha 5 rfl;obtain⟨_,ha,rfl⟩:=hd.g ha 6 rfl;have hrx:=hrx.mono hle;have hry:=hry.mono hle;have hSf:=hS;have hSr:=Step.dropN _ _ hS;have hk9:=ff hS.inv.nil hr6 hrx hry;refine id (Co func21 ha Y (hk9) ?_);rintro e w ⟨H8,A8,c8,rfl,hr8,hc8⟩;refine⟨_,rfl,fun a ha=>?_⟩;have hS:=hS.call hc8;exact As.qdone (s:=⟨H_,ax_⟩) hc8.le ha hS ⟨A8,c8,rfl,hr8⟩
 ·refine As.Qx Y fun a w H_ ax_ hle hax_ hS ha hd hls=>?_;obtain⟨_,ha,A8,c8,rfl,hr8⟩:=hd.g ha 7 rfl;have hSf:=hS;refine id (ak ha Y Y fun a ha=>?_);exact As.qdone (s:=⟨H_,ax_⟩) (Le.refl _) ha hSf ⟨A8,c8,rfl,hr8⟩
 ·refine As.Qx Y fun a w H_ ax_ hle hax_ hS ha hd hls=>?_;obtain⟨_,ha,A8,c8,rfl,hr8⟩:=hd.g ha 8 rfl;have hSf:=hS;refine id (ap (v:=(.agg #[(.slice A8 (((unifyU ([tZ,tZ,tZ]) x y).1.1).length) c8)])) ha Y Y Y fun a ha=>?_);exact As.qdone (s:=⟨H_,ax_⟩) (Le.refl _) ha hSf ⟨A8,c8,rfl,hr8⟩
 ·refine As.Qx Y fun a w H_ ax_ hle hax_ hS ha hd hls=>?_;obtain⟨_,ha,A8,c8,rfl,hr8⟩:=hd.g ha 8 rfl;have hSf:=hS;exact ap (v:=(.bool ((unifyU ([tZ,tZ,tZ]) x y).1.2))) ha Y Y Y fun a ha=>As.ql ha hSf
 ·refine As.Qx Y fun a w H_ ax_ hle hax_ hS ha hd hls=>?_;obtain⟨_,ha,A8,c8,rfl,hr8⟩:=hd.g ha 8 rfl;have hSf:=hS;exact ap (v:=(iV ((unifyU ([tZ,tZ,tZ]) x y).2))) ha Y Y Y fun a ha=>As.ql ha hSf
 ·refine As.Qx Y fun a w H_ ax_ hle hax_ hS ha hd hls=>?_;have hS: Step w0 H [] w H_ ((As.aents (As.il []) (As.sl [(12,13)]) [] ax_++As.aents (As.il []) (As.sl [(12,13)]) [13] ax_++ [(some b3,(.cells (tA y Ay cy) 26 (0,0))),(some b1,(.cells (tA x Ax cx) 26 (0,0)))])):=As.opn (s:=⟨H_,ax_⟩) [] [12] [13] [] rfl (As.con0 hax_ Y) hS;refine aF (cs:= #[(.slice none 0 0)]) T24 hS ha Y Y fun ab10 a w hS ha=>?_;exact As.qown (i:=12) (dst:=some 5) (s:=⟨H_,ax_⟩) (E:= [(some ab10,(.cells #[(.slice none 0 0)] 24 (0,0)))]) [] [12] [13] rfl Y hax_ (Le.refl _) ha.dfr (As.has_at ha) hS As.con1 ⟨ab10,rfl,rfl⟩
 ·refine As.Qx Y fun a w H_ ax_ hle hax_ hS ha hd hls=>?_;obtain⟨_,ha,ab10,hx_ab10,rfl⟩:=hd.g ha 12 rfl;have hx_ab10: ax_ 12=some [(some ab10,(.cells #[(.slice none 0 0)] 24 (0,0)))]:=hx_ab10;obtain⟨_,ha,A8,c8,rfl,hr8⟩:=hd.g ha 9 rfl;have hS: Step w0 H [] w H_ ((some ab10,(.cells #[(.slice none 0 0)] 24 (0,0)))::(As.aents (As.il []) (As.sl [(12,13)]) [] ax_++As.aents (As.il []) (As.sl [(12,13)]) [] ax_++ [(some b3,(.cells (tA y Ay cy) 26 (0,0))),(some b1,(.cells (tA x Ax cx) 26 (0,0)))])):=As.opn (s:=⟨H_,ax_⟩) [] [12,13] [] [(some ab10,(.cells #[(.slice none 0 0)] 24 (0,0)))] rfl (As.con2 Y Y Y hx_ab10 hax_) hS;refine id (aw (cs':= #[(.slice A8 (((unifyU ([tZ,tZ,tZ]) x y).1.1).length) c8)]) T24 hS (i:=0) Y ha Y Y Y Y Y Y fun a w hS ha=>?_);exact As.qown (i:=13) (dst:=none) (s:=⟨H_,ax_⟩) (E:= [(some ab10,(.cells #[(.slice A8 (((unifyU ([tZ,tZ,tZ]) x y).1.1).length) c8)] 24 (0,0)))]) [] [12,13] [] rfl Y hax_ (Le.refl _) ha.dfr (v:=undef) (fun _ h=>by cases h) hS (.inl (As.con2' Y Y)) ⟨ab10,A8,c8,hx_ab10,rfl,hr8⟩
 ·refine As.Qx1 10 rfl fun a w H_ ax_ hle hax_ hS ha hd hls=>?_;have hSf:=hS;exact aB ha Y Y fun a ha=>As.ql ha hSf
 obtain⟨H14,ax_⟩:=s_;have hle14: Le H H14:=hls.le;dsimp only at hdr_ hS;obtain⟨_,ha,rfl⟩:=As.Dd ha hdr_ 11 rfl;obtain⟨_,ha,ab10,hx_ab10,rfl⟩:=As.Dd ha hdr_ 12 rfl;have hx_ab10: ax_ 12=some [(some ab10,(.cells #[(.slice none 0 0)] 24 (0,0)))]:=hx_ab10;obtain⟨_,hv_,sb12,A8,c8,hq_sb12,hx_sb12,hr8⟩:=hdr_ 13 _ _ Y Y;have hx_sb12: ax_ 13=some [(some sb12,(.cells #[(.slice A8 (((unifyU ([tZ,tZ,tZ]) x y).1.1).length) c8)] 24 (0,0)))]:=hx_sb12;obtain rfl: ab10=sb12:=by have h_:=(hx_ab10).symm.trans hq_sb12;simpa using h_
 obtain⟨_,ha,rfl⟩:=As.Dd ha hdr_ 14 rfl;have hS: Step w0 H [] w H14 [(some ab10,(.cells #[(.slice A8 (((unifyU ([tZ,tZ,tZ]) x y).1.1).length) c8)] 24 (0,0))),(some b3,(.cells (tA y Ay cy) 26 (0,0))),(some b1,(.cells (tA x Ax cx) 26 (0,0)))]:=by
  have h_:=hS;unfold As.aents at h_;simp only [List.flatMap_cons,List.flatMap_nil,As.conE,show (As.sl [(12,13)]) 12=some 13 from rfl,show (As.sl [(12,13)]) 13=none from rfl,hx_ab10,hx_sb12,Option.isSome_some,Option.getD_some,cond_true,cond_false,List.cons_append,List.nil_append,List.append_nil] at h_;exact h_
 refine any1 (i:=15) (by kernel_rfl) Y Y (aB ha Y Y fun a ha=>?_);refine any0 (by kernel_rfl) ?_;refine aa (wp_seq (bk (D:= []) (N:=32) (E:= [(4,(.bool (((!(unifyU ([tZ,tZ,tZ]) x y).1.2)&&(decide (((unifyU ([tZ,tZ,tZ]) x y).2)=0)))&&(decide (((((unifyU ([tZ,tZ,tZ]) x y).1.1).length: Nat): Int)=3))))),(5,(pB ab10)),(6,(.bool ((unifyU ([tZ,tZ,tZ]) x y).1.2))),(7,(iV ((unifyU ([tZ,tZ,tZ]) x y).2)))]) (fun a ha=>?_) ?_));rotate_left
 ·refine Lm Y ha fun a ha=>?_;refine lin Y (aP ha Y Y fun a ha=>?_);refine Lm Y ha fun a ha=>?_;refine aq (t:=22) ha Y (fun h15 ha=>?_) (fun h15 ha=>?_)
  ·refine ad Y ha Y Y Y (ak ha Y Y fun a ha=>?_);refine ad Y ha Y Y Y (aX (i:=((unifyU ([tZ,tZ,tZ]) x y).2)) (j:=0) ha Y Y Y fun a ha=>?_);refine lin Y (am ha Y Y Y fun a ha=>?_);refine Lm Y ha fun a ha=>?_;refine al (t:=26) ha Y (fun h16 ha=>?_) (fun h16 ha=>?_)
   ·refine ad Y ha Y Y Y (ac (f:=0) (o2:=0) T24 T22 Y Y Y Y ha Y Y fun a ha=>?_);refine ad Y ha Y Y Y (ae (v:=(.slice A8 (((unifyU ([tZ,tZ,tZ]) x y).1.1).length) c8)) T22 Y ha Y (hS.blkL 0 rfl) Y Y fun a ha=>?_);refine ad Y ha Y Y Y (aD T22.und ha Y Y fun a ha=>?_);refine ad Y ha Y Y Y (aX (i:=((((unifyU ([tZ,tZ,tZ]) x y).1.1).length: Nat): Int)) (j:=3) ha Y Y Y fun a ha=>?_);refine lin Y (am ha Y Y Y fun a ha=>?_);refine Ls Y ha fun a ha=>?_;exact wpList_nil ⟨rfl,rfl,Has.cons ha (by simp [lk,Nat.beq,h15,h16]) (ha.pk Y)⟩
   ·refine Lf Y ha Y Y fun a ha=>?_;refine Lf Y ha Y Y fun a ha=>?_;refine Lf Y ha Y Y fun a ha=>?_;refine Lf Y ha Y Y fun a ha=>?_;refine lin Y (ai ha Y Y Y fun a ha=>?_);refine Ls Y ha fun a ha=>?_;exact wpList_nil ⟨rfl,rfl,Has.cons ha (by simp [lk,Nat.beq,h15,h16]) (ha.pk Y)⟩
  ·refine Lf Y ha Y Y fun a ha=>?_;refine Lf Y ha Y Y fun a ha=>?_;refine lin Y (ai ha Y Y Y fun a ha=>?_);refine Lm Y ha fun a ha=>?_;refine Lf Y ha Y Y fun a ha=>?_;refine Lf Y ha Y Y fun a ha=>?_;refine Lf Y ha Y Y fun a ha=>?_;refine Lf Y ha Y Y fun a ha=>?_;refine lin Y (ai ha Y Y Y fun a ha=>?_);refine Ls Y ha fun a ha=>?_;exact wpList_nil ⟨rfl,rfl,Has.cons ha (by simp [lk,Nat.beq,h15]) (ha.pk Y)⟩
 refine aa (wp_ret (ret1 Y ha Y ?_));exact⟨_,rfl,hS.drop_all⟩
end Go.Vk.Tryz
namespace Go.Vk
def RkB (B: List Tm) (rk: Int→Nat): Prop:= ∀ v: Int,∀ x ∈ occ (bnd B v),rk x < rk v
def Pth (rk: Int→Nat) (st todo: List Int): Prop:= ∀ u: Int,0≤u→mrk st u=1→∃ pre post,todo=pre++u::post∧∀ x ∈ pre,rk x < rk u
theorem ep {st: List Int} {v u c: Int} (hv: v.toNat < st.length) (h0: 0≤v) (h1: 0≤u): mrk (st.set v.toNat c) u=if u=v then c else mrk st u:=by
 unfold mrk;rw [List.getD_eq_getElem?_getD,List.getElem?_set,List.getD_eq_getElem?_getD]
 by_cases h: u=v
 ·subst h;rw [if_pos rfl,if_pos hv,if_pos rfl];rfl
 ·rw [if_neg (by omega),if_neg h]
theorem fC {st: List Int}: ∀(ds todo: List Int),(∀ x ∈ ds,mrk st x≠1)→∃ xs,inn st ds todo=some (xs++todo)∧∀ x ∈ xs,x ∈ ds
 | [],todo,_=>⟨[],rfl,fun x hx=>by cases hx⟩
 | x::xs,todo,h=>by
  have h1:=h x List.mem_cons_self;have hr: ∀ y ∈ xs,mrk st y≠1:=fun y hy=>h y (List.mem_cons_of_mem _ hy)
  by_cases h0: mrk st x=0
  ·obtain⟨zs,h2,h3⟩:=fC xs (x::todo) hr;refine⟨zs++ [x],?_,fun y hy=>?_⟩
   ·rw [inn_0 h0,h2,List.append_assoc];rfl
   ·rcases List.mem_append.1 hy with hy | hy
    ·exact List.mem_cons_of_mem _ (h3 y hy)
    ·rw [List.mem_singleton.1 hy];exact List.mem_cons_self
  ·obtain⟨zs,h2,h3⟩:=fC xs todo hr;exact⟨zs,by rw [inn_2 h1 h0,h2],fun y hy=>List.mem_cons_of_mem _ (h3 y hy)⟩
theorem eV {B: List Tm} {rk: Int→Nat} (hr: RkB B rk) (hB: ∀ v: Int,∀ x ∈ occ (bnd B v),0≤x∧x.toNat < B.length): ∀(f: Nat) (st todo: List Int),st.length=B.length→(∀ x ∈ todo,0≤x∧x.toNat < B.length)→Pth rk st todo→mmeas B st todo < f→∃ st',mid B f st todo=some st'∧st'.length=B.length∧Pth rk st' []
 | 0,st,todo,_,_,_,h=>by omega
 | f+1,st, [],hl,_,hp,_=>⟨st,rfl,hl,hp⟩
 | f+1,st,v::ts,hl,hv,hp,hm=>by
  have hvl:=hv v List.mem_cons_self;rw [mid]
  split
  ·rename_i hne
   have:=dq (B:=B) (ts:=ts) (by omega) hne;refine eV hr hB f _ _ (by rw [List.length_set];exact hl) (fun x hx=>hv x (List.mem_cons_of_mem _ hx)) ?_ (by omega);intro u hu h1;rw [ep (by omega) hvl.1 hu] at h1
   split at h1
   ·exact absurd h1 (by decide)
   ·rename_i hne2
    obtain⟨pre,post,h2,h3⟩:=hp u hu h1
    cases pre with
    | nil=>exact absurd (List.cons.inj h2).1.symm hne2
    | cons y pre=>exact ⟨pre,post,(List.cons.inj h2).2,fun x hx=>h3 x (List.mem_cons_of_mem _ hx)⟩
  ·rename_i hz
   have hz: mrk st v=0:=Classical.byContradiction hz;have hno: ∀ x ∈ occ (bnd B v),mrk (st.set v.toNat 1) x≠1:=by
    intro x hx h1;have hx0:=hB v x hx;have hlt:=hr v x hx;rw [ep (by omega) hvl.1 hx0.1] at h1
    split at h1
    ·rename_i e;subst e;omega
    ·rename_i hne
     obtain⟨pre,post,h2,h3⟩:=hp x hx0.1 h1
     cases pre with
     | nil=>exact hne (List.cons.inj h2).1.symm
     | cons y pre =>
      have:=h3 y List.mem_cons_self;rw [←(List.cons.inj h2).1] at this;omega
   obtain⟨xs,h2,h3⟩:=fC _ (v::ts) hno;have hml:=cv (B:=B) (ts:=ts) hl hvl.2 hz (dv _ _ _ h2);rw [h2];refine eV hr hB f _ _ (by rw [List.length_set];exact hl) (fun x hx=>?_) ?_ (by omega)
   ·rcases List.mem_append.1 hx with hx | hx
    ·exact hB v x (h3 x hx)
    ·exact hv x hx
   ·intro u hu h1;rw [ep (by omega) hvl.1 hu] at h1
    split at h1
    ·rename_i e
     subst e;exact⟨xs,ts,rfl,fun x hx=>hr u x (h3 x hx)⟩
    ·rename_i hne
     obtain⟨pre,post,h4,h5⟩:=hp u hu h1;refine⟨xs++pre,post,by rw [h4,List.append_assoc],fun x hx=>?_⟩
     rcases List.mem_append.1 hx with hx | hx
     ·have h6:=hr v x (h3 x hx)
      cases pre with
      | nil=>exact absurd (List.cons.inj h4).1.symm hne
      | cons y pre =>
       have h7:=h5 y List.mem_cons_self;rw [←(List.cons.inj h4).1] at h7;omega
     ·exact h5 x hx
theorem Pth.zero {rk: Int→Nat} {st: List Int} (h: Pth rk st []) (t: List Int): Pth rk st t:=fun u hu h1=>by
 obtain⟨pre,post,h2,_⟩:=h u hu h1
 cases pre <;> cases h2
theorem circF_no {B: List Tm} {rk: Int→Nat} (hr: RkB B rk) (hB: ∀ v: Int,∀ x ∈ occ (bnd B v),0≤x∧x.toNat < B.length): ∀(k i: Nat) (st: List Int),i+k≤B.length→st.length=B.length→Pth rk st []→circF B k i st=false
 | 0,i,st,_,_,_=>rfl
 | k+1,i,st,hk,hl,hp=>by
  obtain⟨st',h1,h2,h3⟩:=eV hr hB (mmeas B st [(i: Int)]+1) st [(i: Int)] hl (fun x hx=>by rw [List.mem_singleton.1 hx];omega) (hp.zero _) (by omega);rw [circF];unfold MID;rw [h1];exact circF_no hr hB k (i+1) st' (by omega) h2 h3
theorem acyc_circ {n: Nat} {B: List Tm} (hG: Gst n B) (ha: Acyc B): circB B=false:=by
 obtain⟨rk,hr⟩:=ha;have hV:=hG.allV;have hO: ∀ v: Int,∀ x ∈ occ (bnd B v),0≤x∧x.toNat < B.length:=by
  intro v x hx;unfold bnd at hx;rw [List.getD_eq_getElem?_getD] at hx
  cases hb: B[v.toNat]? with
  | none=>rw [hb] at hx;cases hx
  | some t =>
   rw [hb] at hx;have:=hV.occ (List.mem_of_getElem? hb) x hx;omega
 unfold circB;refine circF_no (rk:=fun x=>rk x.toNat) ?_ hO _ 0 _ (by omega) (by simp) ?_
 ·intro v x hx;unfold bnd at hx;rw [List.getD_eq_getElem?_getD] at hx
  cases hb: B[v.toNat]? with
  | none=>rw [hb] at hx;cases hx
  | some t =>
   rw [hb] at hx;refine hr v.toNat t hb (fun hk=>?_) x hx
   rcases hG.el _ _ hb with h1 | h1
   ·rw [cr h1] at hx;cases hx
   ·have:=da h1.1;omega
 ·intro u hu h1;unfold mrk at h1;rw [List.getD_eq_getElem?_getD,List.getElem?_replicate] at h1
  split at h1 <;> cases h1
theorem eN {B: List Tm} (hG: Gst B.length B) (ha: Acyc B): stU B=true:=stU_mk hG (acyc_circ hG ha)
def Eqs (σ: Int→Tm) (ps: List (Tm × Tm)): Prop:= ∀ p ∈ ps,app σ p.1=app σ p.2
theorem Eqs.cons {σ: Int→Tm} {a b: Tm} {ps: List (Tm × Tm)}: Eqs σ ((a,b)::ps)↔app σ a=app σ b∧Eqs σ ps:=by
 constructor
 ·intro h;exact⟨h _ List.mem_cons_self,fun p hp=>h p (List.mem_cons_of_mem _ hp)⟩
 ·rintro⟨h1,h2⟩ p hp
  rcases List.mem_cons.1 hp with rfl | hp
  ·exact h1
  ·exact h2 p hp
theorem Eqs.app {σ: Int→Tm} {ps qs: List (Tm × Tm)}: Eqs σ (ps++qs)↔Eqs σ ps∧Eqs σ qs:=by
 constructor
 ·intro h;exact⟨fun p hp=>h p (List.mem_append_left _ hp),fun p hp=>h p (List.mem_append_right _ hp)⟩
 ·rintro⟨h1,h2⟩ p hp
  rcases List.mem_append.1 hp with hp | hp
  ·exact h1 p hp
  ·exact h2 p hp
theorem zip_eqs {σ: Int→Tm}: ∀ xs ys: List Tm,xs.length=ys.length→(Eqs σ (xs.zip ys)↔appL σ xs=appL σ ys)
 | [], [],_=>by simp [Eqs]
 | [],y::ys,h=>by simp at h
 | x::xs, [],h=>by simp at h
 | x::xs,y::ys,h=>by
  rw [List.zip_cons_cons,Eqs.cons,zip_eqs xs ys (by simpa using h),appL,appL,List.cons.injEq]
theorem alk_parts {x y: Tm} (h: alkB x y=true): x.kind=y.kind∧x.n=y.n∧x.s=y.s∧x.l.length=y.l.length:=by
 unfold alkB at h;simp only [Bool.and_eq_true,decide_eq_true_eq] at h;exact⟨h.1.1.1,h.1.1.2,h.1.2,by omega⟩
theorem alk_app {σ: Int→Tm} {x y: Tm} (hx: x.kind≠1) (hy: y.kind≠1) (h: alkB x y=true): app σ x=app σ y↔Eqs σ (x.l.zip y.l):=by
 obtain⟨h1,h2,h3,h4⟩:=alk_parts h;rw [zip_eqs _ _ h4,cD hx,cD hy,h1,h2,h3]
 constructor
 ·intro e;injection e
 ·intro e;rw [e]
theorem alk_clash {σ: Int→Tm} {x y: Tm} (hx: x.kind≠1) (hy: y.kind≠1) (h: alkB x y=false): app σ x≠app σ y:=by
 intro e;rw [cD hx,cD hy] at e;injection e with e1 e2 e3 e4
 rw [eK,eK] at e4;have e5: x.l.length=y.l.length:=by have:=congrArg List.length e4;simpa using this
 unfold alkB at h;rw [e1,e2,e3,e5] at h;simp at h
theorem Sol.step {n: Nat} {B: List Tm} (hG: Gst n B) {σ: Int→Tm} (hs: Sol B σ) {a: Tm} (ha: okT n a=true): app σ (Vk.follow B a)=app σ a:=hs.follow hG.vis (dQ hG ha)
theorem same_eq {a b: Tm} (h:((decide (a.kind=1)&&decide (b.kind=1))&&decide (a.n=b.n))=true) (σ: Int→Tm): app σ a=app σ b:=by
 simp only [Bool.and_eq_true,decide_eq_true_eq] at h;rw [ba h.1.1,ba h.1.2,h.2]
end Go.Vk
namespace Go.Vk
def Can (B: List Tm) (σ: Int→Tm): Prop:=Sol B σ∧∀ i: Int,(i < 0∨¬ bound B i.toNat)→σ i=vr i
theorem opn_free {B: List Tm} {v: Int} (h: opn B v=true): ¬ bound B v.toNat:=by
 rintro⟨t,h1,h2⟩;unfold opn at h;rw [decide_eq_true_eq,getD_some h1] at h;exact h2 h
theorem Can.opn {B: List Tm} {σ: Int→Tm} (h: Can B σ) {v: Int} (ho: opn B v=true): σ v=vr v:=h.2 v (.inr (opn_free ho))
theorem vr_inj {i j: Int} (h: vr i=vr j): i=j:=by injection h
theorem same_false {a b: Tm} (h: ¬((decide (a.kind=1)&&decide (b.kind=1))&&decide (a.n=b.n))=true):((decide (a.kind=1)&&decide (b.kind=1))&&decide (a.n=b.n))=false:=by simpa using h
section
variable {n: Nat} {B: List Tm}
theorem eqw_sound (hG: Gst n B) (k: Nat): ∀ ps: List (Tm × Tm),okP n ps→
  ((wlk (fun _: Unit=>B) bdE k ps ()).1=(true,0)→∀ σ,Sol B σ→Eqs σ ps)∧
  ((wlk (fun _: Unit=>B) bdE k ps ()).1=(false,0)→∀ σ,Can B σ→¬ Eqs σ ps):=by
 induction k with
 | zero =>
  intro ps _
  cases ps with
  | nil=>exact ⟨fun _ σ _ p hp=>(by cases hp),fun h=>(by cases h)⟩
  | cons p ps=>exact ⟨fun h=>(by cases h),fun h=>(by cases h)⟩
 | succ k IH =>
  intro ps hok
  cases ps with
  | nil=>exact ⟨fun _ σ _ p hp=>(by cases hp),fun h=>(by cases h)⟩
  | cons p ps =>
  obtain⟨a,b⟩:=p;obtain⟨ha,hb⟩:=hok.head;have hx:=bB hG ha;have hy:=bB hG hb;have ex: ∀ σ,Sol B σ→app σ (follow B a)=app σ a:=fun σ hs=>hs.step hG ha;have ey: ∀ σ,Sol B σ→app σ (follow B b)=app σ b:=fun σ hs=>hs.step hG hb
  by_cases h1:((decide (a.kind=1)&&decide (b.kind=1))&&decide (a.n=b.n))=true
  ·rw [eL (Bof:=fun _: Unit=>B) (bd:=bdE) (s:=()) h1];have ih:=IH ps hok.tail;exact⟨fun h σ hs=>Eqs.cons.2 ⟨same_eq h1 σ,ih.1 h σ hs⟩,fun h σ hs he=>ih.2 h σ hs (Eqs.cons.1 he).2⟩
  have h1:=same_false h1
  by_cases h2:(decide ((follow B a).kind=1)&&decide ((follow B b).kind=1))=true
  ·have hk:=h2;simp only [Bool.and_eq_true,decide_eq_true_eq] at hk
   by_cases h3:(follow B a).n=(follow B b).n
   ·rw [fE (Bof:=fun _: Unit=>B) (bd:=bdE) (s:=()) h1 h2 h3];have ih:=IH ps hok.tail;have e: ∀ σ,Sol B σ→app σ a=app σ b:=fun σ hs=>by rw [← ex σ hs,← ey σ hs,ba hk.1,ba hk.2,h3]
    exact⟨fun h σ hs=>Eqs.cons.2 ⟨e σ hs,ih.1 h σ hs⟩,fun h σ hs he=>ih.2 h σ hs (Eqs.cons.1 he).2⟩
   ·rw [fF (Bof:=fun _: Unit=>B) (bd:=bdE) (s:=()) h1 h2 h3 rfl];refine⟨fun h=>(by cases h),fun _ σ hs he=>?_⟩;have h4:=(Eqs.cons.1 he).1;rw [← ex σ hs.1,← ey σ hs.1,ba hk.1,ba hk.2,hs.opn (hx.2 hk.1),hs.opn (hy.2 hk.2)] at h4;exact h3 (vr_inj h4)
  have h2:(decide ((follow B a).kind=1)&&decide ((follow B b).kind=1))=false:=by simpa using h2
  by_cases h3:(follow B a).kind=1
  ·have hky:(follow B b).kind≠1:=fun h=>by rw [h3,h] at h2;cases h2
   rw [fJ (Bof:=fun _: Unit=>B) (bd:=bdE) (s:=()) h1 h2 h3 rfl];refine⟨fun h=>(by cases h),fun _ σ hs he=>?_⟩;have h4:=(Eqs.cons.1 he).1;rw [← ex σ hs.1,← ey σ hs.1,ba h3,cD hky,hs.opn (hx.2 h3)] at h4;injection h4 with h5
   exact hky h5.symm
  by_cases h5:(follow B b).kind=1
  ·rw [fL (Bof:=fun _: Unit=>B) (bd:=bdE) (s:=()) h1 h3 h5 rfl];refine⟨fun h=>(by cases h),fun _ σ hs he=>?_⟩;have h4:=(Eqs.cons.1 he).1;rw [← ex σ hs.1,← ey σ hs.1,ba h5,cD h3,hs.opn (hy.2 h5)] at h4;injection h4 with h6
   exact h3 h6
  by_cases h4: alkB (follow B a) (follow B b)=true
  ·rw [fM (Bof:=fun _: Unit=>B) (bd:=bdE) (s:=()) h1 h3 h5 h4];have ih:=IH _ (okP.zip hx.1 hy.1 hok.tail);have e: ∀ σ,Sol B σ→(app σ a=app σ b↔Eqs σ ((follow B a).l.zip (follow B b).l)):=fun σ hs=>by
    rw [← ex σ hs,← ey σ hs];exact alk_app h3 h5 h4
   refine⟨fun h σ hs=>?_,fun h σ hs he=>ih.2 h σ hs ?_⟩
   ·have h6:=Eqs.app.1 (ih.1 h σ hs);exact Eqs.cons.2 ⟨(e σ hs).2 h6.1,h6.2⟩
   ·have h6:=Eqs.cons.1 he;exact Eqs.app.2 ⟨(e σ hs.1).1 h6.1,h6.2⟩
  ·have h4: alkB (follow B a) (follow B b)=false:=by simpa using h4
   rw [fG (Bof:=fun _: Unit=>B) (bd:=bdE) (s:=()) h1 h3 h5 h4];refine⟨fun h=>(by cases h),fun _ σ hs he=>?_⟩;have h6:=(Eqs.cons.1 he).1;rw [← ex σ hs.1,← ey σ hs.1] at h6;exact alk_clash h3 h5 h4 h6
theorem eqW_true (hG: Gst n B) {a b: Tm} (ha: okT n a=true) (hb: okT n b=true) (h: eqW B a b=(true,0)) {σ: Int→Tm} (hs: Sol B σ): app σ a=app σ b:=
 (Eqs.cons.1 ((eqw_sound hG 20000 [(a,b)] (fun p hp=>by rw [List.mem_singleton.1 hp];exact⟨ha,hb⟩)).1 h σ hs)).1
theorem eqW_false (hG: Gst n B) {a b: Tm} (ha: okT n a=true) (hb: okT n b=true) (h: eqW B a b=(false,0)) {σ: Int→Tm} (hs: Can B σ): app σ a≠app σ b:=fun he =>
 (eqw_sound hG 20000 [(a,b)] (fun p hp=>by rw [List.mem_singleton.1 hp];exact⟨ha,hb⟩)).2 h σ hs (Eqs.cons.2 ⟨he,fun p hp=>(by cases hp)⟩)
theorem eqW_iff (hG: Gst n B) (hA: Acyc B) {a b: Tm} (ha: okT n a=true) (hb: okT n b=true) (h:(eqW B a b).2=0):(eqW B a b).1=true↔∀ σ,Sol B σ→app σ a=app σ b:=by
 have e: eqW B a b=((eqW B a b).1,0):=by rw [← h]
 constructor
 ·intro h1 σ hs;rw [h1] at e;exact eqW_true hG ha hb e hs
 ·intro h1
  cases h2:(eqW B a b).1 with
  | true=>rfl
  | false =>
   rw [h2] at e;obtain⟨σ,hs,hc⟩:=exists_sol hA (fun i t hi=>by rw [hG.len];intro j hj;have:=hG.allV.occ (List.mem_of_getElem? hi) j hj;rw [hG.len] at this;exact this);exact absurd (h1 σ hs) (eqW_false hG ha hb e ⟨hs,hc⟩)
end
theorem Sol.ext {B: List Tm} {m: Int} {σ: Int→Tm}: Sol (extS B m) σ↔Sol B σ:=by
 unfold extS
 constructor
 ·intro h i t hi hk;refine h i t ?_ hk;rw [List.getElem?_append_left (List.getElem?_eq_some_iff.1 hi).1,hi]
 ·intro h i t hi hk;rw [List.getElem?_append] at hi
  split at hi
  ·exact h i t hi hk
  ·rw [List.getElem?_replicate] at hi
   split at hi
   ·obtain rfl:=Option.some.inj hi;exact absurd rfl hk
   ·cases hi
theorem Acyc.ext {B: List Tm} {m: Int} (h: Acyc B): Acyc (extS B m):=by
 obtain⟨rk,hr⟩:=h;refine⟨rk,fun i t hi hk j hj=>?_⟩;unfold extS at hi;rw [List.getElem?_append] at hi
 split at hi
 ·exact hr i t hi hk j hj
 ·rw [List.getElem?_replicate] at hi
  split at hi
  ·obtain rfl:=Option.some.inj hi;exact absurd rfl hk
  ·cases hi
theorem impL_iff {n: Nat} {B: List Tm} (hG: Gst n B) (hA: Acyc B): ∀(ts: List Tm) (i: Nat),(∀(j: Nat) (t: Tm),ts[j]? =some t→t.kind≠0→okT n t=true∧i+j < n)→(impL B i ts).2=0→
  ((impL B i ts).1=true↔∀ σ,Sol B σ→∀(j: Nat) (t: Tm),ts[j]? =some t→t.kind≠0→σ ((i+j: Nat): Int)=app σ t)
 | [],i,_,_=>⟨fun _ σ _ j t hj=>by simp at hj,fun _=>rfl⟩
 | t::ts,i,hv,h=>by
  rw [impL] at h ⊢;have ih:=impL_iff hG hA ts (i+1) (fun j u hj hk=>by have:=hv (j+1) u (by simpa using hj) hk;exact⟨this.1,by omega⟩);have sh: ∀ σ,(∀(j: Nat) (u: Tm),ts[j]? =some u→u.kind≠0→σ ((i+1+j: Nat): Int)=app σ u)↔∀(j: Nat) (u: Tm),(t::ts)[j+1]? =some u→u.kind≠0→σ ((i+(j+1): Nat): Int)=app σ u:=fun σ=>by
   constructor
   ·intro hh j u hj hk;rw [show i+(j+1)=i+1+j by omega];exact hh j u (by simpa using hj) hk
   ·intro hh j u hj hk;rw [show i+1+j=i+(j+1) by omega];exact hh j u (by simpa using hj) hk
  by_cases hk: t.kind=0
  ·rw [if_pos hk] at h ⊢;rw [ih h]
   constructor
   ·intro hh σ hs j u hj hu
    cases j with
    | zero=>obtain rfl:=Option.some.inj hj;exact absurd hk hu
    | succ j=>exact (sh σ).1 (hh σ hs) j u hj hu
   ·intro hh σ hs;exact(sh σ).2 fun j u hj hu=>hh σ hs (j+1) u hj hu
  ·rw [if_neg hk] at h ⊢;have h0:=hv 0 t rfl hk;have hvr: okT n (vr (i: Int))=true:=fU (by omega) (by omega) hG.le
   split at h
   ·rename_i hc
    rw [if_pos hc];have hf:(eqW B (vr (i: Int)) t).1=false:=by
     rw [h] at hc;simpa using hc
    refine⟨fun hh=>(by cases hh),fun hh=>?_⟩;have:=(eqW_iff hG hA hvr h0.1 h).2 fun σ hs=>by
     have:=hh σ hs 0 t rfl hk;rw [ba (t:=vr (i: Int)) rfl];simpa [vr,Tm.n] using this
    rw [hf] at this;cases this
   ·rename_i hc
    rw [if_neg hc];have hc':(eqW B (vr (i: Int)) t).2=0∧(eqW B (vr (i: Int)) t).1=true:=by simpa using hc
    rw [ih h];have h4:=(eqW_iff hG hA hvr h0.1 hc'.1).1 hc'.2
    constructor
    ·intro hh σ hs j u hj hu
     cases j with
     | zero =>
      obtain rfl:=Option.some.inj hj;have:=h4 σ hs;rw [ba (t:=vr (i: Int)) rfl] at this;simpa [vr,Tm.n] using this
     | succ j=>exact (sh σ).1 (hh σ hs) j u hj hu
    ·intro hh σ hs;exact(sh σ).2 fun j u hj hu=>hh σ hs (j+1) u hj hu
theorem eJ {s u: List Tm}: s.length+(difS s u).toNat=max s.length u.length:=by unfold difS;omega
theorem impU_iff {s u: List Tm} (hs: Gst s.length s) (ha: Acyc s) (hu: Gst u.length u) (hb: Acyc u) (h:(impU s u).2=0):(impU s u).1=true↔∀ σ,Sol s σ→Sol u σ:=by
 have e1: stE s=0:=dh.2 (eN hs ha);have e2: stE u=0:=dh.2 (eN hu hb);have hl: s.length+(difS s u).toNat≤100000:=by rw [eJ];have:=hs.le;have:=hu.le;omega
 have hG:=hs.ext hl;unfold impU at h ⊢;rw [e1,e2] at h ⊢;simp only [decide_true,Bool.not_true,Bool.or_self,Bool.false_eq_true,if_false] at h ⊢;rw [impL_iff hG (ha.ext) u 0 (fun j t hj hk=>by
  have h1:=hu.bnd hj hk;have h2:=(List.getElem?_eq_some_iff.1 hj).1;exact⟨eT (by rw [eJ];omega) h1.1,by rw [eJ];omega⟩) h]
 constructor
 ·intro hh σ hσ i t hi hk;have:=hh σ (Sol.ext.2 hσ) i t hi hk
  rwa [Nat.zero_add] at this
 ·intro hh σ hσ j t hj hk;rw [Nat.zero_add];exact hh σ (Sol.ext.1 hσ) j t hj hk
end Go.Vk
namespace Go.Vk
theorem mem_occL {j: Int}: ∀ {ts: List Tm},j ∈ occL ts→∃ t,t ∈ ts∧j ∈ occ t
 | [],h=>by rw [occL] at h;cases h
 | t::ts,h=>by
  rw [occL] at h
  rcases List.mem_append.1 h with h | h
  ·exact⟨t,List.mem_cons_self,h⟩
  ·obtain⟨u,hu,hj⟩:=mem_occL h;exact⟨u,List.mem_cons_of_mem _ hu,hj⟩
theorem occL_mem {j: Int}: ∀ {ts: List Tm} {t: Tm},t ∈ ts→j ∈ occ t→j ∈ occL ts
 | u::ts,t,ht,hj=>by
  rw [occL]
  rcases List.mem_cons.1 ht with rfl | ht
  ·exact List.mem_append_left _ hj
  ·exact List.mem_append_right _ (occL_mem ht hj)
theorem vfree_out {B: List Tm} {stop: Int→Bool}: ∀(f: Nat) (todo: List Tm) (seen out: List Int) (b: Bool) (out': List Int),vfree B stop f todo seen out=(b,out')→∀ j ∈ out,j ∈ out':=by
 intro f
 induction f with
 | zero=>intro todo seen out b out' h j hj;simp only [vfree] at h;cases h;exact hj
 | succ f ih =>
  intro todo seen out b out' h j hj
  cases todo with
  | nil=>simp only [vfree] at h;cases h;exact hj
  | cons t ts =>
   simp only [vfree] at h
   repeat' split at h
   all_goals first | exact ih _ _ _ _ _ h j hj | exact ih _ _ _ _ _ h j (List.mem_append_left _ hj) |(cases h;exact List.mem_append_left _ hj)
theorem vfree_false {B: List Tm} (hB: AllV B.length B) (stop: Int→Bool): ∀(f: Nat) (todo: List Tm) (seen out out': List Int),AllV B.length todo→vmeas B todo seen < f→vfree B stop f todo seen out=(false,out')→
  ∃ S: Int→Prop,(∀ j ∈ seen,S j)∧(∀ t ∈ todo,∀ j ∈ occ t,S j)∧∀ j,S j→j ∈ seen∨((opn B j=true→stop j=false∧j ∈ out')∧(opn B j=false→∀ i ∈ occ (B.getD j.toNat default),S i)):=by
 intro f
 induction f with
 | zero=>intro todo seen out out' _ h;omega
 | succ f ih =>
  intro todo seen out out' hv hm h
  cases todo with
  | nil=>exact ⟨fun j=>j ∈ seen,fun j hj=>hj,fun t ht=>(by cases ht),fun j hj=>.inl hj⟩
  | cons t ts =>
   simp only [vfree] at h
   split at h
   ·rename_i hk
    have hr:=bS (hv t List.mem_cons_self) hk;have ho: ∀ j ∈ occ t,j=t.n:=fun j hj=>by rw [dc,if_pos hk] at hj;exact List.mem_singleton.1 hj
    split at h
    ·rename_i hs
     have:=cT B t ts seen;obtain⟨S,h1,h2,h3⟩:=ih _ _ _ _ hv.tail (by omega) h;refine⟨S,h1,fun u hu j hj=>?_,h3⟩
     rcases List.mem_cons.1 hu with rfl | hu
     ·rw [ho j hj];exact h1 _ (by simpa using hs)
     ·exact h2 u hu j hj
    ·rename_i hs
     have hs': seen.contains t.n=false:=by simpa using hs
     split at h
     ·rename_i hop
      split at h
      ·cases h
      ·rename_i hst
       have:=cQ (B:=B) (t:=t) (ts:=ts) (seen:=seen);obtain⟨S,h1,h2,h3⟩:=ih _ _ _ _ hv.tail (by omega) h;refine⟨S,fun j hj=>h1 j (List.mem_cons_of_mem _ hj),fun u hu j hj=>?_,fun j hj=>?_⟩
       ·rcases List.mem_cons.1 hu with rfl | hu
        ·rw [ho j hj];exact h1 _ List.mem_cons_self
        ·exact h2 u hu j hj
       ·rcases h3 j hj with h4 | h4
        ·rcases List.mem_cons.1 h4 with rfl | h4
         ·refine .inr ⟨fun _=>⟨by simpa using hst,vfree_out _ _ _ _ _ _ h _ (List.mem_append_right _ (List.mem_singleton.2 rfl))⟩,fun h5=>?_⟩;rw [hop] at h5;cases h5
         ·exact .inl h4
        ·exact .inr h4
     ·rename_i hop
      have:=cW (ts:=ts) hr hs';obtain⟨S,h1,h2,h3⟩:=ih _ _ _ _ (hB.bind hv hk) (by omega) h;refine⟨S,fun j hj=>h1 j (List.mem_cons_of_mem _ hj),fun u hu j hj=>?_,fun j hj=>?_⟩
      ·rcases List.mem_cons.1 hu with rfl | hu
       ·rw [ho j hj];exact h1 _ List.mem_cons_self
       ·exact h2 u (List.mem_cons_of_mem _ hu) j hj
      ·rcases h3 j hj with h4 | h4
       ·rcases List.mem_cons.1 h4 with rfl | h4
        ·exact .inr ⟨fun h5=>absurd h5 hop,fun _=>h2 _ List.mem_cons_self⟩
        ·exact .inl h4
       ·exact .inr h4
   ·rename_i hk
    have:=dp B t ts seen;obtain⟨S,h1,h2,h3⟩:=ih _ _ _ _ hv.sub (by omega) h;refine⟨S,h1,fun u hu j hj=>?_,h3⟩
    rcases List.mem_cons.1 hu with rfl | hu
    ·rw [dc,if_neg hk] at hj;obtain⟨x,hx,hj⟩:=mem_occL hj;exact h2 x (List.mem_append_left _ hx) j hj
    ·exact h2 u (List.mem_append_right _ hu) j hj
theorem dm (i: Int): occ (vr i)= [i]:=by rw [dc];rfl
theorem Reach.of_occ {B: List Tm} {t: Tm} {j v: Int} (hj: j ∈ Vk.occ t) (h: Reach B (vr j) v): Reach B t v:=by
 cases h with
 | occ h1=>rw [dm] at h1;rw [List.mem_singleton.1 h1];exact .occ hj
 | step h1 h2 h3 h4=>rw [dm] at h1;rw [List.mem_singleton.1 h1] at h2;exact .step hj h2 h3 h4
theorem Reach.split {B: List Tm} {t: Tm} {v: Int} (h: Reach B t v): ∃ j,j ∈ Vk.occ t∧Reach B (vr j) v:=by
 cases h with
 | occ h1=>exact ⟨v,h1,.occ (by rw [dm];exact List.mem_singleton.2 rfl)⟩
 | @step _ u j _ h1 h2 h3 h4=>exact ⟨j,h1,.step (by rw [dm];exact List.mem_singleton.2 rfl) h2 h3 h4⟩
theorem Reach.sub {B: List Tm} {t x: Tm} {v: Int} (hk: ¬ t.kind=1) (hx: x ∈ t.l) (h: Reach B x v): Reach B t v:=by
 obtain⟨j,h1,h2⟩:=h.split;exact .of_occ (by rw [dc,if_neg hk];exact occL_mem hx h1) h2
theorem vfree_true {B: List Tm} (stop: Int→Bool): ∀(f: Nat) (todo: List Tm) (seen out out': List Int),vfree B stop f todo seen out=(true,out')→∃ t,t ∈ todo∧∃ v,stop v=true∧opn B v=true∧Reach B t v:=by
 intro f
 induction f with
 | zero=>intro todo seen out out' h;simp only [vfree] at h;cases h
 | succ f ih =>
  intro todo seen out out' h
  cases todo with
  | nil=>simp only [vfree] at h;cases h
  | cons t ts =>
   simp only [vfree] at h;have tail: ∀ {seen out},vfree B stop f ts seen out=(true,out')→∃ u,u ∈ t::ts∧∃ v,stop v=true∧opn B v=true∧Reach B u v:=fun h=>by
    obtain⟨u,hu,hh⟩:=ih _ _ _ _ h;exact⟨u,List.mem_cons_of_mem _ hu,hh⟩
   split at h
   ·rename_i hk
    have ho: t.n ∈ occ t:=by rw [dc,if_pos hk];exact List.mem_singleton.2 rfl
    split at h
    ·exact tail h
    ·split at h
     ·rename_i hop
      split at h
      ·rename_i hst
       exact⟨t,List.mem_cons_self,t.n,hst,hop,.occ ho⟩
      ·exact tail h
     ·rename_i hop
      obtain⟨u,hu,v,h1,h2,h3⟩:=ih _ _ _ _ h
      rcases List.mem_cons.1 hu with rfl | hu
      ·have hb:(B.getD t.n.toNat default).kind≠0:=by unfold opn at hop;simpa using hop
       exact⟨t,List.mem_cons_self,v,h1,h2,.step ho (bC hb) hb h3⟩
      ·exact⟨u,List.mem_cons_of_mem _ hu,v,h1,h2,h3⟩
   ·rename_i hk
    obtain⟨u,hu,v,h1,h2,h3⟩:=ih _ _ _ _ h
    rcases List.mem_append.1 hu with hu | hu
    ·exact⟨t,List.mem_cons_self,v,h1,h2,h3.sub hk hu⟩
    ·exact⟨u,List.mem_cons_of_mem _ hu,v,h1,h2,h3⟩
theorem VF_reach {B: List Tm} (hB: AllV B.length B) {stop: Int→Bool} {todo: List Tm} {out: List Int} (hv: AllV B.length todo) (h: VF B stop todo [] []=(false,out)) {t: Tm} (ht: t ∈ todo) {v: Int} (hr: Reach B t v) (ho: opn B v=true): stop v=false∧v ∈ out:=by
 obtain⟨S,_,h2,h3⟩:=vfree_false hB stop _ _ _ _ _ hv (by omega) h;have key: ∀ {u: Tm} {w: Int},Reach B u w→(∀ j ∈ occ u,S j)→S w:=by
  intro u w hr
  induction hr with
  | occ h'=>intro hh;exact hh _ h'
  | @step t u j v hj hu hb hr ih =>
   intro hh;refine ih fun i hi=>?_
   rcases h3 j (hh j hj) with h4 | h4
   ·cases h4
   ·refine h4.2 ?_ i (by rw [getD_some hu];exact hi);unfold opn;rw [getD_some hu];exact decide_eq_false hb
 rcases h3 v (key hr (h2 t ht)) with h4 | h4
 ·cases h4
 ·exact h4.1 ho
theorem occB_false {n: Nat} {B: List Tm} (hG: Gst n B) {v: Int} {t: Tm} (ht: okT n t=true) (ho: opn B v=true) (h: occB B v t=false): ¬ Reach B t v:=fun hr=>by
 unfold occB at h;have hv: AllV B.length [t]:=fun u hu=>by rw [List.mem_singleton.1 hu,hG.len];exact dj ht
 have:=(VF_reach hG.allV hv (Prod.ext h rfl) (List.mem_singleton.2 rfl) hr ho).1;simp at this
theorem occB_true {B: List Tm} {v: Int} {t: Tm} (h: occB B v t=true): Reach B t v:=by
 unfold occB VF at h;obtain⟨u,hu,w,h1,_,h2⟩:=vfree_true (fun x=>decide (x=v)) _ _ _ _ _ (Prod.ext h rfl);rw [List.mem_singleton.1 hu] at h2
 rwa [of_decide_eq_true h1] at h2
theorem rk_max (rk: Nat→Nat): ∀(l: List Int) (j: Int),j ∈ l→rk j.toNat≤l.foldr (fun i m=>max (rk i.toNat) m) 0
 | i::l,j,h=>by
  rw [List.foldr_cons]
  rcases List.mem_cons.1 h with rfl | h
  ·omega
  ·have:=rk_max rk l j h;omega
theorem Gst.occV {n: Nat} {B: List Tm} (hG: Gst n B) (i: Nat) (t: Tm) (hi: B[i]? =some t): OccV B.length t:=fun j hj=>hG.allV.occ (List.mem_of_getElem? hi) j hj
theorem okT_occ {n: Nat} {t: Tm} (h: okT n t=true): ∀ j ∈ occ t,0≤j∧j < n:=(show AllV n [t] from fun u hu=>by rw [List.mem_singleton.1 hu];exact dj h).occ (List.mem_singleton.2 rfl)
theorem Acyc.set {n: Nat} {B: List Tm} (hG: Gst n B) (hA: Acyc B) {v: Int} {t: Tm} (hb: BC n B v t) (hn: ¬ Reach B t v): Acyc (B.set v.toNat t):=by
 obtain⟨rk,hr⟩:=hA;have hv0:=hb.lo
 classical
 refine⟨fun i=>if Reach B (vr (i: Int)) v then rk i+((occ t).foldr (fun i m=>max (rk i.toNat) m) 0+1) else rk i,fun i u hi hk j hj=>?_⟩;rw [List.getElem?_set] at hi
 split at hi
 ·rename_i e
  split at hi
  ·obtain rfl:=Option.some.inj hi;have hj0:=okT_occ hb.ok j hj;have e1:((j.toNat: Nat): Int)=j:=by omega
   have e2:((i: Nat): Int)=v:=by omega
   simp only [e1,e2];rw [if_neg (fun h=>hn (.of_occ hj h)),if_pos (Reach.occ (by rw [dm];exact List.mem_singleton.2 rfl))];have:=rk_max rk (occ t) j hj;omega
  ·cases hi
 ·have h1:=hr i u hi hk j hj;have hj0:=hG.occV i u hi j hj;have e1:((j.toNat: Nat): Int)=j:=by omega
  simp only [e1]
  by_cases h2: Reach B (vr j) v
  ·have h3: Reach B (vr (i: Int)) v:=.step (j:=(i: Int)) (by rw [dm];exact List.mem_singleton.2 rfl) (by rw [show ((i: Nat): Int).toNat=i by omega];exact hi) hk (.of_occ hj h2);rw [if_pos h2,if_pos h3];omega
  ·rw [if_neg h2]
   split <;> omega
theorem eD {B: List Tm} {v: Int} {t: Tm} (ho: opn B v=true) (h: B[v.toNat]? =some t): t.kind=0:=by
 unfold opn at ho;rw [getD_some h] at ho;exact of_decide_eq_true ho
theorem Sol.set {n: Nat} {B: List Tm} (hG: Gst n B) {v: Int} {t: Tm} (hb: BC n B v t) {σ: Int→Tm}: Sol (B.set v.toNat t) σ↔Sol B σ∧σ v=app σ t:=by
 have h0:=hb.lo;have h1:=hb.hi;have hl:=hG.len;have hv: v.toNat < B.length:=by omega
 have e:((v.toNat: Nat): Int)=v:=by omega
 constructor
 ·intro h;refine⟨fun i u hi hk=>?_,?_⟩
  ·refine h i u ?_ hk;rw [List.getElem?_set]
   split
   ·rename_i e1
    rw [← e1] at hi;exact absurd (eD hb.op hi) hk
   ·exact hi
  ·have h2:=h v.toNat t (by rw [List.getElem?_set,if_pos rfl,if_pos hv]) (by have:=da hb.ok;omega)
   rwa [e] at h2
 ·rintro⟨h2,h3⟩ i u hi hk;rw [List.getElem?_set] at hi
  split at hi
  ·rename_i e1
   obtain rfl:=Option.some.inj hi;rw [← e1,e];exact h3
  ·exact h2 i u hi hk
theorem reach_open {B: List Tm} {w v: Int} (ho: opn B w=true) (h: Reach B (vr w) v): v=w:=by
 cases h with
 | occ h1=>rw [dm] at h1;exact List.mem_singleton.1 h1
 | step h1 h2 h3 h4=>rw [dm] at h1;rw [List.mem_singleton.1 h1] at h2;exact absurd (eD ho h2) h3
section
variable {τ: Type} {bb: τ→Int→τ} {n: Nat}
theorem fH {s: List Tm × τ} {v: Int} {t: Tm} (hG: Gst n s.1) (hb: BC n s.1 v t) (h:(bdJ bb s v t).1=false) {σ: Int→Tm} (hs: Sol s.1 σ): σ v≠app σ t:=fun e=>by
 by_cases hc:(!decide (t.kind=1)&&occB s.1 v t)=true
 ·simp only [Bool.and_eq_true,Bool.not_eq_true',decide_eq_false_iff_not] at hc;have:=(hs.reach hG.occV (occB_true hc.2) (fun j hj=>by rw [hG.len];exact okT_occ hb.ok j hj)).2 hc.1;rw [e] at this;omega
 ·have hc:(!decide (t.kind=1)&&occB s.1 v t)=false:=by simpa using hc
  rw [eC hc] at h;cases h
theorem bdJ_yes {s: List Tm × τ} {v: Int} {t: Tm} (hG: Gst n s.1) (hA: Acyc s.1) (hb: BC n s.1 v t) (ho: t.kind=1→opn s.1 t.n=true) (h:(bdJ bb s v t).1=true):(bdJ bb s v t).2.1=s.1.set v.toNat t∧Acyc (s.1.set v.toNat t):=by
 by_cases hc:(!decide (t.kind=1)&&occB s.1 v t)=true
 ·rw [fk hc] at h;cases h
 ·have hc:(!decide (t.kind=1)&&occB s.1 v t)=false:=by simpa using hc
  refine⟨by rw [eC hc],hA.set hG hb ?_⟩
  by_cases hk: t.kind=1
  ·rw [okT_vr hb.ok hk];intro hr;have:=reach_open (ho hk) hr;have:=hb.dn hk;omega
  ·rw [decide_eq_false hk] at hc;exact occB_false hG hb.ok hb.op (by simpa using hc)
structure JW (n: Nat) (B: List Tm) (ps: List (Tm × Tm)) (r:(Bool × Int) ×(List Tm × τ)): Prop where
 g: Gst n r.2.1
 a: Acyc r.2.1
 keep: ∀(i: Nat) (t: Tm),B[i]? =some t→t.kind≠0→r.2.1[i]? =some t
 yes: r.1=(true,0)→∀ σ,Sol r.2.1 σ↔Sol B σ∧Eqs σ ps
 no: r.1=(false,0)→∀ σ,Sol B σ→¬ Eqs σ ps
theorem JW.eqv {B: List Tm} {ps qs: List (Tm × Tm)} {r:(Bool × Int) ×(List Tm × τ)} (h: JW n B qs r) (e: ∀ σ,Sol B σ→(Eqs σ qs↔Eqs σ ps)): JW n B ps r:=by
 refine⟨h.g,h.a,h.keep,fun h1 σ=>?_,fun h1 σ hs he=>h.no h1 σ hs ((e σ hs).2 he)⟩;rw [h.yes h1 σ];exact⟨fun h2=>⟨h2.1,(e σ h2.1).1 h2.2⟩,fun h2=>⟨h2.1,(e σ h2.1).2 h2.2⟩⟩
theorem JW.fail {s: List Tm × τ} {ps: List (Tm × Tm)} (hG: Gst n s.1) (hA: Acyc s.1) {e: Int} (h: ∀ σ,Sol s.1 σ→¬ Eqs σ ps): JW n s.1 ps ((false,e),s):=
 ⟨hG,hA,fun i t h _=>h,fun h1=>(by cases h1),fun _=>h⟩
theorem JW.bind {s: List Tm × τ} {a b: Tm} {ps: List (Tm × Tm)} {v: Int} {t: Tm} {k: Nat} (hG: Gst n s.1) (hA: Acyc s.1) (hok: okP n ps) (hb: BC n s.1 v t) (ho: t.kind=1→opn s.1 t.n=true)
  (e: ∀ σ,Sol s.1 σ→(app σ a=app σ b↔σ v=app σ t)) (IH: ∀(s: List Tm × τ),Gst n s.1→Acyc s.1→JW n s.1 ps (wlk Prod.fst (bdJ bb) k ps s))
  (h:(bdJ bb s v t).1=true): JW n s.1 ((a,b)::ps) (wlk Prod.fst (bdJ bb) k ps (bdJ bb s v t).2):=by
 obtain⟨h1,h2⟩:=bdJ_yes (bb:=bb) hG hA hb ho h;have ih:=IH (bdJ bb s v t).2 (by rw [h1];exact hG.set hb) (by rw [h1];exact h2);refine⟨ih.g,ih.a,fun i u hi hk=>ih.keep i u ?_ hk,fun h3 σ=>?_,fun h3 σ hs he=>?_⟩
 ·rw [h1,List.getElem?_set]
  split
  ·rename_i e1
   rw [← e1] at hi;exact absurd (eD hb.op hi) hk
  ·exact hi
 ·rw [ih.yes h3 σ,h1,Sol.set hG hb,Eqs.cons];exact⟨fun h4=>⟨h4.1.1,(e σ h4.1.1).2 h4.1.2,h4.2⟩,fun h4=>⟨⟨h4.1,(e σ h4.1).1 h4.2.1⟩,h4.2.2⟩⟩
 ·have h4:=Eqs.cons.1 he;exact ih.no h3 σ (by rw [h1];exact(Sol.set hG hb).2 ⟨hs,(e σ hs).1 h4.1⟩) h4.2
theorem eR {s: List Tm × τ} {v: Int} {t: Tm} (h:(bdJ bb s v t).1=false):(bdJ bb s v t).2=s:=by
 by_cases hc:(!decide (t.kind=1)&&occB s.1 v t)=true
 ·rw [fk hc]
 ·have hc:(!decide (t.kind=1)&&occB s.1 v t)=false:=by simpa using hc
  rw [eC hc] at h;cases h
theorem joinw_sound (k: Nat): ∀(ps: List (Tm × Tm)) (s: List Tm × τ),Gst n s.1→Acyc s.1→okP n ps→JW n s.1 ps (wlk Prod.fst (bdJ bb) k ps s):=by
 induction k with
 | zero =>
  intro ps s hG hA hok
  cases ps with
  | nil=>exact ⟨hG,hA,fun i t h _=>h,fun _ σ=>⟨fun h=>⟨h,fun p hp=>(by cases hp)⟩,fun h=>h.1⟩,fun h=>(by cases h)⟩
  | cons p ps=>exact ⟨hG,hA,fun i t h _=>h,fun h=>(by cases h),fun h=>(by cases h)⟩
 | succ k IH =>
  intro ps s hG hA hok
  cases ps with
  | nil=>exact ⟨hG,hA,fun i t h _=>h,fun _ σ=>⟨fun h=>⟨h,fun p hp=>(by cases hp)⟩,fun h=>h.1⟩,fun h=>(by cases h)⟩
  | cons p ps =>
  obtain⟨a,b⟩:=p;obtain⟨ha,hb⟩:=hok.head;have hx:=bB hG ha;have hy:=bB hG hb;have ex: ∀ σ,Sol s.1 σ→app σ (follow s.1 a)=app σ a:=fun σ hs=>hs.step hG ha;have ey: ∀ σ,Sol s.1 σ→app σ (follow s.1 b)=app σ b:=fun σ hs=>hs.step hG hb;have IHt: ∀(s: List Tm × τ),Gst n s.1→Acyc s.1→JW n s.1 ps (wlk Prod.fst (bdJ bb) k ps s):=fun s hG hA=>IH ps s hG hA hok.tail;have skip:(∀ σ,Sol s.1 σ→app σ a=app σ b)→JW n s.1 ((a,b)::ps) (wlk Prod.fst (bdJ bb) k ps s):=fun e=>(IHt s hG hA).eqv fun σ hs=>by
   rw [Eqs.cons];exact⟨fun h=>⟨e σ hs,h⟩,fun h=>h.2⟩
  by_cases h1:((decide (a.kind=1)&&decide (b.kind=1))&&decide (a.n=b.n))=true
  ·rw [eL (Bof:=Prod.fst) (bd:=bdJ bb) (s:=s) h1];exact skip fun σ _=>same_eq h1 σ
  have h1:=same_false h1
  by_cases h2:(decide ((follow s.1 a).kind=1)&&decide ((follow s.1 b).kind=1))=true
  ·have hk:=h2;simp only [Bool.and_eq_true,decide_eq_true_eq] at hk
   by_cases h3:(follow s.1 a).n=(follow s.1 b).n
   ·rw [fE (Bof:=Prod.fst) (bd:=bdJ bb) (s:=s) h1 h2 h3];exact skip fun σ hs=>by rw [← ex σ hs,← ey σ hs,ba hk.1,ba hk.2,h3]
   ·have hbc:=BC.mm hG ha hb hk.1 hk.2 h3;have ho: opn s.1 (min (follow s.1 a).n (follow s.1 b).n)=true:=by
     rcases Int.le_total (follow s.1 a).n (follow s.1 b).n with h7 | h7
     ·rw [Int.min_eq_left h7];exact hx.2 hk.1
     ·rw [Int.min_eq_right h7];exact hy.2 hk.2
    have e: ∀ σ,Sol s.1 σ→(app σ a=app σ b↔σ (max (follow s.1 a).n (follow s.1 b).n)=app σ (.mk 1 (min (follow s.1 a).n (follow s.1 b).n) ⟨#[]⟩ [])):=fun σ hs=>by
     rw [← ex σ hs,← ey σ hs,ba hk.1,ba hk.2,ba (t:=.mk 1 (min (follow s.1 a).n (follow s.1 b).n) ⟨#[]⟩ []) rfl]
     show _↔σ _=σ (min (follow s.1 a).n (follow s.1 b).n)
     rcases Int.le_total (follow s.1 a).n (follow s.1 b).n with h7 | h7
     ·rw [Int.min_eq_left h7,Int.max_eq_right h7];exact eq_comm
     ·rw [Int.min_eq_right h7,Int.max_eq_left h7]
    cases h4:(bdJ bb s (max (follow s.1 a).n (follow s.1 b).n) (.mk 1 (min (follow s.1 a).n (follow s.1 b).n) ⟨#[]⟩ [])).1 with
    | true =>
     rw [wlk_vt (Bof:=Prod.fst) (bd:=bdJ bb) (s:=s) h1 h2 h3 h4];exact JW.bind hG hA hok.tail hbc (fun _=>ho) e IHt h4
    | false =>
     rw [fF (Bof:=Prod.fst) (bd:=bdJ bb) (s:=s) h1 h2 h3 h4,eR h4];exact JW.fail hG hA fun σ hs he=>fH hG hbc h4 hs ((e σ hs).1 (Eqs.cons.1 he).1)
  have h2:(decide ((follow s.1 a).kind=1)&&decide ((follow s.1 b).kind=1))=false:=by simpa using h2
  by_cases h3:(follow s.1 a).kind=1
  ·have hky: ¬(follow s.1 b).kind=1:=fun h=>by rw [h3,h] at h2;cases h2
   have hbc:=BC.x hG ha hb h3 hky;have e: ∀ σ,Sol s.1 σ→(app σ a=app σ b↔σ (follow s.1 a).n=app σ (follow s.1 b)):=fun σ hs=>by
    rw [ey σ hs,← ex σ hs,ba h3]
   cases h4:(bdJ bb s (follow s.1 a).n (follow s.1 b)).1 with
   | true =>
    rw [wlk_xt (Bof:=Prod.fst) (bd:=bdJ bb) (s:=s) h1 h2 h3 h4];exact JW.bind hG hA hok.tail hbc (fun h=>absurd h hky) e IHt h4
   | false =>
    rw [fJ (Bof:=Prod.fst) (bd:=bdJ bb) (s:=s) h1 h2 h3 h4,eR h4];exact JW.fail hG hA fun σ hs he=>fH hG hbc h4 hs ((e σ hs).1 (Eqs.cons.1 he).1)
  by_cases h5:(follow s.1 b).kind=1
  ·have hbc:=BC.x hG hb ha h5 h3;have e: ∀ σ,Sol s.1 σ→(app σ a=app σ b↔σ (follow s.1 b).n=app σ (follow s.1 a)):=fun σ hs=>by
    rw [ex σ hs,← ey σ hs,ba h5];exact eq_comm
   cases h4:(bdJ bb s (follow s.1 b).n (follow s.1 a)).1 with
   | true =>
    rw [wlk_yt (Bof:=Prod.fst) (bd:=bdJ bb) (s:=s) h1 h3 h5 h4];exact JW.bind hG hA hok.tail hbc (fun h=>absurd h h3) e IHt h4
   | false =>
    rw [fL (Bof:=Prod.fst) (bd:=bdJ bb) (s:=s) h1 h3 h5 h4,eR h4];exact JW.fail hG hA fun σ hs he=>fH hG hbc h4 hs ((e σ hs).1 (Eqs.cons.1 he).1)
  by_cases h4: alkB (follow s.1 a) (follow s.1 b)=true
  ·rw [fM (Bof:=Prod.fst) (bd:=bdJ bb) (s:=s) h1 h3 h5 h4];refine(IH _ s hG hA (okP.zip hx.1 hy.1 hok.tail)).eqv fun σ hs=>?_;rw [Eqs.app,Eqs.cons,← ex σ hs,← ey σ hs,alk_app h3 h5 h4]
  ·have h4: alkB (follow s.1 a) (follow s.1 b)=false:=by simpa using h4
   rw [fG (Bof:=Prod.fst) (bd:=bdJ bb) (s:=s) h1 h3 h5 h4];refine JW.fail hG hA fun σ hs he=>?_;have h6:=(Eqs.cons.1 he).1;rw [← ex σ hs,← ey σ hs] at h6;exact alk_clash h3 h5 h4 h6
end
end Go.Vk
namespace Go.Vk
mutual
theorem varR_mem: ∀(t: Tm) (out: List Int) (j: Int),nodesR t=true→(j ∈ varR t out↔j ∈ out∨j ∈ occ t)
 | .mk k n s l,out,j,h=>by
  rw [nodesR,Bool.and_eq_true] at h;rw [varR,d6 l _ j h.2,occ]
  by_cases hk: k=1
  ·have hl:=(ee h.1 hk).2.2.2;change l= [] at hl;subst hl;rw [if_pos hk,decide_eq_true hk,occL]
   by_cases hc: out.contains n=true
   ·rw [hc];have: n ∈ out:=by simpa using hc
    simp;intro e;rw [e];exact this
   ·have hc: out.contains n=false:=by simpa using hc
    rw [hc];simp
  ·rw [if_neg hk,decide_eq_false hk];simp
theorem d6: ∀(ts: List Tm) (out: List Int) (j: Int),nodesRL ts=true→(j ∈ varRL ts out↔j ∈ out∨j ∈ occL ts)
 | [],out,j,_=>by rw [varRL,occL];simp
 | t::ts,out,j,h=>by
  rw [nodesRL,Bool.and_eq_true] at h;rw [varRL,d6 ts _ j h.2,varR_mem t out j h.1,occL,List.mem_append,or_assoc]
end
mutual
theorem varR_nodup: ∀(t: Tm) (out: List Int),out.Nodup→(varR t out).Nodup
 | .mk k n s l,out,h=>by
  rw [varR];refine di l _ ?_
  split
  ·rename_i hc
   rw [List.nodup_append];refine⟨h,by simp,fun a ha b hb e=>?_⟩;rw [List.mem_singleton.1 hb] at e;subst e;simp at hc;exact hc.2 ha
  ·exact h
theorem di: ∀(ts: List Tm) (out: List Int),out.Nodup→(varRL ts out).Nodup
 | [],out,h=>by rw [varRL];exact h
 | t::ts,out,h=>by rw [varRL];exact di ts _ (varR_nodup t out h)
end
def dps (B: List Tm) (m: Nat): List Int:=if (B.getD m default).kind=0 then [] else varRL [B.getD m default] []
theorem dps_nodup (B: List Tm) (m: Nat):(dps B m).Nodup:=by
 unfold dps
 split
 ·exact List.nodup_nil
 ·exact di _ _ List.nodup_nil
theorem ej {n: Nat} {B: List Tm} (hG: Gst n B) {m: Nat} {t: Tm} (h: B[m]? =some t) (hk: t.kind≠0) (j: Int): j ∈ dps B m↔j ∈ occ t:=by
 have h1:=(cG (eI (hG.bnd h hk).1)).2.2;unfold dps;rw [getD_some h,if_neg hk,d6 _ _ _ (by rw [nodesRL,h1];rfl),occL,occL];simp
theorem fc {n: Nat} {B: List Tm} (hG: Gst n B) {m: Nat} {j: Int} (h: j ∈ dps B m): 0≤j∧j < B.length:=by
 have hk:(B.getD m default).kind≠0:=fun hk=>by unfold dps at h;rw [if_pos hk] at h;cases h
 have hb:=bC hk;rw [ej hG hb hk] at h;exact hG.occV m _ hb j h
def usA (us: List (List Int)) (i: Int): List Int→List (List Int)
 | []=>us
 | x::xs=>usA (us.set x.toNat (us.getD x.toNat []++ [i])) i xs
theorem usA_len (i: Int): ∀(l: List Int) (us: List (List Int)),(usA us i l).length=us.length
 | [],us=>rfl
 | x::xs,us=>by rw [usA,usA_len i xs,List.length_set]
theorem eS {α: Type} {l: List α} {i j: Nat} {x d: α} (h: i < l.length):(l.set i x).getD j d=if i=j then x else l.getD j d:=by
 rw [List.getD_eq_getElem?_getD,List.getElem?_set,List.getD_eq_getElem?_getD]
 by_cases e: i=j
 ·rw [if_pos e,if_pos e,if_pos (by omega)];rfl
 ·rw [if_neg e,if_neg e]
theorem usA_get (i: Int): ∀(l: List Int) (us: List (List Int)),l.Nodup→(∀ x ∈ l,0≤x∧x.toNat < us.length)→∀ j: Nat,(usA us i l).getD j []=us.getD j []++(if (j: Int) ∈ l then [i] else [])
 | [],us,_,_,j=>by rw [usA];simp
 | x::xs,us,hn,hr,j=>by
  have hx:=hr x List.mem_cons_self;have hn':=List.nodup_cons.1 hn;rw [usA,usA_get i xs _ hn'.2 (fun y hy=>by rw [List.length_set];exact hr y (List.mem_cons_of_mem _ hy)) j,eS hx.2]
  by_cases e: x.toNat=j
  ·have e':(j: Int)=x:=by omega
   rw [if_pos e,e',if_neg hn'.1,if_pos List.mem_cons_self,← e];simp
  ·have e':(j: Int)≠x:=by omega
   rw [if_neg e]
   by_cases hj:(j: Int) ∈ xs
   ·rw [if_pos hj,if_pos (List.mem_cons_of_mem _ hj)]
   ·rw [if_neg hj,if_neg (by rw [List.mem_cons];exact fun h=>h.elim e' hj)]
structure K0 (B: List Tm) (k: Nat) (us: List (List Int)) (lf nx: List Int): Prop where
 ul: us.length=B.length
 ll: lf.length=B.length
 mem: ∀(j: Nat) (i: Int),i ∈ us.getD j []↔∃ m: Nat,m < k∧i=m∧(j: Int) ∈ dps B m
 nd: ∀ j: Nat,(us.getD j []).Nodup
 sz: ∀ j: Nat,(us.getD j []).length≤k
 lt: ∀ m: Nat,m < B.length→lf.getD m 0=if m < k then ((dps B m).length: Int) else 0
 nn: nx.Nodup
 nm: ∀ i: Int,i ∈ nx↔∃ m: Nat,m < k∧i=m∧dps B m= []
 nl: nx.length≤k
theorem K0.zero (B: List Tm): K0 B 0 (List.replicate B.length []) (List.replicate B.length 0) []:=by
 have hg: ∀ j: Nat,(List.replicate B.length ([]: List Int)).getD j []= []:=fun j=>by
  rw [List.getD_eq_getElem?_getD,List.getElem?_replicate];split <;> rfl
 refine⟨by simp,by simp,fun j i=>?_,fun j=>?_,fun j=>?_,fun m hm=>?_,List.nodup_nil,fun i=>?_,by simp⟩
 ·rw [hg];simp
 ·rw [hg];exact List.nodup_nil
 ·rw [hg];simp
 ·rw [if_neg (by omega),List.getD_eq_getElem?_getD,List.getElem?_replicate];split <;> rfl
 ·simp
theorem K0.step {n: Nat} {B: List Tm} (hG: Gst n B) {k: Nat} {us: List (List Int)} {lf nx: List Int} (h: K0 B k us lf nx) (hk: k < B.length) :
  K0 B (k+1) (usA us (k: Int) (dps B k)) (lf.set k ((dps B k).length: Int)) (if ((dps B k).length: Int)=0 then nx++ [(k: Int)] else nx):=by
 have hg:=usA_get (k: Int) (dps B k) us (dps_nodup B k) (fun x hx=>by have:=fc hG hx;rw [h.ul];omega);have hnot: ∀ j: Nat,(k: Int) ∉ us.getD j []:=fun j hj=>by
  obtain⟨m,h1,h2,_⟩:=(h.mem j k).1 hj;omega
 have hnn:(k: Int) ∉ nx:=fun hj=>by
  obtain⟨m,h1,h2,_⟩:=(h.nm k).1 hj;omega
 refine⟨by rw [usA_len];exact h.ul,by rw [List.length_set];exact h.ll,fun j i=>?_,fun j=>?_,fun j=>?_,fun m hm=>?_,?_,fun i=>?_,?_⟩
 ·rw [hg,List.mem_append,h.mem]
  constructor
  ·rintro(⟨m,h1,h2,h3⟩ | h1)
   ·exact⟨m,by omega,h2,h3⟩
   ·split at h1
    ·exact⟨k,by omega,List.mem_singleton.1 h1,by assumption⟩
    ·cases h1
  ·rintro⟨m,h1,h2,h3⟩
   by_cases e: m=k
   ·subst e
    right
    rw [if_pos h3,h2];exact List.mem_singleton.2 rfl
   ·exact .inl ⟨m,by omega,h2,h3⟩
 ·rw [hg]
  split
  ·rw [List.nodup_append];refine⟨h.nd j,by simp,fun a ha b hb e=>?_⟩;rw [List.mem_singleton.1 hb] at e;subst e;exact hnot j ha
  ·rw [List.append_nil];exact h.nd j
 ·rw [hg,List.length_append];have:=h.sz j
  split <;> simp only [List.length_cons,List.length_nil] <;> omega
 ·rw [eS (by rw [h.ll];exact hk)]
  by_cases e: k=m
  ·subst e;rw [if_pos rfl,if_pos (by omega)]
  ·rw [if_neg e,h.lt m hm]
   by_cases h1: m < k
   ·rw [if_pos h1,if_pos (by omega)]
   ·rw [if_neg h1,if_neg (by omega)]
 ·split
  ·rw [List.nodup_append];refine⟨h.nn,by simp,fun a ha b hb e=>?_⟩;rw [List.mem_singleton.1 hb] at e;subst e;exact hnn ha
  ·exact h.nn
 ·constructor
  ·intro hi
   split at hi
   ·rename_i hc
    rcases List.mem_append.1 hi with hi | hi
    ·obtain⟨m,h1,h2,h3⟩:=(h.nm i).1 hi;exact⟨m,by omega,h2,h3⟩
    ·exact⟨k,by omega,List.mem_singleton.1 hi,List.eq_nil_of_length_eq_zero (by omega)⟩
   ·obtain⟨m,h1,h2,h3⟩:=(h.nm i).1 hi;exact⟨m,by omega,h2,h3⟩
  ·rintro⟨m,h1,h2,h3⟩
   by_cases e: m=k
   ·subst e;rw [h3];simp [h2]
   ·have:=(h.nm i).2 ⟨m,by omega,h2,h3⟩
    split
    ·exact List.mem_append_left _ this
    ·exact this
 ·have:=h.nl
  split <;> simp <;> omega
def khN: List Int→List Int→List Int→List Int × List Int
 | [],lf,nx=>(lf,nx)
 | x::xs,lf,nx=>khN xs (lf.set x.toNat (mrk lf x - 1)) (if mrk lf x - 1=0 then nx++ [x] else nx)
theorem khN_len: ∀(xs lf nx: List Int),(khN xs lf nx).1.length=lf.length
 | [],lf,nx=>rfl
 | x::xs,lf,nx=>by rw [khN,khN_len xs,List.length_set]
theorem khN_get: ∀(xs lf nx: List Int),xs.Nodup→(∀ x ∈ xs,0≤x∧x.toNat < lf.length)→(∀ m: Nat,(khN xs lf nx).1.getD m 0=lf.getD m 0 - (if (m: Int) ∈ xs then 1 else 0))∧(khN xs lf nx).2=nx++xs.filter (fun x=>decide (mrk lf x=1))
 | [],lf,nx,_,_=>by rw [khN];simp
 | x::xs,lf,nx,hn,hr=>by
  have hx:=hr x List.mem_cons_self;have hn':=List.nodup_cons.1 hn;obtain⟨h1,h2⟩:=khN_get xs (lf.set x.toNat (mrk lf x - 1)) (if mrk lf x - 1=0 then nx++ [x] else nx) hn'.2 (fun y hy=>by rw [List.length_set];exact hr y (List.mem_cons_of_mem _ hy));rw [khN]
  constructor
  ·intro m;rw [h1,eS hx.2]
   by_cases e: x.toNat=m
   ·have e':(m: Int)=x:=by omega
    rw [if_pos e,e',if_neg hn'.1,if_pos List.mem_cons_self];unfold mrk;rw [e];omega
   ·have e':(m: Int)≠x:=by omega
    rw [if_neg e]
    by_cases hj:(m: Int) ∈ xs
    ·rw [if_pos hj,if_pos (List.mem_cons_of_mem _ hj)]
    ·rw [if_neg hj,if_neg (by rw [List.mem_cons];exact fun h=>h.elim e' hj)]
  ·have hf: xs.filter (fun y=>decide (mrk (lf.set x.toNat (mrk lf x - 1)) y=1))=xs.filter (fun y=>decide (mrk lf y=1)):=by
    refine List.filter_congr fun y hy=>?_;have hy0:=hr y (List.mem_cons_of_mem _ hy);have hne: y≠x:=fun e=>hn'.1 (e ▸ hy);rw [ep hx.2 hx.1 hy0.1,if_neg hne]
   rw [h2,hf,List.filter_cons]
   by_cases e: mrk lf x=1
   ·rw [if_pos (by omega),if_pos (decide_eq_true e)];simp
   ·rw [if_neg (by omega),if_neg (by simpa using e)]
structure KI (B: List Tm) (d: Nat) (us: List (List Int)) (lf nx: List Int): Prop where
 ul: us.length=B.length
 ll: lf.length=B.length
 mem: ∀(j: Nat) (i: Int),i ∈ us.getD j []↔∃ m: Nat,m < B.length∧i=m∧(j: Int) ∈ dps B m
 nd: ∀ j: Nat,(us.getD j []).Nodup
 sz: ∀ j: Nat,(us.getD j []).length≤B.length
 lt: ∀ m: Nat,m < B.length→lf.getD m 0=(((dps B m).filter (fun j=>!(nx.take d).contains j)).length: Int)
 nn: nx.Nodup
 rg: ∀ i ∈ nx,0≤i∧i < B.length
 zr: ∀ m: Nat,m < B.length→((m: Int) ∈ nx↔lf.getD m 0=0)
 od: ∀(p: Nat) (i: Int),nx[p]? =some i→∀ j ∈ dps B i.toNat,j ∈ nx.take p
 le: d≤nx.length
theorem K0.done {B: List Tm} {us: List (List Int)} {lf nx: List Int} (h: K0 B B.length us lf nx): KI B 0 us lf nx:=by
 have hl: ∀ m: Nat,m < B.length→lf.getD m 0=((dps B m).length: Int):=fun m hm=>by rw [h.lt m hm,if_pos hm]
 refine⟨h.ul,h.ll,h.mem,h.nd,h.sz,fun m hm=>?_,h.nn,fun i hi=>?_,fun m hm=>?_,fun p i hp j hj=>?_,Nat.zero_le _⟩
 ·rw [hl m hm,List.filter_eq_self.2 (fun j _=>by simp)]
 ·obtain⟨m,h1,h2,_⟩:=(h.nm i).1 hi;omega
 ·rw [h.nm,hl m hm]
  constructor
  ·rintro⟨m',h1,h2,h3⟩;obtain rfl: m=m':=by omega
   rw [h3];rfl
  ·intro h1;exact⟨m,hm,rfl,List.eq_nil_of_length_eq_zero (by omega)⟩
 ·obtain⟨m,h1,h2,h3⟩:=(h.nm i).1 (List.mem_of_getElem? hp);rw [h2,show ((m: Nat): Int).toNat=m by omega,h3] at hj
  cases hj
theorem dB {l: List Int} {p q: Int→Bool} {v: Int} (hn: l.Nodup) (hv: v ∈ l) (hp: p v=true) (hq: q v=false) (h: ∀ x ∈ l,x≠v→p x=q x):(l.filter p).length=(l.filter q).length+1:=by
 induction l with
 | nil=>cases hv
 | cons x xs ih =>
  have hn':=List.nodup_cons.1 hn
  by_cases e: x=v
  ·subst e;have he: xs.filter p=xs.filter q:=List.filter_congr fun y hy=>h y (List.mem_cons_of_mem _ hy) (fun e=>hn'.1 (e ▸ hy));rw [List.filter_cons,if_pos hp,List.filter_cons,if_neg (by rw [hq];simp),he,List.length_cons]
  ·have hv': v ∈ xs:=by
    rcases List.mem_cons.1 hv with e' | hv'
    ·exact absurd e'.symm e
    ·exact hv'
   have:=ih hn'.2 hv' (fun y hy=>h y (List.mem_cons_of_mem _ hy));rw [List.filter_cons,List.filter_cons,h x List.mem_cons_self e]
   split
   ·rw [List.length_cons,List.length_cons,this]
   ·exact this
theorem eb {nx: List Int} {d: Nat} {v: Int} (h: nx[d]? =some v) (j: Int):(nx.take (d+1)).contains j=((nx.take d).contains j||decide (j=v)):=by
 rw [Bool.eq_iff_iff];simp only [List.contains_iff_mem,Bool.or_eq_true,decide_eq_true_eq];rw [List.take_add_one,h,List.mem_append];simp
theorem nodup_take_not {nx: List Int} {d: Nat} {v: Int} (hn: nx.Nodup) (h: nx[d]? =some v): v ∉ nx.take d:=by
 intro hm;obtain⟨i,hi⟩:=List.getElem?_of_mem hm;rw [List.getElem?_take] at hi
 split at hi
 ·rename_i hlt
  have hd:=(List.getElem?_eq_some_iff.1 h);have hi':=(List.getElem?_eq_some_iff.1 hi);have:=(List.getElem_inj (xs:=nx) hn (i:=i) (j:=d) (h₀:=hi'.1) (h₁:=hd.1)).1 (by rw [hd.2,hi'.2]);omega
 ·cases hi
theorem KI.step {n: Nat} {B: List Tm} (hG: Gst n B) {d: Nat} {us: List (List Int)} {lf nx: List Int} {v: Int} (h: KI B d us lf nx) (hv: nx[d]? =some v) :
  KI B (d+1) us (khN (us.getD v.toNat []) lf nx).1 (khN (us.getD v.toNat []) lf nx).2:=by
 have hd: d < nx.length:=(List.getElem?_eq_some_iff.1 hv).1;have hv0:=h.rg v (List.mem_of_getElem? hv);have ev:((v.toNat: Nat): Int)=v:=by omega
 have hrng: ∀ x ∈ us.getD v.toNat [],0≤x∧x.toNat < lf.length:=fun x hx=>by
  obtain⟨m,h1,h2,_⟩:=(h.mem v.toNat x).1 hx;rw [h.ll];omega
 obtain⟨hg,hx2⟩:=khN_get (us.getD v.toNat []) lf nx (h.nd _) hrng;have hmem: ∀ m: Nat,m < B.length→((m: Int) ∈ us.getD v.toNat []↔v ∈ dps B m):=fun m hm=>by
  rw [h.mem,ev]
  constructor
  ·rintro⟨m',h1,h2,h3⟩;obtain rfl: m=m':=by omega
   exact h3
  ·intro h1;exact⟨m,hm,rfl,h1⟩
 have htk: ∀ k,k≤nx.length→(khN (us.getD v.toNat []) lf nx).2.take k=nx.take k:=fun k hk=>by rw [hx2,List.take_append_of_le_length hk]
 have hlt: ∀ m: Nat,m < B.length→(khN (us.getD v.toNat []) lf nx).1.getD m 0=(((dps B m).filter (fun j=>!((khN (us.getD v.toNat []) lf nx).2.take (d+1)).contains j)).length: Int):=fun m hm=>by
  rw [hg,htk (d+1) (by omega),h.lt m hm]
  by_cases hvm: v ∈ dps B m
  ·rw [if_pos ((hmem m hm).2 hvm)];have:=dB (p:=fun j=>!(nx.take d).contains j) (q:=fun j=>!(nx.take (d+1)).contains j) (dps_nodup B m) hvm (by simpa using nodup_take_not h.nn hv) (by rw [eb hv];simp) (fun x _ hx=>by rw [eb hv,decide_eq_false hx];simp);omega
  ·rw [if_neg (fun hh=>hvm ((hmem m hm).1 hh)),Int.sub_zero]
   congr 2
   refine List.filter_congr fun x hx=>?_;rw [eb hv,decide_eq_false (show ¬ x=v from fun e=>hvm (e ▸ hx))];simp
 have hone: ∀ x ∈ us.getD v.toNat [],mrk lf x=1→x ∉ nx:=fun x hx h1 hn=>by
  have hr:=hrng x hx;rw [h.ll] at hr;have h2:=(h.zr x.toNat hr.2).1 (by rw [show ((x.toNat: Nat): Int)=x by omega];exact hn);unfold mrk at h1;omega
 refine⟨h.ul,by rw [khN_len];exact h.ll,h.mem,h.nd,h.sz,hlt,?_,fun i hi=>?_,fun m hm=>?_,fun p i hp j hj=>?_,?_⟩
 ·rw [hx2,List.nodup_append];refine⟨h.nn,(h.nd _).filter _,fun a ha b hb e=>?_⟩;subst e;rw [List.mem_filter,decide_eq_true_eq] at hb;exact hone a hb.1 hb.2 ha
 ·rw [hx2] at hi
  rcases List.mem_append.1 hi with hi | hi
  ·exact h.rg i hi
  ·have:=hrng i (List.mem_filter.1 hi).1;rw [h.ll] at this;omega
 ·rw [hg,hx2,List.mem_append,h.zr m hm,List.mem_filter,decide_eq_true_eq]
  by_cases hc:(m: Int) ∈ us.getD v.toNat []
  ·rw [if_pos hc];have h1: lf.getD m 0≠0:=fun h0=>by
    have h2:=h.lt m hm;rw [h0] at h2;have h3:(dps B m).filter (fun j=>!(nx.take d).contains j)= []:=List.eq_nil_of_length_eq_zero (by omega);have h4: v ∈(dps B m).filter (fun j=>!(nx.take d).contains j):=List.mem_filter.2 ⟨(hmem m hm).1 hc,by simpa using nodup_take_not h.nn hv⟩;rw [h3] at h4;cases h4
   have h2: mrk lf (m: Int)=lf.getD m 0:=rfl;rw [h2]
   constructor
   ·rintro(h3 | h3)
    ·exact absurd h3 h1
    ·omega
   ·intro h3;exact .inr ⟨hc,by omega⟩
  ·rw [if_neg hc]
   constructor
   ·rintro(h3 | h3)
    ·omega
    ·exact absurd h3.1 hc
   ·intro h3;exact .inl (by omega)
 ·by_cases hpl: p < nx.length
  ·rw [hx2,List.getElem?_append_left hpl] at hp;rw [htk p (by omega)];exact h.od p i hp j hj
  ·have hi: i ∈ us.getD v.toNat []∧mrk lf i=1:=by
    rw [hx2,List.getElem?_append_right (by omega)] at hp;have:=List.mem_filter.1 (List.mem_of_getElem? hp);exact⟨this.1,by simpa using this.2⟩
   have hr:=hrng i hi.1;rw [h.ll] at hr;have h1:=hlt i.toNat hr.2;rw [hg,if_pos (by rw [show ((i.toNat: Nat): Int)=i by omega];exact hi.1)] at h1;have h2:=hi.2;unfold mrk at h2;rw [h2] at h1;have h3:(dps B i.toNat).filter (fun j=>!((khN (us.getD v.toNat []) lf nx).2.take (d+1)).contains j)= []:=List.eq_nil_of_length_eq_zero (by omega);rw [List.filter_eq_nil_iff] at h3;have h4:=h3 j hj;have h5: j ∈(khN (us.getD v.toNat []) lf nx).2.take (d+1):=by simpa using h4
   rw [htk _ (by omega)] at h5;rw [hx2,List.take_append,List.mem_append]
   left
   rw [List.take_of_length_le (by omega)];exact List.mem_of_mem_take h5
 ·rw [hx2,List.length_append];omega
theorem eW: ∀(n: Nat) (l: List Int),l.Nodup→(∀ x ∈ l,0≤x∧x < n)→l.length≤n
 | 0,l,_,h=>by
  cases l with
  | nil=>simp
  | cons x xs=>have:=h x List.mem_cons_self;omega
 | n+1,l,hn,h=>by
  have h1:=eW n (l.filter (fun x=>!decide (x=(n: Int)))) (hn.filter _) (fun x hx=>by
   rw [List.mem_filter] at hx;have:=h x hx.1;have h2: x≠(n: Int):=by simpa using hx.2
   omega)
  by_cases hm:(n: Int) ∈ l
  ·have:=dB (p:=fun _=>true) (q:=fun x=>!decide (x=(n: Int))) hn hm rfl (by simp) (fun x _ hx=>by simp [hx]);rw [List.filter_eq_self.2 (fun _ _=>rfl)] at this;omega
  ·rw [List.filter_eq_self.2 (fun x hx=>by have: x≠(n: Int):=(fun e=>hm (e ▸ hx));simpa using this)] at h1;omega
theorem KI.len {B: List Tm} {d: Nat} {us: List (List Int)} {lf nx: List Int} (h: KI B d us lf nx): nx.length≤B.length:=eW _ _ h.nn h.rg
theorem KI.yes {n: Nat} {B: List Tm} (hG: Gst n B) {d: Nat} {us: List (List Int)} {lf nx: List Int} (h: KI B d us lf nx) (hd: d=B.length): Acyc B:=by
 have hl: nx.length=B.length:=by have:=h.le;have:=h.len;omega
 have hall: ∀ m: Nat,m < B.length→(m: Int) ∈ nx:=fun m hm=>Classical.byContradiction fun hno=>by
  have:=eW B.length ((m: Int)::nx) (List.nodup_cons.2 ⟨hno,h.nn⟩) (fun x hx=>by
   rcases List.mem_cons.1 hx with rfl | hx
   ·omega
   ·exact h.rg x hx)
  rw [List.length_cons] at this;omega
 refine⟨fun m=>nx.idxOf (m: Int),fun i t hi hk j hj=>?_⟩;have hib: i < B.length:=(List.getElem?_eq_some_iff.1 hi).1;have h1: nx.idxOf (i: Int) < nx.length:=List.idxOf_lt_length_of_mem (hall i hib);have h2: nx[nx.idxOf (i: Int)]? =some (i: Int):=by
  rw [List.getElem?_eq_getElem h1,List.getElem_idxOf h1]
 have h3:=h.od _ _ h2 j (by rw [show ((i: Nat): Int).toNat=i by omega];exact(ej hG hi hk j).2 hj);have h4:=hG.occV i t hi j hj
 show nx.idxOf ((j.toNat: Nat): Int) < _
 rw [show ((j.toNat: Nat): Int)=j by omega];obtain⟨q,hq⟩:=List.getElem?_of_mem h3;rw [List.getElem?_take] at hq
 split at hq
 ·rename_i hlt
  have:=List.getElem?_eq_some_iff.1 hq;have hj: j ∈ nx:=List.mem_of_mem_take h3;have h6: nx.idxOf j < nx.length:=List.idxOf_lt_length_of_mem hj;have h5:=(List.getElem_inj (xs:=nx) h.nn (i:=nx.idxOf j) (j:=q) (h₀:=h6) (h₁:=this.1)).1 (by rw [List.getElem_idxOf h6,this.2]);rw [h5];exact hlt
 ·cases hq
theorem KI.no {n: Nat} {B: List Tm} (hG: Gst n B) {d: Nat} {us: List (List Int)} {lf nx: List Int} (h: KI B d us lf nx) (hd: d=nx.length) (hne: d≠B.length): ¬ Acyc B:=by
 rintro⟨rk,hr⟩;have hl:=h.len;have key: ∀ k m: Nat,m < B.length→rk m≤k→(m: Int) ∈ nx:=by
  intro k
  induction k with
  | zero =>
   intro m hm hk;refine(h.zr m hm).2 ?_;rw [h.lt m hm,List.filter_eq_nil_iff.2 ?_];rfl;intro j hj;have hkd:(B.getD m default).kind≠0:=fun hk=>by unfold dps at hj;rw [if_pos hk] at hj;cases hj
   have:=hr m _ (bC hkd) hkd j ((ej hG (bC hkd) hkd j).1 hj);omega
  | succ k ih =>
   intro m hm hk;refine(h.zr m hm).2 ?_;rw [h.lt m hm,List.filter_eq_nil_iff.2 ?_];rfl;intro j hj;have hkd:(B.getD m default).kind≠0:=fun hk=>by unfold dps at hj;rw [if_pos hk] at hj;cases hj
   have h1:=hr m _ (bC hkd) hkd j ((ej hG (bC hkd) hkd j).1 hj);have h2:=fc hG hj;have h3:=ih j.toNat (by omega) (by omega);rw [show ((j.toNat: Nat): Int)=j by omega] at h3;rw [hd,List.take_length];simpa using h3
 have hsub: ∀ m: Nat,m < B.length→(m: Int) ∈ nx:=fun m hm=>key _ m hm (Nat.le_refl _);have hle: B.length≤nx.length:=by
  have hs: ∀(k: Nat),k≤B.length→k≤(nx.filter (fun x=>decide (x <(k: Int)))).length:=by
   intro k
   induction k with
   | zero=>intro _;omega
   | succ k ih =>
    intro hk;have:=ih (by omega);have:=dB (l:=nx) (p:=fun x=>decide (x <((k+1: Nat): Int))) (q:=fun x=>decide (x <(k: Int))) (v:=(k: Int)) h.nn (hsub k (by omega)) (by simp;omega) (by simp) (fun x _ hx=>by rw [Bool.eq_iff_iff];simp;omega);omega
  have:=hs B.length (Nat.le_refl _);have:=List.length_filter_le (fun x=>decide (x <(B.length: Int))) nx;omega
 omega
open Classical in
noncomputable def acycB (B: List Tm): Bool:=decide (Acyc B)
theorem ef {B: List Tm}: acycB B=true↔Acyc B:=by unfold acycB;exact @decide_eq_true_iff (Acyc B) (Classical.propDecidable _)
theorem KI.acycB {n: Nat} {B: List Tm} (hG: Gst n B) {d: Nat} {us: List (List Int)} {lf nx: List Int} (h: KI B d us lf nx) (hd: nx.length≤d): Vk.acycB B=decide (((d: Nat): Int)=((B.length: Nat): Int)):=by
 have hd': d=nx.length:=by have:=h.le;omega
 by_cases e: d=B.length
 ·rw [ef.2 (h.yes hG e),decide_eq_true (by omega)]
 ·have:=h.no hG hd' e;have h2: Vk.acycB B=false:=by
   cases hh: Vk.acycB B with
   | false=>rfl
   | true=>exact absurd (ef.1 hh) this
  rw [h2,decide_eq_false (by omega)]
end Go.Vk
namespace Go.Vk
open Go.RowKit
structure SV where
 A: Option Addr
 c: Nat
 xs: List Int
def SV.cells (s: SV): List Value:= [.slice s.A s.xs.length s.c]
def SV.zero: SV:=⟨none,0, []⟩
theorem SV.len (s: SV): s.cells.length=1:=rfl
theorem fD (sv: List SV): gfl SV.cells sv=sv.map fun s=>.slice s.A s.xs.length s.c:=by
 induction sv with
 | nil=>rfl
 | cons s ss ih=>rw [cM,ih];rfl
theorem zcells_sv (k: Nat): zcells (.slice none 0 0) k=gfl SV.cells (List.replicate k SV.zero):=by
 have hl:(zcells (.slice none 0 0) k).length=k * 1:=aY _ _;rw [fD]
 apply List.ext_getElem?
 intro j
 by_cases hj: j < k
 ·simp only [zcells,Builtin.zeroCells,Array.toList_map,List.getElem?_map,Array.toList_range];have hr:(List.range (k *(Value.slice none 0 0).cells.size))[j]? =some j:=List.getElem?_range (show j < k * 1 by omega);rw [hr,List.getElem?_replicate,if_pos hj];simp only [Option.map_some,Option.some.injEq];have h1:(Value.slice none 0 0).cells.size=1:=rfl;rw [h1,Nat.mod_one];rfl
 ·rw [List.getElem?_eq_none (by omega),List.getElem?_eq_none (by simp;omega)]
theorem splice_sv {sv: List SV} {j: Nat} (hj: j < sv.length) (s: SV): splice (gfl SV.cells sv) (j * 1) s.cells=gfl SV.cells (sv.set j s):=by
 unfold splice;rw [fD,fD,Nat.mul_one,List.map_set,List.set_eq_take_append_cons_drop,if_pos (by simpa using hj),List.append_assoc];rfl
def Fam (ti: Nat) (sv: List SV) (fam: List Ent): Prop:=
 fam.length=sv.length∧∀(j: Nat) (s: SV) (e: Ent),sv[j]? =some s→fam[j]? =some e→Row (.slice s.A s.xs.length s.c) e ti 1 s.xs.length (ints s.xs)
theorem Fam.zero (ti n: Nat): Fam ti (List.replicate n SV.zero) (List.replicate n noEnt):=by
 refine⟨by simp,fun j s e hs he=>?_⟩;rw [List.getElem?_replicate] at hs he
 split at hs
 ·rename_i h
  rw [if_pos h] at he;obtain rfl:=Option.some.inj hs;obtain rfl:=Option.some.inj he;exact Row.nil ti 1
 ·cases hs
theorem Fam.get {ti: Nat} {sv: List SV} {fam: List Ent} (h: Fam ti sv fam) {j: Nat} (hj: j < sv.length): ∃ s e,sv[j]? =some s∧fam[j]? =some e∧Row (.slice s.A s.xs.length s.c) e ti 1 s.xs.length (ints s.xs):=
 ⟨sv[j],fam[j]'(by rw [h.1];exact hj),List.getElem?_eq_getElem hj,List.getElem?_eq_getElem _,h.2 _ _ _ (List.getElem?_eq_getElem hj) (List.getElem?_eq_getElem _)⟩
theorem Fam.set {ti: Nat} {sv: List SV} {fam: List Ent} (h: Fam ti sv fam) {j: Nat} {s: SV} {e: Ent} (hr: Row (.slice s.A s.xs.length s.c) e ti 1 s.xs.length (ints s.xs)): Fam ti (sv.set j s) (fam.set j e):=by
 refine⟨by simp [h.1],fun i s' e' hs he=>?_⟩;rw [List.getElem?_set] at hs he
 by_cases hij: j=i
 ·rw [if_pos hij] at hs he
  split at hs
  ·rename_i hl
   rw [if_pos (by rw [h.1];exact hl)] at he;obtain rfl:=Option.some.inj hs;obtain rfl:=Option.some.inj he;exact hr
  ·cases hs
 ·rw [if_neg hij] at hs he;exact h.2 i s' e' hs he
section
variable {w0 w: World} {H0 H: PHeap} {L0 Es fam: List Ent}
theorem Step.fam0 (h: Step w0 H0 L0 w H Es): ∀ n: Nat,Step w0 H0 L0 w H (Es++List.replicate n noEnt)
 | 0=>by rw [List.replicate_zero,List.append_nil];exact h
 | n+1=>by
  have:=(Step.fam0 h n).cons_none (en:=noEnt) rfl;rw [List.replicate_succ];exact this.perm List.perm_middle.symm
theorem Step.expose (h: Step w0 H0 L0 w H (Es++fam)) {j: Nat} {e: Ent} (he: fam[j]? =some e): Step w0 H0 L0 w H (Es++e::fam.eraseIdx j):=h.perm (List.Perm.append_left _ (cU _ _ _ he))
theorem Step.hide {e e': Ent} {j: Nat} (hj: fam[j]? =some e) (h: Step w0 H0 L0 w H (Es++e'::fam.eraseIdx j)): Step w0 H0 L0 w H (Es++fam.set j e'):=by
 refine h.perm (List.Perm.append_left _ ?_);have hl:=(List.getElem?_eq_some_iff.1 hj).1;have:=cU (fam.set j e') j e' (by rw [List.getElem?_set,if_pos rfl,if_pos hl]);rw [List.eraseIdx_set_eq] at this;exact this.symm
end
theorem mrk_at {st: List Int} {v x: Int} (h: st[v.toNat]? =some x): mrk st v=x:=by unfold mrk;rw [List.getD_eq_getElem?_getD,h];rfl
theorem b0 {sv: List SV} {j: Nat} {s: SV} (h: sv[j]? =some s):(sv.map SV.xs).getD j []=s.xs:=by rw [List.getD_eq_getElem?_getD,List.getElem?_map,h];rfl
theorem usA_cons {us: List (List Int)} {i x: Int} {l: List Int} {k: Nat} (h: l[k]? =some x): usA us i (l.drop k)=usA (us.set x.toNat (us.getD x.toNat []++ [i])) i (l.drop (k+1)):=by rw [aJ h,usA]
theorem khN_cons {lf nx l: List Int} {x: Int} {k: Nat} (h: l[k]? =some x): khN (l.drop k) lf nx=khN (l.drop (k+1)) (lf.set x.toNat (mrk lf x - 1)) (if mrk lf x - 1=0 then nx++ [x] else nx):=by rw [aJ h,khN]
theorem set_same {α: Type} {l: List α} {j: Nat} {x: α} (h: l[j]? =some x): l.set j x=l:=by
 apply List.ext_getElem?
 intro i;rw [List.getElem?_set]
 split
 ·rename_i e
  subst e;rw [if_pos (List.getElem?_eq_some_iff.1 h).1,h]
 ·rfl
theorem K0.at_ {B: List Tm} {k: Nat} {us: List (List Int)} {lf nx: List Int} (h: K0 B k us lf nx) (hk: k < B.length): lf[k]? =some 0:=by
 have:=h.lt k hk;rw [if_neg (by omega),List.getD_eq_getElem?_getD,List.getElem?_eq_getElem (by rw [h.ll];exact hk)] at this;rw [List.getElem?_eq_getElem (by rw [h.ll];exact hk)];exact congrArg some this
theorem K0.free {n: Nat} {B: List Tm} (hG: Gst n B) {k: Nat} {us: List (List Int)} {lf nx: List Int} (h: K0 B k us lf nx) (hk: k < B.length) (h0: dps B k= []): K0 B (k+1) us lf (nx++ [(k: Int)]):=by
 have:=h.step hG hk;rw [h0] at this;change K0 B (k+1) us (lf.set k 0) (if (0: Int)=0 then nx++ [(k: Int)] else nx) at this
 rwa [set_same (h.at_ hk),if_pos rfl] at this
theorem dps_free {B: List Tm} {k: Nat} {t: Tm} (h: B[k]? =some t) (h0: t.kind=0): dps B k= []:=by unfold dps;rw [getD_some h,if_pos h0]
theorem dps_some {B: List Tm} {k: Nat} {t: Tm} (h: B[k]? =some t) (h0: ¬ t.kind=0): dps B k=varRL [t] []:=by unfold dps;rw [getD_some h,if_neg h0]
theorem sv_sz {sv: List SV} {m: Nat} (h: ∀ j: Nat,((sv.map SV.xs).getD j []).length≤m): ∀ s ∈ sv,s.xs.length≤m:=fun s hs=>by
 obtain⟨j,hj⟩:=List.getElem?_of_mem hs;have:=h j
 rwa [b0 hj] at this
theorem dM {α: Type} {p: α→Prop} {l: List α} {j: Nat} {x: α} (h: ∀ y ∈ l,p y) (hx: p x): ∀ y ∈ l.set j x,p y:=fun y hy=>by
 rcases List.mem_or_eq_of_mem_set hy with h1 | h1
 ·exact h y h1
 ·rw [h1];exact hx
theorem map_sv_set {sv: List SV} {j: Nat} {s: SV}:(sv.set j s).map SV.xs=(sv.map SV.xs).set j s.xs:=by rw [List.map_set]
theorem fS {v: Value} {e: Ent} {ty n: Nat} {sv: List SV} (h: Row v e ty 1 n (gfl SV.cells sv)): sv.length=n:=by
 have:=h.1;rw [bK SV.len] at this;omega
theorem dr {α: Type} {l: List α} {j: Nat} {x y: α} (h:(l.set j x)[j]? =some y): y=x:=by
 rw [List.getElem?_set,if_pos rfl] at h
 split at h
 ·exact(Option.some.inj h).symm
 ·cases h
noncomputable def isB (B: List Tm): Bool:=(decide (((B.length: Nat): Int)≤100000)&&elsU B.length 0 B)&&acycB B
theorem bJ {B: List Tm}: isB B=true↔Gst B.length B∧Acyc B:=by
 unfold isB;simp only [Bool.and_eq_true,decide_eq_true_eq,ef]
 constructor
 ·rintro⟨⟨h1,h2⟩,h3⟩;exact⟨Gst.of (by omega) h2,h3⟩
 ·rintro⟨h1,h2⟩;refine⟨⟨by have:=h1.le;omega,fr fun j t hj=>?_⟩,h2⟩;rw [Nat.zero_add];exact fi.2 (h1.el j t hj)
theorem isB_stU {B: List Tm} (h: isB B=true): stU B=true:=eN (bJ.1 h).1 (bJ.1 h).2
end Go.Vk
namespace Go.Vk.Tryz
open Go.RowKit
set_option maxHeartbeats 1000000 in
theorem c_Acyclic {w0: World} {H: PHeap} (hI: Inv w0 H []) {A: Option Addr} {c: Nat} {ts: List Tm} (hr: RowT H A c ts) (hG: Gst ts.length ts): Calls prog 89 #[(.agg #[(.slice A ts.length c)])] w0 (Rs w0 H (.bool (acycB ts))):=by
 have hS:=Step.refl hI;have hlr:=hr.len;have hle_:=hG.le;refine enter [(.agg #[(.slice A ts.length c)])] func89 Y ntmps89 Y fun a ha=>?_;refine wp_seq (ab (lin Y (aG (cs:= #[(.slice A ts.length c)]) hS ha Y Y Y fun b1 a w hS ha=>?_)));refine Ls Y ha fun a ha=>?_;refine wpList_nil (aa (wp_seq (ab (lin Y (ac (f:=0) (o2:=0) T24 T22 Y Y Y Y ha Y Y fun a ha=>?_)))));refine lin Y (ae (v:=(.slice A ts.length c)) T22 Y ha Y (hS.blkL 0 rfl) Y Y fun a ha=>?_);refine lin Y (aD T22.und ha Y Y fun a ha=>?_);refine Ls Y ha fun a ha=>?_;refine wpList_nil (aa (wp_seq (ab (Lm Y ha fun a ha=>?_))));refine lin Y (dW (k:=ts.length) T144.und T33 Y Y hS ha Y Y (by omega) (by omega) (by omega) Y Y fun b3 a w hR3 hS ha=>?_);rw [zcells_sv] at hR3 hS;refine Ls Y ha fun a ha=>?_;refine wpList_nil (aa (wp_seq (ab (Lm Y ha fun a ha=>?_))));refine lin Y (dW (k:=ts.length) T33.und T3 Y Y hS ha Y Y (by omega) (by omega) (by omega) Y Y fun b5 a w hR5 hS ha=>?_);rw [zcells_int] at hR5 hS;refine Ls Y ha fun a ha=>?_;refine wpList_nil (aa (wp_seq (ab (Ls Y ha fun a ha=>?_))));refine wpList_nil (aa (wp_seq (wp_seq (ab (Ls Y ha fun a ha=>?_)))));refine wpList_nil (aa (wp_block ?_));have hS:=hS.cons_none (en:=noEnt) Y;refine aN (fun nn_ a w=> ∃(H8: PHeap),∃(k: Nat),∃(fam: List Ent),∃(xs_0: List SV),∃(en_0: Ent),∃(xs_1: List Int),∃(en_1: Ent),∃(xs_2: List Int),∃(en_2: Ent),∃(A_2: Option Addr),∃(c_2: Nat),Le H H8∧nn_=ts.length - k∧Has [] a 121 [(1,(pB b1)),(3,(iV ((ts.length: Nat): Int))),(4,(.slice (some ⟨b3,0,none⟩) ts.length ts.length)),(5,(.slice (some ⟨b5,0,none⟩) ts.length ts.length)),(6,(.slice A_2 xs_2.length c_2)),(7,(iV ((k: Nat): Int)))]∧Step w0 H [] w H8 (en_2::en_1::en_0::(some b1,(.cells #[(.slice A ts.length c)] 24 (0,0)))::fam)∧(Row (.slice (some ⟨b3,0,none⟩) ts.length ts.length) en_0 33 1 ts.length (gfl SV.cells xs_0))∧(Row (.slice (some ⟨b5,0,none⟩) ts.length ts.length) en_1 3 1 ts.length (ints xs_1))∧(xs_1.length=ts.length)∧(Row (.slice A_2 xs_2.length c_2) en_2 3 1 xs_2.length (ints xs_2))∧(Fam 3 xs_0 fam)∧(K0 ts k (xs_0.map SV.xs) xs_1 xs_2)∧(∀ y ∈ xs_1,0≤y∧y≤4000)∧(k≤ts.length)) _ ⟨H,0,(List.replicate ts.length noEnt),(List.replicate ts.length SV.zero),(some b3,.cells (gfl SV.cells (List.replicate ts.length SV.zero)).toArray 33 (0,0)),(List.replicate ts.length 0),(some b5,.cells (ints (List.replicate ts.length 0)).toArray 3 (0,0)), [],noEnt,none,0,Le.refl _,rfl,ha.pk Y,(Step.fam0 (Es:= [noEnt,(some b5,.cells (ints (List.replicate ts.length 0)).toArray 3 (0,0)),(some b3,.cells (gfl SV.cells (List.replicate ts.length SV.zero)).toArray 33 (0,0)),(some b1,(.cells #[(.slice A ts.length c)] 24 (0,0)))]) hS ts.length),hR3,hR5,(by simp),(by simpa using (Row.nil 3 1)),(Fam.zero 3 ts.length),(by rw [List.map_replicate];exact K0.zero ts),(fun y hy=>by have h_:=(List.mem_replicate.1 hy).2;omega),(by omega)⟩ ?_;intro n8 a w hh;obtain⟨H8,k,fam,xs_0,en_0,xs_1,en_1,xs_2,en_2,A_2,c_2,hle8,hn8,ha,hS,hR_0,hR_1,hL_1,hR_2,hF,hK,hbn,hk⟩:=hh;have hr:=hr.mono hle8;have hsl_:=fS hR_0;have hnl_:=hK.nl;refine wp_seq (wp_seq (ab (Lm Y ha fun a ha=>?_)));refine Lm Y ha fun a ha=>?_;refine lin Y (aV (i:=((k: Nat): Int)) (j:=((ts.length: Nat): Int)) ha Y Y Y fun a ha=>?_);refine wpList_nil (aa (al (t:=22) ha Y (fun h9 ha=>?_) (fun h9 ha=>?_)))
 ·refine ar ha Y (wp_skip (aa (wp_seq (wp_block (wp_seq (wp_seq (ab (lin Y (ac (f:=0) (o2:=0) T24 T22 Y Y Y Y ha Y Y fun a ha=>?_)))))))));refine lin Y (ae (v:=(.slice A ts.length c)) T22 Y ha Y (hS.blkL 3 rfl) Y Y fun a ha=>?_);refine Lm Y ha fun a ha=>?_;obtain⟨t10,b10,off10,e10,cs10,fz10,A10,c10,ht10,hA10,hb10,hc10,hr10⟩:=hr.get (j:=k) (by omega);refine lin Y (av (b:=b10) (o:=off10) (j:=k) T22.und T26 hA10 ha Y Y (by omega) (by omega) Y fun a ha=>?_);refine lin Y (ac (f:=0) (o2:=(off10+k * 4+0)) T26 T3 Y Y Y Y ha Y Y fun a ha=>?_);refine lin Y (ae (v:=(iV t10.kind)) T3 Y ha Y (hS.blkH hb10) (hc10 0 _ Y) Y fun a ha=>?_);refine lin Y (bh (i:=t10.kind) (j:=0) ha Y Y Y fun a ha=>?_);refine wpList_nil (aa (aH (t:=31) ha Y (fun h11 ha=>?_) (fun h11 ha=>?_)))
  ·have hbt_:=hG.bnd ht10 h11;have hdp_:=dps_some ht10 h11;have hrl: ∀ y ∈ varRL [t10] [],0≤y∧y.toNat < ts.length:=fun y hy=>by rw [← hdp_] at hy;have:=fc hG hy;omega
   have hln_:(varRL [t10] []).length≤4000:=by have h1_:=dY [t10] [];have h2_:=dg hbt_.1;rw [Tm.szL,Tm.szL,List.length_nil] at h1_;omega
   refine ar ha Y (wp_seq (ab (lin Y (ac (f:=0) (o2:=0) T24 T22 Y Y Y Y ha Y Y fun a ha=>?_))));refine lin Y (ae (v:=(.slice A ts.length c)) T22 Y ha Y (hS.blkL 3 rfl) Y Y fun a ha=>?_);refine Lm Y ha fun a ha=>?_;obtain⟨t12,b12,off12,e12,cs12,fz12,A12,c12,ht12,hA12,hb12,hc12,hr12⟩:=hr.get (j:=k) (by omega);refine lin Y (av (b:=b12) (o:=off12) (j:=k) T22.und T26 hA12 ha Y Y (by omega) (by omega) Y fun a ha=>?_);have hte12:=Option.some.inj (ht12.symm.trans ht10);rw [← hte12] at hdp_ hrl hln_ hbt_;refine lin Y (ah (vs:=(tL t12 A12 c12)) T26 Y ha Y (hS.blkH hb12) Y hc12 Y fun a ha=>?_);refine lin Y (aE (vs:= [(0,(tv t12 A12 c12))]) (cells:=(tL t12 A12 c12)) T22.und T26 hS ha (ha.evp Y) Y Y Y Y fun b13 a w hS ha=>?_);obtain⟨H13,hS,hle13,hb13⟩:=hS.give;have hr12:=hr12.mono hle13;have hr13: RowT H13 (some ⟨b13,0,none⟩) 1 [t12]:=RowT.of_lit ([⟨t12,A12,c12⟩]: List TV) hb13 (AllR.cons hr12 (AllR.nil _)) (by simp) Y;have hk15:=c_VarsOf (ts:= [t12]) hS.inv.nil hr13 (by rw [Tm.szL,Tm.szL];have:=dg hbt_.1;omega);refine lin Y (Co func114 ha Y (hk15) ?_);rintro e w ⟨A14,c14,en14,rfl,hR14,hc14⟩;refine⟨_,rfl,fun a ha=>?_⟩;have hS:=hS.call_own hc14;refine Ls Y ha fun a ha=>?_;refine wpList_nil (aa (wp_seq (ab (Lm Y ha fun a ha=>?_))));refine Lm Y ha fun a ha=>?_;refine Lm Y ha fun a ha=>?_;refine lin Y (aD T33.und ha Y Y fun a ha=>?_);obtain⟨b17,cap17,cur17,hv17,he17,hc17, -⟩:=hR_1.at_ (j:=k) (by omega);have hA17:((some ⟨b5,0,none⟩): Option Addr)=some ⟨b17,0,none⟩:=by injection hv17
   obtain⟨x17,hx17⟩: ∃ x,xs_1[k]? =some x:=⟨_,List.getElem?_eq_getElem (by first | omega |(simp;omega))⟩;have hc17:=hc17 0 (iV x17) (by omega) (bg hx17);refine lin Y (av (b:=b17) (o:=0) (j:=k) T33.und T3 hA17 ha Y Y (by omega) (by omega) Y fun a ha=>?_);refine lin Y (bL (j:=k) T3 hS (i:=2) Y hR_1 Y hA17 (by omega) Y ha Y Y Y Y fun en18 a w hR18 he18 hS ha=>?_);rw [show (Value.cells _).toList= [.int .i64 (((varRL ([t12]) []).length: Nat): Int)] from rfl,cE (by first | omega |(simp;omega))] at hR18;refine wpList_nil (aa (wp_seq (ab (Ls Y ha fun a ha=>?_))));refine wpList_nil (aa (wp_block (aN (fun nn_ a w=> ∃(H19: PHeap),∃(k2: Nat),∃(fam2: List Ent),∃(xs_3: List SV),∃(en_3: Ent),Le H13 H19∧nn_=(varRL [t12] []).length - k2∧Has [] a 121 [(1,(pB b1)),(3,(iV ((ts.length: Nat): Int))),(4,(.slice (some ⟨b3,0,none⟩) ts.length ts.length)),(5,(.slice (some ⟨b5,0,none⟩) ts.length ts.length)),(6,(.slice A_2 xs_2.length c_2)),(7,(iV ((k: Nat): Int))),(8,(.slice A14 ((varRL ([t12]) []).length) c14)),(9,(iV ((k2: Nat): Int)))]∧Step w0 H [] w H19 (en14::en_2::en18::en_3::(some b1,(.cells #[(.slice A ts.length c)] 24 (0,0)))::fam2)∧(Row (.slice (some ⟨b3,0,none⟩) ts.length ts.length) en_3 33 1 ts.length (gfl SV.cells xs_3))∧(Fam 3 xs_3 fam2)∧(usA (xs_3.map SV.xs) (k: Int) ((varRL [t12] []).drop k2)=usA (xs_0.map SV.xs) (k: Int) (varRL [t12] []))∧(∀ s ∈ xs_3,s.xs.length≤k+k2)∧(k2≤(varRL [t12] []).length)) _ ⟨H13,0,fam,xs_0,en_0,Le.refl _,rfl,ha.pk Y,hS,hR_0,hF,(by rw [List.drop_zero]),(sv_sz hK.sz),(by omega)⟩ ?_)));intro n19 a w hh;obtain⟨H19,k2,fam2,xs_3,en_3,hle19,hn19,ha,hS,hR_3,hF2,hU,hsz,hk2⟩:=hh;have hsl2_:=fS hR_3;refine wp_seq (wp_seq (ab (Lm Y ha fun a ha=>?_)));refine Lm Y ha fun a ha=>?_;refine lin Y (aD T33.und ha Y Y fun a ha=>?_);refine lin Y (aV (i:=((k2: Nat): Int)) (j:=(((varRL ([t12]) []).length: Nat): Int)) ha Y Y Y fun a ha=>?_);refine wpList_nil (aa (al (t:=47) ha Y (fun h20 ha=>?_) (fun h20 ha=>?_)))
   ·refine ar ha Y (wp_skip (aa (wp_seq (wp_block ?_))));obtain⟨bg21,capg21,curg21,hvg21,heg21,hcg21, -⟩:=hR14.at_ (j:=k2) (by omega);have hAg21:(A14: Option Addr)=some ⟨bg21,0,none⟩:=by injection hvg21
    obtain⟨xg21,hxg21⟩: ∃ x,(varRL ([t12]) [])[k2]? =some x:=⟨_,List.getElem?_eq_getElem (by omega)⟩;have hcg21:=hcg21 0 (iV xg21) (by omega) (bg hxg21);have hxr_:=hrl _ (List.mem_of_getElem? hxg21);obtain⟨sf22,enf22,hsf22,henf22,hRf22⟩:=hF2.get (j:=(Int.toNat xg21)) (by omega);have hS:=Step.expose (Es:= [en14,en_2,en18,en_3,(some b1,(.cells #[(.slice A ts.length c)] 24 (0,0)))]) hS henf22;obtain⟨xf22,bf22,capf22,curf22,hxf22,hvf22,hef22,hcf22⟩:=Row.getG SV.len (by decide) hR_3 (j:=(Int.toNat xg21)) (by omega);obtain rfl: xf22=sf22:=Option.some.inj (hxf22.symm.trans hsf22);have hAf22:((some ⟨b3,0,none⟩): Option Addr)=some ⟨bf22,0,none⟩:=by injection hvf22
    have hszx_:=hsz _ (List.mem_of_getElem? hsf22);have hS:=hS.front 5 rfl;have hS_:=hS;refine As.c_draw_head (ini:=(As.il [(14, [enf22])])) (sup:=(As.sl [])) (als:= [14]) (s0:=⟨H19,fun _=>none⟩) (L:=(en14::en_2::en18::en_3::(some b1,(.cells #[(.slice A ts.length c)] 24 (0,0)))::(fam2.eraseIdx (Int.toNat xg21)))) (N:=121) (E:= [(1,(pB b1)),(3,(iV ((ts.length: Nat): Int))),(4,(.slice (some ⟨b3,0,none⟩) ts.length ts.length)),(5,(.slice (some ⟨b5,0,none⟩) ts.length ts.length)),(6,(.slice A_2 xs_2.length c_2)),(7,(iV ((k: Nat): Int))),(8,(.slice A14 ((varRL ([t12]) []).length) c14)),(9,(iV ((k2: Nat): Int)))]) 15 [FcV (.slice (some ⟨b3,0,none⟩) ts.length ts.length),FcV (.slice A14 ((varRL ([t12]) []).length) c14),FcV (iV ((k2: Nat): Int)),FcV (.pointer (some ⟨bg21,0+k2 * 1,none⟩)),FcV (iV xg21),FcV (.slice (some ⟨b3,0,none⟩) ts.length ts.length),FcV (.slice A14 ((varRL ([t12]) []).length) c14),FcV (iV ((k2: Nat): Int)),FcV (.pointer (some ⟨bg21,0+k2 * 1,none⟩)),FcV (iV xg21),FcV (.pointer (some ⟨bf22,0+(Int.toNat xg21) * 1,none⟩)),FcV (.slice xf22.A xf22.xs.length xf22.c),FcV (iV ((k: Nat): Int)),fun q_ v=>(fun H v=> ∃ b,v=.slice (some ⟨b,0,none⟩) 1 1∧H b=some (.cells #[(iV ((k: Nat): Int))] 3 (0,0))) q_.H v,fun s v=> ∃(A: Option Addr) (c: Nat) (en: Ent),s.ax 14=some [en]∧v=.slice A ((xf22.xs++ [((k: Nat): Int)]).length) c∧Row (.slice A ((xf22.xs++ [((k: Nat): Int)]).length) c) en 3 1 ((xf22.xs++ [((k: Nat): Int)]).length) (ints (xf22.xs++ [((k: Nat): Int)]))] mixed Y Y Y (As.M1 (As.M1 (As.M1 (As.M1 (As.M1 (As.M1 (As.M1 (As.M1 (As.M1 (As.M1 (As.M1 (As.M1 (As.M1 (As.Monos.cons (fun _ _ v hl h=>(fun _ _ _ hl ⟨b,h,hb⟩=>⟨b,h,hl _ _ hb⟩: ∀(H H': PHeap) (v: Value),Le H H'→(fun H v=> ∃ b,v=.slice (some ⟨b,0,none⟩) 1 1∧H b=some (.cells #[(iV ((k: Nat): Int))] 3 (0,0))) H v→(fun H v=> ∃ b,v=.slice (some ⟨b,0,none⟩) 1 1∧H b=some (.cells #[(iV ((k: Nat): Int))] 3 (0,0))) H' v) _ _ _ hl.le h) (As.Monos.cons (fun _ _ _ hl ⟨A,c,en,h,e⟩=>⟨A,c,en,hl.get h,e⟩) (As.Monos.nil)))))))))))))))) (fun _=>rfl) hS (ha.pk Y) (As.QuietsI.c4 ?_ ?_ ?_ ?_ (As.QuietsI.c4 ?_ ?_ ?_ ?_ (As.QuietsI.c4 ?_ ?_ ?_ ?_ (As.QuietsI.c2 ?_ ?_ (As.QuietsI.cons ?_ (As.QuietsI.nil)))))) (fun f_ a w s_ hls hS ha hdr_=>?_)
    ·refine As.Qx Y fun a w H_ ax_ hle hax_ hS ha hd hls=>?_;have hSf:=hS;exact ak ha Y Y fun a ha=>As.ql ha hSf
    ·refine As.Qx Y fun a w H_ ax_ hle hax_ hS ha hd hls=>?_;have hSf:=hS;exact ak ha Y Y fun a ha=>As.ql ha hSf
    ·refine As.Qx Y fun a w H_ ax_ hle hax_ hS ha hd hls=>?_;have hSf:=hS;exact ak ha Y Y fun a ha=>As.ql ha hSf
    ·refine As.Qx1 1 rfl fun a w H_ ax_ hle hax_ hS ha hd hls=>?_;obtain⟨_,ha,rfl⟩:=hd.g ha 2 rfl;have hSf:=hS;exact av (b:=bg21) (o:=0) (j:=k2) T33.und T3 hAg21 ha Y Y (by omega) (by omega) Y fun a ha=>As.ql ha hSf
    ·refine As.Qx1 3 rfl fun a w H_ ax_ hle hax_ hS ha hd hls=>?_;have hSf:=hS;have hS:=Step.dropN _ _ hS;exact ae (v:=(iV xg21)) T3 Y ha Y (hS.blkL 0 (b:=bg21) (o:=.cells curg21 3 (0,0)) (by rw [← heg21];rfl)) hcg21 Y fun a ha=>As.ql ha hSf
    ·refine As.Qx Y fun a w H_ ax_ hle hax_ hS ha hd hls=>?_;have hSf:=hS;exact ak ha Y Y fun a ha=>As.ql ha hSf
    ·refine As.Qx Y fun a w H_ ax_ hle hax_ hS ha hd hls=>?_;have hSf:=hS;exact ak ha Y Y fun a ha=>As.ql ha hSf
    ·refine As.Qx Y fun a w H_ ax_ hle hax_ hS ha hd hls=>?_;have hSf:=hS;exact ak ha Y Y fun a ha=>As.ql ha hSf
    ·refine As.Qx1 6 rfl fun a w H_ ax_ hle hax_ hS ha hd hls=>?_;obtain⟨_,ha,rfl⟩:=hd.g ha 7 rfl;have hSf:=hS;exact av (b:=bg21) (o:=0) (j:=k2) T33.und T3 hAg21 ha Y Y (by omega) (by omega) Y fun a ha=>As.ql ha hSf
    ·refine As.Qx1 8 rfl fun a w H_ ax_ hle hax_ hS ha hd hls=>?_;have hSf:=hS;have hS:=Step.dropN _ _ hS;exact ae (v:=(iV xg21)) T3 Y ha Y (hS.blkL 0 (b:=bg21) (o:=.cells curg21 3 (0,0)) (by rw [← heg21];rfl)) hcg21 Y fun a ha=>As.ql ha hSf
    ·refine As.Qx1 5 rfl fun a w H_ ax_ hle hax_ hS ha hd hls=>?_;obtain⟨_,ha,rfl⟩:=hd.g ha 9 rfl;have hSf:=hS;exact av (b:=bf22) (o:=0) (j:=(Int.toNat xg21)) T144.und T33 hAf22 ha Y Y (by omega) (by omega) Y fun a ha=>As.ql ha hSf
    ·refine As.Qx1 10 rfl fun a w H_ ax_ hle hax_ hS ha hd hls=>?_;have hSf:=hS;have hS:=Step.dropN _ _ hS;exact ae (v:=(.slice xf22.A xf22.xs.length xf22.c)) T33 Y ha Y (hS.blkL 3 (b:=bf22) (o:=.cells curf22 33 (0,0)) (by rw [← hef22];rfl)) (hcf22 0 _ Y) Y fun a ha=>As.ql ha hSf
    ·refine As.Qx Y fun a w H_ ax_ hle hax_ hS ha hd hls=>?_;have hSf:=hS;exact ak ha Y Y fun a ha=>As.ql ha hSf
    ·refine As.Qx1 12 rfl fun a w H_ ax_ hle hax_ hS ha hd hls=>?_;have hSf:=hS;have hSr:=Step.dropN _ _ hS;refine id (aE (vs:= [(0,(iV ((k: Nat): Int)))]) (cells:= [(iV ((k: Nat): Int))]) T33.und T3 hS ha (ha.evp Y) Y Y Y Y fun b24 a w hS ha=>?_);obtain⟨H24,hS,hle24,hb24⟩:=hS.give;exact As.qdone (s:=⟨H_,ax_⟩) hle24 ha hS ⟨_,rfl,hb24⟩
    ·refine As.Qx1 11 rfl fun a w H_ ax_ hle hax_ hS ha hd hls=>?_;obtain⟨_,ha,b24,rfl,hb24⟩:=hd.g ha 13 rfl;have hS: Step w0 H [] w H_ (enf22::(As.aents (As.il [(14, [enf22])]) (As.sl []) [] ax_++As.aents (As.il [(14, [enf22])]) (As.sl []) [] ax_++(en14::en_2::en18::en_3::(some b1,(.cells #[(.slice A ts.length c)] 24 (0,0)))::(fam2.eraseIdx (Int.toNat xg21))))):=As.opn (s:=⟨H_,ax_⟩) [] [14] [] [enf22] rfl (As.con0s hax_ Y) hS;refine id (aW (news:=(ints [((k: Nat): Int)])) (xs:=(ints xf22.xs)) T33.und T3 Y Y hS hRf22 ha Y Y Y (fun _=>⟨b24,0,_,_,_,rfl,hS.blkH hb24,af Y⟩) (bt Y) (by omega) Y Y fun v25 en25 a w hR25 hS ha=>?_);rw [← List.map_append] at hR25;obtain⟨A25,c25,rfl⟩:=hR25.slice;have hn_:(xf22.xs.length+1)=(xf22.xs++ [((k: Nat): Int)]).length:=by have h_:=hR25.1;simp only [List.length_map] at h_;omega
     rw [show Value.slice A25 (xf22.xs.length+1) c25=Value.slice A25 (xf22.xs++ [((k: Nat): Int)]).length c25 from by rw [hn_]] at ha;rw [hn_] at hR25;exact As.qown (i:=14) (dst:=some 64) (s:=⟨H_,ax_⟩) (E:= [en25]) [] [14] [] rfl Y hax_ (Le.refl _) ha.dfr (As.has_at ha) hS As.con1 ⟨_,_,_,rfl,rfl,hR25⟩
    obtain⟨H26,ax_⟩:=s_;have hle26: Le H19 H26:=hls.le;dsimp only at hdr_ hS;obtain⟨_,ha,rfl⟩:=As.Dd ha hdr_ 0 rfl;obtain⟨_,ha,rfl⟩:=As.Dd ha hdr_ 4 rfl;obtain⟨_,ha,A25,c25,en25,hx_25,rfl,hR25⟩:=As.Dd ha hdr_ 14 rfl;have hx_25: ax_ 14=some [en25]:=hx_25;have hS: Step w0 H [] w H26 (en25::en14::en_2::en18::en_3::(some b1,(.cells #[(.slice A ts.length c)] 24 (0,0)))::(fam2.eraseIdx (Int.toNat xg21))):=by
     have h_:=hS;unfold As.aents at h_;simp only [List.flatMap_cons,List.flatMap_nil,As.conE,show (As.sl []) 14=none from rfl,hx_25,Option.isSome_some,Option.getD_some,cond_true,cond_false,List.cons_append,List.nil_append,List.append_nil] at h_;exact h_
    refine any1 (i:=15) (by kernel_rfl) Y Y (av (b:=bf22) (o:=0) (j:=(Int.toNat xg21)) T144.und T33 hAf22 ha Y Y (by omega) (by omega) Y fun a ha=>?_);refine any1 (i:=16) (by kernel_rfl) Y Y (bL (j:=(Int.toNat xg21)) T33 hS (i:=4) Y hR_3 Y hAf22 (by omega) Y ha Y Y Y Y fun en27 a w hR27 he27 hS ha=>?_);rw [show (Value.cells _).toList=SV.cells ⟨A25,c25,(xf22.xs++ [((k: Nat): Int)])⟩ from rfl,splice_sv (by omega)] at hR27;refine any0 (by kernel_rfl) ?_;refine au (aa (ab (Lm Y ha fun a ha=>?_)));refine lin Y (aM (i:=((k2: Nat): Int)) (j:=1) ha Y Y Y (by omega) fun a ha=>?_);refine Ls Y ha fun a ha=>?_;refine wpList_nil (aa (?_));have hS:=hS.front 5 rfl;have hS:=hS.front 5 rfl;have hS:=hS.front 5 rfl;have hS:=hS.front 5 rfl;have hS:=hS.front 5 rfl;have hS:=Step.hide (Es:= [en14,en_2,en18,en27,(some b1,(.cells #[(.slice A ts.length c)] 24 (0,0)))]) (e':=en25) henf22 hS;exact⟨(varRL [t12] []).length - (k2+1),by omega,H26,(k2+1),(fam2.set (Int.toNat xg21) en25),(xs_3.set (Int.toNat xg21) ⟨A25,c25,(xf22.xs++ [((k: Nat): Int)])⟩),en27,(hle19.trans (hle26)),rfl,ha.pk Y,hS,hR27,(Fam.set hF2 (s:=⟨A25,c25,(xf22.xs++ [((k: Nat): Int)])⟩) hR25),(by rw [← hU,usA_cons hxg21,map_sv_set,b0 hsf22]),(dM (fun s hs=>by have:=hsz s hs;omega) (by rw [List.length_append];have:=hsz _ (List.mem_of_getElem? hsf22);simp only [List.length_cons,List.length_nil];omega)),(by omega)⟩
   ·refine an ha Y (wp_exit (ao (ao (aC (aa (wp_seq (ab (Lm Y ha fun a ha=>?_))))))));refine Lm Y ha fun a ha=>?_;obtain⟨b28,cap28,cur28,hv28,he28,hc28, -⟩:=hR18.at_ (j:=k) (by omega);have hA28:((some ⟨b5,0,none⟩): Option Addr)=some ⟨b28,0,none⟩:=by injection hv28
    obtain⟨x28,hx28⟩: ∃ x,(xs_1.set k (((varRL ([t12]) []).length: Nat): Int))[k]? =some x:=⟨_,List.getElem?_eq_getElem (by first | omega |(simp;omega))⟩;have hc28:=hc28 0 (iV x28) (by omega) (bg hx28);refine lin Y (av (b:=b28) (o:=0) (j:=k) T33.und T3 hA28 ha Y Y (by omega) (by omega) Y fun a ha=>?_);refine lin Y (ae (v:=(iV x28)) T3 Y ha Y (hS.blkL 2 (b:=b28) (o:=.cells cur28 3 (0,0)) (by rw [← he28];rfl)) hc28 Y fun a ha=>?_);refine lin Y (aX (i:=x28) (j:=0) ha Y Y Y fun a ha=>?_);refine wpList_nil (aa (al (t:=70) ha Y (fun h29 ha=>?_) (fun h29 ha=>?_)))
    ·refine ar ha Y (ab (Lm Y ha fun a ha=>?_));refine Lm Y ha fun a ha=>?_;refine lin Y (aE (vs:= [(0,(iV ((k: Nat): Int)))]) (cells:= [(iV ((k: Nat): Int))]) T33.und T3 hS ha (ha.evp Y) Y Y Y Y fun b30 a w hS ha=>?_);obtain⟨H30,hS,hle30,hb30⟩:=hS.give;have hr30: RowI H30 (some ⟨b30,0,none⟩) 1 [((k: Nat): Int)]:=RowI.of_lit [((k: Nat): Int)] hb30 (by simp) Y;have hS:=hS.front 1 rfl;refine lin Y (aW (news:=(ints [((k: Nat): Int)])) (xs:=(ints xs_2)) T33.und T3 Y Y hS hR_2 ha Y Y Y (fun _=>⟨b30,0,_,_,_,rfl,hS.blkH hb30,af Y⟩) (bt Y) (by omega) Y Y fun v31 en31 a w hR31 hS ha=>?_);rw [← List.map_append] at hR31;obtain⟨A31,c31,rfl⟩:=hR31.slice;have hn_:(xs_2.length+1)=(xs_2++ [((k: Nat): Int)]).length:=by have h_:=hR31.1;simp only [List.length_map] at h_;omega
     rw [show Value.slice A31 (xs_2.length+1) c31=Value.slice A31 (xs_2++ [((k: Nat): Int)]).length c31 from by rw [hn_]] at ha;rw [hn_] at hR31;refine Ls Y ha fun a ha=>?_;refine wpList_nil (au (aa (ab (Lm Y ha fun a ha=>?_))));refine lin Y (aM (i:=((k: Nat): Int)) (j:=1) ha Y Y Y (by omega) fun a ha=>?_);refine Ls Y ha fun a ha=>?_;refine wpList_nil (aa (?_));have hye_:=dr hx28;have hK':=hK.step hG (by omega);rw [hdp_,← hU,List.drop_of_length_le (show (varRL [t12] []).length≤k2 by omega),usA] at hK';rw [hye_] at h29;rw [if_pos h29] at hK';have hS:=hS.front 1 rfl;have hS:=hS.drop;exact⟨ts.length - (k+1),by omega,H30,(k+1),fam2,xs_3,en_3,(xs_1.set k (((varRL ([t12]) []).length: Nat): Int)),en18,(xs_2++ [((k: Nat): Int)]),en31,A31,c31,(hle8.trans (hle13.trans (hle19.trans (hle30)))),rfl,ha.pk Y,hS,hR_3,hR18,(by first | exact hL_1 |(rw [List.length_set];exact hL_1)),(by simpa using hR31),hF2,hK',(dM hbn (by omega)),(by omega)⟩
    ·refine an ha Y (wp_skip (au (aa (ab (Lm Y ha fun a ha=>?_)))));refine lin Y (aM (i:=((k: Nat): Int)) (j:=1) ha Y Y Y (by omega) fun a ha=>?_);refine Ls Y ha fun a ha=>?_;refine wpList_nil (aa (?_));have hye_:=dr hx28;have hK':=hK.step hG (by omega);rw [hdp_,← hU,List.drop_of_length_le (show (varRL [t12] []).length≤k2 by omega),usA] at hK';rw [hye_] at h29;rw [if_neg h29] at hK';have hS:=hS.drop;exact⟨ts.length - (k+1),by omega,H19,(k+1),fam2,xs_3,en_3,(xs_1.set k (((varRL ([t12]) []).length: Nat): Int)),en18,xs_2,en_2,A_2,c_2,(hle8.trans (hle13.trans (hle19))),rfl,ha.pk Y,hS,hR_3,hR18,(by first | exact hL_1 |(rw [List.length_set];exact hL_1)),(by simpa using hR_2),hF2,hK',(dM hbn (by omega)),(by omega)⟩
  ·have hdp_:=dps_free ht10 h11;refine an ha Y (wp_skip (aa (wp_seq (ab (Lm Y ha fun a ha=>?_)))));refine Lm Y ha fun a ha=>?_;obtain⟨b32,cap32,cur32,hv32,he32,hc32, -⟩:=hR_1.at_ (j:=k) (by omega);have hA32:((some ⟨b5,0,none⟩): Option Addr)=some ⟨b32,0,none⟩:=by injection hv32
   obtain⟨x32,hx32⟩: ∃ x,xs_1[k]? =some x:=⟨_,List.getElem?_eq_getElem (by first | omega |(simp;omega))⟩;have hc32:=hc32 0 (iV x32) (by omega) (bg hx32);refine lin Y (av (b:=b32) (o:=0) (j:=k) T33.und T3 hA32 ha Y Y (by omega) (by omega) Y fun a ha=>?_);refine lin Y (ae (v:=(iV x32)) T3 Y ha Y (hS.blkL 1 (b:=b32) (o:=.cells cur32 3 (0,0)) (by rw [← he32];rfl)) hc32 Y fun a ha=>?_);refine lin Y (aX (i:=x32) (j:=0) ha Y Y Y fun a ha=>?_);refine wpList_nil (aa (al (t:=70) ha Y (fun h33 ha=>?_) (fun h33 ha=>?_)))
   ·refine ar ha Y (ab (Lm Y ha fun a ha=>?_));refine Lm Y ha fun a ha=>?_;refine lin Y (aE (vs:= [(0,(iV ((k: Nat): Int)))]) (cells:= [(iV ((k: Nat): Int))]) T33.und T3 hS ha (ha.evp Y) Y Y Y Y fun b34 a w hS ha=>?_);obtain⟨H34,hS,hle34,hb34⟩:=hS.give;have hr34: RowI H34 (some ⟨b34,0,none⟩) 1 [((k: Nat): Int)]:=RowI.of_lit [((k: Nat): Int)] hb34 (by simp) Y;refine lin Y (aW (news:=(ints [((k: Nat): Int)])) (xs:=(ints xs_2)) T33.und T3 Y Y hS hR_2 ha Y Y Y (fun _=>⟨b34,0,_,_,_,rfl,hS.blkH hb34,af Y⟩) (bt Y) (by omega) Y Y fun v35 en35 a w hR35 hS ha=>?_);rw [← List.map_append] at hR35;obtain⟨A35,c35,rfl⟩:=hR35.slice;have hn_:(xs_2.length+1)=(xs_2++ [((k: Nat): Int)]).length:=by have h_:=hR35.1;simp only [List.length_map] at h_;omega
    rw [show Value.slice A35 (xs_2.length+1) c35=Value.slice A35 (xs_2++ [((k: Nat): Int)]).length c35 from by rw [hn_]] at ha;rw [hn_] at hR35;refine Ls Y ha fun a ha=>?_;refine wpList_nil (au (aa (ab (Lm Y ha fun a ha=>?_))));refine lin Y (aM (i:=((k: Nat): Int)) (j:=1) ha Y Y Y (by omega) fun a ha=>?_);refine Ls Y ha fun a ha=>?_;refine wpList_nil (aa (?_));exact⟨ts.length - (k+1),by omega,H34,(k+1),fam,xs_0,en_0,xs_1,en_1,(xs_2++ [((k: Nat): Int)]),en35,A35,c35,(hle8.trans (hle34)),rfl,ha.pk Y,hS,hR_0,hR_1,(by first | exact hL_1 |(rw [List.length_set];exact hL_1)),(by simpa using hR35),hF,(hK.free hG (by omega) hdp_),hbn,(by omega)⟩
   ·refine an ha Y (wp_skip (au (aa (ab (Lm Y ha fun a ha=>?_)))));refine lin Y (aM (i:=((k: Nat): Int)) (j:=1) ha Y Y Y (by omega) fun a ha=>?_);refine Ls Y ha fun a ha=>?_;refine wpList_nil (aa (?_));have hf_: False:=absurd (Option.some.inj (hx32.symm.trans (hK.at_ (by omega)))) h33;exact⟨ts.length - (k+1),by omega,H8,(k+1),fam,xs_0,en_0,xs_1,en_1,xs_2,en_2,A_2,c_2,(hle8),rfl,ha.pk Y,hS,hR_0,hR_1,(by first | exact hL_1 |(rw [List.length_set];exact hL_1)),(by simpa using hR_2),hF,hf_.elim,hbn,(by omega)⟩
 ·refine an ha Y (wp_exit (ao (ao (aC (aa (wp_seq (ab (Ls Y ha fun a ha=>?_))))))));refine wpList_nil (aa (wp_seq (wp_block ?_)));have hKI:=(show k=ts.length by omega) ▸ hK;have hKI:=K0.done hKI;refine aN (fun nn_ a w=> ∃(H36: PHeap),∃(d: Nat),∃(fam4: List Ent),∃(xs_4: List SV),∃(en_4: Ent),∃(xs_5: List Int),∃(en_5: Ent),∃(xs_6: List Int),∃(en_6: Ent),∃(A_6: Option Addr),∃(c_6: Nat),Le H8 H36∧nn_=ts.length - d∧Has [] a 121 [(3,(iV ((ts.length: Nat): Int))),(4,(.slice (some ⟨b3,0,none⟩) ts.length ts.length)),(5,(.slice (some ⟨b5,0,none⟩) ts.length ts.length)),(6,(.slice A_6 xs_6.length c_6)),(10,(iV ((d: Nat): Int)))]∧Step w0 H [] w H36 (en_6::en_5::en_4::(some b1,(.cells #[(.slice A ts.length c)] 24 (0,0)))::fam4)∧(Row (.slice (some ⟨b3,0,none⟩) ts.length ts.length) en_4 33 1 ts.length (gfl SV.cells xs_4))∧(Row (.slice (some ⟨b5,0,none⟩) ts.length ts.length) en_5 3 1 ts.length (ints xs_5))∧(xs_5.length=ts.length)∧(Row (.slice A_6 xs_6.length c_6) en_6 3 1 xs_6.length (ints xs_6))∧(Fam 3 xs_4 fam4)∧(KI ts d (xs_4.map SV.xs) xs_5 xs_6)∧(∀ y ∈ xs_5, -(400000000 *(d: Nat): Int)≤y∧y≤4000)) _ ⟨H8,0,fam,xs_0,en_0,xs_1,en_1,xs_2,en_2,A_2,c_2,Le.refl _,rfl,ha.pk Y,hS,hR_0,hR_1,hL_1,(by simpa using hR_2),hF,hKI,(fun y hy=>by have:=hbn y hy;omega)⟩ ?_;intro n36 a w hh;obtain⟨H36,d,fam4,xs_4,en_4,xs_5,en_5,xs_6,en_6,A_6,c_6,hle36,hn36,ha,hS,hR_4,hR_5,hL_5,hR_6,hF4,hI4,hb4⟩:=hh;have hsl4_:=fS hR_4;have hnl4_:=hI4.len;have hdl4_:=hI4.le;have hrg4: ∀ y ∈ xs_6,0≤y∧y.toNat < ts.length:=fun y hy=>by have:=hI4.rg y hy;omega
  refine wp_seq (wp_seq (ab (Lm Y ha fun a ha=>?_)));refine Lm Y ha fun a ha=>?_;refine lin Y (aD T33.und ha Y Y fun a ha=>?_);refine lin Y (aV (i:=((d: Nat): Int)) (j:=((xs_6.length: Nat): Int)) ha Y Y Y fun a ha=>?_);refine wpList_nil (aa (al (t:=78) ha Y (fun h37 ha=>?_) (fun h37 ha=>?_)))
  ·refine ar ha Y (wp_skip (aa (wp_block (wp_seq (ab (Lm Y ha fun a ha=>?_))))));refine Lm Y ha fun a ha=>?_;refine Lm Y ha fun a ha=>?_;obtain⟨b38,cap38,cur38,hv38,he38,hc38, -⟩:=hR_6.at_ (j:=d) (by omega);have hA38:(A_6: Option Addr)=some ⟨b38,0,none⟩:=by injection hv38
   obtain⟨x38,hx38⟩: ∃ x,xs_6[d]? =some x:=⟨_,List.getElem?_eq_getElem (by first | omega |(simp;omega))⟩;have hc38:=hc38 0 (iV x38) (by omega) (bg hx38);refine lin Y (av (b:=b38) (o:=0) (j:=d) T33.und T3 hA38 ha Y Y (by omega) (by omega) Y fun a ha=>?_);have hrg38:=hrg4 _ (List.mem_of_getElem? hx38);refine lin Y (ae (v:=(iV x38)) T3 Y ha Y (hS.blkL 0 (b:=b38) (o:=.cells cur38 3 (0,0)) (by rw [← he38];rfl)) hc38 Y fun a ha=>?_);obtain⟨sf39,enf39,hsf39,henf39,hRf39⟩:=hF4.get (j:=(Int.toNat x38)) (by omega);have hS:=Step.expose (Es:= [en_6,en_5,en_4,(some b1,(.cells #[(.slice A ts.length c)] 24 (0,0)))]) hS henf39;obtain⟨xf39,bf39,capf39,curf39,hxf39,hvf39,hef39,hcf39⟩:=Row.getG SV.len (by decide) hR_4 (j:=(Int.toNat x38)) (by omega);obtain rfl: xf39=sf39:=Option.some.inj (hxf39.symm.trans hsf39);have hAf39:((some ⟨b3,0,none⟩): Option Addr)=some ⟨bf39,0,none⟩:=by injection hvf39
   refine lin Y (av (b:=bf39) (o:=0) (j:=(Int.toNat x38)) T144.und T33 hAf39 ha Y Y (by omega) (by omega) Y fun a ha=>?_);refine lin Y (ae (v:=(.slice xf39.A xf39.xs.length xf39.c)) T33 Y ha Y (hS.blkL 2 (b:=bf39) (o:=.cells curf39 33 (0,0)) (by rw [← hef39];rfl)) (hcf39 0 _ Y) Y fun a ha=>?_);refine Ls Y ha fun a ha=>?_;refine wpList_nil (aa (wp_seq (wp_seq (ab (Ls Y ha fun a ha=>?_)))));refine wpList_nil (aa (wp_block ?_));have hzl_:=hI4.sz (Int.toNat x38);rw [b0 hsf39] at hzl_;have hrs_: ∀ y ∈ xf39.xs,0≤y∧y.toNat < ts.length:=fun y hy=>by
    have h_:=(hI4.mem (Int.toNat x38) y).1 (by rw [b0 hsf39];exact hy);obtain⟨m,h1,h2,_⟩:=h_;omega
   refine aN (fun nn_ a w=> ∃(H41: PHeap),∃(k6: Nat),∃(xs_7: List Int),∃(en_7: Ent),∃(xs_8: List Int),∃(en_8: Ent),∃(A_8: Option Addr),∃(c_8: Nat),Le H36 H41∧nn_=xf39.xs.length - k6∧Has [] a 121 [(3,(iV ((ts.length: Nat): Int))),(4,(.slice (some ⟨b3,0,none⟩) ts.length ts.length)),(5,(.slice (some ⟨b5,0,none⟩) ts.length ts.length)),(6,(.slice A_8 xs_8.length c_8)),(10,(iV ((d: Nat): Int))),(11,(.slice xf39.A xf39.xs.length xf39.c)),(12,(iV ((k6: Nat): Int)))]∧Step w0 H [] w H41 (en_8::en_7::en_4::(some b1,(.cells #[(.slice A ts.length c)] 24 (0,0)))::enf39::(fam4.eraseIdx (Int.toNat x38)))∧(Row (.slice (some ⟨b5,0,none⟩) ts.length ts.length) en_7 3 1 ts.length (ints xs_7))∧(xs_7.length=ts.length)∧(Row (.slice A_8 xs_8.length c_8) en_8 3 1 xs_8.length (ints xs_8))∧(khN (xf39.xs.drop k6) xs_7 xs_8=khN xf39.xs xs_5 xs_6)∧(∀ y ∈ xs_7, -(400000000 *(d: Nat)+k6: Int)≤y∧y≤4000)∧(xs_8.length≤xs_6.length+k6)∧(k6≤xf39.xs.length)) _ ⟨H36,0,xs_5,en_5,xs_6,en_6,A_6,c_6,Le.refl _,rfl,ha.pk Y,hS,hR_5,hL_5,(by simpa using hR_6),(by rw [List.drop_zero]),(fun y hy=>by have:=hb4 y hy;omega),(by omega),(by omega)⟩ ?_;intro n41 a w hh;obtain⟨H41,k6,xs_7,en_7,xs_8,en_8,A_8,c_8,hle41,hn41,ha,hS,hR_7,hL_7,hR_8,hN,hb7,hln8,hk6⟩:=hh;refine wp_seq (wp_seq (ab (Lm Y ha fun a ha=>?_)));refine Lm Y ha fun a ha=>?_;refine lin Y (aD T33.und ha Y Y fun a ha=>?_);refine lin Y (aV (i:=((k6: Nat): Int)) (j:=((xf39.xs.length: Nat): Int)) ha Y Y Y fun a ha=>?_);refine wpList_nil (aa (al (t:=89) ha Y (fun h42 ha=>?_) (fun h42 ha=>?_)))
   ·refine ar ha Y (wp_skip (aa (wp_seq (wp_block (wp_seq (ab (Lm Y ha fun a ha=>?_)))))));refine Lm Y ha fun a ha=>?_;refine Lm Y ha fun a ha=>?_;obtain⟨b43,cap43,cur43,hv43,he43,hc43, -⟩:=hRf39.at_ (j:=k6) (by omega);have hA43:(xf39.A: Option Addr)=some ⟨b43,0,none⟩:=by injection hv43
    obtain⟨x43,hx43⟩: ∃ x,xf39.xs[k6]? =some x:=⟨_,List.getElem?_eq_getElem (by first | omega |(simp;omega))⟩;have hc43:=hc43 0 (iV x43) (by omega) (bg hx43);refine lin Y (av (b:=b43) (o:=0) (j:=k6) T33.und T3 hA43 ha Y Y (by omega) (by omega) Y fun a ha=>?_);have hrg43:=hrs_ _ (List.mem_of_getElem? hx43);refine lin Y (ae (v:=(iV x43)) T3 Y ha Y (hS.blkL 4 (b:=b43) (o:=.cells cur43 3 (0,0)) (by rw [← he43];rfl)) hc43 Y fun a ha=>?_);obtain⟨b44,cap44,cur44,hv44,he44,hc44, -⟩:=hR_7.at_ (j:=(Int.toNat x43)) (by omega);have hA44:((some ⟨b5,0,none⟩): Option Addr)=some ⟨b44,0,none⟩:=by injection hv44
    obtain⟨x44,hx44⟩: ∃ x,xs_7[(Int.toNat x43)]? =some x:=⟨_,List.getElem?_eq_getElem (by first | omega |(simp;omega))⟩;have hc44:=hc44 0 (iV x44) (by omega) (bg hx44);refine lin Y (av (b:=b44) (o:=0) (j:=(Int.toNat x43)) T33.und T3 hA44 ha Y Y (by omega) (by omega) Y fun a ha=>?_);have hby_:=hb7 _ (List.mem_of_getElem? hx44);refine lin Y (ae (v:=(iV x44)) T3 Y ha Y (hS.blkL 1 (b:=b44) (o:=.cells cur44 3 (0,0)) (by rw [← he44];rfl)) hc44 Y fun a ha=>?_);refine lin Y (bA (i:=x44) (j:=1) ha Y Y Y (by omega) fun a ha=>?_);obtain⟨b45,cap45,cur45,hv45,he45,hc45, -⟩:=hR_7.at_ (j:=(Int.toNat x43)) (by omega);have hA45:((some ⟨b5,0,none⟩): Option Addr)=some ⟨b45,0,none⟩:=by injection hv45
    obtain⟨x45,hx45⟩: ∃ x,xs_7[(Int.toNat x43)]? =some x:=⟨_,List.getElem?_eq_getElem (by first | omega |(simp;omega))⟩;have hc45:=hc45 0 (iV x45) (by omega) (bg hx45);refine lin Y (av (b:=b45) (o:=0) (j:=(Int.toNat x43)) T33.und T3 hA45 ha Y Y (by omega) (by omega) Y fun a ha=>?_);refine lin Y (bL (j:=(Int.toNat x43)) T3 hS (i:=1) Y hR_7 Y hA45 (by omega) Y ha Y Y Y Y fun en46 a w hR46 he46 hS ha=>?_);rw [show (Value.cells _).toList= [.int .i64 (x44 - 1)] from rfl,cE (by first | omega |(simp;omega))] at hR46;refine wpList_nil (aa (wp_seq (ab (Lm Y ha fun a ha=>?_))));refine Lm Y ha fun a ha=>?_;refine Lm Y ha fun a ha=>?_;obtain⟨b47,cap47,cur47,hv47,he47,hc47, -⟩:=hRf39.at_ (j:=k6) (by omega);have hA47:(xf39.A: Option Addr)=some ⟨b47,0,none⟩:=by injection hv47
    obtain⟨x47,hx47⟩: ∃ x,xf39.xs[k6]? =some x:=⟨_,List.getElem?_eq_getElem (by first | omega |(simp;omega))⟩;have hc47:=hc47 0 (iV x47) (by omega) (bg hx47);refine lin Y (av (b:=b47) (o:=0) (j:=k6) T33.und T3 hA47 ha Y Y (by omega) (by omega) Y fun a ha=>?_);have hrg47:=hrs_ _ (List.mem_of_getElem? hx47);have hxe47: x47=x43:=Option.some.inj (hx47.symm.trans hx43);refine lin Y (ae (v:=(iV x47)) T3 Y ha Y (hS.blkL 4 (b:=b47) (o:=.cells cur47 3 (0,0)) (by rw [← he47];rfl)) hc47 Y fun a ha=>?_);obtain⟨b48,cap48,cur48,hv48,he48,hc48, -⟩:=hR46.at_ (j:=(Int.toNat x47)) (by omega);have hA48:((some ⟨b5,0,none⟩): Option Addr)=some ⟨b48,0,none⟩:=by injection hv48
    obtain⟨x48,hx48⟩: ∃ x,(xs_7.set (Int.toNat x43) (x44 - 1))[(Int.toNat x47)]? =some x:=⟨_,List.getElem?_eq_getElem (by first | omega |(simp;omega))⟩;have hc48:=hc48 0 (iV x48) (by omega) (bg hx48);refine lin Y (av (b:=b48) (o:=0) (j:=(Int.toNat x47)) T33.und T3 hA48 ha Y Y (by omega) (by omega) Y fun a ha=>?_);refine lin Y (ae (v:=(iV x48)) T3 Y ha Y (hS.blkL 1 (b:=b48) (o:=.cells cur48 3 (0,0)) (by rw [← he48];rfl)) hc48 Y fun a ha=>?_);refine lin Y (aX (i:=x48) (j:=0) ha Y Y Y fun a ha=>?_);refine wpList_nil (aa (al (t:=108) ha Y (fun h49 ha=>?_) (fun h49 ha=>?_)))
    ·refine ar ha Y (ab (Lm Y ha fun a ha=>?_));refine Lm Y ha fun a ha=>?_;refine Lm Y ha fun a ha=>?_;obtain⟨b50,cap50,cur50,hv50,he50,hc50, -⟩:=hRf39.at_ (j:=k6) (by omega);have hA50:(xf39.A: Option Addr)=some ⟨b50,0,none⟩:=by injection hv50
     obtain⟨x50,hx50⟩: ∃ x,xf39.xs[k6]? =some x:=⟨_,List.getElem?_eq_getElem (by first | omega |(simp;omega))⟩;have hc50:=hc50 0 (iV x50) (by omega) (bg hx50);refine lin Y (av (b:=b50) (o:=0) (j:=k6) T33.und T3 hA50 ha Y Y (by omega) (by omega) Y fun a ha=>?_);have hrg50:=hrs_ _ (List.mem_of_getElem? hx50);have hxe50: x50=x43:=Option.some.inj (hx50.symm.trans hx43);refine lin Y (ae (v:=(iV x50)) T3 Y ha Y (hS.blkL 4 (b:=b50) (o:=.cells cur50 3 (0,0)) (by rw [← he50];rfl)) hc50 Y fun a ha=>?_);refine lin Y (aE (vs:= [(0,(iV x50))]) (cells:= [(iV x50)]) T33.und T3 hS ha (ha.evp Y) Y Y Y Y fun b51 a w hS ha=>?_);obtain⟨H51,hS,hle51,hb51⟩:=hS.give;have hr51: RowI H51 (some ⟨b51,0,none⟩) 1 [x50]:=RowI.of_lit [x50] hb51 (by simp) Y;refine lin Y (aW (news:=(ints [x50])) (xs:=(ints xs_8)) T33.und T3 Y Y hS hR_8 ha Y Y Y (fun _=>⟨b51,0,_,_,_,rfl,hS.blkH hb51,af Y⟩) (bt Y) (by omega) Y Y fun v52 en52 a w hR52 hS ha=>?_);rw [← List.map_append] at hR52;obtain⟨A52,c52,rfl⟩:=hR52.slice;have hn_:(xs_8.length+1)=(xs_8++ [x50]).length:=by have h_:=hR52.1;simp only [List.length_map] at h_;omega
     rw [show Value.slice A52 (xs_8.length+1) c52=Value.slice A52 (xs_8++ [x50]).length c52 from by rw [hn_]] at ha;rw [hn_] at hR52;refine Ls Y ha fun a ha=>?_;refine wpList_nil (au (aa (ab (Lm Y ha fun a ha=>?_))));refine lin Y (aM (i:=((k6: Nat): Int)) (j:=1) ha Y Y Y (by omega) fun a ha=>?_);refine Ls Y ha fun a ha=>?_;refine wpList_nil (aa (?_));rw [hxe47] at hx48;have hye_:=dr hx48;rw [hye_] at h49;have hmk_:=mrk_at hx44;exact⟨xf39.xs.length - (k6+1),by omega,H51,(k6+1),(xs_7.set (Int.toNat x43) (x44 - 1)),en46,(xs_8++ [x50]),en52,A52,c52,(hle41.trans (hle51)),rfl,ha.pk Y,hS,hR46,(by rw [List.length_set];exact hL_7),(by simpa using hR52),(by rw [hxe50,← hN,khN_cons hx43,hmk_,if_pos h49]),(dM (fun y hy=>by have:=hb7 y hy;omega) (by omega)),(by rw [List.length_append];simp only [List.length_cons,List.length_nil];omega),(by omega)⟩
    ·refine an ha Y (wp_skip (au (aa (ab (Lm Y ha fun a ha=>?_)))));refine lin Y (aM (i:=((k6: Nat): Int)) (j:=1) ha Y Y Y (by omega) fun a ha=>?_);refine Ls Y ha fun a ha=>?_;refine wpList_nil (aa (?_));rw [hxe47] at hx48;have hye_:=dr hx48;rw [hye_] at h49;have hmk_:=mrk_at hx44;exact⟨xf39.xs.length - (k6+1),by omega,H41,(k6+1),(xs_7.set (Int.toNat x43) (x44 - 1)),en46,xs_8,en_8,A_8,c_8,(hle41),rfl,ha.pk Y,hS,hR46,(by rw [List.length_set];exact hL_7),(by simpa using hR_8),(by rw [← hN,khN_cons hx43,hmk_,if_neg h49]),(dM (fun y hy=>by have:=hb7 y hy;omega) (by omega)),(by omega),(by omega)⟩
   ·refine an ha Y (wp_exit (ao (ao (aC (aa (ab (Lm Y ha fun a ha=>?_)))))));refine lin Y (aM (i:=((d: Nat): Int)) (j:=1) ha Y Y Y (by omega) fun a ha=>?_);refine Ls Y ha fun a ha=>?_;refine wpList_nil (au (aa (?_)));have hS:=Step.hide (Es:= [en_8,en_7,en_4,(some b1,(.cells #[(.slice A ts.length c)] 24 (0,0)))]) (e':=enf39) henf39 hS;rw [set_same henf39] at hS;have hst_:=hI4.step hG hx38;rw [b0 hsf39,← hN,List.drop_of_length_le (show xf39.xs.length≤k6 by omega)] at hst_;exact⟨ts.length - (d+1),by omega,H41,(d+1),fam4,xs_4,en_4,xs_7,en_7,xs_8,en_8,A_8,c_8,(hle36.trans (hle41)),rfl,ha.pk Y,hS,hR_4,hR_7,hL_7,(by simpa using hR_8),hF4,hst_,(fun y hy=>by have:=hb7 y hy;omega)⟩
  ·refine an ha Y (wp_exit (ao (ao (aC (aa (wp_seq (ab (Lm Y ha fun a ha=>?_))))))));refine Lm Y ha fun a ha=>?_;refine lin Y (aX (i:=((d: Nat): Int)) (j:=((ts.length: Nat): Int)) ha Y Y Y fun a ha=>?_);refine Ls Y ha fun a ha=>?_;refine wpList_nil (aa (wp_ret (ret1 Y ha Y ?_)));refine⟨congrArg _ (congrArg _ ?_),hS.plain.drop_all⟩;exact(hI4.acycB hG (by omega)).symm
end Go.Vk.Tryz
namespace Go.Vk.Tryz
open Go.RowKit
theorem el_alg {a b r: Bool} (h:(!a||b)=r):(false||(a&&!b))=!r:=by subst h;cases a <;> cases b <;> rfl
set_option maxHeartbeats 1000000 in
theorem c_Is {w0: World} {H: PHeap} (hI: Inv w0 H []) {A: Option Addr} {c: Nat} {ts: List Tm} (hr: RowT H A c ts) (hsb: ∀ t ∈ ts,t.sz≤1000000000000∧strB t=true): Calls prog 45 #[(.agg #[(.slice A ts.length c)])] w0 (Rs w0 H (.bool (isB ts))):=by
 have hS:=Step.refl hI;have hlr:=hr.len;refine enter [(.agg #[(.slice A ts.length c)])] func45 Y ntmps45 Y fun a ha=>?_;refine wp_seq (ab (lin Y (aG (cs:= #[(.slice A ts.length c)]) hS ha Y Y Y fun b1 a w hS ha=>?_)));refine Ls Y ha fun a ha=>?_;refine wpList_nil (aa (wp_seq (ab (lin Y (ac (f:=0) (o2:=0) T24 T22 Y Y Y Y ha Y Y fun a ha=>?_)))));refine lin Y (ae (v:=(.slice A ts.length c)) T22 Y ha Y (hS.blkL 0 rfl) Y Y fun a ha=>?_);refine lin Y (aD T22.und ha Y Y fun a ha=>?_);refine Ls Y ha fun a ha=>?_;refine wpList_nil (aa (wp_seq (wp_seq (ab (Lm Y ha fun a ha=>?_)))));refine lin Y (cI (i:=((ts.length: Nat): Int)) (j:=100000) ha Y Y Y fun a ha=>?_);refine wpList_nil (aa (al (t:=10) ha Y (fun h3 ha=>?_) (fun h3 ha=>?_)))
 ·refine ar ha Y (wp_seq (ab (Ls Y ha fun a ha=>?_)));refine wpList_nil (aa (wp_ret (aj (ret1 Y ha Y ?_))));refine⟨congrArg _ (congrArg _ ?_),hS.plain.drop_all⟩;unfold isB;rw [decide_eq_false (by omega)];rfl
 ·refine an ha Y (wp_skip (aa (wp_seq (wp_seq (ab (Ls Y ha fun a ha=>?_))))));refine wpList_nil (aa (wp_block ?_));refine aN (fun nn_ a w=> ∃(k: Nat),nn_=ts.length - k∧Has [] a 40 [(1,(pB b1)),(3,(iV ((ts.length: Nat): Int))),(4,(iV ((k: Nat): Int)))]∧Step w0 H [] w H [(some b1,(.cells #[(.slice A ts.length c)] 24 (0,0)))]∧(elsU ts.length k (ts.drop k)=elsU ts.length 0 ts)∧(k≤ts.length)) _ ⟨0,rfl,ha.pk Y,hS,rfl,by omega⟩ ?_;intro n4 a w hh;obtain⟨k,hn4,ha,hS,hE,hk⟩:=hh;refine wp_seq (wp_seq (ab (Lm Y ha fun a ha=>?_)));refine Lm Y ha fun a ha=>?_;refine lin Y (aV (i:=((k: Nat): Int)) (j:=((ts.length: Nat): Int)) ha Y Y Y fun a ha=>?_);refine wpList_nil (aa (al (t:=13) ha Y (fun h5 ha=>?_) (fun h5 ha=>?_)))
  ·refine ar ha Y (wp_skip (aa (wp_seq (wp_block (wp_seq (ab (lin Y (ac (f:=0) (o2:=0) T24 T22 Y Y Y Y ha Y Y fun a ha=>?_))))))));refine lin Y (ae (v:=(.slice A ts.length c)) T22 Y ha Y (hS.blkL 0 rfl) Y Y fun a ha=>?_);refine Lm Y ha fun a ha=>?_;obtain⟨t6,b6,off6,e6,cs6,fz6,A6,c6,ht6,hA6,hb6,hc6,hr6⟩:=hr.get (j:=k) (by omega);refine lin Y (av (b:=b6) (o:=off6) (j:=k) T22.und T26 hA6 ha Y Y (by omega) (by omega) Y fun a ha=>?_);refine lin Y (ah (vs:=(tL t6 A6 c6)) T26 Y ha Y (hS.blkH hb6) Y hc6 Y fun a ha=>?_);refine lin Y (aF (cs:=aZ) T26 hS ha Y Y fun b7 a w hS ha=>?_);refine lin Y (aw (cs':=(tA t6 A6 c6)) T26 hS (i:=0) Y ha Y Y Y Y Y Y fun a w hS ha=>?_);refine wpList_nil (aa (wp_seq (wp_seq (ab (lin Y (ah (vs:=(tL t6 A6 c6)) T26 Y ha Y (hS.blkL 0 rfl) Y (af Y) Y fun a ha=>?_))))));refine lin Y (Cs func88 ha Y (c_RFree hS.inv.nil hr6) hS fun a w ha hS=>?_);refine wpList_nil (aa (aq (t:=22) ha Y (fun h9 ha=>?_) (fun h9 ha=>?_)))
   ·refine ar ha Y (wp_exit (ao (aC (aa (ab (Lm Y ha fun a ha=>?_))))));refine lin Y (aM (i:=((k: Nat): Int)) (j:=1) ha Y Y Y (by omega) fun a ha=>?_);refine Ls Y ha fun a ha=>?_;refine wpList_nil (aa (?_));have hfe: elU ts.length k t6=true:=by
     have hf_: freeB t6=true:=by simpa using h9
     unfold elU okT;rw [hf_];rfl
    have hS:=hS.drop;exact⟨ts.length - (k+1),by omega,(k+1),rfl,ha.pk Y,hS,(by rw [← hE,bO ht6,hfe,Bool.true_and]),(by omega)⟩
   ·refine an ha Y (wp_skip (aa (wp_seq (bV (w0:=w0) (H0:=H) (L0:= []) (H:=H) (L:= [(some b7,(.cells (tA t6 A6 c6) 26 (0,0))),(some b1,(.cells #[(.slice A ts.length c)] 24 (0,0)))]) (D:= []) (N:=40) (E:= [(1,(pB b1)),(3,(iV ((ts.length: Nat): Int))),(4,(iV ((k: Nat): Int))),(5,(pB b7)),(37,(.bool ((!(isR t6&&overR ((ts.length: Nat): Int) t6))||((decide (t6.kind=1))&&(decide (((k: Nat): Int)≤t6.n))))))]) (fun a w hS ha=>?_) ?_))));rotate_left
    ·refine lin Y (ah (vs:=(tL t6 A6 c6)) T26 Y ha Y (hS.blkL 0 rfl) Y (af Y) Y fun a ha=>?_);refine Lm Y ha fun a ha=>?_;refine lin Y (Cs func46 ha Y (eQ hS.inv.nil hr6 (hsb _ (List.mem_of_getElem? ht6)).1 (hsb _ (List.mem_of_getElem? ht6)).2) hS fun a w ha hS=>?_);refine lin Y (aP ha Y Y fun a ha=>?_);refine Lm Y ha fun a ha=>?_;refine aq (t:=27) ha Y (fun h10 ha=>?_) (fun h10 ha=>?_)
     ·refine Lf Y ha Y Y fun a ha=>?_;refine Lf Y ha Y Y fun a ha=>?_;refine Lf Y ha Y Y fun a ha=>?_;refine Lf Y ha Y Y fun a ha=>?_;refine aI Y Y Y ha Y Y Y fun a ha=>?_;refine aI Y Y Y ha Y Y Y fun a ha=>?_;refine aI Y Y Y ha Y Y Y fun a ha=>?_;refine aI Y Y Y ha Y Y Y fun a ha=>?_;refine Lf Y ha Y Y fun a ha=>?_;refine lin Y (am ha Y Y Y fun a ha=>?_);exact wpList_nil ⟨rfl,hS,Has.cons ha Y (Has.cons ha Y (Has.cons ha Y (Has.cons ha Y (Has.cons ha (by simp [lk,Nat.beq,h3,h5,h9,h10]) (ha.nil)))))⟩
     ·refine ad Y ha Y Y Y (ac (f:=0) (o2:=0) T26 T3 Y Y Y Y ha Y Y fun a ha=>?_);refine ad Y ha Y Y Y (ae (v:=(iV t6.kind)) T3 Y ha Y (hS.blkL 0 rfl) Y Y fun a ha=>?_);refine ad Y ha Y Y Y (aX (i:=t6.kind) (j:=1) ha Y Y Y fun a ha=>?_);refine ad Y ha Y Y Y (ak ha Y Y fun a ha=>?_);refine al (t:=31) ha Y (fun h11 ha=>?_) (fun h11 ha=>?_)
      ·refine ad Y ha Y Y Y (ac (f:=1) (o2:=1) T26 T3 Y Y Y Y ha Y Y fun a ha=>?_);refine ad Y ha Y Y Y (ae (v:=(iV t6.n)) T3 Y ha Y (hS.blkL 0 rfl) Y Y fun a ha=>?_);refine ad Y ha Y Y Y (ak ha Y Y fun a ha=>?_);refine ad Y ha Y Y Y (cZ (i:=t6.n) (j:=((k: Nat): Int)) ha Y Y Y fun a ha=>?_);refine ad Y ha Y Y Y (am ha Y Y Y fun a ha=>?_);refine lin Y (ai ha Y Y Y fun a ha=>?_);exact wpList_nil ⟨rfl,hS,Has.cons ha Y (Has.cons ha Y (Has.cons ha Y (Has.cons ha Y (Has.cons ha (by simp [lk,Nat.beq,h3,h5,h9,h10,h11]) (ha.nil)))))⟩
      ·refine Lf Y ha Y Y fun a ha=>?_;refine Lf Y ha Y Y fun a ha=>?_;refine Lf Y ha Y Y fun a ha=>?_;refine Lf Y ha Y Y fun a ha=>?_;refine ad Y ha Y Y Y (ai ha Y Y Y fun a ha=>?_);refine lin Y (ai ha Y Y Y fun a ha=>?_);exact wpList_nil ⟨rfl,hS,Has.cons ha Y (Has.cons ha Y (Has.cons ha Y (Has.cons ha Y (Has.cons ha (by simp [lk,Nat.beq,h3,h5,h9,h10,h11]) (ha.nil)))))⟩
    refine aa (aq (t:=37) ha Y (fun h12 ha=>?_) (fun h12 ha=>?_))
    ·refine ar ha Y (wp_seq (ab (Ls Y ha fun a ha=>?_)));refine wpList_nil (aa (wp_ret (ay (aj (aj (ay (aj (ret1 Y ha Y ?_))))))));refine⟨congrArg _ (congrArg _ ?_),hS.plain.drop_all⟩;have hfe: elU ts.length k t6=false:=by
      have hf_: freeB t6=false:=by simpa using h9
      unfold elU okT;rw [hf_];exact el_alg h12
     unfold isB;rw [← hE,bO ht6,hfe,Bool.false_and,Bool.and_false];rfl
    ·refine an ha Y (wp_skip (au (aa (ab (Lm Y ha fun a ha=>?_)))));refine lin Y (aM (i:=((k: Nat): Int)) (j:=1) ha Y Y Y (by omega) fun a ha=>?_);refine Ls Y ha fun a ha=>?_;refine wpList_nil (aa (?_));have hfe: elU ts.length k t6=true:=by
      have hf_: freeB t6=false:=by simpa using h9
      unfold elU okT;rw [hf_];exact el_alg h12
     have hS:=hS.drop;exact⟨ts.length - (k+1),by omega,(k+1),rfl,ha.pk Y,hS,(by rw [← hE,bO ht6,hfe,Bool.true_and]),(by omega)⟩
  ·have hel: elsU ts.length 0 ts=true:=by rw [← hE,List.drop_of_length_le (show ts.length≤k by omega)];rfl
   refine an ha Y (wp_exit (ao (ao (aC (aa (wp_seq (ab (lin Y (ah (vs:= [(.slice A ts.length c)]) T24 Y ha Y (hS.blkL 0 rfl) Y (af Y) Y fun a ha=>?_)))))))));refine lin Y (Cs func89 ha Y (c_Acyclic hS.inv.nil hr (Gst.of (by omega) hel)) hS fun a w ha hS=>?_);refine Ls Y ha fun a ha=>?_;refine wpList_nil (aa (wp_ret (ret1 Y ha Y ?_)));refine⟨congrArg _ (congrArg _ ?_),hS.plain.drop_all⟩;unfold isB;rw [decide_eq_true (by omega),hel];rfl
end Go.Vk.Tryz
namespace Go.Vk
def impD (s u: List Tm): Bool × Bool:=((impU s u).1,decide ((impU s u).2=0))
def eqvB (s u: List Tm): Bool:=((impD s u).1||!(impD s u).2)&&((impD u s).1||!(impD u s).2)
theorem gve2 {B: List Tm} {a b: Tm} (h: isB B=true) (ha: okT B.length a=true) (hb: okT B.length b=true): gvE B [a,b]=0:=
 gvE_0 (isB_stU h) (List.all_eq_true.2 fun t ht=>by
  rcases List.mem_cons.1 ht with rfl | ht
  ·exact ha
  ·rw [List.mem_singleton.1 ht];exact hb)
theorem fw {B: List Tm} (h: isB B=true): ∃ σ,Can B σ:=exists_sol (bJ.1 h).2 fun i t hi=>(bJ.1 h).1.occV i t hi
theorem isB_of {n: Nat} {B: List Tm} (hG: Gst n B) (hA: Acyc B): isB B=true:=bJ.2 ⟨by rw [hG.len];exact hG,hA⟩
theorem impD_iff {s u: List Tm} (hs: isB s=true) (hu: isB u=true) (h:(impD s u).2=true):(impD s u).1=true↔∀ σ,Sol s σ→Sol u σ:=
 impU_iff (bJ.1 hs).1 (bJ.1 hs).2 (bJ.1 hu).1 (bJ.1 hu).2 (of_decide_eq_true h)
theorem impD_or {s u: List Tm} (hs: isB s=true) (hu: isB u=true) (h: ∀ σ,Sol s σ→Sol u σ):((impD s u).1||!(impD s u).2)=true:=by
 cases h2:(impD s u).2 with
 | false=>rw [Bool.not_false,Bool.or_true]
 | true=>rw [(impD_iff hs hu h2).2 h];rfl
theorem eqvB_of {s u: List Tm} (hs: isB s=true) (hu: isB u=true) (h: ∀ σ,Sol s σ↔Sol u σ): eqvB s u=true:=by
 unfold eqvB;rw [impD_or hs hu fun σ=>(h σ).1,impD_or hu hs fun σ=>(h σ).2];rfl
theorem joinQ_JW {n: Nat} {B: List Tm} (hG: Gst n B) (hA: Acyc B) {a b: Tm} (ha: okT n a=true) (hb: okT n b=true): JW n B [(a,b)] (joinQ B a b):=
 joinw_sound (bb:=fun (s: Unit) _=>s) 20000 [(a,b)] (B,()) hG hA fun p hp=>by rw [List.mem_singleton.1 hp];exact⟨ha,hb⟩
theorem eqs_one {σ: Int→Tm} {a b: Tm}: Eqs σ [(a,b)]↔app σ a=app σ b:=
 ⟨fun h=>h (a,b) (List.mem_singleton.2 rfl),fun h p hp=>by rw [List.mem_singleton.1 hp];exact h⟩
structure UniR (B: List Tm) (a b: Tm) (r:(List Tm × Bool) × Int): Prop where
 is: isB r.1.1=true
 len: r.1.1.length=B.length
 keep: ∀(i: Nat) (t: Tm),B[i]? =some t→t.kind≠0→r.1.1[i]? =some t
 yes: r.1.2=true→∀ σ,Sol r.1.1 σ↔Sol B σ∧app σ a=app σ b
 no: r.1.2=false→∀ σ,Sol B σ→app σ a≠app σ b
theorem uniR {B: List Tm} {a b: Tm} (h: isB B=true) (ha: okT B.length a=true) (hb: okT B.length b=true) (he:(unifyU B a b).2=0): UniR B a b (unifyU B a b):=by
 obtain⟨hG,hA⟩:=bJ.1 h;have hJ:=joinQ_JW hG hA ha hb;unfold unifyU at he ⊢;rw [if_pos (gve2 h ha hb)] at he ⊢
 split at he
 ·rename_i h1
  rw [if_pos h1]
  cases h2:(joinQ B a b).1.1 with
  | true =>
   have e:(joinQ B a b).1=(true,0):=Prod.ext h2 h1;rw [if_pos rfl];exact⟨isB_of hJ.g hJ.a,hJ.g.len,hJ.keep,fun _ σ=>by rw [hJ.yes e σ,eqs_one],fun h=>(by cases h)⟩
  | false =>
   have e:(joinQ B a b).1=(false,0):=Prod.ext h2 h1;rw [if_neg (by simp)];exact⟨h,rfl,fun i t hi _=>hi,fun h=>(by cases h),fun _ σ hs he=>hJ.no e σ hs (eqs_one.2 he)⟩
 ·rename_i h1;exact absurd he h1
def Bnds (σ: Int→Tm) (i: Nat) (ts: List Tm): Prop:= ∀(j: Nat) (t: Tm),ts[j]? =some t→t.kind≠0→σ ((i+j: Nat): Int)=app σ t
theorem Bnds.cons {σ: Int→Tm} {i: Nat} {t: Tm} {ts: List Tm}: Bnds σ i (t::ts)↔(t.kind≠0→σ (i: Int)=app σ t)∧Bnds σ (i+1) ts:=by
 constructor
 ·refine fun h=>⟨fun hk=>h 0 t rfl hk,fun j u hj hu=>?_⟩;have:=h (j+1) u hj hu;rw [show i+1+j=i+(j+1) by omega];exact this
 ·rintro⟨h1,h2⟩ j u hj hu
  cases j with
  | zero=>obtain rfl:=Option.some.inj hj;exact h1 hu
  | succ j =>
   have:=h2 j u hj hu;rw [show i+(j+1)=i+1+j by omega];exact this
end Go.Vk
namespace Go.Vk.Tryz
open Go.RowKit
set_option maxHeartbeats 2000000 in
theorem c_implies {w0: World} {H: PHeap} (hI: Inv w0 H []) {As Au: Option Addr} {cs cu: Nat} {ss us: List Tm} (hs: RowT H As cs ss) (hu: RowT H Au cu us): Calls prog 99 #[(.agg #[(.slice As ss.length cs)]),(.agg #[(.slice Au us.length cu)])] w0 (fun e w'=> ∃ H',e=.returned (.tuple #[.bool (impD ss us).1,.bool (impD ss us).2])∧Step w0 H [] w' H' []):=by
 have hS:=Step.refl hI;refine enter [(.agg #[(.slice As ss.length cs)]),(.agg #[(.slice Au us.length cu)])] func99 Y ntmps99 Y fun a ha=>?_;refine wp_seq (ab (lin Y (aG (cs:= #[(.slice As ss.length cs)]) hS ha Y Y Y fun b1 a w hS ha=>?_)));refine lin Y (aG (cs:= #[(.slice Au us.length cu)]) hS ha Y Y Y fun b3 a w hS ha=>?_);refine Ls Y ha fun a ha=>?_;refine Ls Y ha fun a ha=>?_;refine wpList_nil (aa (wp_seq (ab (lin Y (ah (vs:= [(.slice As ss.length cs)]) T24 Y ha Y (hS.blkL 1 rfl) Y (af Y) Y fun a ha=>?_)))));refine lin Y (ah (vs:= [(.slice Au us.length cu)]) T24 Y ha Y (hS.blkL 0 rfl) Y (af Y) Y fun a ha=>?_);have hk6:=c_Implies hS.inv.nil hs hu;refine lin Y (Co func28 ha Y (hk6) ?_);rintro e w ⟨H5,rfl,hc5⟩;refine⟨_,rfl,fun a ha=>?_⟩;have hS:=hS.call hc5;refine Lm Y ha fun a ha=>?_;refine lin Y (ap (v:=(.bool ((impU ss us).1))) ha Y Y Y fun a ha=>?_);refine lin Y (ap (v:=(iV ((impU ss us).2))) ha Y Y Y fun a ha=>?_);refine Ls Y ha fun a ha=>?_;refine Ls Y ha fun a ha=>?_;refine wpList_nil (aa (wp_seq (ab (Lm Y ha fun a ha=>?_))));refine Lm Y ha fun a ha=>?_;refine lin Y (aX (i:=((impU ss us).2)) (j:=0) ha Y Y Y fun a ha=>?_);refine Ls Y ha fun a ha=>?_;refine Ls Y ha fun a ha=>?_;refine wpList_nil (aa (wp_ret (ret2 Y ha Y Y ?_)));exact⟨_,rfl,hS.drop_all⟩
set_option maxHeartbeats 2000000 in
theorem c_equivalent {w0: World} {H: PHeap} (hI: Inv w0 H []) {As Au: Option Addr} {cs cu: Nat} {ss us: List Tm} (hs: RowT H As cs ss) (hu: RowT H Au cu us): Calls prog 51 #[(.agg #[(.slice As ss.length cs)]),(.agg #[(.slice Au us.length cu)])] w0 (fun e w'=> ∃ H',e=.returned (.bool (eqvB ss us))∧Step w0 H [] w' H' []):=by
 have hS:=Step.refl hI;refine enter [(.agg #[(.slice As ss.length cs)]),(.agg #[(.slice Au us.length cu)])] func51 Y ntmps51 Y fun a ha=>?_;refine wp_seq (ab (lin Y (aG (cs:= #[(.slice As ss.length cs)]) hS ha Y Y Y fun b1 a w hS ha=>?_)));refine lin Y (aG (cs:= #[(.slice Au us.length cu)]) hS ha Y Y Y fun b3 a w hS ha=>?_);refine Ls Y ha fun a ha=>?_;refine wpList_nil (aa (wp_seq (ab (lin Y (ah (vs:= [(.slice As ss.length cs)]) T24 Y ha Y (hS.blkL 1 rfl) Y (af Y) Y fun a ha=>?_)))));refine lin Y (ah (vs:= [(.slice Au us.length cu)]) T24 Y ha Y (hS.blkL 0 rfl) Y (af Y) Y fun a ha=>?_);have hk6:=c_implies hS.inv.nil hs hu;refine lin Y (Co func99 ha Y (hk6) ?_);rintro e w ⟨H5,rfl,hc5⟩;refine⟨_,rfl,fun a ha=>?_⟩;have hS:=hS.call hc5;have hs:=hs.mono hc5.le;have hu:=hu.mono hc5.le;refine Lm Y ha fun a ha=>?_;refine lin Y (ap (v:=(.bool ((impD ss us).1))) ha Y Y Y fun a ha=>?_);refine lin Y (ap (v:=(.bool ((impD ss us).2))) ha Y Y Y fun a ha=>?_);refine Ls Y ha fun a ha=>?_;refine Ls Y ha fun a ha=>?_;refine wpList_nil (aa (wp_seq (ab (lin Y (ah (vs:= [(.slice Au us.length cu)]) T24 Y ha Y (hS.blkL 0 rfl) Y (af Y) Y fun a ha=>?_)))));refine lin Y (ah (vs:= [(.slice As ss.length cs)]) T24 Y ha Y (hS.blkL 1 rfl) Y (af Y) Y fun a ha=>?_);have hk8:=c_implies hS.inv.nil hu hs;refine lin Y (Co func99 ha Y (hk8) ?_);rintro e w ⟨H7,rfl,hc7⟩;refine⟨_,rfl,fun a ha=>?_⟩;have hS:=hS.call hc7;refine Lm Y ha fun a ha=>?_;refine lin Y (ap (v:=(.bool ((impD us ss).1))) ha Y Y Y fun a ha=>?_);refine lin Y (ap (v:=(.bool ((impD us ss).2))) ha Y Y Y fun a ha=>?_);refine Ls Y ha fun a ha=>?_;refine Ls Y ha fun a ha=>?_;refine wpList_nil (aa (wp_seq (bk (D:= []) (N:=33) (E:= [(4,(.bool (((impD ss us).1||(!(impD ss us).2))&&((impD us ss).1||(!(impD us ss).2))))),(5,(.bool ((impD ss us).1))),(6,(.bool ((impD ss us).2))),(7,(.bool ((impD us ss).1))),(8,(.bool ((impD us ss).2)))]) (fun a ha=>?_) ?_)));rotate_left
 ·refine Lm Y ha fun a ha=>?_;refine Lm Y ha fun a ha=>?_;refine aq (t:=22) ha Y (fun h9 ha=>?_) (fun h9 ha=>?_)
  ·refine Lf Y ha Y Y fun a ha=>?_;refine Lf Y ha Y Y fun a ha=>?_;refine lin Y (am ha Y Y Y fun a ha=>?_);refine Lm Y ha fun a ha=>?_;refine ad Y ha Y Y Y (ak ha Y Y fun a ha=>?_);refine ad Y ha Y Y Y (ak ha Y Y fun a ha=>?_);refine aq (t:=28) ha Y (fun h10 ha=>?_) (fun h10 ha=>?_)
   ·refine Lf Y ha Y Y fun a ha=>?_;refine Lf Y ha Y Y fun a ha=>?_;refine ad Y ha Y Y Y (am ha Y Y Y fun a ha=>?_);refine lin Y (am ha Y Y Y fun a ha=>?_);refine Ls Y ha fun a ha=>?_;exact wpList_nil ⟨rfl,rfl,Has.cons ha (by simp [lk,Nat.beq,h9,h10]) (ha.pk Y)⟩
   ·refine ad Y ha Y Y Y (ak ha Y Y fun a ha=>?_);refine ad Y ha Y Y Y (aP ha Y Y fun a ha=>?_);refine ad Y ha Y Y Y (ai ha Y Y Y fun a ha=>?_);refine lin Y (am ha Y Y Y fun a ha=>?_);refine Ls Y ha fun a ha=>?_;exact wpList_nil ⟨rfl,rfl,Has.cons ha (by simp [lk,Nat.beq,h9,h10]) (ha.pk Y)⟩
  ·refine ad Y ha Y Y Y (ak ha Y Y fun a ha=>?_);refine ad Y ha Y Y Y (aP ha Y Y fun a ha=>?_);refine lin Y (ai ha Y Y Y fun a ha=>?_);refine Lm Y ha fun a ha=>?_;refine aq (t:=26) ha Y (fun h11 ha=>?_) (fun h11 ha=>?_)
   ·refine ad Y ha Y Y Y (ak ha Y Y fun a ha=>?_);refine ad Y ha Y Y Y (ak ha Y Y fun a ha=>?_);refine aq (t:=28) ha Y (fun h12 ha=>?_) (fun h12 ha=>?_)
    ·refine Lf Y ha Y Y fun a ha=>?_;refine Lf Y ha Y Y fun a ha=>?_;refine ad Y ha Y Y Y (am ha Y Y Y fun a ha=>?_);refine lin Y (am ha Y Y Y fun a ha=>?_);refine Ls Y ha fun a ha=>?_;exact wpList_nil ⟨rfl,rfl,Has.cons ha (by simp [lk,Nat.beq,h9,h11,h12]) (ha.pk Y)⟩
    ·refine ad Y ha Y Y Y (ak ha Y Y fun a ha=>?_);refine ad Y ha Y Y Y (aP ha Y Y fun a ha=>?_);refine ad Y ha Y Y Y (ai ha Y Y Y fun a ha=>?_);refine lin Y (am ha Y Y Y fun a ha=>?_);refine Ls Y ha fun a ha=>?_;exact wpList_nil ⟨rfl,rfl,Has.cons ha (by simp [lk,Nat.beq,h9,h11,h12]) (ha.pk Y)⟩
   ·refine Lf Y ha Y Y fun a ha=>?_;refine Lf Y ha Y Y fun a ha=>?_;refine aI Y Y Y ha Y Y Y fun a ha=>?_;refine aI Y Y Y ha Y Y Y fun a ha=>?_;refine Lf Y ha Y Y fun a ha=>?_;refine lin Y (ai ha Y Y Y fun a ha=>?_);refine Ls Y ha fun a ha=>?_;exact wpList_nil ⟨rfl,rfl,Has.cons ha (by simp [lk,Nat.beq,h9,h11]) (ha.pk Y)⟩
 refine aa (wp_ret (ret1 Y ha Y ?_));have hfin:(((impD ss us).1||(!(impD ss us).2))&&((impD us ss).1||(!(impD us ss).2)))=eqvB ss us:=by unfold eqvB;rfl
 rw [hfin];exact⟨_,rfl,hS.drop_all⟩
end Go.Vk.Tryz
namespace Go.Vk
open Go.RowKit
section
variable {P: Program} {K: Act→World→Prop} {Q: Exit→Act→World→Prop} {D: List Deferred} {a: Act} {w: World} {N: Nat} {m: Env} {d: Nat} {ty: TypeId} {pos: String} {aft: Array Edge} {g: Option (Nat × Bool)} {x y: Operand} {t tx: TypeId} {p q: Bool}
theorem bool_eq (ht: P.underlying t=some .bool):(Op.equal t (.bool p) (.bool q)).run P w=.ok (p == q) w:=by
 have h: ∀ d: Nat,(Op.equalIn (d+1) t (.bool p) (.bool q)).run P w=.ok (p == q) w:=fun d=>by
  simp [Op.equalIn,run_underlying ht]
 simp [Op.equal,Op.maxDepth,h 9999]
theorem o_neb (ht: P.underlying t=some .bool) (ha: Has D a N m) (hx: ev m x=some (.bool p)) (hy: ev m y=some (.bool q)) (hd: Nat.blt d N=true) (k: ∀ a',Has D a' N ((d,.bool (!(p == q)))::m)→K a' w) :
  Oper.wp P ⟨some d,.binOp .neq t x y tx,ty,pos,aft,g⟩ a w K Q:=
 aT (by simp [execOp,ha.ev hx,ha.ev hy,eqGuard,binOp,bool_eq ht]) ha hd k
end
theorem rsP {P: Program} {n: Nat} {args: Array Value} {w: World} {H: PHeap} {v: Value} (h: Calls P n args w fun e w'=> ∃ H',e=.returned v∧Step w H [] w' H' []): Calls P n args w fun e w'=>e=.returned v∧Step w H [] w' H []:=
 h.mono fun e w' ⟨H',h1,h2⟩=>⟨h1,h2.plain⟩
end Go.Vk
namespace Go.Vk.Tryz
open Go.RowKit
end Go.Vk.Tryz
namespace Go.Vk.Tryz
open Go.RowKit
abbrev q0: Tm:=(Tm.mk 1 0 ⟨#[]⟩ [])
abbrev q1: Tm:=(Tm.mk 1 1 ⟨#[]⟩ [])
abbrev k2: List Tm:= [tZ,q0,tZ]
abbrev q3: Tm:=(Tm.mk 5 0 (⟨#[102]⟩) [q0,q1])
abbrev q4: Tm:=(Tm.mk 3 0 (⟨#[97]⟩) [])
abbrev q5: Tm:=(Tm.mk 5 0 (⟨#[102]⟩) [q1,q4])
abbrev k6: List Tm:= [q4,q0,tZ]
abbrev q7: Tm:=(Tm.mk 1 2 ⟨#[]⟩ [])
abbrev q8: Tm:=(Tm.mk 5 0 (⟨#[102]⟩) [q7,q1])
abbrev q9: Tm:=(Tm.mk 5 0 (⟨#[102]⟩) [q1,q0])
abbrev k10: List Tm:= [tZ,q0,q1]
abbrev q11: Tm:=(Tm.mk 5 0 (⟨#[102]⟩) [q0])
abbrev q12: Tm:=(Tm.mk 5 0 (⟨#[103]⟩) [q1])
abbrev q13: Tm:=(Tm.mk 5 0 (⟨#[103]⟩) [q0])
abbrev q14: Tm:=(Tm.mk 5 0 (⟨#[102]⟩) [q12,q13])
abbrev q15: Tm:=(Tm.mk 5 0 (⟨#[102]⟩) [q0,q0])
abbrev q16: Tm:=(Tm.mk 5 0 (⟨#[102]⟩) [q1,q1])
abbrev k17: List Tm:= [tZ,q15,q16]
abbrev q18: Tm:=(valU k17 q7).1
abbrev q19: Tm:=(wholeU k17 q7).1
abbrev q20: Tm:=(Tm.mk 5 0 (⟨#[102]⟩) [q1,q15])
abbrev q21: Tm:=(Tm.mk 5 0 (⟨#[102]⟩) [q15,q15])
abbrev q22: Tm:=(Tm.mk 5 0 (⟨#[102]⟩) [q7,q0])
abbrev k23: List Tm:= [q1,tZ]
abbrev k24: List Tm:= [q11]
abbrev q25: Tm:=(Tm.mk 5 0 (⟨#[102]⟩) [q1])
abbrev k26: List Tm:= [q25,q4]
abbrev k27: List Tm:= [q25,tZ]
abbrev k28: List Tm:= [tZ,q4,q0]
abbrev k29: List Tm:=(mergeU k27 k28).1.1
abbrev k30: List Tm:= [q4,q4]
abbrev k31: List Tm:= [tZ,q0]
abbrev k32: List Tm:= [tZ]
abbrev k33: List Tm:= [q25,q4,q25]
abbrev k34: List Tm:=(sVar k32 ([])).1.1
abbrev k35: List Chg:=(sVar k32 ([])).1.2
abbrev k36: List Tm:=(sUni k34 k35 q0 q1).1.1
abbrev k37: List Chg:=(sUni k34 k35 q0 q1).1.2
abbrev k38: List Tm:=(sBack k36 k37 1).1.1
abbrev k40: List Tm:= [tZ,tZ]
end Go.Vk.Tryz
