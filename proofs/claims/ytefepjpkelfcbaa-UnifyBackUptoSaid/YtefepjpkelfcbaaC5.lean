/- Part 5 of the proof of unifyBack_holds. Conditions: none. -/
import Derived.Test.YtefepjpkelfcbaaC4
set_option linter.unusedVariables false
set_option linter.unusedSimpArgs false
set_option linter.unusedSectionVars false
set_option maxRecDepth 100000
open Go.Proofs.Try
namespace Go.Vk.Try
open Go.RowKit
set_option maxHeartbeats 16000000 in
theorem c_UnifyBack {w0: World} {H: PHeap} (hI: Inv w0 H []) {Az Ap: Option Addr} {cz cp: Nat} {ss: List Tm} {ps: List OpV} (hs: RowT H Az cz ss) (hp: RowG 10 OpV.cells H Ap cp ps) (hq: AllO H ps) (hnn_: InN ps) (hls: ss.length≤2000000): Calls prog 8 #[(.agg #[(.slice Az ss.length cz)]),(.slice Ap ps.length cp)] w0 (fun e w'=> ∃ H',e=.returned (.bool true)∧Step w0 H [] w' H' []):=by
 have hS:=Step.refl hI;have hlps:=hp.len;refine enter [(.agg #[(.slice Az ss.length cz)]),(.slice Ap ps.length cp)] func8 Y ntmps8 Y fun a ha=>?_;refine wp_seq (ab (lin Y (aG (cs:= #[(.slice Az ss.length cz)]) hS ha Y Y Y fun b1 a w hS ha=>?_)));refine Ls Y ha fun a ha=>?_;refine wpList_nil (aa (wp_seq (wp_seq (ab ?_))));have hk3:=rsP (c_sane hS.inv.nil);refine lin Y (Cs func11 ha Y (hk3) hS fun a w ha hS=>?_);refine lin Y (aQ ha Y Y fun a ha=>?_);refine wpList_nil (aa (am ha Y (wp_skip (aa (wp_seq (wp_seq (ab (lin Y (ak (vs:= [(.slice Az ss.length cz)]) T24 Y ha Y (hS.blkL 0 rfl) Y (af Y) Y fun a ha=>?_)))))))));have hk4:=c_small (us:= []) hS.inv.nil hs (RowT.nil _) (by simp only [List.length_nil,List.length_cons];omega);refine lin Y (Cs func12 ha Y (hk4) hS fun a w ha hS=>?_);refine lin Y (aQ ha Y Y fun a ha=>?_);refine Lm Y ha fun a ha=>?_;refine av (t:=30) ha Y (fun h5 ha=>?_) (fun h5 ha=>?_)
 ·refine Lf Y ha Y Y fun a ha=>?_;refine Lf Y ha Y Y fun a ha=>?_;refine Lf Y ha Y Y fun a ha=>?_;refine lin Y (an ha Y Y Y fun a ha=>?_);refine Lm Y ha fun a ha=>?_;refine Lf Y ha Y Y fun a ha=>?_;refine Lf Y ha Y Y fun a ha=>?_;refine Lf Y ha Y Y fun a ha=>?_;refine lin Y (an ha Y Y Y fun a ha=>?_);refine wpList_nil (aa (ar ha Y (wp_seq (ab (Ls Y ha fun a ha=>?_)))));refine wpList_nil (aa (wp_ret (aj (ret1 Y ha Y ?_))));exact⟨_,rfl,hS.drop_all⟩
 ·refine ae Y ha Y Y Y (ai ha Y Y fun a ha=>?_);have hk6:=c_few hS.inv.nil hp hq;refine ae Y ha Y Y Y (Co func30 ha Y (hk6) ?_);rintro e w ⟨rfl,hc⟩;refine⟨_,rfl,fun a ha=>?_⟩;have hS:=hS.call hc;refine ae Y ha Y Y Y (aQ ha Y Y fun a ha=>?_);refine lin Y (ah ha Y Y Y fun a ha=>?_);refine Lm Y ha fun a ha=>?_;refine av (t:=35) ha Y (fun h7 ha=>?_) (fun h7 ha=>?_)
  ·refine Lf Y ha Y Y fun a ha=>?_;refine Lf Y ha Y Y fun a ha=>?_;refine Lf Y ha Y Y fun a ha=>?_;refine lin Y (an ha Y Y Y fun a ha=>?_);refine wpList_nil (aa (ar ha Y (wp_seq (ab (Ls Y ha fun a ha=>?_)))));refine wpList_nil (aa (wp_ret (aj (ret1 Y ha Y ?_))));exact⟨_,rfl,hS.drop_all⟩
  ·have hfe_: fewB ps=true:=by simpa using h7
   have hfl_:=fewB_len hfe_;refine ae Y ha Y Y Y (ak (vs:= [(.slice Az ss.length cz)]) T24 Y ha Y (hS.blkL 0 rfl) Y (af Y) Y fun a ha=>?_);have hk8:=c_Is hS.inv.nil hs (small_sb h5);refine ae Y ha Y Y Y (Co func13 ha Y (hk8) ?_);rintro e w ⟨rfl,hc⟩;refine⟨_,rfl,fun a ha=>?_⟩;have hS:=hS.call hc;refine ae Y ha Y Y Y (aQ ha Y Y fun a ha=>?_);refine lin Y (ah ha Y Y Y fun a ha=>?_);refine wpList_nil (aa (av (t:=39) ha Y (fun h9 ha=>?_) (fun h9 ha=>?_)))
   ·refine ar ha Y (wp_seq (ab (Ls Y ha fun a ha=>?_)));refine wpList_nil (aa (wp_ret (aj (ret1 Y ha Y ?_))));exact⟨_,rfl,hS.drop_all⟩
   ·have hvss: isB ss=true:=by simpa using h9
    refine am ha Y (wp_skip (aa (wp_seq (ab (lin Y (ak (vs:= [(.slice Az ss.length cz)]) T24 Y ha Y (hS.blkL 0 rfl) Y (af Y) Y fun a ha=>?_))))));have hk11:=c_Open hS.inv.nil hs;rw [isB_st hvss] at hk11;refine lin Y (Co func31 ha Y (hk11) ?_);rintro e w ⟨H10,L10,p_,rfl,hp1_, -,hc10⟩;obtain⟨pw,rfl,hz⟩:=hp1_ Y;refine⟨_,rfl,fun a ha=>?_⟩;have hS: Step w0 H [] w H10 ([(some b1,(.cells #[(.slice Az ss.length cz)] 24 (0,0)))]++L10):=Step.perm (Step.frame (Lc:= []) hS hc10) List.perm_append_comm;have hs:=hs.mono hc10.le;have hp:=hp.mono hc10.le;have hq:=hq.mono hc10.le;refine Lm Y ha fun a ha=>?_;refine lin Y (ap (v:=(pB pw)) ha Y Y Y fun a ha=>?_);refine lin Y (ap (v:=(iV 0)) ha Y Y Y fun a ha=>?_);refine Ls Y ha fun a ha=>?_;refine Ls Y ha fun a ha=>?_;refine wpList_nil (aa (wp_seq (wp_seq (ab (Lm Y ha fun a ha=>?_)))));refine lin Y (a8 (i:=0) (j:=0) ha Y Y Y fun a ha=>?_);refine Lm Y ha fun a ha=>?_;refine aI (t:=47) ha Y (fun h12 ha=>?_) (fun h12 ha=>?_)
    ·refine Lf Y ha Y Y fun a ha=>?_;refine Lf Y ha Y Y fun a ha=>?_;refine lin Y (an ha Y Y Y fun a ha=>?_);refine wpList_nil (aa (ar ha Y (wp_seq (ab (Ls Y ha fun a ha=>?_)))));refine wpList_nil (aa (wp_ret (aj (ret1 Y ha Y ?_))))
     exfalso
     exact absurd Y h12
    ·refine ae Y ha Y Y Y (ai ha Y Y fun a ha=>?_);refine ae Y ha Y Y Y (bA T56.und T105 ha Y Y Y fun a ha=>?_);refine lin Y (ah ha Y Y Y fun a ha=>?_);refine wpList_nil (aa (am ha Y (wp_skip (aa (wp_seq (ab (lin Y (o_makeMapV (k:=3) hS ha Y fun bm em13 a w hM hS ha=>?_))))))));refine lin Y (ak (vs:= [(.slice Az ss.length cz)]) T24 Y ha Y (hS.blkL 1 rfl) Y (af Y) Y fun a ha=>?_);refine lin Y (o_insertV T59.und T3.und hS hM ha Y Y Y (by omega) (by simp only [maxLen];omega) fun em15 a w hM hS ha=>?_);refine Lm Y ha fun a ha=>?_;refine Ls Y ha fun a ha=>?_;refine wpList_nil (aa (wp_seq (wp_seq (ab (Lm Y ha fun a ha=>?_)))));refine lin Y (aF T54.und ha Y Y fun a ha=>?_);refine Lm Y ha fun a ha=>?_;refine wpList_nil (aa (wp_block ?_));have hS:=hS.front 1 rfl;have hS:=hS.drop;have hseen_: Seen H10 ss [] (putF (fun _=>none) 0 (.agg #[(.slice Az ss.length cz)])):=fun q v hq=>by
      unfold putF at hq
      split at hq
      ·rename_i e_
       obtain rfl:=Option.some.inj hq;subst e_;exact⟨⟨by omega,by omega⟩,_,_,rfl,hs⟩
      ·cases hq
     have hh0_: HA ss []:=⟨(dF.1 hvss).1,(dF.1 hvss).2⟩;have hle0_:=hh0_.h.g.le;have hoc0_:=opnC_le ss;refine aN (fun nn_ a w=> ∃(H16: PHeap),∃(B: List Tm),∃(tr: List Chg),∃(LA: List Ent),∃(em: Ent),∃(nb: Nat),∃(f: Int→Option Value),∃(k: Nat),Le H10 H16∧nn_=ps.length - k∧Has [] a 228 [(5,(pB pw)),(7,(.map (some bm))),(54,(.slice Ap ps.length cp)),(55,(iV ((ps.length: Nat): Int))),(56,(iV ((k: Nat): Int)))]∧Step w0 H [] w H16 (em::LA)∧(k≤ps.length)∧(ZS 26 105 1 68 71 pw B tr H16 LA)∧(MapV prog 3 em bm nb f)∧(nb≤k+1)∧(Seen H16 B tr f)∧(HA B tr)∧(tr.length+opnC B≤100000+2 * k)) _ ⟨H10,ss, [],L10,em15,(0+1),(putF (fun _=>none) 0 (.agg #[(.slice Az ss.length cz)])),0,Le.refl _,rfl,ha.pk Y,hS,(by omega),hz,hM,(by omega),hseen_,hh0_,(by rw [List.length_nil];omega)⟩ ?_;intro n16 a w hh;obtain⟨H16,B,tr,LA,em,nb,f,k,hle16,hn16,ha,hS,hk,hz,hM,hnb,hse,hh,hbud⟩:=hh;have hp:=hp.mono hle16;have hq:=hq.mono hle16;refine wp_seq (ab (lin Y (a0 (i:=((k: Nat): Int)) (j:=((ps.length: Nat): Int)) ha Y Y Y fun a ha=>?_)));refine wpList_nil (aa (wp_seq (al (t:=57) ha Y (fun h17 ha=>?_) (fun h17 ha=>?_))))
     ·refine ar ha Y (wp_skip (aa (wp_seq (wp_block (wp_seq (ab ?_))))));obtain⟨x18,b18,off18,e18,cs18,fz18,hx18,hA18,hb18,hc18⟩:=hp.get (j:=k) (by omega);obtain⟨hqa18,hqb18⟩:=hq _ (List.mem_of_getElem? hx18);refine lin Y (ay (b:=b18) (o:=off18) (j:=k) T54.und T61 hA18 ha Y Y (by omega) (by omega) Y fun a ha=>?_);refine lin Y (ak (vs:= [(iV x18.dO),(iV x18.n),(iV ((x18.a.t).kind)),(iV ((x18.a.t).n)),(.string ((x18.a.t).s)),(.slice x18.a.A ((x18.a.t).l.length) x18.a.c),(iV ((x18.b.t).kind)),(iV ((x18.b.t).n)),(.string ((x18.b.t).s)),(.slice x18.b.A ((x18.b.t).l.length) x18.b.c)]) T61 Y ha Y (hS.blkH hb18) Y hc18 Y fun a ha=>?_);refine lin Y (aC (cs:= #[(iV 0),(iV 0),(iV 0),(iV 0),(.string (⟨#[]⟩)),(.slice none 0 0),(iV 0),(iV 0),(.string (⟨#[]⟩)),(.slice none 0 0)]) T61 hS ha Y Y fun b19 a w hS ha=>?_);refine lin Y (aw (cs':= #[(iV x18.dO),(iV x18.n),(iV ((x18.a.t).kind)),(iV ((x18.a.t).n)),(.string ((x18.a.t).s)),(.slice x18.a.A ((x18.a.t).l.length) x18.a.c),(iV ((x18.b.t).kind)),(iV ((x18.b.t).n)),(.string ((x18.b.t).s)),(.slice x18.b.A ((x18.b.t).l.length) x18.b.c)]) T61 hS (i:=0) Y ha Y Y Y Y Y Y fun a w hS ha=>?_);refine wpList_nil (aa (wp_seq (ab (Lm Y ha fun a ha=>?_))));have hk22:=aX (Inv.tail (Es:= [(some b19,(.cells #[(iV x18.dO),(iV x18.n),(iV ((x18.a.t).kind)),(iV ((x18.a.t).n)),(.string ((x18.a.t).s)),(.slice x18.a.A ((x18.a.t).l.length) x18.a.c),(iV ((x18.b.t).kind)),(iV ((x18.b.t).n)),(.string ((x18.b.t).s)),(.slice x18.b.A ((x18.b.t).l.length) x18.b.c)] 61 (0,0))),em]) hS.inv) hz;refine lin Y (Co func32 ha Y (hk22) ?_);rintro e w ⟨H21,A21,c21,rfl,hr21, -,hc21⟩;refine⟨_,rfl,fun a ha=>?_⟩;have hS:=Step.call_tail (Es:= [(some b19,(.cells #[(iV x18.dO),(iV x18.n),(iV ((x18.a.t).kind)),(iV ((x18.a.t).n)),(.string ((x18.a.t).s)),(.slice x18.a.A ((x18.a.t).l.length) x18.a.c),(iV ((x18.b.t).kind)),(iV ((x18.b.t).n)),(.string ((x18.b.t).s)),(.slice x18.b.A ((x18.b.t).l.length) x18.b.c)] 61 (0,0))),em]) hS hc21;have hse:=hse.mono hc21.le;have hqa18:=hqa18.mono hc21.le;have hqb18:=hqb18.mono hc21.le;have hz:=ZS.mono hz (hc21.le);refine lin Y (aC (cs:= #[(.slice none 0 0)]) T24 hS ha Y Y fun b23 a w hS ha=>?_);refine lin Y (aw (cs':= #[(.slice A21 B.length c21)]) T24 hS (i:=0) Y ha Y Y Y Y Y Y fun a w hS ha=>?_);refine wpList_nil (aa (wp_seq (ab (Lm Y ha fun a ha=>?_))));have hk26:=dv (Inv.tail (Es:= [(some b23,(.cells #[(.slice A21 B.length c21)] 24 (0,0))),(some b19,(.cells #[(iV x18.dO),(iV x18.n),(iV ((x18.a.t).kind)),(iV ((x18.a.t).n)),(.string ((x18.a.t).s)),(.slice x18.a.A ((x18.a.t).l.length) x18.a.c),(iV ((x18.b.t).kind)),(iV ((x18.b.t).n)),(.string ((x18.b.t).s)),(.slice x18.b.A ((x18.b.t).l.length) x18.b.c)] 61 (0,0))),em]) hS.inv) hz;refine lin Y (Co func33 ha Y (hk26) ?_);rintro e w ⟨rfl,hc25⟩;refine⟨_,rfl,fun a ha=>?_⟩;have hS:=Step.call_tail (Es:= [(some b23,(.cells #[(.slice A21 B.length c21)] 24 (0,0))),(some b19,(.cells #[(iV x18.dO),(iV x18.n),(iV ((x18.a.t).kind)),(iV ((x18.a.t).n)),(.string ((x18.a.t).s)),(.slice x18.a.A ((x18.a.t).l.length) x18.a.c),(iV ((x18.b.t).kind)),(iV ((x18.b.t).n)),(.string ((x18.b.t).s)),(.slice x18.b.A ((x18.b.t).l.length) x18.b.c)] 61 (0,0))),em]) hS hc25;refine Ls Y ha fun a ha=>?_;refine wpList_nil (aa (seq_join (fun a w=> ∃(H27: PHeap),∃(B2: List Tm),∃(tr2: List Chg),∃(LA2: List Ent),∃(em2: Ent),∃(nb2: Nat),∃(f2: Int→Option Value),Le H21 H27∧Has [] a 228 [(5,(pB pw)),(7,(.map (some bm))),(11,(iV (((tr.length): Nat): Int))),(54,(.slice Ap ps.length cp)),(55,(iV ((ps.length: Nat): Int))),(56,(iV ((k: Nat): Int)))]∧Step w0 H [] w H27 (em2::LA2)∧(ZS 26 105 1 68 71 pw B2 tr2 H27 LA2)∧(MapV prog 3 em2 bm nb2 f2)∧(nb2≤k+1)∧(Seen H27 B2 tr2 f2)∧(HA B2 tr2)∧(tr2.length+opnC B2≤tr.length+opnC B+2)∧(tr2.length≤tr.length+B2.length+1)) ?_ ?_))
      ·refine wp_seq (ab (lin Y (ac (f:=0) (o2:=0) T61 T3 Y Y Y Y ha Y Y fun a ha=>?_)));refine lin Y (ad (v:=(iV x18.dO)) T3 Y ha Y (hS.blkL 1 rfl) Y Y fun a ha=>?_);refine wpList_nil (aa (wp_block (wp_seq (ab (lin Y (aU (i:=x18.dO) (j:=0) ha Y Y Y fun a ha=>?_))))));refine Ls Y ha fun a ha=>?_;refine wpList_nil (aa (al (t:=66) ha Y (fun h28 ha=>?_) (fun h28 ha=>?_)))
       ·refine ar ha Y (wp_seq (ab (Lm Y ha fun a ha=>?_)));have hk30:=c_Var (Inv.tail (Es:= [(some b23,(.cells #[(.slice A21 B.length c21)] 24 (0,0))),(some b19,(.cells #[(iV x18.dO),(iV x18.n),(iV ((x18.a.t).kind)),(iV ((x18.a.t).n)),(.string ((x18.a.t).s)),(.slice x18.a.A ((x18.a.t).l.length) x18.a.c),(iV ((x18.b.t).kind)),(iV ((x18.b.t).n)),(.string ((x18.b.t).s)),(.slice x18.b.A ((x18.b.t).l.length) x18.b.c)] 61 (0,0))),em]) hS.inv) hz (by have h_:=hbud;omega);refine lin Y (Co func34 ha Y (hk30) ?_);rintro e w ⟨H29,L29,rfl,hz,hc29⟩;refine⟨_,rfl,fun a ha=>?_⟩;have hS:=Step.call_tail (Es:= [(some b23,(.cells #[(.slice A21 B.length c21)] 24 (0,0))),(some b19,(.cells #[(iV x18.dO),(iV x18.n),(iV ((x18.a.t).kind)),(iV ((x18.a.t).n)),(.string ((x18.a.t).s)),(.slice x18.a.A ((x18.a.t).l.length) x18.a.c),(iV ((x18.b.t).kind)),(iV ((x18.b.t).n)),(.string ((x18.b.t).s)),(.slice x18.b.A ((x18.b.t).l.length) x18.b.c)] 61 (0,0))),em]) hS hc29;have hse:=hse.mono hc29.le;have hr21:=hr21.mono hc29.le;refine Lm Y ha fun a ha=>?_;refine lin Y (ap (v:=(iV ((sVar B tr).2.1))) ha Y Y Y fun a ha=>?_);refine lin Y (ap (v:=(iV ((sVar B tr).2.2))) ha Y Y Y fun a ha=>?_);refine Ls Y ha fun a ha=>?_;refine Ls Y ha fun a ha=>?_;refine wpList_nil (aa (wp_seq (ab (lin Y (ak (vs:= [(.slice A21 B.length c21)]) T24 Y ha Y (hS.blkL 0 rfl) Y (af Y) Y fun a ha=>?_)))));have hk32:=c_More (n:=1) hS.inv.nil hr21;refine lin Y (Co func25 ha Y (hk32) ?_);rintro e w ⟨H31,A31,c31,rfl,hr31,hc31⟩;refine⟨_,rfl,fun a ha=>?_⟩;have hS:=hS.call hc31;have hse:=hse.mono hc31.le;have hr21:=hr21.mono hc31.le;have hz:=ZS.mono hz (hc31.le);refine Lm Y ha fun a ha=>?_;refine lin Y (ap (v:=(.agg #[(.slice A31 (((moreU B 1).1).length) c31)])) ha Y Y Y fun a ha=>?_);refine lin Y (ap (v:=(iV ((moreU B 1).2))) ha Y Y Y fun a ha=>?_);refine lin Y (aC (cs:= #[(.slice none 0 0)]) T24 hS ha Y Y fun b33 a w hS ha=>?_);refine lin Y (aw (cs':= #[(.slice A31 (((moreU B 1).1).length) c31)]) T24 hS (i:=0) Y ha Y Y Y Y Y Y fun a w hS ha=>?_);refine Ls Y ha fun a ha=>?_;refine wpList_nil (aa (wp_seq ?_));obtain⟨hv1_,hv2_⟩:=var_more (tr:=tr) hh;have hS:=hS.front 2 rfl;have hS:=hS.drop
        by_cases h35:((sVar B tr).2.2)=0
        ·obtain⟨hv3_,hv4_⟩:=hv2_ h35;have hv5_: eqL (sVar B tr).1.1 (moreU B 1).1=true:=by rw [hv4_];exact(cn _ _).2 rfl
         have hS_:=hS;refine a9 bF [FcV (iV ((sVar B tr).2.2)),FcV (iV ((moreU B 1).2)),FcV (.bool false),FcV (.bool false),FcV (iV ((sVar B tr).2.2)),FcV (.bool true),FcV (.bool true),FcV (iV ((sVar B tr).2.1)),FcV (pB b23),FcV (.slice A21 B.length c21),FcV (iV ((B.length: Nat): Int)),FcV (.bool false),FcV (.bool false),FcV (pB pw),fun H v=> ∃ A c,v=(.agg #[(.slice A (((sVar B tr).1.1).length) c)])∧RowT H A c ((sVar B tr).1.1),FcV (.agg #[(.slice A31 (((moreU B 1).1).length) c31)]),FcV (.bool true),FcV (.bool false),FcV (.bool false),FcV (.bool false),FcV (.bool false)] (N:=228) (E:= [(5,(pB pw)),(7,(.map (some bm))),(10,(pB b23)),(11,(iV (((tr.length): Nat): Int))),(12,(iV ((sVar B tr).2.1))),(13,(iV ((sVar B tr).2.2))),(14,(pB b33)),(15,(iV ((moreU B 1).2))),(54,(.slice Ap ps.length cp)),(55,(iV ((ps.length: Nat): Int))),(56,(iV ((k: Nat): Int)))]) mixed Y (M1 (M1 (M1 (M1 (M1 (M1 (M1 (M1 (M1 (M1 (M1 (M1 (M1 (M1 (Monos.cons (fun _ _ _ hl ⟨A,c,h,hr⟩=>⟨A,c,h,hr.mono hl⟩) (M1 (M1 (M1 (M1 (M1 (M1 (Monos.nil)))))))))))))))))))))) hS (ha.pk Y) (.c4 ?_ ?_ ?_ ?_ (.c4 ?_ ?_ ?_ ?_ (.c4 ?_ ?_ ?_ ?_ (.c4 ?_ ?_ ?_ ?_ (.c4 ?_ ?_ ?_ ?_ (.cons ?_ (.nil))))))) (fun a w H39 hle39 hS ha hdr_=>?_)
         ·refine Qy Y fun a w H_ hle hS ha hd=>?_;exact ai ha Y Y fun a ha=>ql ha hS
         ·refine Qy Y fun a w H_ hle hS ha hd=>?_;exact ai ha Y Y fun a ha=>ql ha hS
         ·refine Qy1 0 rfl fun a w H_ hle hS ha hd=>?_;obtain⟨_,ha,rfl⟩:=hd.g ha 1 rfl;refine id (a8 (i:=((sVar B tr).2.2)) (j:=((moreU B 1).2)) ha Y Y Y fun a ha=>?_);exact qdone (Le.refl _) ha hS (by first |(rw [decide_eq_true hv1_] <;> rfl) |(rw [decide_eq_false hv1_] <;> rfl) |(rw [hv1_] <;> rfl) | simp [hv1_])
         ·refine Qy1 2 rfl fun a w H_ hle hS ha hd=>?_;refine id (ai ha Y Y fun a ha=>?_);exact qdone (Le.refl _) ha hS (by first |(rw [decide_eq_true hv1_] <;> rfl) |(rw [decide_eq_false hv1_] <;> rfl) |(rw [hv1_] <;> rfl) | simp [hv1_])
         ·refine Qg 3 rfl fun a w H_ hle hS ha hd=>?_;exact ai ha Y Y fun a ha=>ql ha hS
         ·refine Qg 3 rfl fun a w H_ hle hS ha hd=>?_;obtain⟨_,ha,rfl⟩:=hd.g ha 4 rfl;refine id (aU (i:=((sVar B tr).2.2)) (j:=0) ha Y Y Y fun a ha=>?_);exact qdone (Le.refl _) ha hS (by first |(rw [decide_eq_true h35] <;> rfl) |(rw [decide_eq_false h35] <;> rfl) |(rw [h35] <;> rfl) | simp [h35])
         ·refine Qg 3 rfl fun a w H_ hle hS ha hd=>?_;obtain⟨_,ha,rfl⟩:=hd.g ha 5 rfl;refine id (ai ha Y Y fun a ha=>?_);exact qdone (Le.refl _) ha hS (by first |(rw [decide_eq_true h35] <;> rfl) |(rw [decide_eq_false h35] <;> rfl) |(rw [h35] <;> rfl) | simp [h35])
         ·refine Qg 6 rfl fun a w H_ hle hS ha hd=>?_;exact ai ha Y Y fun a ha=>ql ha hS
         ·refine Qg 6 rfl fun a w H_ hle hS ha hd=>?_;exact ac (f:=0) (o2:=0) T24 T22 Y Y Y Y ha Y Y fun a ha=>ql ha hS
         ·refine Qg 6 rfl fun a w H_ hle hS ha hd=>?_;obtain⟨_,ha,rfl⟩:=hd.g ha 8 rfl;have hr21:=hr21.mono hle;refine id (ad (v:=(.slice A21 B.length c21)) T22 Y ha Y (hS.blkL 1 rfl) Y Y fun a ha=>?_);exact qdone (Le.refl _) ha hS (by first |(rw [decide_eq_true hr21] <;> rfl) |(rw [decide_eq_false hr21] <;> rfl) |(rw [hr21] <;> rfl) | simp [hr21])
         ·refine Qg 6 rfl fun a w H_ hle hS ha hd=>?_;obtain⟨_,ha,rfl⟩:=hd.g ha 9 rfl;exact aF T22.und ha Y Y fun a ha=>ql ha hS
         ·refine Qg 6 rfl fun a w H_ hle hS ha hd=>?_;obtain⟨_,ha,rfl⟩:=hd.g ha 7 rfl;obtain⟨_,ha,rfl⟩:=hd.g ha 10 rfl;refine id (a8 (i:=((sVar B tr).2.1)) (j:=((B.length: Nat): Int)) ha Y Y Y fun a ha=>?_);exact qdone (Le.refl _) ha hS (by first |(rw [decide_eq_true hv3_] <;> rfl) |(rw [decide_eq_false hv3_] <;> rfl) |(rw [hv3_] <;> rfl) | simp [hv3_])
         ·refine Qg 6 rfl fun a w H_ hle hS ha hd=>?_;obtain⟨_,ha,rfl⟩:=hd.g ha 11 rfl;refine id (ai ha Y Y fun a ha=>?_);exact qdone (Le.refl _) ha hS (by first |(rw [decide_eq_true hv3_] <;> rfl) |(rw [decide_eq_false hv3_] <;> rfl) |(rw [hv3_] <;> rfl) | simp [hv3_])
         ·refine Qg 12 rfl fun a w H_ hle hS ha hd=>?_;exact ai ha Y Y fun a ha=>ql ha hS
         ·refine Qg 12 rfl fun a w H_ hle hS ha hd=>?_;obtain⟨_,ha,rfl⟩:=hd.g ha 13 rfl;have hz:=ZS.mono hz (hle);have hk37:=aX (Inv.tail (Es:= [(some b33,(.cells #[(.slice A31 (((moreU B 1).1).length) c31)] 24 (0,0))),(some b23,(.cells #[(.slice A21 B.length c21)] 24 (0,0))),em]) hS.inv) hz;refine id (Co func32 ha Y (hk37) ?_);rintro e w ⟨H36,A36,c36,rfl,hr36, -,hc36⟩;refine⟨_,rfl,fun a ha=>?_⟩;have hS:=Step.call_tail (Es:= [(some b33,(.cells #[(.slice A31 (((moreU B 1).1).length) c31)] 24 (0,0))),(some b23,(.cells #[(.slice A21 B.length c21)] 24 (0,0))),em]) hS hc36;exact qdone hc36.le ha hS ⟨A36,c36,rfl,hr36⟩
         ·refine Qg 12 rfl fun a w H_ hle hS ha hd=>?_;exact ak (vs:= [(.slice A31 (((moreU B 1).1).length) c31)]) T24 Y ha Y (hS.blkL 0 rfl) Y (af Y) Y fun a ha=>ql ha hS
         ·refine Qg 12 rfl fun a w H_ hle hS ha hd=>?_;obtain⟨_,ha,A36,c36,rfl,hr36⟩:=hd.g ha 14 rfl;obtain⟨_,ha,rfl⟩:=hd.g ha 15 rfl;have hr31:=hr31.mono hle;have hk38:=aH hS.inv.nil hr36 hr31;refine id (Cs func28 ha Y (hk38) hS fun a w ha hS=>?_);exact qdone (Le.refl _) ha hS (by first |(rw [decide_eq_true hv5_] <;> rfl) |(rw [decide_eq_false hv5_] <;> rfl) |(rw [hv5_] <;> rfl) | simp [hv5_])
         ·refine Qg 12 rfl fun a w H_ hle hS ha hd=>?_;obtain⟨_,ha,rfl⟩:=hd.g ha 16 rfl;exact aQ ha Y Y fun a ha=>ql ha hS
         ·refine Qg 6 rfl fun a w H_ hle hS ha hd=>?_;obtain⟨_,ha,rfl⟩:=hd.g ha 12 rfl;obtain⟨_,ha,rfl⟩:=hd.g ha 17 rfl;exact ah ha Y Y Y fun a ha=>ql ha hS
         ·refine Qg 3 rfl fun a w H_ hle hS ha hd=>?_;obtain⟨_,ha,rfl⟩:=hd.g ha 6 rfl;obtain⟨_,ha,rfl⟩:=hd.g ha 18 rfl;exact an ha Y Y Y fun a ha=>ql ha hS
         ·refine Qy1 3 rfl fun a w H_ hle hS ha hd=>?_;obtain⟨_,ha,rfl⟩:=hd.g ha 19 rfl;exact ah ha Y Y Y fun a ha=>ql ha hS
         have hse:=hse.mono hle39;have hz:=ZS.mono hz (hle39);obtain⟨_,ha,rfl⟩:=Dd ha hdr_ 20 rfl;refine aa (am ha Y (wp_skip (au (aa (?_)))));have hg_:=(goes_var hh);have hh2:=hg_.ha;have hbud2:=hg_.bud;have hmk2:=hg_.mark;have hse2:=hse.go hg_.back;have hS:=hS.drop;have hS:=hS.drop;exact⟨H39,(sVar B tr).1.1,(sVar B tr).1.2,L29,em,nb,f,(hc29.le.trans (hc31.le.trans (hle39))),ha.pk Y,hS,hz,hM,hnb,hse2,hh2,hbud2,hmk2⟩
        ·have hS_:=hS;refine a9 ba [FcV (iV ((sVar B tr).2.2)),FcV (iV ((moreU B 1).2)),FcV (.bool false),FcV (.bool false),FcV (iV ((sVar B tr).2.2)),FcV (.bool false),FcV (.bool false),FcV undef,FcV undef,FcV undef,FcV undef,FcV undef,FcV undef,FcV undef,FcV undef,FcV undef,FcV undef,FcV undef,FcV undef,FcV (.bool false),FcV (.bool false)] (N:=228) (E:= [(5,(pB pw)),(7,(.map (some bm))),(10,(pB b23)),(11,(iV (((tr.length): Nat): Int))),(12,(iV ((sVar B tr).2.1))),(13,(iV ((sVar B tr).2.2))),(14,(pB b33)),(15,(iV ((moreU B 1).2))),(54,(.slice Ap ps.length cp)),(55,(iV ((ps.length: Nat): Int))),(56,(iV ((k: Nat): Int)))]) mixed Y Mq hS (ha.pk Y) (.c4 ?_ ?_ ?_ ?_ (.c4 ?_ ?_ ?_ ?_ (.c4 ?_ ?_ ?_ ?_ (.c4 ?_ ?_ ?_ ?_ (.c4 ?_ ?_ ?_ ?_ (.cons ?_ (.nil))))))) (fun a w H40 hle40 hS ha hdr_=>?_)
         ·refine Qz Y fun a w hS ha hd=>?_;exact ai ha Y Y fun a ha=>qe ha hS
         ·refine Qz Y fun a w hS ha hd=>?_;exact ai ha Y Y fun a ha=>qe ha hS
         ·refine Qz1 0 rfl fun a w hS ha hd=>?_;obtain⟨_,ha,rfl⟩:=hd.g ha 1 rfl;refine id (a8 (i:=((sVar B tr).2.2)) (j:=((moreU B 1).2)) ha Y Y Y fun a ha=>?_);exact qdone Y ha hS (by first |(rw [decide_eq_true hv1_] <;> rfl) |(rw [decide_eq_false hv1_] <;> rfl) |(rw [hv1_] <;> rfl) | simp [hv1_])
         ·refine Qz1 2 rfl fun a w hS ha hd=>?_;refine id (ai ha Y Y fun a ha=>?_);exact qdone Y ha hS (by first |(rw [decide_eq_true hv1_] <;> rfl) |(rw [decide_eq_false hv1_] <;> rfl) |(rw [hv1_] <;> rfl) | simp [hv1_])
         ·intro a w H_ hle hS ha hd;subst hle;obtain⟨_,ha,rfl⟩:=hd.g ha 3 rfl;rw [if_pos (ag Y ha Y Y Y)];exact ai ha Y Y fun a ha=>qe ha hS
         ·intro a w H_ hle hS ha hd;subst hle;obtain⟨_,ha,rfl⟩:=hd.g ha 4 rfl;obtain⟨_,ha,rfl⟩:=hd.g ha 3 rfl;rw [if_pos (ag Y ha Y Y Y)];refine id (aU (i:=((sVar B tr).2.2)) (j:=0) ha Y Y Y fun a ha=>?_);exact qdone Y ha hS (by first |(rw [decide_eq_true h35] <;> rfl) |(rw [decide_eq_false h35] <;> rfl) |(rw [h35] <;> rfl) | simp [h35])
         ·intro a w H_ hle hS ha hd;subst hle;obtain⟨_,ha,rfl⟩:=hd.g ha 5 rfl;obtain⟨_,ha,rfl⟩:=hd.g ha 3 rfl;rw [if_pos (ag Y ha Y Y Y)];refine id (ai ha Y Y fun a ha=>?_);exact qdone Y ha hS (by first |(rw [decide_eq_true h35] <;> rfl) |(rw [decide_eq_false h35] <;> rfl) |(rw [h35] <;> rfl) | simp [h35])
         ·intro a w H_ hle hS ha hd;subst hle;obtain⟨_,ha,rfl⟩:=hd.g ha 6 rfl;rw [if_neg (aq Y Y ha Y Y Y)];intro d hdd;rfl
         ·intro a w H_ hle hS ha hd;subst hle;obtain⟨_,ha,rfl⟩:=hd.g ha 6 rfl;rw [if_neg (aq Y Y ha Y Y Y)];intro d hdd;rfl
         ·intro a w H_ hle hS ha hd;subst hle;obtain⟨_,ha,rfl⟩:=hd.g ha 8 rfl;obtain⟨_,ha,rfl⟩:=hd.g ha 6 rfl;rw [if_neg (aq Y Y ha Y Y Y)];intro d hdd;rfl
         ·intro a w H_ hle hS ha hd;subst hle;obtain⟨_,ha,rfl⟩:=hd.g ha 9 rfl;obtain⟨_,ha,rfl⟩:=hd.g ha 6 rfl;rw [if_neg (aq Y Y ha Y Y Y)];intro d hdd;rfl
         ·intro a w H_ hle hS ha hd;subst hle;obtain⟨_,ha,rfl⟩:=hd.g ha 7 rfl;obtain⟨_,ha,rfl⟩:=hd.g ha 10 rfl;obtain⟨_,ha,rfl⟩:=hd.g ha 6 rfl;rw [if_neg (aq Y Y ha Y Y Y)];intro d hdd;rfl
         ·intro a w H_ hle hS ha hd;subst hle;obtain⟨_,ha,rfl⟩:=hd.g ha 11 rfl;obtain⟨_,ha,rfl⟩:=hd.g ha 6 rfl;rw [if_neg (aq Y Y ha Y Y Y)];intro d hdd;rfl
         ·intro a w H_ hle hS ha hd;subst hle;obtain⟨_,ha,rfl⟩:=hd.g ha 12 rfl;rw [if_neg (aR Y ha Y Y Y)];intro d hdd;rfl
         ·intro a w H_ hle hS ha hd;subst hle;obtain⟨_,ha,rfl⟩:=hd.g ha 13 rfl;obtain⟨_,ha,rfl⟩:=hd.g ha 12 rfl;rw [if_neg (aR Y ha Y Y Y)];intro d hdd;rfl
         ·intro a w H_ hle hS ha hd;subst hle;obtain⟨_,ha,rfl⟩:=hd.g ha 12 rfl;rw [if_neg (aR Y ha Y Y Y)];intro d hdd;rfl
         ·intro a w H_ hle hS ha hd;subst hle;obtain⟨_,ha,rfl⟩:=hd.g ha 14 rfl;obtain⟨_,ha,rfl⟩:=hd.g ha 15 rfl;obtain⟨_,ha,rfl⟩:=hd.g ha 12 rfl;rw [if_neg (aR Y ha Y Y Y)];intro d hdd;rfl
         ·intro a w H_ hle hS ha hd;subst hle;obtain⟨_,ha,rfl⟩:=hd.g ha 16 rfl;obtain⟨_,ha,rfl⟩:=hd.g ha 12 rfl;rw [if_neg (aR Y ha Y Y Y)];intro d hdd;rfl
         ·intro a w H_ hle hS ha hd;subst hle;obtain⟨_,ha,rfl⟩:=hd.g ha 12 rfl;obtain⟨_,ha,rfl⟩:=hd.g ha 17 rfl;obtain⟨_,ha,rfl⟩:=hd.g ha 6 rfl;rw [if_neg (aq Y Y ha Y Y Y)];intro d hdd;rfl
         ·intro a w H_ hle hS ha hd;subst hle;obtain⟨_,ha,rfl⟩:=hd.g ha 6 rfl;obtain⟨_,ha,rfl⟩:=hd.g ha 18 rfl;obtain⟨_,ha,rfl⟩:=hd.g ha 3 rfl;rw [if_pos (ag Y ha Y Y Y)];exact ah ha Y Y Y fun a ha=>qe ha hS
         ·refine Qz1 3 rfl fun a w hS ha hd=>?_;obtain⟨_,ha,rfl⟩:=hd.g ha 19 rfl;exact ah ha Y Y Y fun a ha=>qe ha hS
         subst hle40;obtain⟨_,ha,rfl⟩:=Dd ha hdr_ 20 rfl;refine aa (am ha Y (wp_skip (au (aa (?_)))));have hg_:=(goes_var hh);have hh2:=hg_.ha;have hbud2:=hg_.bud;have hmk2:=hg_.mark;have hse2:=hse.go hg_.back;have hS:=hS.drop;have hS:=hS.drop;exact⟨H31,(sVar B tr).1.1,(sVar B tr).1.2,L29,em,nb,f,(hc29.le.trans (hc31.le)),ha.pk Y,hS,hz,hM,hnb,hse2,hh2,hbud2,hmk2⟩
       ·refine am ha Y (wp_seq (ab (lin Y (aU (i:=x18.dO) (j:=2) ha Y Y Y fun a ha=>?_))));refine Ls Y ha fun a ha=>?_;refine wpList_nil (aa (al (t:=99) ha Y (fun h41 ha=>?_) (fun h41 ha=>?_)))
        ·refine ar ha Y (wp_seq (ab (Lm Y ha fun a ha=>?_)));refine lin Y (ac (f:=2) (o2:=2) T61 T26 Y Y Y Y ha Y Y fun a ha=>?_);refine lin Y (ak (vs:=(tL (x18.a.t) x18.a.A x18.a.c)) T26 Y ha Y (hS.blkL 1 rfl) Y (af Y) Y fun a ha=>?_);refine lin Y (ac (f:=3) (o2:=6) T61 T26 Y Y Y Y ha Y Y fun a ha=>?_);refine lin Y (ak (vs:=(tL (x18.b.t) x18.b.A x18.b.c)) T26 Y ha Y (hS.blkL 1 rfl) Y (af Y) Y fun a ha=>?_);have hk43:=c_SUnify (Inv.tail (Es:= [(some b23,(.cells #[(.slice A21 B.length c21)] 24 (0,0))),(some b19,(.cells #[(iV x18.dO),(iV x18.n),(iV ((x18.a.t).kind)),(iV ((x18.a.t).n)),(.string ((x18.a.t).s)),(.slice x18.a.A ((x18.a.t).l.length) x18.a.c),(iV ((x18.b.t).kind)),(iV ((x18.b.t).n)),(.string ((x18.b.t).s)),(.slice x18.b.A ((x18.b.t).l.length) x18.b.c)] 61 (0,0))),em]) hS.inv) hz (HG.g hh.h) (HG.gs hh.h (by have h_:=hbud;omega)) hqa18 hqb18;refine lin Y (Co func35 ha Y (hk43) ?_);rintro e w ⟨H42,L42,rfl,hz,hc42⟩;refine⟨_,rfl,fun a ha=>?_⟩;have hS:=Step.call_tail (Es:= [(some b23,(.cells #[(.slice A21 B.length c21)] 24 (0,0))),(some b19,(.cells #[(iV x18.dO),(iV x18.n),(iV ((x18.a.t).kind)),(iV ((x18.a.t).n)),(.string ((x18.a.t).s)),(.slice x18.a.A ((x18.a.t).l.length) x18.a.c),(iV ((x18.b.t).kind)),(iV ((x18.b.t).n)),(.string ((x18.b.t).s)),(.slice x18.b.A ((x18.b.t).l.length) x18.b.c)] 61 (0,0))),em]) hS hc42;have hse:=hse.mono hc42.le;have hqa18:=hqa18.mono hc42.le;have hqb18:=hqb18.mono hc42.le;have hr21:=hr21.mono hc42.le;refine Lm Y ha fun a ha=>?_;refine lin Y (ap (v:=(.bool ((sUni B tr x18.a.t x18.b.t).2.1))) ha Y Y Y fun a ha=>?_);refine lin Y (ap (v:=(iV ((sUni B tr x18.a.t x18.b.t).2.2))) ha Y Y Y fun a ha=>?_);refine Ls Y ha fun a ha=>?_;refine Ls Y ha fun a ha=>?_;refine wpList_nil (aa (wp_seq (ab (lin Y (ak (vs:= [(.slice A21 B.length c21)]) T24 Y ha Y (hS.blkL 0 rfl) Y (af Y) Y fun a ha=>?_)))));refine lin Y (ac (f:=2) (o2:=2) T61 T26 Y Y Y Y ha Y Y fun a ha=>?_);refine lin Y (ak (vs:=(tL (x18.a.t) x18.a.A x18.a.c)) T26 Y ha Y (hS.blkL 1 rfl) Y (af Y) Y fun a ha=>?_);refine lin Y (ac (f:=3) (o2:=6) T61 T26 Y Y Y Y ha Y Y fun a ha=>?_);refine lin Y (ak (vs:=(tL (x18.b.t) x18.b.A x18.b.c)) T26 Y ha Y (hS.blkL 1 rfl) Y (af Y) Y fun a ha=>?_);have hk45:=fj hS.inv.nil hr21 hqa18 hqb18;refine lin Y (Co func15 ha Y (hk45) ?_);rintro e w ⟨H44,A44,c44,rfl,hr44,hc44⟩;refine⟨_,rfl,fun a ha=>?_⟩;have hS:=hS.call hc44;have hse:=hse.mono hc44.le;have hr21:=hr21.mono hc44.le;have hz:=ZS.mono hz (hc44.le);refine Lm Y ha fun a ha=>?_;refine lin Y (ap (v:=(.agg #[(.slice A44 (((unifyU B x18.a.t x18.b.t).1.1).length) c44)])) ha Y Y Y fun a ha=>?_);refine lin Y (ap (v:=(.bool ((unifyU B x18.a.t x18.b.t).1.2))) ha Y Y Y fun a ha=>?_);refine lin Y (ap (v:=(iV ((unifyU B x18.a.t x18.b.t).2))) ha Y Y Y fun a ha=>?_);refine lin Y (aC (cs:= #[(.slice none 0 0)]) T24 hS ha Y Y fun b46 a w hS ha=>?_);refine lin Y (aw (cs':= #[(.slice A44 (((unifyU B x18.a.t x18.b.t).1.1).length) c44)]) T24 hS (i:=0) Y ha Y Y Y Y Y Y fun a w hS ha=>?_);refine Ls Y ha fun a ha=>?_;refine Ls Y ha fun a ha=>?_;refine wpList_nil (aa (wp_seq ?_));obtain⟨hv1_,hv2_,hv3_,hv4_⟩:=uni_uni (tr:=tr) (a:=x18.a.t) (b:=x18.b.t) hh
         cases hok_:(sUni B tr x18.a.t x18.b.t).2.1
         ·have hv5_:(unifyU B x18.a.t x18.b.t).1.2=false:=by rw [← hv2_];exact hok_
          have hv6_: eqL (sUni B tr x18.a.t x18.b.t).1.1 B=true:=by rw [hv3_ hok_];exact(cn _ _).2 rfl
          have hS:=hS.front 2 rfl;have hS:=hS.drop;have hS_:=hS;refine a9 bF [FcV (iV ((sUni B tr x18.a.t x18.b.t).2.2)),FcV (iV ((unifyU B x18.a.t x18.b.t).2)),FcV (.bool false),FcV (.bool false),FcV (.bool false),FcV (.bool ((unifyU B x18.a.t x18.b.t).1.2)),FcV (.bool false),FcV (.bool false),FcV (.bool false),FcV (.bool false),FcV (.bool true),FcV (.bool true),FcV (pB pw),fun H v=> ∃ A c,v=(.agg #[(.slice A (((sUni B tr x18.a.t x18.b.t).1.1).length) c)])∧RowT H A c ((sUni B tr x18.a.t x18.b.t).1.1),FcV (.agg #[(.slice A21 B.length c21)]),FcV (.bool true),FcV (.bool false),FcV (.bool false),FcV (.bool false),FcV (.bool false),FcV (.bool false),FcV (.bool false),FcV undef,FcV undef,FcV undef,FcV undef,FcV undef,FcV (.bool false),FcV (.bool false)] (N:=228) (E:= [(5,(pB pw)),(7,(.map (some bm))),(10,(pB b23)),(11,(iV (((tr.length): Nat): Int))),(16,(.bool ((sUni B tr x18.a.t x18.b.t).2.1))),(17,(iV ((sUni B tr x18.a.t x18.b.t).2.2))),(18,(pB b46)),(19,(.bool ((unifyU B x18.a.t x18.b.t).1.2))),(20,(iV ((unifyU B x18.a.t x18.b.t).2))),(54,(.slice Ap ps.length cp)),(55,(iV ((ps.length: Nat): Int))),(56,(iV ((k: Nat): Int)))]) mixed Y (M1 (M1 (M1 (M1 (M1 (M1 (M1 (M1 (M1 (M1 (M1 (M1 (M1 (Monos.cons (fun _ _ _ hl ⟨A,c,h,hr⟩=>⟨A,c,h,hr.mono hl⟩) (M1 (M1 (M1 (M1 (M1 (M1 (M1 (M1 (M1 (M1 (M1 (M1 (M1 (M1 (M1 (Monos.nil)))))))))))))))))))))))))))))) hS (ha.pk Y) (.c4 ?_ ?_ ?_ ?_ (.c4 ?_ ?_ ?_ ?_ (.c4 ?_ ?_ ?_ ?_ (.c4 ?_ ?_ ?_ ?_ (.c4 ?_ ?_ ?_ ?_ (.c4 ?_ ?_ ?_ ?_ (.c4 ?_ ?_ ?_ ?_ (.cons ?_ (.nil))))))))) (fun a w H51 hle51 hS ha hdr_=>?_)
          ·refine Qy Y fun a w H_ hle hS ha hd=>?_;exact ai ha Y Y fun a ha=>ql ha hS
          ·refine Qy Y fun a w H_ hle hS ha hd=>?_;exact ai ha Y Y fun a ha=>ql ha hS
          ·refine Qy1 0 rfl fun a w H_ hle hS ha hd=>?_;obtain⟨_,ha,rfl⟩:=hd.g ha 1 rfl;refine id (a8 (i:=((sUni B tr x18.a.t x18.b.t).2.2)) (j:=((unifyU B x18.a.t x18.b.t).2)) ha Y Y Y fun a ha=>?_);exact qdone (Le.refl _) ha hS (by first |(rw [decide_eq_true hv1_] <;> rfl) |(rw [decide_eq_false hv1_] <;> rfl) |(rw [hv1_] <;> rfl) | simp [hv1_])
          ·refine Qy1 2 rfl fun a w H_ hle hS ha hd=>?_;refine id (ai ha Y Y fun a ha=>?_);exact qdone (Le.refl _) ha hS (by first |(rw [decide_eq_true hv1_] <;> rfl) |(rw [decide_eq_false hv1_] <;> rfl) |(rw [hv1_] <;> rfl) | simp [hv1_])
          ·refine Qg 3 rfl fun a w H_ hle hS ha hd=>?_;refine id (ai ha Y Y fun a ha=>?_);exact qdone (Le.refl _) ha hS (by first |(rw [decide_eq_true hok_] <;> rfl) |(rw [decide_eq_false hok_] <;> rfl) |(rw [hok_] <;> rfl) | simp [hok_])
          ·refine Qg 3 rfl fun a w H_ hle hS ha hd=>?_;exact ai ha Y Y fun a ha=>ql ha hS
          ·refine Qg 3 rfl fun a w H_ hle hS ha hd=>?_;obtain⟨_,ha,rfl⟩:=hd.g ha 4 rfl;obtain⟨_,ha,rfl⟩:=hd.g ha 5 rfl;refine id (fM T4.und ha Y Y Y fun a ha=>?_);exact qdone (Le.refl _) ha hS (by first |(rw [decide_eq_true hv5_] <;> rfl) |(rw [decide_eq_false hv5_] <;> rfl) |(rw [hv5_] <;> rfl) | simp [hv5_])
          ·refine Qy1 3 rfl fun a w H_ hle hS ha hd=>?_;obtain⟨_,ha,rfl⟩:=hd.g ha 6 rfl;refine id (ah ha Y Y Y fun a ha=>?_);exact qdone (Le.refl _) ha hS (by first |(rw [decide_eq_true hv5_] <;> rfl) |(rw [decide_eq_false hv5_] <;> rfl) |(rw [hv5_] <;> rfl) | simp [hv5_])
          ·refine Qy1 7 rfl fun a w H_ hle hS ha hd=>?_;refine id (ai ha Y Y fun a ha=>?_);exact qdone (Le.refl _) ha hS (by first |(rw [decide_eq_true hv5_] <;> rfl) |(rw [decide_eq_false hv5_] <;> rfl) |(rw [hv5_] <;> rfl) | simp [hv5_])
          ·refine Qg 8 rfl fun a w H_ hle hS ha hd=>?_;refine id (ai ha Y Y fun a ha=>?_);exact qdone (Le.refl _) ha hS (by first |(rw [decide_eq_true hok_] <;> rfl) |(rw [decide_eq_false hok_] <;> rfl) |(rw [hok_] <;> rfl) | simp [hok_])
          ·refine Qg 8 rfl fun a w H_ hle hS ha hd=>?_;obtain⟨_,ha,rfl⟩:=hd.g ha 9 rfl;exact aQ ha Y Y fun a ha=>ql ha hS
          ·refine Qg 8 rfl fun a w H_ hle hS ha hd=>?_;obtain⟨_,ha,rfl⟩:=hd.g ha 10 rfl;exact ai ha Y Y fun a ha=>ql ha hS
          ·refine Qg 11 rfl fun a w H_ hle hS ha hd=>?_;exact ai ha Y Y fun a ha=>ql ha hS
          ·refine Qg 11 rfl fun a w H_ hle hS ha hd=>?_;obtain⟨_,ha,rfl⟩:=hd.g ha 12 rfl;have hz:=ZS.mono hz (hle);have hk49:=aX (Inv.tail (Es:= [(some b46,(.cells #[(.slice A44 (((unifyU B x18.a.t x18.b.t).1.1).length) c44)] 24 (0,0))),(some b23,(.cells #[(.slice A21 B.length c21)] 24 (0,0))),em]) hS.inv) hz;refine id (Co func32 ha Y (hk49) ?_);rintro e w ⟨H48,A48,c48,rfl,hr48, -,hc48⟩;refine⟨_,rfl,fun a ha=>?_⟩;have hS:=Step.call_tail (Es:= [(some b46,(.cells #[(.slice A44 (((unifyU B x18.a.t x18.b.t).1.1).length) c44)] 24 (0,0))),(some b23,(.cells #[(.slice A21 B.length c21)] 24 (0,0))),em]) hS hc48;exact qdone hc48.le ha hS ⟨A48,c48,rfl,hr48⟩
          ·refine Qg 11 rfl fun a w H_ hle hS ha hd=>?_;exact ak (vs:= [(.slice A21 B.length c21)]) T24 Y ha Y (hS.blkL 1 rfl) Y (af Y) Y fun a ha=>ql ha hS
          ·refine Qg 11 rfl fun a w H_ hle hS ha hd=>?_;obtain⟨_,ha,A48,c48,rfl,hr48⟩:=hd.g ha 13 rfl;obtain⟨_,ha,rfl⟩:=hd.g ha 14 rfl;have hr21:=hr21.mono hle;have hk50:=aH hS.inv.nil hr48 hr21;refine id (Cs func28 ha Y (hk50) hS fun a w ha hS=>?_);exact qdone (Le.refl _) ha hS (by first |(rw [decide_eq_true hv6_] <;> rfl) |(rw [decide_eq_false hv6_] <;> rfl) |(rw [hv6_] <;> rfl) | simp [hv6_])
          ·refine Qg 11 rfl fun a w H_ hle hS ha hd=>?_;obtain⟨_,ha,rfl⟩:=hd.g ha 15 rfl;exact aQ ha Y Y fun a ha=>ql ha hS
          ·refine Qg 8 rfl fun a w H_ hle hS ha hd=>?_;obtain⟨_,ha,rfl⟩:=hd.g ha 11 rfl;obtain⟨_,ha,rfl⟩:=hd.g ha 16 rfl;exact an ha Y Y Y fun a ha=>ql ha hS
          ·refine Qy1 8 rfl fun a w H_ hle hS ha hd=>?_;obtain⟨_,ha,rfl⟩:=hd.g ha 17 rfl;exact ah ha Y Y Y fun a ha=>ql ha hS
          ·refine Qy1 18 rfl fun a w H_ hle hS ha hd=>?_;exact ai ha Y Y fun a ha=>ql ha hS
          ·refine Qg 19 rfl fun a w H_ hle hS ha hd=>?_;refine id (ai ha Y Y fun a ha=>?_);exact qdone (Le.refl _) ha hS (by first |(rw [decide_eq_true hok_] <;> rfl) |(rw [decide_eq_false hok_] <;> rfl) |(rw [hok_] <;> rfl) | simp [hok_])
          ·refine Qg 19 rfl fun a w H_ hle hS ha hd=>?_;obtain⟨_,ha,rfl⟩:=hd.g ha 20 rfl;refine id (ai ha Y Y fun a ha=>?_);exact qdone (Le.refl _) ha hS (by first |(rw [decide_eq_true hok_] <;> rfl) |(rw [decide_eq_false hok_] <;> rfl) |(rw [hok_] <;> rfl) | simp [hok_])
          ·intro a w H_ hle hS ha hd;obtain⟨_,ha,rfl⟩:=hd.g ha 21 rfl;rw [if_neg (aq Y Y ha Y Y Y)];intro d hdd;rfl
          ·intro a w H_ hle hS ha hd;obtain⟨_,ha,rfl⟩:=hd.g ha 22 rfl;obtain⟨_,ha,rfl⟩:=hd.g ha 21 rfl;rw [if_neg (aq Y Y ha Y Y Y)];intro d hdd;rfl
          ·intro a w H_ hle hS ha hd;obtain⟨_,ha,rfl⟩:=hd.g ha 21 rfl;rw [if_neg (aq Y Y ha Y Y Y)];intro d hdd;rfl
          ·intro a w H_ hle hS ha hd;obtain⟨_,ha,rfl⟩:=hd.g ha 23 rfl;obtain⟨_,ha,rfl⟩:=hd.g ha 24 rfl;obtain⟨_,ha,rfl⟩:=hd.g ha 21 rfl;rw [if_neg (aq Y Y ha Y Y Y)];intro d hdd;rfl
          ·intro a w H_ hle hS ha hd;obtain⟨_,ha,rfl⟩:=hd.g ha 25 rfl;obtain⟨_,ha,rfl⟩:=hd.g ha 21 rfl;rw [if_neg (aq Y Y ha Y Y Y)];intro d hdd;rfl
          ·refine Qg 19 rfl fun a w H_ hle hS ha hd=>?_;obtain⟨_,ha,rfl⟩:=hd.g ha 21 rfl;obtain⟨_,ha,rfl⟩:=hd.g ha 26 rfl;exact ah ha Y Y Y fun a ha=>ql ha hS
          ·refine Qy1 19 rfl fun a w H_ hle hS ha hd=>?_;obtain⟨_,ha,rfl⟩:=hd.g ha 27 rfl;exact ah ha Y Y Y fun a ha=>ql ha hS
          have hse:=hse.mono hle51;have hz:=ZS.mono hz (hle51);obtain⟨_,ha,rfl⟩:=Dd ha hdr_ 28 rfl;refine aa (am ha Y (wp_skip (au (aa (?_)))));have hg_:=(goes_uni (a:=x18.a.t) (b:=x18.b.t) hh);have hh2:=hg_.ha;have hbud2:=hg_.bud;have hmk2:=hg_.mark;have hse2:=hse.go hg_.back;have hS:=hS.drop;have hS:=hS.drop;exact⟨H51,(sUni B tr x18.a.t x18.b.t).1.1,(sUni B tr x18.a.t x18.b.t).1.2,L42,em,nb,f,(hc42.le.trans (hc44.le.trans (hle51))),ha.pk Y,hS,hz,hM,hnb,hse2,hh2,hbud2,hmk2⟩
         ·have hv5_:(unifyU B x18.a.t x18.b.t).1.2=true:=by rw [← hv2_];exact hok_
          have hv6_: eqL (sUni B tr x18.a.t x18.b.t).1.1 (unifyU B x18.a.t x18.b.t).1.1=true:=by rw [hv4_ hok_];exact(cn _ _).2 rfl
          have hS:=hS.front 2 rfl;have hS:=hS.drop;have hS_:=hS;refine a9 bF [FcV (iV ((sUni B tr x18.a.t x18.b.t).2.2)),FcV (iV ((unifyU B x18.a.t x18.b.t).2)),FcV (.bool false),FcV (.bool false),FcV (.bool true),FcV (.bool ((unifyU B x18.a.t x18.b.t).1.2)),FcV (.bool false),FcV (.bool false),FcV (.bool false),FcV (.bool true),FcV (.bool false),FcV (.bool false),FcV undef,FcV undef,FcV undef,FcV undef,FcV undef,FcV (.bool false),FcV (.bool false),FcV (.bool false),FcV (.bool true),FcV (.bool true),FcV (pB pw),fun H v=> ∃ A c,v=(.agg #[(.slice A (((sUni B tr x18.a.t x18.b.t).1.1).length) c)])∧RowT H A c ((sUni B tr x18.a.t x18.b.t).1.1),FcV (.agg #[(.slice A44 (((unifyU B x18.a.t x18.b.t).1.1).length) c44)]),FcV (.bool true),FcV (.bool false),FcV (.bool false),FcV (.bool false)] (N:=228) (E:= [(5,(pB pw)),(7,(.map (some bm))),(10,(pB b23)),(11,(iV (((tr.length): Nat): Int))),(16,(.bool ((sUni B tr x18.a.t x18.b.t).2.1))),(17,(iV ((sUni B tr x18.a.t x18.b.t).2.2))),(18,(pB b46)),(19,(.bool ((unifyU B x18.a.t x18.b.t).1.2))),(20,(iV ((unifyU B x18.a.t x18.b.t).2))),(54,(.slice Ap ps.length cp)),(55,(iV ((ps.length: Nat): Int))),(56,(iV ((k: Nat): Int)))]) mixed Y (M1 (M1 (M1 (M1 (M1 (M1 (M1 (M1 (M1 (M1 (M1 (M1 (M1 (M1 (M1 (M1 (M1 (M1 (M1 (M1 (M1 (M1 (M1 (Monos.cons (fun _ _ _ hl ⟨A,c,h,hr⟩=>⟨A,c,h,hr.mono hl⟩) (M1 (M1 (M1 (M1 (M1 (Monos.nil)))))))))))))))))))))))))))))) hS (ha.pk Y) (.c4 ?_ ?_ ?_ ?_ (.c4 ?_ ?_ ?_ ?_ (.c4 ?_ ?_ ?_ ?_ (.c4 ?_ ?_ ?_ ?_ (.c4 ?_ ?_ ?_ ?_ (.c4 ?_ ?_ ?_ ?_ (.c4 ?_ ?_ ?_ ?_ (.cons ?_ (.nil))))))))) (fun a w H55 hle55 hS ha hdr_=>?_)
          ·refine Qy Y fun a w H_ hle hS ha hd=>?_;exact ai ha Y Y fun a ha=>ql ha hS
          ·refine Qy Y fun a w H_ hle hS ha hd=>?_;exact ai ha Y Y fun a ha=>ql ha hS
          ·refine Qy1 0 rfl fun a w H_ hle hS ha hd=>?_;obtain⟨_,ha,rfl⟩:=hd.g ha 1 rfl;refine id (a8 (i:=((sUni B tr x18.a.t x18.b.t).2.2)) (j:=((unifyU B x18.a.t x18.b.t).2)) ha Y Y Y fun a ha=>?_);exact qdone (Le.refl _) ha hS (by first |(rw [decide_eq_true hv1_] <;> rfl) |(rw [decide_eq_false hv1_] <;> rfl) |(rw [hv1_] <;> rfl) | simp [hv1_])
          ·refine Qy1 2 rfl fun a w H_ hle hS ha hd=>?_;refine id (ai ha Y Y fun a ha=>?_);exact qdone (Le.refl _) ha hS (by first |(rw [decide_eq_true hv1_] <;> rfl) |(rw [decide_eq_false hv1_] <;> rfl) |(rw [hv1_] <;> rfl) | simp [hv1_])
          ·refine Qg 3 rfl fun a w H_ hle hS ha hd=>?_;refine id (ai ha Y Y fun a ha=>?_);exact qdone (Le.refl _) ha hS (by first |(rw [decide_eq_true hok_] <;> rfl) |(rw [decide_eq_false hok_] <;> rfl) |(rw [hok_] <;> rfl) | simp [hok_])
          ·refine Qg 3 rfl fun a w H_ hle hS ha hd=>?_;exact ai ha Y Y fun a ha=>ql ha hS
          ·refine Qg 3 rfl fun a w H_ hle hS ha hd=>?_;obtain⟨_,ha,rfl⟩:=hd.g ha 4 rfl;obtain⟨_,ha,rfl⟩:=hd.g ha 5 rfl;refine id (fM T4.und ha Y Y Y fun a ha=>?_);exact qdone (Le.refl _) ha hS (by first |(rw [decide_eq_true hv5_] <;> rfl) |(rw [decide_eq_false hv5_] <;> rfl) |(rw [hv5_] <;> rfl) | simp [hv5_])
          ·refine Qy1 3 rfl fun a w H_ hle hS ha hd=>?_;obtain⟨_,ha,rfl⟩:=hd.g ha 6 rfl;refine id (ah ha Y Y Y fun a ha=>?_);exact qdone (Le.refl _) ha hS (by first |(rw [decide_eq_true hv5_] <;> rfl) |(rw [decide_eq_false hv5_] <;> rfl) |(rw [hv5_] <;> rfl) | simp [hv5_])
          ·refine Qy1 7 rfl fun a w H_ hle hS ha hd=>?_;refine id (ai ha Y Y fun a ha=>?_);exact qdone (Le.refl _) ha hS (by first |(rw [decide_eq_true hv5_] <;> rfl) |(rw [decide_eq_false hv5_] <;> rfl) |(rw [hv5_] <;> rfl) | simp [hv5_])
          ·refine Qg 8 rfl fun a w H_ hle hS ha hd=>?_;refine id (ai ha Y Y fun a ha=>?_);exact qdone (Le.refl _) ha hS (by first |(rw [decide_eq_true hok_] <;> rfl) |(rw [decide_eq_false hok_] <;> rfl) |(rw [hok_] <;> rfl) | simp [hok_])
          ·refine Qg 8 rfl fun a w H_ hle hS ha hd=>?_;obtain⟨_,ha,rfl⟩:=hd.g ha 9 rfl;exact aQ ha Y Y fun a ha=>ql ha hS
          ·refine Qg 8 rfl fun a w H_ hle hS ha hd=>?_;obtain⟨_,ha,rfl⟩:=hd.g ha 10 rfl;exact ai ha Y Y fun a ha=>ql ha hS
          ·intro a w H_ hle hS ha hd;obtain⟨_,ha,rfl⟩:=hd.g ha 11 rfl;rw [if_neg (aq Y Y ha Y Y Y)];intro d hdd;rfl
          ·intro a w H_ hle hS ha hd;obtain⟨_,ha,rfl⟩:=hd.g ha 12 rfl;obtain⟨_,ha,rfl⟩:=hd.g ha 11 rfl;rw [if_neg (aq Y Y ha Y Y Y)];intro d hdd;rfl
          ·intro a w H_ hle hS ha hd;obtain⟨_,ha,rfl⟩:=hd.g ha 11 rfl;rw [if_neg (aq Y Y ha Y Y Y)];intro d hdd;rfl
          ·intro a w H_ hle hS ha hd;obtain⟨_,ha,rfl⟩:=hd.g ha 13 rfl;obtain⟨_,ha,rfl⟩:=hd.g ha 14 rfl;obtain⟨_,ha,rfl⟩:=hd.g ha 11 rfl;rw [if_neg (aq Y Y ha Y Y Y)];intro d hdd;rfl
          ·intro a w H_ hle hS ha hd;obtain⟨_,ha,rfl⟩:=hd.g ha 15 rfl;obtain⟨_,ha,rfl⟩:=hd.g ha 11 rfl;rw [if_neg (aq Y Y ha Y Y Y)];intro d hdd;rfl
          ·refine Qg 8 rfl fun a w H_ hle hS ha hd=>?_;obtain⟨_,ha,rfl⟩:=hd.g ha 11 rfl;obtain⟨_,ha,rfl⟩:=hd.g ha 16 rfl;exact ah ha Y Y Y fun a ha=>ql ha hS
          ·refine Qy1 8 rfl fun a w H_ hle hS ha hd=>?_;obtain⟨_,ha,rfl⟩:=hd.g ha 17 rfl;exact ah ha Y Y Y fun a ha=>ql ha hS
          ·refine Qy1 18 rfl fun a w H_ hle hS ha hd=>?_;exact ai ha Y Y fun a ha=>ql ha hS
          ·refine Qg 19 rfl fun a w H_ hle hS ha hd=>?_;refine id (ai ha Y Y fun a ha=>?_);exact qdone (Le.refl _) ha hS (by first |(rw [decide_eq_true hok_] <;> rfl) |(rw [decide_eq_false hok_] <;> rfl) |(rw [hok_] <;> rfl) | simp [hok_])
          ·refine Qg 19 rfl fun a w H_ hle hS ha hd=>?_;obtain⟨_,ha,rfl⟩:=hd.g ha 20 rfl;refine id (ai ha Y Y fun a ha=>?_);exact qdone (Le.refl _) ha hS (by first |(rw [decide_eq_true hok_] <;> rfl) |(rw [decide_eq_false hok_] <;> rfl) |(rw [hok_] <;> rfl) | simp [hok_])
          ·refine Qg 21 rfl fun a w H_ hle hS ha hd=>?_;exact ai ha Y Y fun a ha=>ql ha hS
          ·refine Qg 21 rfl fun a w H_ hle hS ha hd=>?_;obtain⟨_,ha,rfl⟩:=hd.g ha 22 rfl;have hz:=ZS.mono hz (hle);have hk53:=aX (Inv.tail (Es:= [(some b46,(.cells #[(.slice A44 (((unifyU B x18.a.t x18.b.t).1.1).length) c44)] 24 (0,0))),(some b23,(.cells #[(.slice A21 B.length c21)] 24 (0,0))),em]) hS.inv) hz;refine id (Co func32 ha Y (hk53) ?_);rintro e w ⟨H52,A52,c52,rfl,hr52, -,hc52⟩;refine⟨_,rfl,fun a ha=>?_⟩;have hS:=Step.call_tail (Es:= [(some b46,(.cells #[(.slice A44 (((unifyU B x18.a.t x18.b.t).1.1).length) c44)] 24 (0,0))),(some b23,(.cells #[(.slice A21 B.length c21)] 24 (0,0))),em]) hS hc52;exact qdone hc52.le ha hS ⟨A52,c52,rfl,hr52⟩
          ·refine Qg 21 rfl fun a w H_ hle hS ha hd=>?_;exact ak (vs:= [(.slice A44 (((unifyU B x18.a.t x18.b.t).1.1).length) c44)]) T24 Y ha Y (hS.blkL 0 rfl) Y (af Y) Y fun a ha=>ql ha hS
          ·refine Qg 21 rfl fun a w H_ hle hS ha hd=>?_;obtain⟨_,ha,A52,c52,rfl,hr52⟩:=hd.g ha 23 rfl;obtain⟨_,ha,rfl⟩:=hd.g ha 24 rfl;have hr44:=hr44.mono hle;have hk54:=aH hS.inv.nil hr52 hr44;refine id (Cs func28 ha Y (hk54) hS fun a w ha hS=>?_);exact qdone (Le.refl _) ha hS (by first |(rw [decide_eq_true hv6_] <;> rfl) |(rw [decide_eq_false hv6_] <;> rfl) |(rw [hv6_] <;> rfl) | simp [hv6_])
          ·refine Qg 21 rfl fun a w H_ hle hS ha hd=>?_;obtain⟨_,ha,rfl⟩:=hd.g ha 25 rfl;exact aQ ha Y Y fun a ha=>ql ha hS
          ·refine Qg 19 rfl fun a w H_ hle hS ha hd=>?_;obtain⟨_,ha,rfl⟩:=hd.g ha 21 rfl;obtain⟨_,ha,rfl⟩:=hd.g ha 26 rfl;exact an ha Y Y Y fun a ha=>ql ha hS
          ·refine Qy1 19 rfl fun a w H_ hle hS ha hd=>?_;obtain⟨_,ha,rfl⟩:=hd.g ha 27 rfl;exact ah ha Y Y Y fun a ha=>ql ha hS
          have hse:=hse.mono hle55;have hz:=ZS.mono hz (hle55);obtain⟨_,ha,rfl⟩:=Dd ha hdr_ 28 rfl;refine aa (am ha Y (wp_skip (au (aa (?_)))));have hg_:=(goes_uni (a:=x18.a.t) (b:=x18.b.t) hh);have hh2:=hg_.ha;have hbud2:=hg_.bud;have hmk2:=hg_.mark;have hse2:=hse.go hg_.back;have hS:=hS.drop;have hS:=hS.drop;exact⟨H55,(sUni B tr x18.a.t x18.b.t).1.1,(sUni B tr x18.a.t x18.b.t).1.2,L42,em,nb,f,(hc42.le.trans (hc44.le.trans (hle55))),ha.pk Y,hS,hz,hM,hnb,hse2,hh2,hbud2,hmk2⟩
        ·refine am ha Y (wp_seq (ab (lin Y (aU (i:=x18.dO) (j:=3) ha Y Y Y fun a ha=>?_))));refine Ls Y ha fun a ha=>?_;refine wpList_nil (aa (al (t:=149) ha Y (fun h56 ha=>?_) (fun h56 ha=>?_)))
         ·refine ar ha Y (wp_seq (ab (Lm Y ha fun a ha=>?_)));refine lin Y (ac (f:=1) (o2:=1) T61 T3 Y Y Y Y ha Y Y fun a ha=>?_);refine lin Y (ad (v:=(iV x18.n)) T3 Y ha Y (hS.blkL 1 rfl) Y Y fun a ha=>?_);have hk58:=c_Back (Inv.tail (Es:= [(some b23,(.cells #[(.slice A21 B.length c21)] 24 (0,0))),(some b19,(.cells #[(iV x18.dO),(iV x18.n),(iV ((x18.a.t).kind)),(iV ((x18.a.t).n)),(.string ((x18.a.t).s)),(.slice x18.a.A ((x18.a.t).l.length) x18.a.c),(iV ((x18.b.t).kind)),(iV ((x18.b.t).n)),(.string ((x18.b.t).s)),(.slice x18.b.A ((x18.b.t).l.length) x18.b.c)] 61 (0,0))),em]) hS.inv) hz (mark:=x18.n) (HG.wt hh.h);refine lin Y (Co func36 ha Y (hk58) ?_);rintro e w ⟨H57,L57,rfl,hz,hc57⟩;refine⟨_,rfl,fun a ha=>?_⟩;have hS:=Step.call_tail (Es:= [(some b23,(.cells #[(.slice A21 B.length c21)] 24 (0,0))),(some b19,(.cells #[(iV x18.dO),(iV x18.n),(iV ((x18.a.t).kind)),(iV ((x18.a.t).n)),(.string ((x18.a.t).s)),(.slice x18.a.A ((x18.a.t).l.length) x18.a.c),(iV ((x18.b.t).kind)),(iV ((x18.b.t).n)),(.string ((x18.b.t).s)),(.slice x18.b.A ((x18.b.t).l.length) x18.b.c)] 61 (0,0))),em]) hS hc57;have hse:=hse.mono hc57.le;refine Ls Y ha fun a ha=>?_;refine wpList_nil (aa (wp_seq (wp_seq (bh (D:= []) (N:=228) (E:= [(5,(pB pw)),(7,(.map (some bm))),(9,(pB b19)),(11,(iV (((tr.length): Nat): Int))),(21,(iV ((sBack B tr x18.n).2))),(54,(.slice Ap ps.length cp)),(55,(iV ((ps.length: Nat): Int))),(56,(iV ((k: Nat): Int))),(166,(.bool (!((decide (((sBack B tr x18.n).2)=0)) ==((decide (0≤x18.n))&&(decide (x18.n≤(((tr.length): Nat): Int))))))))]) (fun a ha=>?_) ?_))));rotate_left
          ·refine Lm Y ha fun a ha=>?_;refine lin Y (aU (i:=((sBack B tr x18.n).2)) (j:=0) ha Y Y Y fun a ha=>?_);refine lin Y (ac (f:=1) (o2:=1) T61 T3 Y Y Y Y ha Y Y fun a ha=>?_);refine lin Y (ad (v:=(iV x18.n)) T3 Y ha Y (hS.blkL 1 rfl) Y Y fun a ha=>?_);refine lin Y (cW (i:=x18.n) (j:=0) ha Y Y Y fun a ha=>?_);refine Lm Y ha fun a ha=>?_;refine al (t:=160) ha Y (fun h59 ha=>?_) (fun h59 ha=>?_)
           ·refine ae Y ha Y Y Y (ac (f:=1) (o2:=1) T61 T3 Y Y Y Y ha Y Y fun a ha=>?_);refine ae Y ha Y Y Y (ad (v:=(iV x18.n)) T3 Y ha Y (hS.blkL 1 rfl) Y Y fun a ha=>?_);refine ae Y ha Y Y Y (ai ha Y Y fun a ha=>?_);refine ae Y ha Y Y Y (dA (i:=x18.n) (j:=(((tr.length): Nat): Int)) ha Y Y Y fun a ha=>?_);refine lin Y (an ha Y Y Y fun a ha=>?_);refine lin Y (fM T4.und ha Y Y Y fun a ha=>?_);have hj60:(!((decide (((sBack B tr x18.n).2)=0)) ==((decide (0≤x18.n))&&(decide (x18.n≤(((tr.length): Nat): Int))))))=(!((decide (((sBack B tr x18.n).2)=0)) ==(decide (x18.n≤(((tr.length): Nat): Int))))):=by
             try rw [decide_eq_true h59]
             rfl
            exact wpList_nil ⟨rfl,rfl,Has.cons ha Y (Has.cons ha Y (Has.cons ha Y (Has.cons ha Y (Has.cons ha Y (Has.cons ha Y (Has.cons ha Y (Has.cons ha Y (Has.cons ha (by rw [hj60];rfl) (ha.nil)))))))))⟩
           ·refine Lf Y ha Y Y fun a ha=>?_;refine Lf Y ha Y Y fun a ha=>?_;refine Lf Y ha Y Y fun a ha=>?_;refine Lf Y ha Y Y fun a ha=>?_;refine lin Y (ah ha Y Y Y fun a ha=>?_);refine lin Y (fM T4.und ha Y Y Y fun a ha=>?_);have hj61:(!((decide (((sBack B tr x18.n).2)=0)) ==((decide (0≤x18.n))&&(decide (x18.n≤(((tr.length): Nat): Int))))))=(!((decide (((sBack B tr x18.n).2)=0)) == false)):=by
             try rw [decide_eq_false h59]
             rfl
            exact wpList_nil ⟨rfl,rfl,Has.cons ha Y (Has.cons ha Y (Has.cons ha Y (Has.cons ha Y (Has.cons ha Y (Has.cons ha Y (Has.cons ha Y (Has.cons ha Y (Has.cons ha (by rw [hj61];rfl) (ha.nil)))))))))⟩
          refine aa (av (t:=166) ha Y (fun h62 ha=>?_) (fun h62 ha=>?_))
          ·refine ar ha Y (wp_seq (ab (Ls Y ha fun a ha=>?_)));refine wpList_nil (aa (wp_ret (aj (az (aj (az (aj (aj (az (aj (ret1 Y ha Y ?_)))))))))))
           exfalso
           rw [back_dec] at h62;simp at h62
          ·refine am ha Y (wp_skip (aa (wp_seq (wp_seq ?_))))
           rcases hfq_: f x18.n with _ | v_
           ·refine ab (Lm Y ha fun a ha=>?_);refine lin Y (ac (f:=1) (o2:=1) T61 T3 Y Y Y Y ha Y Y fun a ha=>?_);refine lin Y (ad (v:=(iV x18.n)) T3 Y ha Y (hS.blkL 1 rfl) Y Y fun a ha=>?_);refine lin Y (o_lookupN T59.und T3.und T24 hS (i:=2) Y hM ha Y Y (hnn_ _ (List.mem_of_getElem? hx18)) hfq_ Y fun a ha=>?_);refine Lm Y ha fun a ha=>?_;refine lin Y (ap (v:=(.agg #[(.slice none 0 0)])) ha Y Y Y fun a ha=>?_);refine lin Y (ap (v:=(.bool false)) ha Y Y Y fun a ha=>?_);refine lin Y (aC (cs:= #[(.slice none 0 0)]) T24 hS ha Y Y fun b63 a w hS ha=>?_);refine lin Y (aw (cs':= #[(.slice none 0 0)]) T24 hS (i:=0) Y ha Y Y Y Y Y Y fun a w hS ha=>?_);refine Ls Y ha fun a ha=>?_;refine wpList_nil (aa (wp_seq ?_));have hS:=hS.front 1 rfl;have hS:=hS.drop
            by_cases h65:((sBack B tr x18.n).2)=0
            ·have hv1_:=back_mark (B:=B) h65;have hv2_: eqL (sBack B tr x18.n).1.1 (undoS B tr (x18.n).toNat).1=true:=by rw [(ej h65).1];exact(cn _ _).2 rfl
             have hS_:=hS;refine a9 ba [FcV (iV ((sBack B tr x18.n).2)),FcV (.bool true),FcV (.bool true),FcV (pB pw),FcV (iV (((((sBack B tr x18.n).1.2).length): Nat): Int)),FcV (.pointer (some ⟨b19,1,none⟩)),FcV (iV x18.n),FcV (.bool false),FcV (.bool false),FcV (.bool false),FcV (.bool false),FcV undef,FcV undef,FcV undef,FcV undef,FcV undef,FcV (.bool false),FcV (.bool false),FcV (.bool false)] (N:=228) (E:= [(5,(pB pw)),(7,(.map (some bm))),(9,(pB b19)),(11,(iV (((tr.length): Nat): Int))),(21,(iV ((sBack B tr x18.n).2))),(22,(pB b63)),(23,(.bool false)),(54,(.slice Ap ps.length cp)),(55,(iV ((ps.length: Nat): Int))),(56,(iV ((k: Nat): Int)))]) mixed Y Mq hS (ha.pk Y) (.c4 ?_ ?_ ?_ ?_ (.c4 ?_ ?_ ?_ ?_ (.c4 ?_ ?_ ?_ ?_ (.c4 ?_ ?_ ?_ ?_ (.c2 ?_ ?_ (.cons ?_ (.nil))))))) (fun a w H68 hle68 hS ha hdr_=>?_)
             ·refine Qz Y fun a w hS ha hd=>?_;exact ai ha Y Y fun a ha=>qe ha hS
             ·refine Qz1 0 rfl fun a w hS ha hd=>?_;refine id (aU (i:=((sBack B tr x18.n).2)) (j:=0) ha Y Y Y fun a ha=>?_);exact qdone Y ha hS (by first |(rw [decide_eq_true h65] <;> rfl) |(rw [decide_eq_false h65] <;> rfl) |(rw [h65] <;> rfl) | simp [h65])
             ·refine Qz1 1 rfl fun a w hS ha hd=>?_;refine id (ai ha Y Y fun a ha=>?_);exact qdone Y ha hS (by first |(rw [decide_eq_true h65] <;> rfl) |(rw [decide_eq_false h65] <;> rfl) |(rw [h65] <;> rfl) | simp [h65])
             ·intro a w H_ hle hS ha hd;subst hle;obtain⟨_,ha,rfl⟩:=hd.g ha 2 rfl;rw [if_pos (ag Y ha Y Y Y)];exact ai ha Y Y fun a ha=>qe ha hS
             ·intro a w H_ hle hS ha hd;subst hle;obtain⟨_,ha,rfl⟩:=hd.g ha 3 rfl;obtain⟨_,ha,rfl⟩:=hd.g ha 2 rfl;rw [if_pos (ag Y ha Y Y Y)];have hk67:=dv (Inv.tail (Es:= [(some b63,(.cells #[(.slice none 0 0)] 24 (0,0))),(some b19,(.cells #[(iV x18.dO),(iV x18.n),(iV ((x18.a.t).kind)),(iV ((x18.a.t).n)),(.string ((x18.a.t).s)),(.slice x18.a.A ((x18.a.t).l.length) x18.a.c),(iV ((x18.b.t).kind)),(iV ((x18.b.t).n)),(.string ((x18.b.t).s)),(.slice x18.b.A ((x18.b.t).l.length) x18.b.c)] 61 (0,0))),em]) hS.inv) hz;refine id (Co func33 ha Y (hk67) ?_);rintro e w ⟨rfl,hc66⟩;refine⟨_,rfl,fun a ha=>?_⟩;have hS:=Step.call_tail (Es:= [(some b63,(.cells #[(.slice none 0 0)] 24 (0,0))),(some b19,(.cells #[(iV x18.dO),(iV x18.n),(iV ((x18.a.t).kind)),(iV ((x18.a.t).n)),(.string ((x18.a.t).s)),(.slice x18.a.A ((x18.a.t).l.length) x18.a.c),(iV ((x18.b.t).kind)),(iV ((x18.b.t).n)),(.string ((x18.b.t).s)),(.slice x18.b.A ((x18.b.t).l.length) x18.b.c)] 61 (0,0))),em]) hS hc66;exact qe ha hS
             ·intro a w H_ hle hS ha hd;subst hle;obtain⟨_,ha,rfl⟩:=hd.g ha 2 rfl;rw [if_pos (ag Y ha Y Y Y)];exact ac (f:=1) (o2:=1) T61 T3 Y Y Y Y ha Y Y fun a ha=>qe ha hS
             ·intro a w H_ hle hS ha hd;subst hle;obtain⟨_,ha,rfl⟩:=hd.g ha 5 rfl;obtain⟨_,ha,rfl⟩:=hd.g ha 2 rfl;rw [if_pos (ag Y ha Y Y Y)];exact ad (v:=(iV x18.n)) T3 Y ha Y (hS.blkL 1 rfl) Y Y fun a ha=>qe ha hS
             ·intro a w H_ hle hS ha hd;subst hle;obtain⟨_,ha,rfl⟩:=hd.g ha 4 rfl;obtain⟨_,ha,rfl⟩:=hd.g ha 6 rfl;obtain⟨_,ha,rfl⟩:=hd.g ha 2 rfl;rw [if_pos (ag Y ha Y Y Y)];refine id (a8 (i:=(((((sBack B tr x18.n).1.2).length): Nat): Int)) (j:=x18.n) ha Y Y Y fun a ha=>?_);exact qdone Y ha hS (by first |(rw [decide_eq_true hv1_] <;> rfl) |(rw [decide_eq_false hv1_] <;> rfl) |(rw [hv1_] <;> rfl) | simp [hv1_])
             ·intro a w H_ hle hS ha hd;subst hle;obtain⟨_,ha,rfl⟩:=hd.g ha 7 rfl;obtain⟨_,ha,rfl⟩:=hd.g ha 2 rfl;rw [if_pos (ag Y ha Y Y Y)];refine id (ai ha Y Y fun a ha=>?_);exact qdone Y ha hS (by first |(rw [decide_eq_true hv1_] <;> rfl) |(rw [decide_eq_false hv1_] <;> rfl) |(rw [hv1_] <;> rfl) | simp [hv1_])
             ·intro a w H_ hle hS ha hd;subst hle;obtain⟨_,ha,rfl⟩:=hd.g ha 8 rfl;rw [if_pos (ag Y ha Y Y Y)];exact ai ha Y Y fun a ha=>qe ha hS
             ·intro a w H_ hle hS ha hd;subst hle;obtain⟨_,ha,rfl⟩:=hd.g ha 9 rfl;obtain⟨_,ha,rfl⟩:=hd.g ha 8 rfl;rw [if_pos (ag Y ha Y Y Y)];exact ai ha Y Y fun a ha=>qe ha hS
             ·intro a w H_ hle hS ha hd;subst hle;obtain⟨_,ha,rfl⟩:=hd.g ha 10 rfl;rw [if_neg (aq Y Y ha Y Y Y)];intro d hdd;rfl
             ·intro a w H_ hle hS ha hd;subst hle;obtain⟨_,ha,rfl⟩:=hd.g ha 11 rfl;obtain⟨_,ha,rfl⟩:=hd.g ha 10 rfl;rw [if_neg (aq Y Y ha Y Y Y)];intro d hdd;rfl
             ·intro a w H_ hle hS ha hd;subst hle;obtain⟨_,ha,rfl⟩:=hd.g ha 10 rfl;rw [if_neg (aq Y Y ha Y Y Y)];intro d hdd;rfl
             ·intro a w H_ hle hS ha hd;subst hle;obtain⟨_,ha,rfl⟩:=hd.g ha 12 rfl;obtain⟨_,ha,rfl⟩:=hd.g ha 13 rfl;obtain⟨_,ha,rfl⟩:=hd.g ha 10 rfl;rw [if_neg (aq Y Y ha Y Y Y)];intro d hdd;rfl
             ·intro a w H_ hle hS ha hd;subst hle;obtain⟨_,ha,rfl⟩:=hd.g ha 14 rfl;obtain⟨_,ha,rfl⟩:=hd.g ha 10 rfl;rw [if_neg (aq Y Y ha Y Y Y)];intro d hdd;rfl
             ·intro a w H_ hle hS ha hd;subst hle;obtain⟨_,ha,rfl⟩:=hd.g ha 10 rfl;obtain⟨_,ha,rfl⟩:=hd.g ha 15 rfl;obtain⟨_,ha,rfl⟩:=hd.g ha 8 rfl;rw [if_pos (ag Y ha Y Y Y)];exact ah ha Y Y Y fun a ha=>qe ha hS
             ·intro a w H_ hle hS ha hd;subst hle;obtain⟨_,ha,rfl⟩:=hd.g ha 8 rfl;obtain⟨_,ha,rfl⟩:=hd.g ha 16 rfl;obtain⟨_,ha,rfl⟩:=hd.g ha 2 rfl;rw [if_pos (ag Y ha Y Y Y)];exact ah ha Y Y Y fun a ha=>qe ha hS
             ·refine Qz1 2 rfl fun a w hS ha hd=>?_;obtain⟨_,ha,rfl⟩:=hd.g ha 17 rfl;exact an ha Y Y Y fun a ha=>qe ha hS
             subst hle68;obtain⟨_,ha,rfl⟩:=Dd ha hdr_ 18 rfl;refine aa (am ha Y (wp_skip (aa (wp_seq (ab (Lm Y ha fun a ha=>?_))))));refine lin Y (aU (i:=((sBack B tr x18.n).2)) (j:=0) ha Y Y Y fun a ha=>?_);refine wpList_nil (aa (al (t:=194) ha Y (fun h69 ha=>?_) (fun h69 ha=>?_)))
             ·refine ar ha Y (wp_seq (ab (Lm Y ha fun a ha=>?_)));refine lin Y (o_rangeV T59.und T3.und hS (i:=2) Y hM ha Y Y fun rr cnt0 er70 a w hR hS ha=>?_);refine wpList_nil (aa (wp_block ?_));have hS:=hS.front 1 rfl;have hS:=hS.drop;refine aN (fun nn_ a w=> ∃(em: Ent),∃(er: Ent),∃(f2: Int→Option Value),∃(left: Int→Bool),∃(cnt: Nat),nn_=cnt∧Has [] a 228 [(5,(pB pw)),(7,(.map (some bm))),(9,(pB b19)),(11,(iV (((tr.length): Nat): Int))),(54,(.slice Ap ps.length cp)),(55,(iV ((ps.length: Nat): Int))),(56,(iV ((k: Nat): Int))),(196,(pB rr))]∧Step w0 H [] w H57 (er::(some b19,(.cells #[(iV x18.dO),(iV x18.n),(iV ((x18.a.t).kind)),(iV ((x18.a.t).n)),(.string ((x18.a.t).s)),(.slice x18.a.A ((x18.a.t).l.length) x18.a.c),(iV ((x18.b.t).kind)),(iV ((x18.b.t).n)),(.string ((x18.b.t).s)),(.slice x18.b.A ((x18.b.t).l.length) x18.b.c)] 61 (0,0)))::em::L57)∧(RangeV prog 3 em er bm rr nb f2 left cnt)∧(Cut f f2 x18.n left)) _ ⟨em,er70,f,(fun q=>(f q).isSome),cnt0,rfl,ha.pk Y,hS,hR,cut_start⟩ ?_;intro n72 a w hh;obtain⟨em,er,f2,left,cnt,hn72,ha,hS,hR,hcut⟩:=hh;refine wp_seq ?_;have hS:=hS.front 2 rfl;have hS:=hS.front 1 rfl;refine ab (lin Y (o_nextV T3.und hS hR ha Y Y (fun hl_ a ha=>?_) (fun q_ v_ cnt1 er73 a w hlq_ hqw_ hlt1 hR hS hen ha=>?_)))
              ·refine lin Y (ap (v:=(.bool false)) ha Y Y Y fun a ha=>?_);refine wpList_nil (aa (wp_seq (am ha Y (wp_exit (ao (ao (aD (au (aa (?_))))))))));obtain⟨hh2,hbud2,hmk2⟩:=eA (m:=x18.n) hh;have hse2:=hse.back h65 (cut_end hcut hl_);have hM:=RangeV.map hS.inv (i:=1) (j:=0) Y Y hR;have hS:=hS.drop;have hS:=hS.front 1 rfl;have hS:=hS.drop;exact⟨H57,(sBack B tr x18.n).1.1,(sBack B tr x18.n).1.2,L57,em,nb,f2,(hc57.le),ha.pk Y,hS,hz,hM,hnb,hse2,hh2,hbud2,hmk2⟩
              ·refine lin Y (ap (v:=(.bool true)) ha Y Y Y fun a ha=>?_);refine wpList_nil (aa (wp_seq (ar ha Y (wp_skip (aa (wp_block (wp_seq (ab (lin Y (o_entryV hen ha Y Y fun a ha=>?_))))))))));refine lin Y (ap (v:=(iV q_)) ha Y Y Y fun a ha=>?_);refine Ls Y ha fun a ha=>?_;refine wpList_nil (aa (wp_seq (ab (Lm Y ha fun a ha=>?_))));refine lin Y (ac (f:=1) (o2:=1) T61 T3 Y Y Y Y ha Y Y fun a ha=>?_);refine lin Y (ad (v:=(iV x18.n)) T3 Y ha Y (hS.blkL 2 rfl) Y Y fun a ha=>?_);refine lin Y (b0 (i:=q_) (j:=x18.n) ha Y Y Y fun a ha=>?_);refine wpList_nil (aa (al (t:=204) ha Y (fun h74 ha=>?_) (fun h74 ha=>?_)))
               ·refine ar ha Y (ab (Lm Y ha fun a ha=>?_));refine Lm Y ha fun a ha=>?_;have hS:=hS.front 1 rfl;refine lin Y (o_deleteV T59.und T3.und hS hR ha Y Y hqw_ fun em75 cnt2 a w hlt2 hR hS ha=>?_);refine wpList_nil (au (aa (?_)));have hS:=hS.front 2 rfl;have hS:=hS.front 2 rfl;exact⟨cnt2,by omega,em75,er73,(delF f2 q_),(fun x=>(left x&&!decide (x=q_))&&!decide (x=q_)),cnt2,rfl,ha.pk Y,hS,hR,(cut_del hcut h74 (fun x hx=>by simp [hx]))⟩
               ·refine am ha Y (wp_skip (au (aa (?_))));have hS:=hS.front 1 rfl;have hS:=hS.front 2 rfl;have hS:=hS.front 2 rfl;exact⟨cnt1,by omega,em,er73,f2,(fun x=>left x&&!decide (x=q_)),cnt1,rfl,ha.pk Y,hS,hR,(cut_keep hcut h74)⟩
             ·exact absurd h65 h69
            ·have hS_:=hS;refine a9 ba [FcV (iV ((sBack B tr x18.n).2)),FcV (.bool false),FcV (.bool false),FcV undef,FcV undef,FcV undef,FcV undef,FcV undef,FcV undef,FcV undef,FcV undef,FcV undef,FcV undef,FcV undef,FcV undef,FcV undef,FcV undef,FcV undef,FcV (.bool false)] (N:=228) (E:= [(5,(pB pw)),(7,(.map (some bm))),(9,(pB b19)),(11,(iV (((tr.length): Nat): Int))),(21,(iV ((sBack B tr x18.n).2))),(22,(pB b63)),(23,(.bool false)),(54,(.slice Ap ps.length cp)),(55,(iV ((ps.length: Nat): Int))),(56,(iV ((k: Nat): Int)))]) mixed Y Mq hS (ha.pk Y) (.c4 ?_ ?_ ?_ ?_ (.c4 ?_ ?_ ?_ ?_ (.c4 ?_ ?_ ?_ ?_ (.c4 ?_ ?_ ?_ ?_ (.c2 ?_ ?_ (.cons ?_ (.nil))))))) (fun a w H76 hle76 hS ha hdr_=>?_)
             ·refine Qz Y fun a w hS ha hd=>?_;exact ai ha Y Y fun a ha=>qe ha hS
             ·refine Qz1 0 rfl fun a w hS ha hd=>?_;refine id (aU (i:=((sBack B tr x18.n).2)) (j:=0) ha Y Y Y fun a ha=>?_);exact qdone Y ha hS (by first |(rw [decide_eq_true h65] <;> rfl) |(rw [decide_eq_false h65] <;> rfl) |(rw [h65] <;> rfl) | simp [h65])
             ·refine Qz1 1 rfl fun a w hS ha hd=>?_;refine id (ai ha Y Y fun a ha=>?_);exact qdone Y ha hS (by first |(rw [decide_eq_true h65] <;> rfl) |(rw [decide_eq_false h65] <;> rfl) |(rw [h65] <;> rfl) | simp [h65])
             ·intro a w H_ hle hS ha hd;subst hle;obtain⟨_,ha,rfl⟩:=hd.g ha 2 rfl;rw [if_neg (aq Y Y ha Y Y Y)];intro d hdd;rfl
             ·intro a w H_ hle hS ha hd;subst hle;obtain⟨_,ha,rfl⟩:=hd.g ha 3 rfl;obtain⟨_,ha,rfl⟩:=hd.g ha 2 rfl;rw [if_neg (aq Y Y ha Y Y Y)];intro d hdd;rfl
             ·intro a w H_ hle hS ha hd;subst hle;obtain⟨_,ha,rfl⟩:=hd.g ha 2 rfl;rw [if_neg (aq Y Y ha Y Y Y)];intro d hdd;rfl
             ·intro a w H_ hle hS ha hd;subst hle;obtain⟨_,ha,rfl⟩:=hd.g ha 5 rfl;obtain⟨_,ha,rfl⟩:=hd.g ha 2 rfl;rw [if_neg (aq Y Y ha Y Y Y)];intro d hdd;rfl
             ·intro a w H_ hle hS ha hd;subst hle;obtain⟨_,ha,rfl⟩:=hd.g ha 4 rfl;obtain⟨_,ha,rfl⟩:=hd.g ha 6 rfl;obtain⟨_,ha,rfl⟩:=hd.g ha 2 rfl;rw [if_neg (aq Y Y ha Y Y Y)];intro d hdd;rfl
             ·intro a w H_ hle hS ha hd;subst hle;obtain⟨_,ha,rfl⟩:=hd.g ha 7 rfl;obtain⟨_,ha,rfl⟩:=hd.g ha 2 rfl;rw [if_neg (aq Y Y ha Y Y Y)];intro d hdd;rfl
             ·intro a w H_ hle hS ha hd;subst hle;obtain⟨_,ha,rfl⟩:=hd.g ha 8 rfl;rw [if_neg (aR Y ha Y Y Y)];intro d hdd;rfl
             ·intro a w H_ hle hS ha hd;subst hle;obtain⟨_,ha,rfl⟩:=hd.g ha 9 rfl;obtain⟨_,ha,rfl⟩:=hd.g ha 8 rfl;rw [if_neg (aR Y ha Y Y Y)];intro d hdd;rfl
             ·intro a w H_ hle hS ha hd;subst hle;obtain⟨_,ha,rfl⟩:=hd.g ha 10 rfl;rw [if_neg (aR Y ha Y Y Y)];intro d hdd;rfl
             ·intro a w H_ hle hS ha hd;subst hle;obtain⟨_,ha,rfl⟩:=hd.g ha 11 rfl;obtain⟨_,ha,rfl⟩:=hd.g ha 10 rfl;rw [if_neg (aR Y ha Y Y Y)];intro d hdd;rfl
             ·intro a w H_ hle hS ha hd;subst hle;obtain⟨_,ha,rfl⟩:=hd.g ha 10 rfl;rw [if_neg (aR Y ha Y Y Y)];intro d hdd;rfl
             ·intro a w H_ hle hS ha hd;subst hle;obtain⟨_,ha,rfl⟩:=hd.g ha 12 rfl;obtain⟨_,ha,rfl⟩:=hd.g ha 13 rfl;obtain⟨_,ha,rfl⟩:=hd.g ha 10 rfl;rw [if_neg (aR Y ha Y Y Y)];intro d hdd;rfl
             ·intro a w H_ hle hS ha hd;subst hle;obtain⟨_,ha,rfl⟩:=hd.g ha 14 rfl;obtain⟨_,ha,rfl⟩:=hd.g ha 10 rfl;rw [if_neg (aR Y ha Y Y Y)];intro d hdd;rfl
             ·intro a w H_ hle hS ha hd;subst hle;obtain⟨_,ha,rfl⟩:=hd.g ha 10 rfl;obtain⟨_,ha,rfl⟩:=hd.g ha 15 rfl;obtain⟨_,ha,rfl⟩:=hd.g ha 8 rfl;rw [if_neg (aR Y ha Y Y Y)];intro d hdd;rfl
             ·intro a w H_ hle hS ha hd;subst hle;obtain⟨_,ha,rfl⟩:=hd.g ha 8 rfl;obtain⟨_,ha,rfl⟩:=hd.g ha 16 rfl;obtain⟨_,ha,rfl⟩:=hd.g ha 2 rfl;rw [if_neg (aq Y Y ha Y Y Y)];intro d hdd;rfl
             ·refine Qz1 2 rfl fun a w hS ha hd=>?_;obtain⟨_,ha,rfl⟩:=hd.g ha 17 rfl;exact ah ha Y Y Y fun a ha=>qe ha hS
             subst hle76;obtain⟨_,ha,rfl⟩:=Dd ha hdr_ 18 rfl;refine aa (am ha Y (wp_skip (aa (wp_seq (ab (Lm Y ha fun a ha=>?_))))));refine lin Y (aU (i:=((sBack B tr x18.n).2)) (j:=0) ha Y Y Y fun a ha=>?_);refine wpList_nil (aa (al (t:=194) ha Y (fun h77 ha=>?_) (fun h77 ha=>?_)))
             ·exact absurd h77 h65
             ·refine am ha Y (wp_skip (au (aa (?_))));obtain⟨hh2,hbud2,hmk2⟩:=eA (m:=x18.n) hh;have hse2: Seen H57 ((sBack B tr x18.n).1.1) ((sBack B tr x18.n).1.2) f:=by rw [back_err h65];exact hse
              have hS:=hS.drop;have hS:=hS.drop;exact⟨H57,(sBack B tr x18.n).1.1,(sBack B tr x18.n).1.2,L57,em,nb,f,(hc57.le),ha.pk Y,hS,hz,hM,hnb,hse2,hh2,hbud2,hmk2⟩
           ·obtain⟨hq1_,Aq,cq,rfl,hrq⟩:=hse _ _ hfq_;refine ab (Lm Y ha fun a ha=>?_);refine lin Y (ac (f:=1) (o2:=1) T61 T3 Y Y Y Y ha Y Y fun a ha=>?_);refine lin Y (ad (v:=(iV x18.n)) T3 Y ha Y (hS.blkL 1 rfl) Y Y fun a ha=>?_);refine lin Y (o_lookupS T59.und T3.und T24 hS (i:=2) Y hM ha Y Y (hnn_ _ (List.mem_of_getElem? hx18)) hfq_ Y fun a ha=>?_);refine Lm Y ha fun a ha=>?_;refine lin Y (ap (v:=(.agg #[(.slice Aq ((undoS B tr (x18.n).toNat).1.length) cq)])) ha Y Y Y fun a ha=>?_);refine lin Y (ap (v:=(.bool true)) ha Y Y Y fun a ha=>?_);refine lin Y (aC (cs:= #[(.slice none 0 0)]) T24 hS ha Y Y fun b78 a w hS ha=>?_);refine lin Y (aw (cs':= #[(.slice Aq ((undoS B tr (x18.n).toNat).1.length) cq)]) T24 hS (i:=0) Y ha Y Y Y Y Y Y fun a w hS ha=>?_);refine Ls Y ha fun a ha=>?_;refine wpList_nil (aa (wp_seq ?_));have hS:=hS.front 1 rfl;have hS:=hS.drop
            by_cases h80:((sBack B tr x18.n).2)=0
            ·have hv1_:=back_mark (B:=B) h80;have hv2_: eqL (sBack B tr x18.n).1.1 (undoS B tr (x18.n).toNat).1=true:=by rw [(ej h80).1];exact(cn _ _).2 rfl
             have hS_:=hS;refine a9 bF [FcV (iV ((sBack B tr x18.n).2)),FcV (.bool true),FcV (.bool true),FcV (pB pw),FcV (iV (((((sBack B tr x18.n).1.2).length): Nat): Int)),FcV (.pointer (some ⟨b19,1,none⟩)),FcV (iV x18.n),FcV (.bool false),FcV (.bool false),FcV (.bool true),FcV (.bool true),FcV (pB pw),fun H v=> ∃ A c,v=(.agg #[(.slice A (((sBack B tr x18.n).1.1).length) c)])∧RowT H A c ((sBack B tr x18.n).1.1),FcV (.agg #[(.slice Aq ((undoS B tr (x18.n).toNat).1.length) cq)]),FcV (.bool true),FcV (.bool false),FcV (.bool false),FcV (.bool false),FcV (.bool false)] (N:=228) (E:= [(5,(pB pw)),(7,(.map (some bm))),(9,(pB b19)),(11,(iV (((tr.length): Nat): Int))),(21,(iV ((sBack B tr x18.n).2))),(22,(pB b78)),(23,(.bool true)),(54,(.slice Ap ps.length cp)),(55,(iV ((ps.length: Nat): Int))),(56,(iV ((k: Nat): Int)))]) mixed Y (M1 (M1 (M1 (M1 (M1 (M1 (M1 (M1 (M1 (M1 (M1 (M1 (Monos.cons (fun _ _ _ hl ⟨A,c,h,hr⟩=>⟨A,c,h,hr.mono hl⟩) (M1 (M1 (M1 (M1 (M1 (M1 (Monos.nil)))))))))))))))))))) hS (ha.pk Y) (.c4 ?_ ?_ ?_ ?_ (.c4 ?_ ?_ ?_ ?_ (.c4 ?_ ?_ ?_ ?_ (.c4 ?_ ?_ ?_ ?_ (.c2 ?_ ?_ (.cons ?_ (.nil))))))) (fun a w H86 hle86 hS ha hdr_=>?_)
             ·refine Qy Y fun a w H_ hle hS ha hd=>?_;exact ai ha Y Y fun a ha=>ql ha hS
             ·refine Qy1 0 rfl fun a w H_ hle hS ha hd=>?_;refine id (aU (i:=((sBack B tr x18.n).2)) (j:=0) ha Y Y Y fun a ha=>?_);exact qdone (Le.refl _) ha hS (by first |(rw [decide_eq_true h80] <;> rfl) |(rw [decide_eq_false h80] <;> rfl) |(rw [h80] <;> rfl) | simp [h80])
             ·refine Qy1 1 rfl fun a w H_ hle hS ha hd=>?_;refine id (ai ha Y Y fun a ha=>?_);exact qdone (Le.refl _) ha hS (by first |(rw [decide_eq_true h80] <;> rfl) |(rw [decide_eq_false h80] <;> rfl) |(rw [h80] <;> rfl) | simp [h80])
             ·refine Qg 2 rfl fun a w H_ hle hS ha hd=>?_;exact ai ha Y Y fun a ha=>ql ha hS
             ·refine Qg 2 rfl fun a w H_ hle hS ha hd=>?_;obtain⟨_,ha,rfl⟩:=hd.g ha 3 rfl;have hz:=ZS.mono hz (hle);have hk82:=dv (Inv.tail (Es:= [(some b78,(.cells #[(.slice Aq ((undoS B tr (x18.n).toNat).1.length) cq)] 24 (0,0))),(some b19,(.cells #[(iV x18.dO),(iV x18.n),(iV ((x18.a.t).kind)),(iV ((x18.a.t).n)),(.string ((x18.a.t).s)),(.slice x18.a.A ((x18.a.t).l.length) x18.a.c),(iV ((x18.b.t).kind)),(iV ((x18.b.t).n)),(.string ((x18.b.t).s)),(.slice x18.b.A ((x18.b.t).l.length) x18.b.c)] 61 (0,0))),em]) hS.inv) hz;refine id (Co func33 ha Y (hk82) ?_);rintro e w ⟨rfl,hc81⟩;refine⟨_,rfl,fun a ha=>?_⟩;have hS:=Step.call_tail (Es:= [(some b78,(.cells #[(.slice Aq ((undoS B tr (x18.n).toNat).1.length) cq)] 24 (0,0))),(some b19,(.cells #[(iV x18.dO),(iV x18.n),(iV ((x18.a.t).kind)),(iV ((x18.a.t).n)),(.string ((x18.a.t).s)),(.slice x18.a.A ((x18.a.t).l.length) x18.a.c),(iV ((x18.b.t).kind)),(iV ((x18.b.t).n)),(.string ((x18.b.t).s)),(.slice x18.b.A ((x18.b.t).l.length) x18.b.c)] 61 (0,0))),em]) hS hc81;exact ql ha hS
             ·refine Qg 2 rfl fun a w H_ hle hS ha hd=>?_;exact ac (f:=1) (o2:=1) T61 T3 Y Y Y Y ha Y Y fun a ha=>ql ha hS
             ·refine Qg 2 rfl fun a w H_ hle hS ha hd=>?_;obtain⟨_,ha,rfl⟩:=hd.g ha 5 rfl;exact ad (v:=(iV x18.n)) T3 Y ha Y (hS.blkL 1 rfl) Y Y fun a ha=>ql ha hS
             ·refine Qg 2 rfl fun a w H_ hle hS ha hd=>?_;obtain⟨_,ha,rfl⟩:=hd.g ha 4 rfl;obtain⟨_,ha,rfl⟩:=hd.g ha 6 rfl;refine id (a8 (i:=(((((sBack B tr x18.n).1.2).length): Nat): Int)) (j:=x18.n) ha Y Y Y fun a ha=>?_);exact qdone (Le.refl _) ha hS (by first |(rw [decide_eq_true hv1_] <;> rfl) |(rw [decide_eq_false hv1_] <;> rfl) |(rw [hv1_] <;> rfl) | simp [hv1_])
             ·refine Qg 2 rfl fun a w H_ hle hS ha hd=>?_;obtain⟨_,ha,rfl⟩:=hd.g ha 7 rfl;refine id (ai ha Y Y fun a ha=>?_);exact qdone (Le.refl _) ha hS (by first |(rw [decide_eq_true hv1_] <;> rfl) |(rw [decide_eq_false hv1_] <;> rfl) |(rw [hv1_] <;> rfl) | simp [hv1_])
             ·refine Qg 8 rfl fun a w H_ hle hS ha hd=>?_;exact ai ha Y Y fun a ha=>ql ha hS
             ·refine Qg 8 rfl fun a w H_ hle hS ha hd=>?_;obtain⟨_,ha,rfl⟩:=hd.g ha 9 rfl;exact ai ha Y Y fun a ha=>ql ha hS
             ·refine Qg 10 rfl fun a w H_ hle hS ha hd=>?_;exact ai ha Y Y fun a ha=>ql ha hS
             ·refine Qg 10 rfl fun a w H_ hle hS ha hd=>?_;obtain⟨_,ha,rfl⟩:=hd.g ha 11 rfl;have hz:=ZS.mono hz (hle);have hk84:=aX (Inv.tail (Es:= [(some b78,(.cells #[(.slice Aq ((undoS B tr (x18.n).toNat).1.length) cq)] 24 (0,0))),(some b19,(.cells #[(iV x18.dO),(iV x18.n),(iV ((x18.a.t).kind)),(iV ((x18.a.t).n)),(.string ((x18.a.t).s)),(.slice x18.a.A ((x18.a.t).l.length) x18.a.c),(iV ((x18.b.t).kind)),(iV ((x18.b.t).n)),(.string ((x18.b.t).s)),(.slice x18.b.A ((x18.b.t).l.length) x18.b.c)] 61 (0,0))),em]) hS.inv) hz;refine id (Co func32 ha Y (hk84) ?_);rintro e w ⟨H83,A83,c83,rfl,hr83, -,hc83⟩;refine⟨_,rfl,fun a ha=>?_⟩;have hS:=Step.call_tail (Es:= [(some b78,(.cells #[(.slice Aq ((undoS B tr (x18.n).toNat).1.length) cq)] 24 (0,0))),(some b19,(.cells #[(iV x18.dO),(iV x18.n),(iV ((x18.a.t).kind)),(iV ((x18.a.t).n)),(.string ((x18.a.t).s)),(.slice x18.a.A ((x18.a.t).l.length) x18.a.c),(iV ((x18.b.t).kind)),(iV ((x18.b.t).n)),(.string ((x18.b.t).s)),(.slice x18.b.A ((x18.b.t).l.length) x18.b.c)] 61 (0,0))),em]) hS hc83;exact qdone hc83.le ha hS ⟨A83,c83,rfl,hr83⟩
             ·refine Qg 10 rfl fun a w H_ hle hS ha hd=>?_;exact ak (vs:= [(.slice Aq ((undoS B tr (x18.n).toNat).1.length) cq)]) T24 Y ha Y (hS.blkL 0 rfl) Y (af Y) Y fun a ha=>ql ha hS
             ·refine Qg 10 rfl fun a w H_ hle hS ha hd=>?_;obtain⟨_,ha,A83,c83,rfl,hr83⟩:=hd.g ha 12 rfl;obtain⟨_,ha,rfl⟩:=hd.g ha 13 rfl;have hrq:=hrq.mono hle;have hk85:=aH hS.inv.nil hr83 hrq;refine id (Cs func28 ha Y (hk85) hS fun a w ha hS=>?_);exact qdone (Le.refl _) ha hS (by first |(rw [decide_eq_true hv2_] <;> rfl) |(rw [decide_eq_false hv2_] <;> rfl) |(rw [hv2_] <;> rfl) | simp [hv2_])
             ·refine Qg 10 rfl fun a w H_ hle hS ha hd=>?_;obtain⟨_,ha,rfl⟩:=hd.g ha 14 rfl;exact aQ ha Y Y fun a ha=>ql ha hS
             ·refine Qg 8 rfl fun a w H_ hle hS ha hd=>?_;obtain⟨_,ha,rfl⟩:=hd.g ha 10 rfl;obtain⟨_,ha,rfl⟩:=hd.g ha 15 rfl;exact an ha Y Y Y fun a ha=>ql ha hS
             ·refine Qg 2 rfl fun a w H_ hle hS ha hd=>?_;obtain⟨_,ha,rfl⟩:=hd.g ha 8 rfl;obtain⟨_,ha,rfl⟩:=hd.g ha 16 rfl;exact ah ha Y Y Y fun a ha=>ql ha hS
             ·refine Qy1 2 rfl fun a w H_ hle hS ha hd=>?_;obtain⟨_,ha,rfl⟩:=hd.g ha 17 rfl;exact an ha Y Y Y fun a ha=>ql ha hS
             have hse:=hse.mono hle86;have hz:=ZS.mono hz (hle86);obtain⟨_,ha,rfl⟩:=Dd ha hdr_ 18 rfl;refine aa (am ha Y (wp_skip (aa (wp_seq (ab (Lm Y ha fun a ha=>?_))))));refine lin Y (aU (i:=((sBack B tr x18.n).2)) (j:=0) ha Y Y Y fun a ha=>?_);refine wpList_nil (aa (al (t:=194) ha Y (fun h87 ha=>?_) (fun h87 ha=>?_)))
             ·refine ar ha Y (wp_seq (ab (Lm Y ha fun a ha=>?_)));refine lin Y (o_rangeV T59.und T3.und hS (i:=2) Y hM ha Y Y fun rr cnt0 er88 a w hR hS ha=>?_);refine wpList_nil (aa (wp_block ?_));have hS:=hS.front 1 rfl;have hS:=hS.drop;refine aN (fun nn_ a w=> ∃(em: Ent),∃(er: Ent),∃(f2: Int→Option Value),∃(left: Int→Bool),∃(cnt: Nat),nn_=cnt∧Has [] a 228 [(5,(pB pw)),(7,(.map (some bm))),(9,(pB b19)),(11,(iV (((tr.length): Nat): Int))),(54,(.slice Ap ps.length cp)),(55,(iV ((ps.length: Nat): Int))),(56,(iV ((k: Nat): Int))),(196,(pB rr))]∧Step w0 H [] w H86 (er::(some b19,(.cells #[(iV x18.dO),(iV x18.n),(iV ((x18.a.t).kind)),(iV ((x18.a.t).n)),(.string ((x18.a.t).s)),(.slice x18.a.A ((x18.a.t).l.length) x18.a.c),(iV ((x18.b.t).kind)),(iV ((x18.b.t).n)),(.string ((x18.b.t).s)),(.slice x18.b.A ((x18.b.t).l.length) x18.b.c)] 61 (0,0)))::em::L57)∧(RangeV prog 3 em er bm rr nb f2 left cnt)∧(Cut f f2 x18.n left)) _ ⟨em,er88,f,(fun q=>(f q).isSome),cnt0,rfl,ha.pk Y,hS,hR,cut_start⟩ ?_;intro n90 a w hh;obtain⟨em,er,f2,left,cnt,hn90,ha,hS,hR,hcut⟩:=hh;refine wp_seq ?_;have hS:=hS.front 2 rfl;have hS:=hS.front 1 rfl;refine ab (lin Y (o_nextV T3.und hS hR ha Y Y (fun hl_ a ha=>?_) (fun q_ v_ cnt1 er91 a w hlq_ hqw_ hlt1 hR hS hen ha=>?_)))
              ·refine lin Y (ap (v:=(.bool false)) ha Y Y Y fun a ha=>?_);refine wpList_nil (aa (wp_seq (am ha Y (wp_exit (ao (ao (aD (au (aa (?_))))))))));obtain⟨hh2,hbud2,hmk2⟩:=eA (m:=x18.n) hh;have hse2:=hse.back h80 (cut_end hcut hl_);have hM:=RangeV.map hS.inv (i:=1) (j:=0) Y Y hR;have hS:=hS.drop;have hS:=hS.front 1 rfl;have hS:=hS.drop;exact⟨H86,(sBack B tr x18.n).1.1,(sBack B tr x18.n).1.2,L57,em,nb,f2,(hc57.le.trans (hle86)),ha.pk Y,hS,hz,hM,hnb,hse2,hh2,hbud2,hmk2⟩
              ·refine lin Y (ap (v:=(.bool true)) ha Y Y Y fun a ha=>?_);refine wpList_nil (aa (wp_seq (ar ha Y (wp_skip (aa (wp_block (wp_seq (ab (lin Y (o_entryV hen ha Y Y fun a ha=>?_))))))))));refine lin Y (ap (v:=(iV q_)) ha Y Y Y fun a ha=>?_);refine Ls Y ha fun a ha=>?_;refine wpList_nil (aa (wp_seq (ab (Lm Y ha fun a ha=>?_))));refine lin Y (ac (f:=1) (o2:=1) T61 T3 Y Y Y Y ha Y Y fun a ha=>?_);refine lin Y (ad (v:=(iV x18.n)) T3 Y ha Y (hS.blkL 2 rfl) Y Y fun a ha=>?_);refine lin Y (b0 (i:=q_) (j:=x18.n) ha Y Y Y fun a ha=>?_);refine wpList_nil (aa (al (t:=204) ha Y (fun h92 ha=>?_) (fun h92 ha=>?_)))
               ·refine ar ha Y (ab (Lm Y ha fun a ha=>?_));refine Lm Y ha fun a ha=>?_;have hS:=hS.front 1 rfl;refine lin Y (o_deleteV T59.und T3.und hS hR ha Y Y hqw_ fun em93 cnt2 a w hlt2 hR hS ha=>?_);refine wpList_nil (au (aa (?_)));have hS:=hS.front 2 rfl;have hS:=hS.front 2 rfl;exact⟨cnt2,by omega,em93,er91,(delF f2 q_),(fun x=>(left x&&!decide (x=q_))&&!decide (x=q_)),cnt2,rfl,ha.pk Y,hS,hR,(cut_del hcut h92 (fun x hx=>by simp [hx]))⟩
               ·refine am ha Y (wp_skip (au (aa (?_))));have hS:=hS.front 1 rfl;have hS:=hS.front 2 rfl;have hS:=hS.front 2 rfl;exact⟨cnt1,by omega,em,er91,f2,(fun x=>left x&&!decide (x=q_)),cnt1,rfl,ha.pk Y,hS,hR,(cut_keep hcut h92)⟩
             ·exact absurd h80 h87
            ·have hS_:=hS;refine a9 ba [FcV (iV ((sBack B tr x18.n).2)),FcV (.bool false),FcV (.bool false),FcV undef,FcV undef,FcV undef,FcV undef,FcV undef,FcV undef,FcV undef,FcV undef,FcV undef,FcV undef,FcV undef,FcV undef,FcV undef,FcV undef,FcV undef,FcV (.bool false)] (N:=228) (E:= [(5,(pB pw)),(7,(.map (some bm))),(9,(pB b19)),(11,(iV (((tr.length): Nat): Int))),(21,(iV ((sBack B tr x18.n).2))),(22,(pB b78)),(23,(.bool true)),(54,(.slice Ap ps.length cp)),(55,(iV ((ps.length: Nat): Int))),(56,(iV ((k: Nat): Int)))]) mixed Y Mq hS (ha.pk Y) (.c4 ?_ ?_ ?_ ?_ (.c4 ?_ ?_ ?_ ?_ (.c4 ?_ ?_ ?_ ?_ (.c4 ?_ ?_ ?_ ?_ (.c2 ?_ ?_ (.cons ?_ (.nil))))))) (fun a w H94 hle94 hS ha hdr_=>?_)
             ·refine Qz Y fun a w hS ha hd=>?_;exact ai ha Y Y fun a ha=>qe ha hS
             ·refine Qz1 0 rfl fun a w hS ha hd=>?_;refine id (aU (i:=((sBack B tr x18.n).2)) (j:=0) ha Y Y Y fun a ha=>?_);exact qdone Y ha hS (by first |(rw [decide_eq_true h80] <;> rfl) |(rw [decide_eq_false h80] <;> rfl) |(rw [h80] <;> rfl) | simp [h80])
             ·refine Qz1 1 rfl fun a w hS ha hd=>?_;refine id (ai ha Y Y fun a ha=>?_);exact qdone Y ha hS (by first |(rw [decide_eq_true h80] <;> rfl) |(rw [decide_eq_false h80] <;> rfl) |(rw [h80] <;> rfl) | simp [h80])
             ·intro a w H_ hle hS ha hd;subst hle;obtain⟨_,ha,rfl⟩:=hd.g ha 2 rfl;rw [if_neg (aq Y Y ha Y Y Y)];intro d hdd;rfl
             ·intro a w H_ hle hS ha hd;subst hle;obtain⟨_,ha,rfl⟩:=hd.g ha 3 rfl;obtain⟨_,ha,rfl⟩:=hd.g ha 2 rfl;rw [if_neg (aq Y Y ha Y Y Y)];intro d hdd;rfl
             ·intro a w H_ hle hS ha hd;subst hle;obtain⟨_,ha,rfl⟩:=hd.g ha 2 rfl;rw [if_neg (aq Y Y ha Y Y Y)];intro d hdd;rfl
             ·intro a w H_ hle hS ha hd;subst hle;obtain⟨_,ha,rfl⟩:=hd.g ha 5 rfl;obtain⟨_,ha,rfl⟩:=hd.g ha 2 rfl;rw [if_neg (aq Y Y ha Y Y Y)];intro d hdd;rfl
             ·intro a w H_ hle hS ha hd;subst hle;obtain⟨_,ha,rfl⟩:=hd.g ha 4 rfl;obtain⟨_,ha,rfl⟩:=hd.g ha 6 rfl;obtain⟨_,ha,rfl⟩:=hd.g ha 2 rfl;rw [if_neg (aq Y Y ha Y Y Y)];intro d hdd;rfl
             ·intro a w H_ hle hS ha hd;subst hle;obtain⟨_,ha,rfl⟩:=hd.g ha 7 rfl;obtain⟨_,ha,rfl⟩:=hd.g ha 2 rfl;rw [if_neg (aq Y Y ha Y Y Y)];intro d hdd;rfl
             ·intro a w H_ hle hS ha hd;subst hle;obtain⟨_,ha,rfl⟩:=hd.g ha 8 rfl;rw [if_neg (aR Y ha Y Y Y)];intro d hdd;rfl
             ·intro a w H_ hle hS ha hd;subst hle;obtain⟨_,ha,rfl⟩:=hd.g ha 9 rfl;obtain⟨_,ha,rfl⟩:=hd.g ha 8 rfl;rw [if_neg (aR Y ha Y Y Y)];intro d hdd;rfl
             ·intro a w H_ hle hS ha hd;subst hle;obtain⟨_,ha,rfl⟩:=hd.g ha 10 rfl;rw [if_neg (aR Y ha Y Y Y)];intro d hdd;rfl
             ·intro a w H_ hle hS ha hd;subst hle;obtain⟨_,ha,rfl⟩:=hd.g ha 11 rfl;obtain⟨_,ha,rfl⟩:=hd.g ha 10 rfl;rw [if_neg (aR Y ha Y Y Y)];intro d hdd;rfl
             ·intro a w H_ hle hS ha hd;subst hle;obtain⟨_,ha,rfl⟩:=hd.g ha 10 rfl;rw [if_neg (aR Y ha Y Y Y)];intro d hdd;rfl
             ·intro a w H_ hle hS ha hd;subst hle;obtain⟨_,ha,rfl⟩:=hd.g ha 12 rfl;obtain⟨_,ha,rfl⟩:=hd.g ha 13 rfl;obtain⟨_,ha,rfl⟩:=hd.g ha 10 rfl;rw [if_neg (aR Y ha Y Y Y)];intro d hdd;rfl
             ·intro a w H_ hle hS ha hd;subst hle;obtain⟨_,ha,rfl⟩:=hd.g ha 14 rfl;obtain⟨_,ha,rfl⟩:=hd.g ha 10 rfl;rw [if_neg (aR Y ha Y Y Y)];intro d hdd;rfl
             ·intro a w H_ hle hS ha hd;subst hle;obtain⟨_,ha,rfl⟩:=hd.g ha 10 rfl;obtain⟨_,ha,rfl⟩:=hd.g ha 15 rfl;obtain⟨_,ha,rfl⟩:=hd.g ha 8 rfl;rw [if_neg (aR Y ha Y Y Y)];intro d hdd;rfl
             ·intro a w H_ hle hS ha hd;subst hle;obtain⟨_,ha,rfl⟩:=hd.g ha 8 rfl;obtain⟨_,ha,rfl⟩:=hd.g ha 16 rfl;obtain⟨_,ha,rfl⟩:=hd.g ha 2 rfl;rw [if_neg (aq Y Y ha Y Y Y)];intro d hdd;rfl
             ·refine Qz1 2 rfl fun a w hS ha hd=>?_;obtain⟨_,ha,rfl⟩:=hd.g ha 17 rfl;exact ah ha Y Y Y fun a ha=>qe ha hS
             subst hle94;obtain⟨_,ha,rfl⟩:=Dd ha hdr_ 18 rfl;refine aa (am ha Y (wp_skip (aa (wp_seq (ab (Lm Y ha fun a ha=>?_))))));refine lin Y (aU (i:=((sBack B tr x18.n).2)) (j:=0) ha Y Y Y fun a ha=>?_);refine wpList_nil (aa (al (t:=194) ha Y (fun h95 ha=>?_) (fun h95 ha=>?_)))
             ·exact absurd h95 h80
             ·refine am ha Y (wp_skip (au (aa (?_))));obtain⟨hh2,hbud2,hmk2⟩:=eA (m:=x18.n) hh;have hse2: Seen H57 ((sBack B tr x18.n).1.1) ((sBack B tr x18.n).1.2) f:=by rw [back_err h80];exact hse
              have hS:=hS.drop;have hS:=hS.drop;exact⟨H57,(sBack B tr x18.n).1.1,(sBack B tr x18.n).1.2,L57,em,nb,f,(hc57.le),ha.pk Y,hS,hz,hM,hnb,hse2,hh2,hbud2,hmk2⟩
         ·refine am ha Y (wp_skip (au (aa (?_))));have hg_:=(dH hh);have hh2:=hg_.ha;have hbud2:=hg_.bud;have hmk2:=hg_.mark;have hse2:=hse.go hg_.back;have hS:=hS.drop;have hS:=hS.drop;exact⟨H21,B,tr,LA,em,nb,f,(Le.refl _),ha.pk Y,hS,hz,hM,hnb,hse2,hh2,hbud2,hmk2⟩
      ·intro a w hh_;obtain⟨H27,B2,tr2,LA2,em2,nb2,f2,hle27,ha,hS,hz,hM,hnb2,hse2,hh2,hbud2,hmk2⟩:=hh_;have hle2:=hh2.h.g.le;have hle1:=hh.h.g.le;refine wp_seq (wp_seq (ab (Lm Y ha fun a ha=>?_)));have hk97:=dv (Inv.tail (Es:= [em2]) hS.inv) hz;refine lin Y (Co func33 ha Y (hk97) ?_);rintro e w ⟨rfl,hc96⟩;refine⟨_,rfl,fun a ha=>?_⟩;have hS:=Step.call_tail (Es:= [em2]) hS hc96;refine lin Y (a0 (i:=(((tr2.length): Nat): Int)) (j:=0) ha Y Y Y fun a ha=>?_);refine Lm Y ha fun a ha=>?_;refine al (t:=210) ha Y (fun h98 ha=>?_) (fun h98 ha=>?_)
       ·refine Lf Y ha Y Y fun a ha=>?_;refine Lf Y ha Y Y fun a ha=>?_;refine Lf Y ha Y Y fun a ha=>?_;refine Lf Y ha Y Y fun a ha=>?_;refine Lf Y ha Y Y fun a ha=>?_;refine Lf Y ha Y Y fun a ha=>?_;refine Lf Y ha Y Y fun a ha=>?_;refine Lf Y ha Y Y fun a ha=>?_;refine Lf Y ha Y Y fun a ha=>?_;refine Lf Y ha Y Y fun a ha=>?_;refine lin Y (an ha Y Y Y fun a ha=>?_);refine wpList_nil (aa (ar ha Y (wp_seq (ab (Ls Y ha fun a ha=>?_)))));refine wpList_nil (aa (wp_ret (aj (az (aj (aj (az (aj (ret1 Y ha Y ?_)))))))))
        exfalso
        omega
       ·refine ae Y ha Y Y Y (ai ha Y Y fun a ha=>?_);have hk100:=dv (Inv.tail (Es:= [em2]) hS.inv) hz;refine ae Y ha Y Y Y (Co func33 ha Y (hk100) ?_);rintro e w ⟨rfl,hc99⟩;refine⟨_,rfl,fun a ha=>?_⟩;have hS:=Step.call_tail (Es:= [em2]) hS hc99;refine ae Y ha Y Y Y (ai ha Y Y fun a ha=>?_);refine ae Y ha Y Y Y (ai ha Y Y fun a ha=>?_);have hk102:=aX (Inv.tail (Es:= [em2]) hS.inv) hz;refine ae Y ha Y Y Y (Co func32 ha Y (hk102) ?_);rintro e w ⟨H101,A101,c101,rfl,hr101, -,hc101⟩;refine⟨_,rfl,fun a ha=>?_⟩;have hS:=Step.call_tail (Es:= [em2]) hS hc101;have hse2:=hse2.mono hc101.le;have hz:=ZS.mono hz (hc101.le);refine ae Y ha Y Y Y (o_field1 (v:=(.slice A101 B2.length c101)) T24 T22 Y Y Y ha Y Y Y fun a ha=>?_);refine ae Y ha Y Y Y (aF T22.und ha Y Y fun a ha=>?_);refine ae Y ha Y Y Y (aM (i:=(((tr.length): Nat): Int)) (j:=((B2.length: Nat): Int)) ha Y Y Y (by omega) fun a ha=>?_);refine ae Y ha Y Y Y (aM (i:=((((tr.length): Nat): Int)+((B2.length: Nat): Int))) (j:=1) ha Y Y Y (by omega) fun a ha=>?_);refine ae Y ha Y Y Y (b0 (i:=(((tr2.length): Nat): Int)) (j:=(((((tr.length): Nat): Int)+((B2.length: Nat): Int))+1)) ha Y Y Y fun a ha=>?_);refine lin Y (ah ha Y Y Y fun a ha=>?_);refine wpList_nil (aa (al (t:=221) ha Y (fun h103 ha=>?_) (fun h103 ha=>?_)))
        ·refine ar ha Y (wp_seq (ab (Ls Y ha fun a ha=>?_)));refine wpList_nil (aa (wp_ret (aj (az (aj (aj (az (aj (ret1 Y ha Y ?_)))))))))
         exfalso
         omega
        ·refine am ha Y (wp_skip (aa (ab (Lm Y ha fun a ha=>?_))));refine Lm Y ha fun a ha=>?_;have hk105:=dv (Inv.tail (Es:= [em2]) hS.inv) hz;refine lin Y (Co func33 ha Y (hk105) ?_);rintro e w ⟨rfl,hc104⟩;refine⟨_,rfl,fun a ha=>?_⟩;have hS:=Step.call_tail (Es:= [em2]) hS hc104;refine Lm Y ha fun a ha=>?_;have hk107:=aX (Inv.tail (Es:= [em2]) hS.inv) hz;refine lin Y (Co func32 ha Y (hk107) ?_);rintro e w ⟨H106,A106,c106,rfl,hr106, -,hc106⟩;refine⟨_,rfl,fun a ha=>?_⟩;have hS:=Step.call_tail (Es:= [em2]) hS hc106;have hse2:=hse2.mono hc106.le;have hz:=ZS.mono hz (hc106.le);refine lin Y (o_mapUpdV T59.und T3.und hS hM ha Y Y Y (by omega) (by simp only [maxLen];omega) fun em108 a w hM hS ha=>?_);refine wpList_nil (au (aa (ab (lin Y (aM (i:=((k: Nat): Int)) (j:=1) ha Y Y Y (by omega) fun a ha=>?_)))));refine Lm Y ha fun a ha=>?_;refine wpList_nil (aa (?_));have hse3:=hse2.put hr106;exact⟨ps.length - (k+1),by omega,H106,B2,tr2,LA2,em108,(nb2+1),(putF f2 (((tr2.length): Nat): Int) (.agg #[(.slice A106 B2.length c106)])),(k+1),(hle16.trans (hc21.le.trans (hle27.trans (hc101.le.trans (hc106.le))))),rfl,ha.pk Y,hS,(by omega),hz,hM,(by omega),hse3,hh2,(by omega)⟩
     ·refine am ha Y (wp_exit (ao (ao (aD (aa (wp_seq (ab (Ls Y ha fun a ha=>?_))))))));refine wpList_nil (aa (wp_ret (ret1 Y ha Y ?_)));exact⟨_,rfl,hS.drop_all⟩
end Go.Vk.Try
namespace Go.Vk.Try
open Go.ChangeShapes Go.WideShapes Go.ChangeAt Go.RowKit Go.Deep
theorem cells3: Go.Proofs.Try.prog.cellsOf 3=1:=by kernel_rfl
theorem cells9: Go.Proofs.Try.prog.cellsOf 9=1:=by kernel_rfl
theorem cells22: Go.Proofs.Try.prog.cellsOf 22=1:=by kernel_rfl
theorem cells26: Go.Proofs.Try.prog.cellsOf 26=4:=by kernel_rfl
section
variable {H: Type} {enc: TypeId × Value→H} {W: World}
theorem open_tm0 {n: Nat} {cs: List Value} {x: DataW H × List MemPlace} (h: DataW.trod enc prog W 0 (fun _=>true) true n 26 cs=some x) :
  ∃(k i: Int) (s: ByteArray) (v: Value) (m: Nat) (y: DataW H × List MemPlace),cs= [.int .i64 k,.int .i64 i,.string s,v]∧DataW.trod enc prog W 0 (fun _=>true) true m 22 [v]=some y∧y.1 ∈(match x.1 with | .agg ps=>ps | _=> []):=by
 obtain⟨xs,m,_,rfl,hl,hlen,hf⟩:=DataW.trod_struct T26.und h;rw [cells26] at hl
 match cs,hl with
 | [c0,c1,c2,c3],_ =>
  match xs,hlen with
  | [y0,y1,y2,y3],_ =>
   have h0:=hf 0 _ rfl;have h1:=hf 1 _ rfl;have h2:=hf 2 _ rfl;have h3:=hf 3 _ rfl;simp [cells3,cells9,cells22] at h0 h1 h2 h3;obtain⟨k,e0,_⟩:=DataW.trod_int T3.und h0;obtain⟨i,e1,_⟩:=DataW.trod_int T3.und h1;obtain⟨s,e2,_⟩:=DataW.trod_string T9.und h2;simp only [List.cons.injEq,and_true] at e0 e1 e2;subst e0 e1 e2;exact⟨k,i,s,c3,m,y3,rfl,h3,by simp⟩
theorem ez {a: Addr} {v: Value} (h: W.cell? a=some v): ∃(cs: Array Value) (e: Nat) (fz: Nat × Nat),a=⟨a.block,a.off,none⟩∧W.heap[a.block]? =some (.cells cs e fz)∧cs[a.off]? =some v:=by
 have hs:=World.cell?_spot h;unfold World.cell? at h;rw [hs] at h
 cases hb: W.heap[a.block]? with
 | none=>rw [hb] at h;simp at h
 | some o =>
  rw [hb] at h
  cases o with
  | cells cs e fz =>
   refine⟨cs,e,fz,?_,rfl,by simpa using h⟩
   cases a;simp at hs;simp [hs]
  | _=>simp at h
theorem bH (a: Addr) (k: Nat):(a.add k).block=a.block:=by unfold Addr.add;split <;> rfl
theorem ei (a: Addr) (k: Nat):(a.add k).off=a.off+k:=by
 unfold Addr.add
 split
 ·omega
 ·rfl
theorem eT {d: DataW H} {l: List (DataW H)} (h: d ∈ l): Go.Proofs.Ytefepjpkelfcbaa.Rows.uptoBulk d≤Go.Proofs.Ytefepjpkelfcbaa.Rows.uptoBulkAll l:=by
 induction l with
 | nil=>cases h
 | cons x r ih =>
  simp only [Go.Proofs.Ytefepjpkelfcbaa.Rows.uptoBulkAll]
  rcases List.mem_cons.1 h with e | e
  ·subst e;omega
  ·have:=ih e;omega
theorem bulk_len (l: List (DataW H)): l.length≤Go.Proofs.Ytefepjpkelfcbaa.Rows.uptoBulkAll l:=by
 induction l with
 | nil=>simp
 | cons x r ih =>
  have h1: 1≤Go.Proofs.Ytefepjpkelfcbaa.Rows.uptoBulk x:=by
   cases x with
   | lit l=>cases l <;> simp [Go.Proofs.Ytefepjpkelfcbaa.Rows.uptoBulk]
   | _=>simp [Go.Proofs.Ytefepjpkelfcbaa.Rows.uptoBulk]
  simp only [Go.Proofs.Ytefepjpkelfcbaa.Rows.uptoBulkAll,List.length_cons];omega
theorem bulk_part {d y: DataW H} (h: y ∈(match d with | .agg ps=>ps | _=> [])): Go.Proofs.Ytefepjpkelfcbaa.Rows.uptoBulk y < Go.Proofs.Ytefepjpkelfcbaa.Rows.uptoBulk d:=by
 cases d with
 | agg ps=>change y ∈ ps at h;have:=eT h;simp only [Go.Proofs.Ytefepjpkelfcbaa.Rows.uptoBulk];omega
 | _=>cases h
theorem open_row: ∀(K: Nat) {n: Nat} {v: Value} {y: DataW H × List MemPlace},Go.Proofs.Ytefepjpkelfcbaa.Rows.uptoBulk y.1≤K→Go.Proofs.Ytefepjpkelfcbaa.Rows.uptoBulk y.1≤1048576→DataW.trod enc prog W 0 (fun _=>true) true n 22 [v]=some y→
  ∃(A: Option Addr) (ts: List Tm) (c: Nat),v=.slice A ts.length c∧RowT (fun b=>W.heap[b]?) A c ts∧ts.length≤1048576:=by
 intro K
 induction K with
 | zero =>
  intro n v y h;have: 1≤Go.Proofs.Ytefepjpkelfcbaa.Rows.uptoBulk y.1:=by
   cases y.1 with
   | lit l=>cases l <;> simp [Go.Proofs.Ytefepjpkelfcbaa.Rows.uptoBulk]
   | _=>simp [Go.Proofs.Ytefepjpkelfcbaa.Rows.uptoBulk]
  omega
 | succ K ih =>
  intro n v y hK hB h
  rcases open_slice T22.und h with ⟨hc,_⟩ |⟨a,len,cap,m,n',D,Pl,hc,_,hl,hm,hmm,hx,hall⟩
  ·simp only [List.cons.injEq,and_true] at hc;exact⟨none, [],0,hc,RowT.nil _,by simp⟩
  ·simp only [List.cons.injEq,and_true] at hc;simp only [if_true] at hmm;subst hmm hx;rw [cells26] at hall;simp only [Go.Proofs.Ytefepjpkelfcbaa.Rows.uptoBulk] at hK hB;have hlen: len≤1048576:=by have:=bulk_len ((List.range len).map D);simp at this;omega
   have key: ∀ i,i < len→∃(t: Tm) (A: Option Addr) (c: Nat) (cs': List Value),cs'=tcells t A c∧W.cells? 0 (a.add (i * 4)) 4=some cs'∧RowT (fun b=>W.heap[b]?) A c t.l:=by
    intro i hi;obtain⟨cs',h1,h2⟩:=hall i (by omega);obtain⟨k,j,s,w,m',z,rfl,h3,h4⟩:=open_tm0 h2;have h5: Go.Proofs.Ytefepjpkelfcbaa.Rows.uptoBulk z.1 < Go.Proofs.Ytefepjpkelfcbaa.Rows.uptoBulk (D i):=bulk_part h4;have h6:=eT (show D i ∈(List.range len).map D from List.mem_map.2 ⟨i,List.mem_range.2 hi,rfl⟩);obtain⟨A,ts,c,rfl,h7,_⟩:=ih (by omega) (by omega) h3;exact⟨.mk k j s ts,A,c,_,rfl,h1,h7⟩
   classical
   let T: Nat→Tm:=fun i=>if hi: i < len then (key i hi).choose else Tm.zero
   let Af: Nat→Option Addr:=fun i=>if hi: i < len then (key i hi).choose_spec.choose else none
   let cf: Nat→Nat:=fun i=>if hi: i < len then (key i hi).choose_spec.choose_spec.choose else 0
   have hsp: ∀ i,i < len→W.cells? 0 (a.add (i * 4)) 4=some (tcells (T i) (Af i) (cf i))∧RowT (fun b=>W.heap[b]?) (Af i) (cf i) (T i).l:=by
    intro i hi;obtain⟨cs',e1,e2,e3⟩:=(key i hi).choose_spec.choose_spec.choose_spec;simp only [T,Af,cf,dif_pos hi];exact⟨e1 ▸ e2,e3⟩
   have hget: ∀(j: Nat) (t: Tm),((List.range len).map T)[j]? =some t→j < len∧t=T j:=by
    intro j t hj;rw [List.getElem?_map] at hj
    by_cases hlt: j < len
    ·rw [List.getElem?_range hlt] at hj;exact⟨hlt,(Option.some.inj hj).symm⟩
    ·rw [List.getElem?_eq_none (by simpa using Nat.le_of_not_lt hlt)] at hj;cases hj
   refine⟨some a,(List.range len).map T,m,by rw [hc];simp,?_,by simp;omega⟩
   by_cases h0: len=0
   ·subst h0;exact .mk (by simp) (by simp) 0 0 0 #[] (0,0) (fun hn=>absurd rfl hn) (fun _=>none) (fun _=>0) (fun j t hj=>by simp at hj) (fun j t hj=>by simp at hj)
   ·obtain⟨_,hl4,hcell⟩:=World.cells?_some (hsp 0 (by omega)).1;obtain⟨cs,e,fz,ha,hb,_⟩:=ez (hcell 0 (by omega));have hb': W.heap[a.block]? =some (.cells cs e fz):=by rw [bH,bH] at hb;exact hb
    have ha': a=⟨a.block,a.off,none⟩:=by
     have:=World.cell?_spot (hcell 0 (by omega))
     cases a;simp [Addr.add] at this;simp [this]
    refine .mk (by simp;omega) (by simp;omega) a.block a.off e cs fz (fun _=>⟨by rw [← ha'],hb'⟩) Af cf (fun j t hj i u hu=>?_) (fun j t hj=>?_)
    ·obtain⟨hlt,rfl⟩:=hget j t hj;obtain⟨_,_,hcell⟩:=World.cells?_some (hsp j hlt).1;have hi4: i < 4:=(List.getElem?_eq_some_iff.1 hu).1;have h8:=hcell i hi4;rw [hu] at h8;obtain⟨cs2,e2,fz2,_,hb2,hu2⟩:=ez h8;have hb3: W.heap[a.block]? =some (.cells cs2 e2 fz2):=by rw [bH,bH] at hb2;exact hb2
     rw [hb'] at hb3;injection hb3 with hb3
     injection hb3 with hb3
     subst hb3;rw [ei,ei] at hu2;exact hu2
    ·obtain⟨hlt,rfl⟩:=hget j t hj;exact(hsp j hlt).2
theorem inv_all (W: World): Inv W (fun b=>W.heap[b]?) []:=⟨fun e he=>(by cases he),List.Pairwise.nil,fun k o h=>⟨h,dj⟩⟩
theorem below_of {w: World} {H: PHeap} {H': PHeap} {w': World} (h: Step w H [] w' H' []): Below w.heap.size w w':=⟨h.os,h.tape,h.output,h.size,fun k hk=>h.blk k hk dj⟩
end
end Go.Vk.Try
namespace Go.Vk.Try
open Go.ChangeShapes Go.WideShapes Go.ChangeAt Go.RowKit Go.Deep Go.Proofs.Ytefepjpkelfcbaa
theorem own: ownKnob Go.Proofs.Try.prog.godebug=none:=by kernel_rfl
theorem laidOut: laidOutB prog=true:=by kernel_rfl
section
variable {H: Type} {enc: TypeId × Value→H} {W: World}
theorem open_store {v: Value} {d: DataW H} {ps: List MemPlace} (hB: Rows.uptoBulk d≤1048576) (hv: v.formed prog 24=true∨∃ cs,v=.agg cs) (h: DataW.Trod enc prog W 0 (fun _=>true) true 24 v d ps) :
  ∃(A: Option Addr) (ts: List Tm) (c: Nat),v.cells.toList= [.slice A ts.length c]∧RowT (fun b=>W.heap[b]?) A c ts∧ts.length≤1048576:=by
 obtain⟨n,h⟩:=h;obtain⟨y0,m,e,hl,h0⟩:=trod_struct1 T24.und h;rw [show Go.Proofs.Try.prog.cellsOf 24=1 from by kernel_rfl] at hl
 match hcs: v.cells.toList,hl with
 | [c0],_ =>
  rw [hcs] at h0;simp [cells22] at h0;have e1:=(Prod.mk.inj e).1;subst e1;simp only [Rows.uptoBulk,Rows.uptoBulkAll] at hB;obtain⟨A,ts,c,rfl,hr⟩:=open_row (Rows.uptoBulk y0.1) (Nat.le_refl _) (by omega) h0;exact⟨A,ts,c,rfl,hr⟩
theorem trodAll_stays {W': World} (hb: Below W.heap.size W W') (sp: Nat→Bool): ∀(ts: List TypeId) (vs: List Value) (ds: List (DataW H)) (ps: List MemPlace),(∀ t ∈ ts,Go.Proofs.Try.prog.readableRec t=true∧t < Go.Proofs.Try.prog.types.size)→DataW.TrodAll enc prog W 0 (fun _=>true) true ts vs ds ps→(∀ x ∈ ps,x.block < W.heap.size)→(∀ x ∈ ps,sp x.block=true)→
  DataW.TrodAll enc prog W' 0 sp true ts vs ds ps
 | [], [], [],ps,_,h,_,_=>h
 | [],_::_,_,_,_,h,_,_=>h.elim
 | [], [],_::_,_,_,h,_,_=>h.elim
 | _::_, [],_,_,_,h,_,_=>h.elim
 | _::_,_::_, [],_,_,h,_,_=>h.elim
 | t::ts,v::vs,d::ds,ps,ht,h,hl,hs=>by
  obtain⟨p,q,h1,h2,rfl⟩:=h;refine⟨p,q,WideElems.Trod_stays laidOut (ht t List.mem_cons_self).1 (ht t List.mem_cons_self).2 h1 (fun x hx=>hb.same (hl x (List.mem_append_left _ hx))) (fun x hx=>hs x (List.mem_append_left _ hx)),?_,rfl⟩;exact trodAll_stays hb sp ts vs ds q (fun u hu=>ht u (List.mem_cons_of_mem _ hu)) h2 (fun x hx=>hl x (List.mem_append_right _ hx)) (fun x hx=>hs x (List.mem_append_right _ hx))
theorem post_old {f: Func} {s: ChangeSpec} {W': World} {args: Array Value} {ds gs: List (DataW H)} {before: List MemPlace} {l: DataW H} {r: Value}
  (hW: DataW.Whole enc prog f.params.toList s.vars false W args.toList ds gs before) (hvs: s.vars= []) (hds:(s.fn H (ds++gs)).args=ds) (hvr:(s.fn H (ds++gs)).vars= [])
  (hres: ∀(b: Nat) (sp: Nat→Bool) (hd: Bool),DataW.TrodAll enc prog W' b sp hd f.resultTypes.toList (r.resultList f.resultTypes.size) (s.fn H (ds++gs)).results [])
  (hb: Below W.heap.size W W') (hts: ∀ t ∈ f.params.toList,Go.Proofs.Try.prog.readableRec t=true∧t < Go.Proofs.Try.prog.types.size)
  (hok: ∀(j: Nat) (t: TypeId) (u: Value),f.resultTypes[j]? =some t→(r.resultList f.resultTypes.size)[j]? =some u→Value.okWide prog W' .any 0 t u) :
  s.post enc prog f false true false false W args r W':=by
 have hlt:=hW.lt;have hW0:=hW;obtain⟨p,q,hA,hV,rfl,hz,hn⟩:=hW0;rw [hvs] at hV;have hargs: ∀ sp: Nat→Bool,(∀ x ∈ p++q,sp x.block=true)→DataW.TrodAll enc prog W' 0 sp true f.params.toList args.toList (s.fn H (ds++gs)).args p:=fun sp hs=>by
  rw [hds];exact trodAll_stays hb sp _ _ _ _ hts hA (fun x hx=>hlt x (List.mem_append_left _ hx)) (fun x hx=>hs x (List.mem_append_left _ hx))
 obtain⟨rfl,rfl⟩:=trodVars_none hV;have hvars: ∀ sp: Nat→Bool,DataW.TrodVars enc prog W' sp s.vars (s.fn H (ds++ [])).vars []:=fun sp=>by rw [hvs,hvr];exact rfl
 have hold: ∀ x ∈ p++ [],(fun b=>decide (b < W.heap.size)) x.block=true:=fun x hx=>by simpa using hlt x hx
 refine⟨ds, [],p++ [], [],p, [],hW,hres _ _ _,hargs _ hold,hvars _,World.keptBut_mono (fun x hx=>⟨hx,.inr (by simpa using hx)⟩) (hb.frame _),fun _=>?_⟩;refine⟨hok,_,_,([]++p)++ [],⟨[]++p, [],trodAll_append (hargs _ (fun _ _=>rfl)) (hres _ _ _),hvars _,rfl,?_,?_⟩,?_⟩
 ·intro b off hp;have hp': MemPlace.cell b off ∈ p++ []:=by simpa using hp
  have h1:=hz b off hp';have h2:=hb.block b (hlt _ hp');unfold World.frozen? at h1 ⊢;rw [h2];exact h1
 ·intro ha;cases ha
 ·intro x hx _;simpa using hx
theorem open_storeV {v: Value} {d: DataW H} {ps: List MemPlace} (hB: Rows.uptoBulk d≤1048576) (hv: Value.okWide prog W .any 0 24 v) (h: DataW.Trod enc prog W 0 (fun _=>true) true 24 v d ps) :
  ∃(A: Option Addr) (ts: List Tm) (c: Nat),v=.agg #[.slice A ts.length c]∧RowT (fun b=>W.heap[b]?) A c ts∧ts.length≤1048576:=by
 unfold Value.okWide at hv;rw [T24.und] at hv;obtain⟨cs,rfl,_⟩:=hv;obtain⟨A,ts,c,h1,h2⟩:=open_store hB (.inr ⟨cs,rfl⟩) h;refine⟨A,ts,c,?_,h2⟩;have: cs.toList= [.slice A ts.length c]:=h1;rw [← Array.toArray_toList (xs:=cs),this]
end
end Go.Vk.Try
namespace Go.Vk.Try
open Go.ChangeShapes Go.WideShapes Go.ChangeAt Go.RowKit Go.Deep Go.Proofs.Ytefepjpkelfcbaa
theorem cellsOp: Go.Proofs.Try.prog.cellsOf 61=10:=by kernel_rfl
section
variable {H: Type} {enc: TypeId × Value→H} {W: World}
theorem open_tmC {n: Nat} {cs: List Value} {x: DataW H × List MemPlace} (hB: Rows.uptoBulk x.1≤1048576) (h: DataW.trod enc prog W 0 (fun _=>true) true n 26 cs=some x) :
  ∃ q: TV,cs=q.cells∧RowT (fun b=>W.heap[b]?) q.A q.c q.t.l:=by
 obtain⟨k,i,s,w,m,y,hcs,h1,h2⟩:=open_tm0 h;have h3: Rows.uptoBulk y.1 < Rows.uptoBulk x.1:=bulk_part h2;obtain⟨A,ts,c,rfl,h4,_⟩:=open_row (Rows.uptoBulk y.1) (Nat.le_refl _) (by omega) h1;exact⟨⟨.mk k i s ts,A,c⟩,hcs,h4⟩
theorem open_op {n: Nat} {cs: List Value} {x: DataW H × List MemPlace} (hB: Rows.uptoBulk x.1≤1048576) (h: DataW.trod enc prog W 0 (fun _=>true) true n 61 cs=some x) :
  ∃ p: OpV,cs=p.cells∧(RowT (fun b=>W.heap[b]?) p.a.A p.a.c p.a.t.l∧RowT (fun b=>W.heap[b]?) p.b.A p.b.c p.b.t.l)∧(-9223372036854775808≤p.n∧p.n≤9223372036854775807):=by
 obtain⟨xs,m,_,rfl,hl,hlen,hf⟩:=DataW.trod_struct T61.und h;rw [cellsOp] at hl
 match cs,hl with
 | [c0,c1,c2,c3,c4,c5,c6,c7,c8,c9],_ =>
  match xs,hlen with
  | [y0,y1,y2,y3],_ =>
   have h0:=hf 0 _ Y;have h1:=hf 1 _ Y;have h2:=hf 2 _ Y;have h3:=hf 3 _ Y;simp [cells3,cells26] at h0 h1 h2 h3;simp only [List.map_cons,List.map_nil,Rows.uptoBulk,Rows.uptoBulkAll] at hB;obtain⟨k,e0,_⟩:=DataW.trod_int T3.und h0;obtain⟨i,e1,_,hwf⟩:=DataW.trod_int T3.und h1;obtain⟨p,hp,hrp⟩:=open_tmC (x:=y2) (by omega) h2;obtain⟨q,hq,hrq⟩:=open_tmC (x:=y3) (by omega) h3;simp only [List.cons.injEq,and_true] at e0 e1;subst e0 e1;have hw: -9223372036854775808≤i∧i≤9223372036854775807:=by
    have h1: IntKind.i64.min= -9223372036854775808:=by decide
    have h2: IntKind.i64.max=9223372036854775807:=by decide
    simp [Lit.wf,h1,h2] at hwf;omega
   refine⟨⟨k,i,p,q⟩,?_,⟨hrp,hrq⟩,hw⟩
   show _=Value.int .i64 k::Value.int .i64 i::(p.cells++q.cells)
   rw [← hp,← hq];rfl
theorem open_opsN {v: Value} {d: DataW H} {ps: List MemPlace} (hB: Rows.uptoBulk d≤1048576) (hv: Value.okWide prog W .any 0 54 v) (h: DataW.Trod enc prog W 0 (fun _=>true) true 54 v d ps) :
  ∃(A: Option Addr) (xs: List OpV) (c: Nat),v=.slice A xs.length c∧RowG 10 OpV.cells (fun b=>W.heap[b]?) A c xs∧AllO (fun b=>W.heap[b]?) xs∧InN xs:=by
 obtain⟨n,h⟩:=h;have h: DataW.trod enc prog W 0 (fun _=>true) true n 54 [v]=some (d,ps):=by
  unfold Value.okWide at hv;rw [T54.und] at hv;unfold Cell.okWide at hv
  cases v with
  | slice a l c=>exact h
  | _=>first |(exfalso;simp [Cell.ok,T54.und] at hv;done) | exact h
 rcases open_slice T54.und h with ⟨hc,_⟩ |⟨a,len,cap,m,n',D,Pl,hc,_,hl,hm,hmm,hx,hall⟩
 ·simp only [List.cons.injEq,and_true] at hc;exact⟨none, [],0,hc,⟨Nat.le_refl _,by simp,0,0,0,#[],(0,0),fun hn=>absurd Y hn,fun j x hj=>by simp at hj⟩,(fun p hp=>by cases hp),fun p hp=>by cases hp⟩
 ·simp only [List.cons.injEq,and_true] at hc;simp only [if_true] at hmm;subst hmm;injection hx with hx1 hx2
  subst hx1;rw [cellsOp] at hall;simp only [Rows.uptoBulk] at hB;have hlen: len≤1048576:=by have:=bulk_len ((List.range len).map D);simp at this;omega
  have key: ∀ i,i < len→∃ p: OpV,W.cells? 0 (a.add (i * 10)) 10=some p.cells∧(RowT (fun b=>W.heap[b]?) p.a.A p.a.c p.a.t.l∧RowT (fun b=>W.heap[b]?) p.b.A p.b.c p.b.t.l)∧(-9223372036854775808≤p.n∧p.n≤9223372036854775807):=by
   intro i hi;obtain⟨cs',h1,h2⟩:=hall i (by omega);have h6:=eT (show D i ∈(List.range len).map D from List.mem_map.2 ⟨i,List.mem_range.2 hi,rfl⟩);obtain⟨p,rfl,h3⟩:=open_op (by show Rows.uptoBulk (D i)≤_;omega) h2;exact⟨p,h1,h3⟩
  classical
  let T: Nat→OpV:=fun i=>if hi: i < len then (key i hi).choose else ⟨0,0,TV.zero,TV.zero⟩
  have hsp: ∀ i,i < len→W.cells? 0 (a.add (i * 10)) 10=some (T i).cells∧(RowT (fun b=>W.heap[b]?) (T i).a.A (T i).a.c (T i).a.t.l∧RowT (fun b=>W.heap[b]?) (T i).b.A (T i).b.c (T i).b.t.l)∧(-9223372036854775808≤(T i).n∧(T i).n≤9223372036854775807):=by
   intro i hi;simp only [T,dif_pos hi];exact(key i hi).choose_spec
  have hget: ∀(j: Nat) (t: OpV),((List.range len).map T)[j]? =some t→j < len∧t=T j:=by
   intro j t hj;rw [List.getElem?_map] at hj
   by_cases hlt: j < len
   ·rw [List.getElem?_range hlt] at hj;exact⟨hlt,(Option.some.inj hj).symm⟩
   ·rw [List.getElem?_eq_none (by simpa using Nat.le_of_not_lt hlt)] at hj;cases hj
  refine⟨some a,(List.range len).map T,m,by rw [hc];simp,?_,(fun p hp=>?_),fun p hp=>?_⟩
  ·refine⟨by simp;omega,by simp;omega,?_⟩
   by_cases h0: len=0
   ·subst h0;exact⟨0,0,0,#[],(0,0),fun hn=>absurd Y hn,fun j t hj=>by simp at hj⟩
   ·obtain⟨_,hl4,hcell⟩:=World.cells?_some (hsp 0 (by omega)).1;obtain⟨cs,e,fz,ha,hb,_⟩:=ez (hcell 0 (by omega));have hb': W.heap[a.block]? =some (.cells cs e fz):=by rw [bH,bH] at hb;exact hb
    have ha': a=⟨a.block,a.off,none⟩:=by
     have:=World.cell?_spot (hcell 0 (by omega))
     cases a;simp [Addr.add] at this;simp [this]
    refine⟨a.block,a.off,e,cs,fz,fun _=>⟨by rw [← ha'],hb'⟩,fun j t hj i u hu=>?_⟩;obtain⟨hlt,rfl⟩:=hget j t hj;obtain⟨_,_,hcell⟩:=World.cells?_some (hsp j hlt).1;have hi4: i < 10:=by have:=(List.getElem?_eq_some_iff.1 hu).1;rwa [show (T j).cells.length=10 by simp [OpV.cells,TV.len]] at this
    have h8:=hcell i hi4;rw [hu] at h8;obtain⟨cs2,e2,fz2,_,hb2,hu2⟩:=ez h8;have hb3: W.heap[a.block]? =some (.cells cs2 e2 fz2):=by rw [bH,bH] at hb2;exact hb2
    rw [hb'] at hb3;injection hb3 with hb3
    injection hb3 with hb3
    subst hb3;rw [ei,ei] at hu2;exact hu2
  ·obtain⟨j,hj⟩:=List.getElem?_of_mem hp;obtain⟨hlt,rfl⟩:=hget j p hj;exact(hsp j hlt).2.1
  ·obtain⟨j,hj⟩:=List.getElem?_of_mem hp;obtain⟨hlt,rfl⟩:=hget j p hj;exact(hsp j hlt).2.2
end
end Go.Vk.Try
namespace Go.Vk.Try
open Go.ChangeShapes Go.WideShapes Go.ChangeAt Go.RowKit Go.Deep Go.Proofs.Ytefepjpkelfcbaa
theorem unifyBack_contract (H: Type) (enc: TypeId × Value→H) (W: World) (base: Nat) (args: Array Value) (ds gs: List (DataW H)) (before: List MemPlace)
  (hval: ∀(j: Nat) t v,Go.Proofs.Try.f8.params[j]? =some t→args[j]? =some v→Value.okWide prog W .any 0 t v)
  (hW: DataW.Whole enc prog Go.Proofs.Try.f8.params.toList Rows.unifyBackSpec.vars false W args.toList ds gs before) (hk: Rows.uptoSmall H (ds++gs)=true) :
  Calls prog 8 args W fun e W'=> ∃ v,e=.returned v∧Rows.unifyBackSpec.post enc prog f8 false true false false W args v W':=by
 have hW':=hW;obtain⟨p,q,hA0,hV,rfl,hfz,hnd⟩:=hW;have hA: DataW.TrodAll enc prog W 0 (fun _=>true) true Go.Proofs.Try.f8.params.toList args.toList ds p:=hA0;rw [params8] at hA hval;obtain⟨v0,v1,d0,d1,p0,p1,rfl,rfl,rfl,g0,g1⟩:=trodAll_two hA;obtain⟨rfl,rfl⟩:=trodVars_none hV;have hb: Rows.uptoBulkAll ([d0,d1]++ [])≤1048576:=of_decide_eq_true hk;simp only [List.append_nil,Rows.uptoBulkAll] at hb;obtain⟨A0,ts0,c0,rfl,h0,hl0⟩:=open_storeV (by omega) (hval 0 24 v0 Y Y) g0;obtain⟨A1,xs1,c1,rfl,h1,hq1,hn1⟩:=open_opsN (by omega) (hval 1 54 v1 Y Y) g1;refine(c_UnifyBack (inv_all W) h0 h1 hq1 hn1 (by omega)).mono fun e W' hh=>?_;obtain⟨H',rfl,hS⟩:=hh;exact⟨_,rfl,post_old (l:=d0) hW' Y Y Y (fun _ _ _=>trodAll_mk1 (shut_bool underlying4 _)) (below_of hS) (by rw [params8];intro t ht;simp at ht;rcases ht with rfl | rfl <;> exact⟨by kernel_rfl,of_decide_eq_true (by kernel_rfl)⟩) (ok_one (by kernel_rfl) Y (okWide_bool_mk underlying4 _))⟩
theorem unifyBack_lifted (os: Os) (started: os.Started) (H: Type) (enc: TypeId × Value→H) (F: Stop.Interp) :
  ReturnsInHanded {} checked os 8 .any ((Rows.OpenSpec.upto Rows.unifyBackSpec).pre6 enc prog f8 Rows.unifyBackUptoRow.domain false) (((Rows.OpenSpec.upto Rows.unifyBackSpec).at F).post enc prog f8 false true false false):=by
 refine returnsInHanded_of_cond (C:=checked) (s:=Rows.OpenSpec.upto Rows.unifyBackSpec) (k:=Rows.uptoSmall) Y own started (by kernel_rfl) func8
  (OpenSpec.witness (enc:=enc) (C:=checked) (s:=Rows.OpenSpec.upto Rows.unifyBackSpec) (k:=Rows.uptoSmall) Y false ⟨#[],#[.agg #[.slice none 0 0],.slice none 0 0], []⟩ 8 (by kernel_rfl) (by kernel_rfl) (by kernel_rfl)
   (x:=([.agg [.nil],.nil], [], [])) (by kernel_rfl) Y (by kernel_rfl)) ?_
 intro W base args ds gs before hval hW _ hk _;exact unifyBack_contract H enc W base args ds gs before hval hW hk
theorem unifyBack_proved: Rows.UnifyBackUptoSaid:=
 OpenClaim.holds_of_cond 8 f8 Y Y Y Y Y Y Y ⟨rfl,rfl,rfl,rfl,rfl⟩ rfl Y Y Y Y (by kernel_rfl) func8 (by kernel_rfl)
  (of_decide_eq_true (by kernel_rfl)) (by unfold Func.isWrapper;first |(rw [if_pos (by decide +kernel)];kernel_rfl) |(rw [if_neg (by decide +kernel)];exact⟨rfl,rfl⟩))
  (fun os started H enc _ F=>unifyBack_lifted os started H enc F)
end Go.Vk.Try
namespace Go.Proofs.Ytefepjpkelfcbaa
theorem unifyBack_holds: Rows.UnifyBackUptoSaid:=Go.Vk.Try.unifyBack_proved
end Go.Proofs.Ytefepjpkelfcbaa

