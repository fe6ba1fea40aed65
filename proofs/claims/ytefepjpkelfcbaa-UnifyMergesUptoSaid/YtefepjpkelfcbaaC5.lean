/- Part 5 of the proof of unifyMerges_holds. Conditions: none. -/
import Derived.Test.YtefepjpkelfcbaaC4
set_option linter.unusedVariables false
set_option linter.unusedSimpArgs false
set_option linter.unusedSectionVars false
set_option maxRecDepth 100000
open Go.Proofs.Try
namespace Go.Vk.Try
open Go.RowKit
theorem c_UnifyMerges {w0: World} {H: PHeap} (hI: Inv w0 H []) {As Ar Au: Option Addr} {cs cr cu: Nat} {ss us rs: List Tm} (hs: RowT H As cs ss) (hu: RowT H Au cu us) (hr: RowT H Ar cr rs) (hls: ss.length≤2000000) (hlu: us.length≤2000000) (hlr: rs.length≤2000000): Calls prog 4 #[(.agg #[(.slice As ss.length cs)]),(.agg #[(.slice Au us.length cu)]),(.agg #[(.slice Ar rs.length cr)])] w0 (fun e w'=> ∃ H',e=.returned (.bool true)∧Step w0 H [] w' H' []):=by
 have hS:=Step.refl hI;refine enter [(.agg #[(.slice As ss.length cs)]),(.agg #[(.slice Au us.length cu)]),(.agg #[(.slice Ar rs.length cr)])] func4 rfl ntmps4 rfl fun a ha=>?_;refine wp_seq (ab (lin rfl (aH (cs:= #[(.slice As ss.length cs)]) hS ha rfl rfl rfl fun b1 a w hS ha=>?_)));refine lin rfl (aH (cs:= #[(.slice Au us.length cu)]) hS ha rfl rfl rfl fun b3 a w hS ha=>?_);refine lin rfl (aH (cs:= #[(.slice Ar rs.length cr)]) hS ha rfl rfl rfl fun b5 a w hS ha=>?_);refine Ls rfl ha fun a ha=>?_;refine wpList_nil (aa (wp_seq (wp_seq (ab ?_))));have hk7:=rsP (c_sane hS.inv.nil);refine lin rfl (ah func11 rfl rfl (ha.evs rfl) ha rfl (hk7) ?_);rintro e w ⟨rfl,hc⟩;refine⟨_,rfl,fun a ha=>?_⟩;have hS:=hS.call hc;refine lin rfl (aM ha rfl rfl fun a ha=>?_);refine wpList_nil (aa (aq ha rfl (wp_skip (aa (wp_seq (wp_seq (ab (lin rfl (ak (vs:= [(.slice As ss.length cs)]) T24 rfl ha rfl (hS.blkL 2 rfl) rfl (af rfl) rfl fun a ha=>?_)))))))));have hk8:=eZ (us:= []) hS.inv.nil hs (RowT.nil _) (by simp only [List.length_nil,List.length_cons];omega);refine lin rfl (ah func12 rfl rfl (ha.evs rfl) ha rfl (hk8) ?_);rintro e w ⟨rfl,hc⟩;refine⟨_,rfl,fun a ha=>?_⟩;have hS:=hS.call hc;refine lin rfl (aM ha rfl rfl fun a ha=>?_);refine Lm rfl ha fun a ha=>?_;refine ap (t:=36) ha rfl (fun h9 ha=>?_) (fun h9 ha=>?_)
 ·refine Lf rfl ha rfl rfl fun a ha=>?_;refine Lf rfl ha rfl rfl fun a ha=>?_;refine Lf rfl ha rfl rfl fun a ha=>?_;refine lin rfl (aj ha rfl rfl rfl fun a ha=>?_);refine Lm rfl ha fun a ha=>?_;refine Lf rfl ha rfl rfl fun a ha=>?_;refine Lf rfl ha rfl rfl fun a ha=>?_;refine Lf rfl ha rfl rfl fun a ha=>?_;refine lin rfl (aj ha rfl rfl rfl fun a ha=>?_);refine Lm rfl ha fun a ha=>?_;refine Lf rfl ha rfl rfl fun a ha=>?_;refine Lf rfl ha rfl rfl fun a ha=>?_;refine Lf rfl ha rfl rfl fun a ha=>?_;refine lin rfl (aj ha rfl rfl rfl fun a ha=>?_);refine Lm rfl ha fun a ha=>?_;refine Lf rfl ha rfl rfl fun a ha=>?_;refine Lf rfl ha rfl rfl fun a ha=>?_;refine Lf rfl ha rfl rfl fun a ha=>?_;refine lin rfl (aj ha rfl rfl rfl fun a ha=>?_);refine Lm rfl ha fun a ha=>?_;refine Lf rfl ha rfl rfl fun a ha=>?_;refine Lf rfl ha rfl rfl fun a ha=>?_;refine Lf rfl ha rfl rfl fun a ha=>?_;refine lin rfl (aj ha rfl rfl rfl fun a ha=>?_);refine wpList_nil (aa (au ha rfl (wp_seq (ab (Ls rfl ha fun a ha=>?_)))));refine wpList_nil (aa (wp_ret (am (ret1 rfl ha rfl ?_))));exact⟨_,rfl,hS.drop_all⟩
 ·refine ae rfl ha rfl rfl rfl (ak (vs:= [(.slice Au us.length cu)]) T24 rfl ha rfl (hS.blkL 1 rfl) rfl (af rfl) rfl fun a ha=>?_);have hk10:=eZ (us:= []) hS.inv.nil hu (RowT.nil _) (by simp only [List.length_nil,List.length_cons];omega);refine ae rfl ha rfl rfl rfl (ah func12 rfl rfl (ha.evs rfl) ha rfl (hk10) ?_);rintro e w ⟨rfl,hc⟩;refine⟨_,rfl,fun a ha=>?_⟩;have hS:=hS.call hc;refine ae rfl ha rfl rfl rfl (aM ha rfl rfl fun a ha=>?_);refine lin rfl (ai ha rfl rfl rfl fun a ha=>?_);refine Lm rfl ha fun a ha=>?_;refine ap (t:=41) ha rfl (fun h11 ha=>?_) (fun h11 ha=>?_)
  ·refine Lf rfl ha rfl rfl fun a ha=>?_;refine Lf rfl ha rfl rfl fun a ha=>?_;refine Lf rfl ha rfl rfl fun a ha=>?_;refine lin rfl (aj ha rfl rfl rfl fun a ha=>?_);refine Lm rfl ha fun a ha=>?_;refine Lf rfl ha rfl rfl fun a ha=>?_;refine Lf rfl ha rfl rfl fun a ha=>?_;refine Lf rfl ha rfl rfl fun a ha=>?_;refine lin rfl (aj ha rfl rfl rfl fun a ha=>?_);refine Lm rfl ha fun a ha=>?_;refine Lf rfl ha rfl rfl fun a ha=>?_;refine Lf rfl ha rfl rfl fun a ha=>?_;refine Lf rfl ha rfl rfl fun a ha=>?_;refine lin rfl (aj ha rfl rfl rfl fun a ha=>?_);refine Lm rfl ha fun a ha=>?_;refine Lf rfl ha rfl rfl fun a ha=>?_;refine Lf rfl ha rfl rfl fun a ha=>?_;refine Lf rfl ha rfl rfl fun a ha=>?_;refine lin rfl (aj ha rfl rfl rfl fun a ha=>?_);refine wpList_nil (aa (au ha rfl (wp_seq (ab (Ls rfl ha fun a ha=>?_)))));refine wpList_nil (aa (wp_ret (am (ret1 rfl ha rfl ?_))));exact⟨_,rfl,hS.drop_all⟩
  ·refine ae rfl ha rfl rfl rfl (ak (vs:= [(.slice Ar rs.length cr)]) T24 rfl ha rfl (hS.blkL 0 rfl) rfl (af rfl) rfl fun a ha=>?_);have hk12:=eZ (us:= []) hS.inv.nil hr (RowT.nil _) (by simp only [List.length_nil,List.length_cons];omega);refine ae rfl ha rfl rfl rfl (ah func12 rfl rfl (ha.evs rfl) ha rfl (hk12) ?_);rintro e w ⟨rfl,hc⟩;refine⟨_,rfl,fun a ha=>?_⟩;have hS:=hS.call hc;refine ae rfl ha rfl rfl rfl (aM ha rfl rfl fun a ha=>?_);refine lin rfl (ai ha rfl rfl rfl fun a ha=>?_);refine Lm rfl ha fun a ha=>?_;refine ap (t:=46) ha rfl (fun h13 ha=>?_) (fun h13 ha=>?_)
   ·refine Lf rfl ha rfl rfl fun a ha=>?_;refine Lf rfl ha rfl rfl fun a ha=>?_;refine Lf rfl ha rfl rfl fun a ha=>?_;refine lin rfl (aj ha rfl rfl rfl fun a ha=>?_);refine Lm rfl ha fun a ha=>?_;refine Lf rfl ha rfl rfl fun a ha=>?_;refine Lf rfl ha rfl rfl fun a ha=>?_;refine Lf rfl ha rfl rfl fun a ha=>?_;refine lin rfl (aj ha rfl rfl rfl fun a ha=>?_);refine Lm rfl ha fun a ha=>?_;refine Lf rfl ha rfl rfl fun a ha=>?_;refine Lf rfl ha rfl rfl fun a ha=>?_;refine Lf rfl ha rfl rfl fun a ha=>?_;refine lin rfl (aj ha rfl rfl rfl fun a ha=>?_);refine wpList_nil (aa (au ha rfl (wp_seq (ab (Ls rfl ha fun a ha=>?_)))));refine wpList_nil (aa (wp_ret (am (ret1 rfl ha rfl ?_))));exact⟨_,rfl,hS.drop_all⟩
   ·refine ae rfl ha rfl rfl rfl (ak (vs:= [(.slice As ss.length cs)]) T24 rfl ha rfl (hS.blkL 2 rfl) rfl (af rfl) rfl fun a ha=>?_);have hk14:=c_Is hS.inv.nil hs (eB h9);refine ae rfl ha rfl rfl rfl (ah func13 rfl rfl (ha.evs rfl) ha rfl (hk14) ?_);rintro e w ⟨rfl,hc⟩;refine⟨_,rfl,fun a ha=>?_⟩;have hS:=hS.call hc;refine ae rfl ha rfl rfl rfl (aM ha rfl rfl fun a ha=>?_);refine lin rfl (ai ha rfl rfl rfl fun a ha=>?_);refine Lm rfl ha fun a ha=>?_;refine ap (t:=51) ha rfl (fun h15 ha=>?_) (fun h15 ha=>?_)
    ·refine Lf rfl ha rfl rfl fun a ha=>?_;refine Lf rfl ha rfl rfl fun a ha=>?_;refine Lf rfl ha rfl rfl fun a ha=>?_;refine lin rfl (aj ha rfl rfl rfl fun a ha=>?_);refine Lm rfl ha fun a ha=>?_;refine Lf rfl ha rfl rfl fun a ha=>?_;refine Lf rfl ha rfl rfl fun a ha=>?_;refine Lf rfl ha rfl rfl fun a ha=>?_;refine lin rfl (aj ha rfl rfl rfl fun a ha=>?_);refine wpList_nil (aa (au ha rfl (wp_seq (ab (Ls rfl ha fun a ha=>?_)))));refine wpList_nil (aa (wp_ret (am (ret1 rfl ha rfl ?_))));exact⟨_,rfl,hS.drop_all⟩
    ·have hvss: isB ss=true:=by simpa using h15
     refine ae rfl ha rfl rfl rfl (ak (vs:= [(.slice Au us.length cu)]) T24 rfl ha rfl (hS.blkL 1 rfl) rfl (af rfl) rfl fun a ha=>?_);have hk16:=c_Is hS.inv.nil hu (eB h11);refine ae rfl ha rfl rfl rfl (ah func13 rfl rfl (ha.evs rfl) ha rfl (hk16) ?_);rintro e w ⟨rfl,hc⟩;refine⟨_,rfl,fun a ha=>?_⟩;have hS:=hS.call hc;refine ae rfl ha rfl rfl rfl (aM ha rfl rfl fun a ha=>?_);refine lin rfl (ai ha rfl rfl rfl fun a ha=>?_);refine Lm rfl ha fun a ha=>?_;refine ap (t:=56) ha rfl (fun h17 ha=>?_) (fun h17 ha=>?_)
     ·refine Lf rfl ha rfl rfl fun a ha=>?_;refine Lf rfl ha rfl rfl fun a ha=>?_;refine Lf rfl ha rfl rfl fun a ha=>?_;refine lin rfl (aj ha rfl rfl rfl fun a ha=>?_);refine wpList_nil (aa (au ha rfl (wp_seq (ab (Ls rfl ha fun a ha=>?_)))));refine wpList_nil (aa (wp_ret (am (ret1 rfl ha rfl ?_))));exact⟨_,rfl,hS.drop_all⟩
     ·have hvus: isB us=true:=by simpa using h17
      refine ae rfl ha rfl rfl rfl (ak (vs:= [(.slice Ar rs.length cr)]) T24 rfl ha rfl (hS.blkL 0 rfl) rfl (af rfl) rfl fun a ha=>?_);have hk18:=c_Is hS.inv.nil hr (eB h13);refine ae rfl ha rfl rfl rfl (ah func13 rfl rfl (ha.evs rfl) ha rfl (hk18) ?_);rintro e w ⟨rfl,hc⟩;refine⟨_,rfl,fun a ha=>?_⟩;have hS:=hS.call hc;refine ae rfl ha rfl rfl rfl (aM ha rfl rfl fun a ha=>?_);refine lin rfl (ai ha rfl rfl rfl fun a ha=>?_);refine wpList_nil (aa (ap (t:=60) ha rfl (fun h19 ha=>?_) (fun h19 ha=>?_)))
      ·refine au ha rfl (wp_seq (ab (Ls rfl ha fun a ha=>?_)));refine wpList_nil (aa (wp_ret (am (ret1 rfl ha rfl ?_))));exact⟨_,rfl,hS.drop_all⟩
      ·have hvrs: isB rs=true:=by simpa using h19
       refine aq ha rfl (wp_skip (aa (wp_seq (ab (lin rfl (ak (vs:= [(.slice As ss.length cs)]) T24 rfl ha rfl (hS.blkL 2 rfl) rfl (af rfl) rfl fun a ha=>?_))))));refine lin rfl (ak (vs:= [(.slice Au us.length cu)]) T24 rfl ha rfl (hS.blkL 1 rfl) rfl (af rfl) rfl fun a ha=>?_);have hk21:=bU hS.inv.nil hs hu;refine lin rfl (ah func19 rfl rfl (ha.evs rfl) ha rfl (hk21) ?_);rintro e w ⟨H20,A20,c20,rfl,hr20,hc20⟩;refine⟨_,rfl,fun a ha=>?_⟩;have hS:=hS.call hc20;have hs:=hs.mono hc20.le;have hu:=hu.mono hc20.le;have hr:=hr.mono hc20.le;refine Lm rfl ha fun a ha=>?_;refine lin rfl (ao (v:=(.agg #[(.slice A20 (((mergeU ss us).1.1).length) c20)])) ha rfl rfl rfl fun a ha=>?_);refine lin rfl (ao (v:=(.bool ((mergeU ss us).1.2))) ha rfl rfl rfl fun a ha=>?_);refine lin rfl (ao (v:=(.int .i64 ((mergeU ss us).2))) ha rfl rfl rfl fun a ha=>?_);refine lin rfl (aE (cs:= #[(.slice none 0 0)]) T24 hS ha rfl rfl fun b22 a w hS ha=>?_);refine lin rfl (ay (cs':= #[(.slice A20 (((mergeU ss us).1.1).length) c20)]) T24 hS (i:=0) rfl ha rfl rfl rfl rfl rfl rfl fun a w hS ha=>?_);refine Ls rfl ha fun a ha=>?_;refine Ls rfl ha fun a ha=>?_;refine wpList_nil (aa (wp_seq (ab (lin rfl (ak (vs:= [(.slice Au us.length cu)]) T24 rfl ha rfl (hS.blkL 2 rfl) rfl (af rfl) rfl fun a ha=>?_)))));refine lin rfl (ak (vs:= [(.slice As ss.length cs)]) T24 rfl ha rfl (hS.blkL 3 rfl) rfl (af rfl) rfl fun a ha=>?_);have hk25:=bU hS.inv.nil hu hs;refine lin rfl (ah func19 rfl rfl (ha.evs rfl) ha rfl (hk25) ?_);rintro e w ⟨H24,A24,c24,rfl,hr24,hc24⟩;refine⟨_,rfl,fun a ha=>?_⟩;have hS:=hS.call hc24;have hs:=hs.mono hc24.le;have hu:=hu.mono hc24.le;have hr:=hr.mono hc24.le;have hr20:=hr20.mono hc24.le;refine Lm rfl ha fun a ha=>?_;refine lin rfl (ao (v:=(.agg #[(.slice A24 (((mergeU us ss).1.1).length) c24)])) ha rfl rfl rfl fun a ha=>?_);refine lin rfl (ao (v:=(.bool ((mergeU us ss).1.2))) ha rfl rfl rfl fun a ha=>?_);refine lin rfl (ao (v:=(.int .i64 ((mergeU us ss).2))) ha rfl rfl rfl fun a ha=>?_);refine lin rfl (aE (cs:= #[(.slice none 0 0)]) T24 hS ha rfl rfl fun b26 a w hS ha=>?_);refine lin rfl (ay (cs':= #[(.slice A24 (((mergeU us ss).1.1).length) c24)]) T24 hS (i:=0) rfl ha rfl rfl rfl rfl rfl rfl fun a w hS ha=>?_);refine Ls rfl ha fun a ha=>?_;refine Ls rfl ha fun a ha=>?_;refine wpList_nil (aa (wp_seq (wp_seq (aX (D:= []) (N:=220) (E:= [(3,(.pointer (some ⟨b1,0,none⟩))),(4,(.pointer (some ⟨b3,0,none⟩))),(5,(.pointer (some ⟨b5,0,none⟩))),(6,(.bool false)),(7,(.pointer (some ⟨b22,0,none⟩))),(8,(.bool ((mergeU ss us).1.2))),(9,(.int .i64 ((mergeU ss us).2))),(10,(.pointer (some ⟨b26,0,none⟩))),(11,(.bool ((mergeU us ss).1.2))),(12,(.int .i64 ((mergeU us ss).2))),(80,(.bool ((!decide (((mergeU ss us).2)=0))||(!decide (((mergeU us ss).2)=0)))))]) (fun a ha=>?_) ?_))));rotate_left
       ·refine Lm rfl ha fun a ha=>?_;refine lin rfl (a9 (i:=((mergeU ss us).2)) (j:=0) ha rfl rfl rfl fun a ha=>?_);refine Lm rfl ha fun a ha=>?_;refine aJ (t:=77) ha rfl (fun h28 ha=>?_) (fun h28 ha=>?_)
        ·refine Lf rfl ha rfl rfl fun a ha=>?_;refine Lf rfl ha rfl rfl fun a ha=>?_;refine lin rfl (aj ha rfl rfl rfl fun a ha=>?_);have hj29:((!decide (((mergeU ss us).2)=0))||(!decide (((mergeU us ss).2)=0)))=true:=by
          try rw [decide_eq_false h28]
          rfl
         exact wpList_nil ⟨rfl,rfl,Has.cons ha rfl (Has.cons ha rfl (Has.cons ha rfl (Has.cons ha rfl (Has.cons ha rfl (Has.cons ha rfl (Has.cons ha rfl (Has.cons ha rfl (Has.cons ha rfl (Has.cons ha rfl (Has.cons ha (by rw [hj29];rfl) (ha.nil)))))))))))⟩
        ·refine ae rfl ha rfl rfl rfl (al ha rfl rfl fun a ha=>?_);refine ae rfl ha rfl rfl rfl (a9 (i:=((mergeU us ss).2)) (j:=0) ha rfl rfl rfl fun a ha=>?_);refine lin rfl (ai ha rfl rfl rfl fun a ha=>?_);have hj30:((!decide (((mergeU ss us).2)=0))||(!decide (((mergeU us ss).2)=0)))=(!decide (((mergeU us ss).2)=0)):=by
          try rw [decide_eq_true h28]
          rfl
         exact wpList_nil ⟨rfl,rfl,Has.cons ha rfl (Has.cons ha rfl (Has.cons ha rfl (Has.cons ha rfl (Has.cons ha rfl (Has.cons ha rfl (Has.cons ha rfl (Has.cons ha rfl (Has.cons ha rfl (Has.cons ha rfl (Has.cons ha (by rw [hj30];rfl) (ha.nil)))))))))))⟩
       refine aa (ap (t:=80) ha rfl (fun h31 ha=>?_) (fun h31 ha=>?_))
       ·refine au ha rfl (wp_seq (aX (D:= []) (N:=220) (E:= [(3,(.pointer (some ⟨b1,0,none⟩))),(4,(.pointer (some ⟨b3,0,none⟩))),(5,(.pointer (some ⟨b5,0,none⟩))),(6,(.bool (((decide (((mergeU ss us).2)=0))||(decide (((mergeU ss us).2)=2)))&&((decide (((mergeU us ss).2)=0))||(decide (((mergeU us ss).2)=2)))))),(7,(.pointer (some ⟨b22,0,none⟩))),(8,(.bool ((mergeU ss us).1.2))),(9,(.int .i64 ((mergeU ss us).2))),(10,(.pointer (some ⟨b26,0,none⟩))),(11,(.bool ((mergeU us ss).1.2))),(12,(.int .i64 ((mergeU us ss).2)))]) (fun a ha=>?_) ?_));rotate_left
        ·refine Lm rfl ha fun a ha=>?_;refine lin rfl (aT (i:=((mergeU ss us).2)) (j:=0) ha rfl rfl rfl fun a ha=>?_);refine Lm rfl ha fun a ha=>?_;refine an (t:=83) ha rfl (fun h32 ha=>?_) (fun h32 ha=>?_)
         ·refine Lf rfl ha rfl rfl fun a ha=>?_;refine Lf rfl ha rfl rfl fun a ha=>?_;refine lin rfl (aj ha rfl rfl rfl fun a ha=>?_);refine Lm rfl ha fun a ha=>?_;refine ae rfl ha rfl rfl rfl (al ha rfl rfl fun a ha=>?_);refine ae rfl ha rfl rfl rfl (aT (i:=((mergeU us ss).2)) (j:=0) ha rfl rfl rfl fun a ha=>?_);refine ae rfl ha rfl rfl rfl (al ha rfl rfl fun a ha=>?_);refine an (t:=90) ha rfl (fun h33 ha=>?_) (fun h33 ha=>?_)
          ·refine Lf rfl ha rfl rfl fun a ha=>?_;refine Lf rfl ha rfl rfl fun a ha=>?_;refine ae rfl ha rfl rfl rfl (aj ha rfl rfl rfl fun a ha=>?_);refine lin rfl (aj ha rfl rfl rfl fun a ha=>?_);refine Ls rfl ha fun a ha=>?_;have hj34:(((decide (((mergeU ss us).2)=0))||(decide (((mergeU ss us).2)=2)))&&((decide (((mergeU us ss).2)=0))||(decide (((mergeU us ss).2)=2))))=true:=by
            try rw [decide_eq_true h32]
            try rw [decide_eq_true h33]
            rfl
           exact wpList_nil ⟨rfl,rfl,Has.cons ha rfl (Has.cons ha rfl (Has.cons ha rfl (Has.cons ha (by rw [hj34];rfl) (ha.pk rfl))))⟩
          ·refine ae rfl ha rfl rfl rfl (al ha rfl rfl fun a ha=>?_);refine ae rfl ha rfl rfl rfl (aT (i:=((mergeU us ss).2)) (j:=2) ha rfl rfl rfl fun a ha=>?_);refine ae rfl ha rfl rfl rfl (ai ha rfl rfl rfl fun a ha=>?_);refine lin rfl (aj ha rfl rfl rfl fun a ha=>?_);refine Ls rfl ha fun a ha=>?_;have hj35:(((decide (((mergeU ss us).2)=0))||(decide (((mergeU ss us).2)=2)))&&((decide (((mergeU us ss).2)=0))||(decide (((mergeU us ss).2)=2))))=(decide (((mergeU us ss).2)=2)):=by
            try rw [decide_eq_true h32]
            try rw [decide_eq_false h33]
            rfl
           exact wpList_nil ⟨rfl,rfl,Has.cons ha rfl (Has.cons ha rfl (Has.cons ha rfl (Has.cons ha (by rw [hj35];rfl) (ha.pk rfl))))⟩
         ·refine ae rfl ha rfl rfl rfl (al ha rfl rfl fun a ha=>?_);refine ae rfl ha rfl rfl rfl (aT (i:=((mergeU ss us).2)) (j:=2) ha rfl rfl rfl fun a ha=>?_);refine lin rfl (ai ha rfl rfl rfl fun a ha=>?_);refine Lm rfl ha fun a ha=>?_;refine an (t:=87) ha rfl (fun h36 ha=>?_) (fun h36 ha=>?_)
          ·refine ae rfl ha rfl rfl rfl (al ha rfl rfl fun a ha=>?_);refine ae rfl ha rfl rfl rfl (aT (i:=((mergeU us ss).2)) (j:=0) ha rfl rfl rfl fun a ha=>?_);refine ae rfl ha rfl rfl rfl (al ha rfl rfl fun a ha=>?_);refine an (t:=90) ha rfl (fun h37 ha=>?_) (fun h37 ha=>?_)
           ·refine Lf rfl ha rfl rfl fun a ha=>?_;refine Lf rfl ha rfl rfl fun a ha=>?_;refine ae rfl ha rfl rfl rfl (aj ha rfl rfl rfl fun a ha=>?_);refine lin rfl (aj ha rfl rfl rfl fun a ha=>?_);refine Ls rfl ha fun a ha=>?_;have hj38:(((decide (((mergeU ss us).2)=0))||(decide (((mergeU ss us).2)=2)))&&((decide (((mergeU us ss).2)=0))||(decide (((mergeU us ss).2)=2))))=true:=by
             try rw [decide_eq_false h32]
             try rw [decide_eq_true h36]
             try rw [decide_eq_true h37]
             rfl
            exact wpList_nil ⟨rfl,rfl,Has.cons ha rfl (Has.cons ha rfl (Has.cons ha rfl (Has.cons ha (by rw [hj38];rfl) (ha.pk rfl))))⟩
           ·refine ae rfl ha rfl rfl rfl (al ha rfl rfl fun a ha=>?_);refine ae rfl ha rfl rfl rfl (aT (i:=((mergeU us ss).2)) (j:=2) ha rfl rfl rfl fun a ha=>?_);refine ae rfl ha rfl rfl rfl (ai ha rfl rfl rfl fun a ha=>?_);refine lin rfl (aj ha rfl rfl rfl fun a ha=>?_);refine Ls rfl ha fun a ha=>?_;have hj39:(((decide (((mergeU ss us).2)=0))||(decide (((mergeU ss us).2)=2)))&&((decide (((mergeU us ss).2)=0))||(decide (((mergeU us ss).2)=2))))=(decide (((mergeU us ss).2)=2)):=by
             try rw [decide_eq_false h32]
             try rw [decide_eq_true h36]
             try rw [decide_eq_false h37]
             rfl
            exact wpList_nil ⟨rfl,rfl,Has.cons ha rfl (Has.cons ha rfl (Has.cons ha rfl (Has.cons ha (by rw [hj39];rfl) (ha.pk rfl))))⟩
          ·refine Lf rfl ha rfl rfl fun a ha=>?_;refine Lf rfl ha rfl rfl fun a ha=>?_;refine Lf rfl ha rfl rfl fun a ha=>?_;refine aC rfl rfl rfl ha rfl rfl rfl fun a ha=>?_;refine aC rfl rfl rfl ha rfl rfl rfl fun a ha=>?_;refine Lf rfl ha rfl rfl fun a ha=>?_;refine lin rfl (ai ha rfl rfl rfl fun a ha=>?_);refine Ls rfl ha fun a ha=>?_;have hj40:(((decide (((mergeU ss us).2)=0))||(decide (((mergeU ss us).2)=2)))&&((decide (((mergeU us ss).2)=0))||(decide (((mergeU us ss).2)=2))))=false:=by
            try rw [decide_eq_false h32]
            try rw [decide_eq_false h36]
            rfl
           exact wpList_nil ⟨rfl,rfl,Has.cons ha rfl (Has.cons ha rfl (Has.cons ha rfl (Has.cons ha (by rw [hj40];rfl) (ha.pk rfl))))⟩
        refine aa (wp_ret (am (ret1 rfl ha rfl ?_)));have hfin:(((decide (((mergeU ss us).2)=0))||(decide (((mergeU ss us).2)=2)))&&((decide (((mergeU us ss).2)=0))||(decide (((mergeU us ss).2)=2))))=true:=mer_e1 hvss hvus;rw [hfin];exact⟨_,rfl,hS.drop_all⟩
       ·have hm1:=fP h31;refine aq ha rfl (wp_skip (aa (wp_seq (ab (lin rfl (ak (vs:= [(.slice As ss.length cs)]) T24 rfl ha rfl (hS.blkL 4 rfl) rfl (af rfl) rfl fun a ha=>?_))))));refine lin rfl (ak (vs:= [(.slice As ss.length cs)]) T24 rfl ha rfl (hS.blkL 4 rfl) rfl (af rfl) rfl fun a ha=>?_);have hk42:=bU hS.inv.nil hs hs;refine lin rfl (ah func19 rfl rfl (ha.evs rfl) ha rfl (hk42) ?_);rintro e w ⟨H41,A41,c41,rfl,hr41,hc41⟩;refine⟨_,rfl,fun a ha=>?_⟩;have hS:=hS.call hc41;have hs:=hs.mono hc41.le;have hu:=hu.mono hc41.le;have hr:=hr.mono hc41.le;have hr20:=hr20.mono hc41.le;have hr24:=hr24.mono hc41.le;refine Lm rfl ha fun a ha=>?_;refine lin rfl (ao (v:=(.agg #[(.slice A41 (((mergeU ss ss).1.1).length) c41)])) ha rfl rfl rfl fun a ha=>?_);refine lin rfl (ao (v:=(.bool ((mergeU ss ss).1.2))) ha rfl rfl rfl fun a ha=>?_);refine lin rfl (ao (v:=(.int .i64 ((mergeU ss ss).2))) ha rfl rfl rfl fun a ha=>?_);refine lin rfl (aE (cs:= #[(.slice none 0 0)]) T24 hS ha rfl rfl fun b43 a w hS ha=>?_);refine lin rfl (ay (cs':= #[(.slice A41 (((mergeU ss ss).1.1).length) c41)]) T24 hS (i:=0) rfl ha rfl rfl rfl rfl rfl rfl fun a w hS ha=>?_);refine Ls rfl ha fun a ha=>?_;refine Ls rfl ha fun a ha=>?_;refine wpList_nil (aa (wp_seq (wp_seq (bD (w0:=w0) (H0:=H) (L0:= []) (H:=H41) (L:= [(some b43,(.cells #[(.slice A41 (((mergeU ss ss).1.1).length) c41)] 24 (0,0))),(some b26,(.cells #[(.slice A24 (((mergeU us ss).1.1).length) c24)] 24 (0,0))),(some b22,(.cells #[(.slice A20 (((mergeU ss us).1.1).length) c20)] 24 (0,0))),(some b5,(.cells #[(.slice Ar rs.length cr)] 24 (0,0))),(some b3,(.cells #[(.slice Au us.length cu)] 24 (0,0))),(some b1,(.cells #[(.slice As ss.length cs)] 24 (0,0)))]) (D:= []) (N:=220) (E:= [(3,(.pointer (some ⟨b1,0,none⟩))),(4,(.pointer (some ⟨b3,0,none⟩))),(5,(.pointer (some ⟨b5,0,none⟩))),(6,(.bool false)),(7,(.pointer (some ⟨b22,0,none⟩))),(8,(.bool ((mergeU ss us).1.2))),(10,(.pointer (some ⟨b26,0,none⟩))),(11,(.bool ((mergeU us ss).1.2))),(13,(.pointer (some ⟨b43,0,none⟩))),(14,(.bool ((mergeU ss ss).1.2))),(15,(.int .i64 ((mergeU ss ss).2))),(127,(.bool (((!((mergeU ss us).1.2 ==(mergeU us ss).1.2))||((mergeU ss us).1.2&&(!(eqvB ((mergeU ss us).1.1) ((mergeU us ss).1.1)))))||((decide (((mergeU ss ss).2)=0))&&((!(mergeU ss ss).1.2)||(!(eqvB ((mergeU ss ss).1.1) ss)))))))]) (fun a w hS ha=>?_) ?_))));rotate_left
        ·refine Lm rfl ha fun a ha=>?_;refine Lm rfl ha fun a ha=>?_;refine lin rfl (o_neb T4.und ha rfl rfl rfl fun a ha=>?_);refine Lm rfl ha fun a ha=>?_;refine ap (t:=105) ha rfl (fun h47 ha=>?_) (fun h47 ha=>?_)
         ·refine Lf rfl ha rfl rfl fun a ha=>?_;refine Lf rfl ha rfl rfl fun a ha=>?_;refine aC rfl rfl rfl ha rfl rfl rfl fun a ha=>?_;refine aC rfl rfl rfl ha rfl rfl rfl fun a ha=>?_;refine aC rfl rfl rfl ha rfl rfl rfl fun a ha=>?_;refine aC rfl rfl rfl ha rfl rfl rfl fun a ha=>?_;refine Lf rfl ha rfl rfl fun a ha=>?_;refine lin rfl (aj ha rfl rfl rfl fun a ha=>?_);refine Lm rfl ha fun a ha=>?_;refine Lf rfl ha rfl rfl fun a ha=>?_;refine Lf rfl ha rfl rfl fun a ha=>?_;refine Lf rfl ha rfl rfl fun a ha=>?_;refine aC rfl rfl rfl ha rfl rfl rfl fun a ha=>?_;refine aC rfl rfl rfl ha rfl rfl rfl fun a ha=>?_;refine aC rfl rfl rfl ha rfl rfl rfl fun a ha=>?_;refine aC rfl rfl rfl ha rfl rfl rfl fun a ha=>?_;refine aC rfl rfl rfl ha rfl rfl rfl fun a ha=>?_;refine aC rfl rfl rfl ha rfl rfl rfl fun a ha=>?_;refine aC rfl rfl rfl ha rfl rfl rfl fun a ha=>?_;refine aC rfl rfl rfl ha rfl rfl rfl fun a ha=>?_;refine Lf rfl ha rfl rfl fun a ha=>?_;refine lin rfl (aj ha rfl rfl rfl fun a ha=>?_);have hj48:(((!((mergeU ss us).1.2 ==(mergeU us ss).1.2))||((mergeU ss us).1.2&&(!(eqvB ((mergeU ss us).1.1) ((mergeU us ss).1.1)))))||((decide (((mergeU ss ss).2)=0))&&((!(mergeU ss ss).1.2)||(!(eqvB ((mergeU ss ss).1.1) ss)))))=true:=by
           try rw [h47]
           rfl
          exact wpList_nil ⟨rfl,hS,Has.cons ha rfl (Has.cons ha rfl (Has.cons ha rfl (Has.cons ha rfl (Has.cons ha rfl (Has.cons ha rfl (Has.cons ha rfl (Has.cons ha rfl (Has.cons ha rfl (Has.cons ha rfl (Has.cons ha rfl (Has.cons ha (by rw [hj48];rfl) (ha.nil))))))))))))⟩
         ·refine ae rfl ha rfl rfl rfl (al ha rfl rfl fun a ha=>?_);refine ae rfl ha rfl rfl rfl (al ha rfl rfl fun a ha=>?_);refine ap (t:=107) ha rfl (fun h49 ha=>?_) (fun h49 ha=>?_)
          ·refine ae rfl ha rfl rfl rfl (ak (vs:= [(.slice A20 (((mergeU ss us).1.1).length) c20)]) T24 rfl ha rfl (hS.blkL 2 rfl) rfl (af rfl) rfl fun a ha=>?_);refine ae rfl ha rfl rfl rfl (ak (vs:= [(.slice A24 (((mergeU us ss).1.1).length) c24)]) T24 rfl ha rfl (hS.blkL 1 rfl) rfl (af rfl) rfl fun a ha=>?_);have hk50:=rsP (bL hS.inv.nil hr20 hr24);refine ae rfl ha rfl rfl rfl (ah func20 rfl rfl (ha.evs rfl) ha rfl (hk50) ?_);rintro e w ⟨rfl,hc⟩;refine⟨_,rfl,fun a ha=>?_⟩;have hS:=hS.call hc;refine ae rfl ha rfl rfl rfl (aM ha rfl rfl fun a ha=>?_);refine ae rfl ha rfl rfl rfl (aj ha rfl rfl rfl fun a ha=>?_);refine lin rfl (ai ha rfl rfl rfl fun a ha=>?_);refine Lm rfl ha fun a ha=>?_;refine ap (t:=114) ha rfl (fun h51 ha=>?_) (fun h51 ha=>?_)
           ·refine Lf rfl ha rfl rfl fun a ha=>?_;refine Lf rfl ha rfl rfl fun a ha=>?_;refine Lf rfl ha rfl rfl fun a ha=>?_;refine aC rfl rfl rfl ha rfl rfl rfl fun a ha=>?_;refine aC rfl rfl rfl ha rfl rfl rfl fun a ha=>?_;refine aC rfl rfl rfl ha rfl rfl rfl fun a ha=>?_;refine aC rfl rfl rfl ha rfl rfl rfl fun a ha=>?_;refine aC rfl rfl rfl ha rfl rfl rfl fun a ha=>?_;refine aC rfl rfl rfl ha rfl rfl rfl fun a ha=>?_;refine aC rfl rfl rfl ha rfl rfl rfl fun a ha=>?_;refine aC rfl rfl rfl ha rfl rfl rfl fun a ha=>?_;refine Lf rfl ha rfl rfl fun a ha=>?_;refine lin rfl (aj ha rfl rfl rfl fun a ha=>?_);have hj52:(((!((mergeU ss us).1.2 ==(mergeU us ss).1.2))||((mergeU ss us).1.2&&(!(eqvB ((mergeU ss us).1.1) ((mergeU us ss).1.1)))))||((decide (((mergeU ss ss).2)=0))&&((!(mergeU ss ss).1.2)||(!(eqvB ((mergeU ss ss).1.1) ss)))))=true:=by
             try rw [h47]
             try rw [h49]
             try rw [h51]
             rfl
            exact wpList_nil ⟨rfl,hS,Has.cons ha rfl (Has.cons ha rfl (Has.cons ha rfl (Has.cons ha rfl (Has.cons ha rfl (Has.cons ha rfl (Has.cons ha rfl (Has.cons ha rfl (Has.cons ha rfl (Has.cons ha rfl (Has.cons ha rfl (Has.cons ha (by rw [hj52];rfl) (ha.nil))))))))))))⟩
           ·refine ae rfl ha rfl rfl rfl (al ha rfl rfl fun a ha=>?_);refine ae rfl ha rfl rfl rfl (aT (i:=((mergeU ss ss).2)) (j:=0) ha rfl rfl rfl fun a ha=>?_);refine ae rfl ha rfl rfl rfl (al ha rfl rfl fun a ha=>?_);refine an (t:=117) ha rfl (fun h53 ha=>?_) (fun h53 ha=>?_)
            ·refine ae rfl ha rfl rfl rfl (al ha rfl rfl fun a ha=>?_);refine ae rfl ha rfl rfl rfl (aM ha rfl rfl fun a ha=>?_);refine ae rfl ha rfl rfl rfl (al ha rfl rfl fun a ha=>?_);refine ap (t:=120) ha rfl (fun h54 ha=>?_) (fun h54 ha=>?_)
             ·refine Lf rfl ha rfl rfl fun a ha=>?_;refine Lf rfl ha rfl rfl fun a ha=>?_;refine Lf rfl ha rfl rfl fun a ha=>?_;refine Lf rfl ha rfl rfl fun a ha=>?_;refine ae rfl ha rfl rfl rfl (aj ha rfl rfl rfl fun a ha=>?_);refine ae rfl ha rfl rfl rfl (aj ha rfl rfl rfl fun a ha=>?_);refine lin rfl (ai ha rfl rfl rfl fun a ha=>?_);have hj55:(((!((mergeU ss us).1.2 ==(mergeU us ss).1.2))||((mergeU ss us).1.2&&(!(eqvB ((mergeU ss us).1.1) ((mergeU us ss).1.1)))))||((decide (((mergeU ss ss).2)=0))&&((!(mergeU ss ss).1.2)||(!(eqvB ((mergeU ss ss).1.1) ss)))))=true:=by
               try rw [h47]
               try rw [h49]
               try rw [h51]
               try rw [decide_eq_true h53]
               try rw [h54]
               rfl
              exact wpList_nil ⟨rfl,hS,Has.cons ha rfl (Has.cons ha rfl (Has.cons ha rfl (Has.cons ha rfl (Has.cons ha rfl (Has.cons ha rfl (Has.cons ha rfl (Has.cons ha rfl (Has.cons ha rfl (Has.cons ha rfl (Has.cons ha rfl (Has.cons ha (by rw [hj55];rfl) (ha.nil))))))))))))⟩
             ·refine ae rfl ha rfl rfl rfl (ak (vs:= [(.slice A41 (((mergeU ss ss).1.1).length) c41)]) T24 rfl ha rfl (hS.blkL 0 rfl) rfl (af rfl) rfl fun a ha=>?_);refine ae rfl ha rfl rfl rfl (ak (vs:= [(.slice As ss.length cs)]) T24 rfl ha rfl (hS.blkL 5 rfl) rfl (af rfl) rfl fun a ha=>?_);have hk56:=rsP (bL hS.inv.nil hr41 hs);refine ae rfl ha rfl rfl rfl (ah func20 rfl rfl (ha.evs rfl) ha rfl (hk56) ?_);rintro e w ⟨rfl,hc⟩;refine⟨_,rfl,fun a ha=>?_⟩;have hS:=hS.call hc;refine ae rfl ha rfl rfl rfl (aM ha rfl rfl fun a ha=>?_);refine ae rfl ha rfl rfl rfl (ai ha rfl rfl rfl fun a ha=>?_);refine ae rfl ha rfl rfl rfl (aj ha rfl rfl rfl fun a ha=>?_);refine lin rfl (ai ha rfl rfl rfl fun a ha=>?_);have hj57:(((!((mergeU ss us).1.2 ==(mergeU us ss).1.2))||((mergeU ss us).1.2&&(!(eqvB ((mergeU ss us).1.1) ((mergeU us ss).1.1)))))||((decide (((mergeU ss ss).2)=0))&&((!(mergeU ss ss).1.2)||(!(eqvB ((mergeU ss ss).1.1) ss)))))=(!(eqvB ((mergeU ss ss).1.1) ss)):=by
               try rw [h47]
               try rw [h49]
               try rw [h51]
               try rw [decide_eq_true h53]
               try rw [h54]
               rfl
              exact wpList_nil ⟨rfl,hS,Has.cons ha rfl (Has.cons ha rfl (Has.cons ha rfl (Has.cons ha rfl (Has.cons ha rfl (Has.cons ha rfl (Has.cons ha rfl (Has.cons ha rfl (Has.cons ha rfl (Has.cons ha rfl (Has.cons ha rfl (Has.cons ha (by rw [hj57];rfl) (ha.nil))))))))))))⟩
            ·refine Lf rfl ha rfl rfl fun a ha=>?_;refine Lf rfl ha rfl rfl fun a ha=>?_;refine Lf rfl ha rfl rfl fun a ha=>?_;refine aC rfl rfl rfl ha rfl rfl rfl fun a ha=>?_;refine aC rfl rfl rfl ha rfl rfl rfl fun a ha=>?_;refine aC rfl rfl rfl ha rfl rfl rfl fun a ha=>?_;refine aC rfl rfl rfl ha rfl rfl rfl fun a ha=>?_;refine Lf rfl ha rfl rfl fun a ha=>?_;refine ae rfl ha rfl rfl rfl (ai ha rfl rfl rfl fun a ha=>?_);refine lin rfl (ai ha rfl rfl rfl fun a ha=>?_);have hj58:(((!((mergeU ss us).1.2 ==(mergeU us ss).1.2))||((mergeU ss us).1.2&&(!(eqvB ((mergeU ss us).1.1) ((mergeU us ss).1.1)))))||((decide (((mergeU ss ss).2)=0))&&((!(mergeU ss ss).1.2)||(!(eqvB ((mergeU ss ss).1.1) ss)))))=false:=by
              try rw [h47]
              try rw [h49]
              try rw [h51]
              try rw [decide_eq_false h53]
              rfl
             exact wpList_nil ⟨rfl,hS,Has.cons ha rfl (Has.cons ha rfl (Has.cons ha rfl (Has.cons ha rfl (Has.cons ha rfl (Has.cons ha rfl (Has.cons ha rfl (Has.cons ha rfl (Has.cons ha rfl (Has.cons ha rfl (Has.cons ha rfl (Has.cons ha (by rw [hj58];rfl) (ha.nil))))))))))))⟩
          ·refine Lf rfl ha rfl rfl fun a ha=>?_;refine Lf rfl ha rfl rfl fun a ha=>?_;refine Lf rfl ha rfl rfl fun a ha=>?_;refine Lf rfl ha rfl rfl fun a ha=>?_;refine ae rfl ha rfl rfl rfl (ai ha rfl rfl rfl fun a ha=>?_);refine lin rfl (ai ha rfl rfl rfl fun a ha=>?_);refine Lm rfl ha fun a ha=>?_;refine ae rfl ha rfl rfl rfl (al ha rfl rfl fun a ha=>?_);refine ae rfl ha rfl rfl rfl (aT (i:=((mergeU ss ss).2)) (j:=0) ha rfl rfl rfl fun a ha=>?_);refine ae rfl ha rfl rfl rfl (al ha rfl rfl fun a ha=>?_);refine an (t:=117) ha rfl (fun h59 ha=>?_) (fun h59 ha=>?_)
           ·refine ae rfl ha rfl rfl rfl (al ha rfl rfl fun a ha=>?_);refine ae rfl ha rfl rfl rfl (aM ha rfl rfl fun a ha=>?_);refine ae rfl ha rfl rfl rfl (al ha rfl rfl fun a ha=>?_);refine ap (t:=120) ha rfl (fun h60 ha=>?_) (fun h60 ha=>?_)
            ·refine Lf rfl ha rfl rfl fun a ha=>?_;refine Lf rfl ha rfl rfl fun a ha=>?_;refine Lf rfl ha rfl rfl fun a ha=>?_;refine Lf rfl ha rfl rfl fun a ha=>?_;refine ae rfl ha rfl rfl rfl (aj ha rfl rfl rfl fun a ha=>?_);refine ae rfl ha rfl rfl rfl (aj ha rfl rfl rfl fun a ha=>?_);refine lin rfl (ai ha rfl rfl rfl fun a ha=>?_);have hj61:(((!((mergeU ss us).1.2 ==(mergeU us ss).1.2))||((mergeU ss us).1.2&&(!(eqvB ((mergeU ss us).1.1) ((mergeU us ss).1.1)))))||((decide (((mergeU ss ss).2)=0))&&((!(mergeU ss ss).1.2)||(!(eqvB ((mergeU ss ss).1.1) ss)))))=true:=by
              try rw [h47]
              try rw [h49]
              try rw [decide_eq_true h59]
              try rw [h60]
              rfl
             exact wpList_nil ⟨rfl,hS,Has.cons ha rfl (Has.cons ha rfl (Has.cons ha rfl (Has.cons ha rfl (Has.cons ha rfl (Has.cons ha rfl (Has.cons ha rfl (Has.cons ha rfl (Has.cons ha rfl (Has.cons ha rfl (Has.cons ha rfl (Has.cons ha (by rw [hj61];rfl) (ha.nil))))))))))))⟩
            ·refine ae rfl ha rfl rfl rfl (ak (vs:= [(.slice A41 (((mergeU ss ss).1.1).length) c41)]) T24 rfl ha rfl (hS.blkL 0 rfl) rfl (af rfl) rfl fun a ha=>?_);refine ae rfl ha rfl rfl rfl (ak (vs:= [(.slice As ss.length cs)]) T24 rfl ha rfl (hS.blkL 5 rfl) rfl (af rfl) rfl fun a ha=>?_);have hk62:=rsP (bL hS.inv.nil hr41 hs);refine ae rfl ha rfl rfl rfl (ah func20 rfl rfl (ha.evs rfl) ha rfl (hk62) ?_);rintro e w ⟨rfl,hc⟩;refine⟨_,rfl,fun a ha=>?_⟩;have hS:=hS.call hc;refine ae rfl ha rfl rfl rfl (aM ha rfl rfl fun a ha=>?_);refine ae rfl ha rfl rfl rfl (ai ha rfl rfl rfl fun a ha=>?_);refine ae rfl ha rfl rfl rfl (aj ha rfl rfl rfl fun a ha=>?_);refine lin rfl (ai ha rfl rfl rfl fun a ha=>?_);have hj63:(((!((mergeU ss us).1.2 ==(mergeU us ss).1.2))||((mergeU ss us).1.2&&(!(eqvB ((mergeU ss us).1.1) ((mergeU us ss).1.1)))))||((decide (((mergeU ss ss).2)=0))&&((!(mergeU ss ss).1.2)||(!(eqvB ((mergeU ss ss).1.1) ss)))))=(!(eqvB ((mergeU ss ss).1.1) ss)):=by
              try rw [h47]
              try rw [h49]
              try rw [decide_eq_true h59]
              try rw [h60]
              rfl
             exact wpList_nil ⟨rfl,hS,Has.cons ha rfl (Has.cons ha rfl (Has.cons ha rfl (Has.cons ha rfl (Has.cons ha rfl (Has.cons ha rfl (Has.cons ha rfl (Has.cons ha rfl (Has.cons ha rfl (Has.cons ha rfl (Has.cons ha rfl (Has.cons ha (by rw [hj63];rfl) (ha.nil))))))))))))⟩
           ·refine Lf rfl ha rfl rfl fun a ha=>?_;refine Lf rfl ha rfl rfl fun a ha=>?_;refine Lf rfl ha rfl rfl fun a ha=>?_;refine aC rfl rfl rfl ha rfl rfl rfl fun a ha=>?_;refine aC rfl rfl rfl ha rfl rfl rfl fun a ha=>?_;refine aC rfl rfl rfl ha rfl rfl rfl fun a ha=>?_;refine aC rfl rfl rfl ha rfl rfl rfl fun a ha=>?_;refine Lf rfl ha rfl rfl fun a ha=>?_;refine ae rfl ha rfl rfl rfl (ai ha rfl rfl rfl fun a ha=>?_);refine lin rfl (ai ha rfl rfl rfl fun a ha=>?_);have hj64:(((!((mergeU ss us).1.2 ==(mergeU us ss).1.2))||((mergeU ss us).1.2&&(!(eqvB ((mergeU ss us).1.1) ((mergeU us ss).1.1)))))||((decide (((mergeU ss ss).2)=0))&&((!(mergeU ss ss).1.2)||(!(eqvB ((mergeU ss ss).1.1) ss)))))=false:=by
             try rw [h47]
             try rw [h49]
             try rw [decide_eq_false h59]
             rfl
            exact wpList_nil ⟨rfl,hS,Has.cons ha rfl (Has.cons ha rfl (Has.cons ha rfl (Has.cons ha rfl (Has.cons ha rfl (Has.cons ha rfl (Has.cons ha rfl (Has.cons ha rfl (Has.cons ha rfl (Has.cons ha rfl (Has.cons ha rfl (Has.cons ha (by rw [hj64];rfl) (ha.nil))))))))))))⟩
        refine aa (ap (t:=127) ha rfl (fun h65 ha=>?_) (fun h65 ha=>?_))
        ·refine au ha rfl (wp_seq (ab (Ls rfl ha fun a ha=>?_)));refine wpList_nil (aa (wp_ret (am (ret1 rfl ha rfl ?_))));exact(mer_b1 hvss hvus hm1.1 hm1.2 h65).elim
        ·refine aq ha rfl (wp_skip (aa (wp_seq (ab (lin rfl (ak (vs:= [(.slice Ar rs.length cr)]) T24 rfl ha rfl (hS.blkL 3 rfl) rfl (af rfl) rfl fun a ha=>?_))))));refine lin rfl (ak (vs:= [(.slice As ss.length cs)]) T24 rfl ha rfl (hS.blkL 5 rfl) rfl (af rfl) rfl fun a ha=>?_);have hk66:=rsP (cB hS.inv.nil hr hs);refine lin rfl (ah func17 rfl rfl (ha.evs rfl) ha rfl (hk66) ?_);rintro e w ⟨rfl,hc⟩;refine⟨_,rfl,fun a ha=>?_⟩;have hS:=hS.call hc;refine Lm rfl ha fun a ha=>?_;refine lin rfl (ao (v:=(.bool ((impD rs ss).1))) ha rfl rfl rfl fun a ha=>?_);refine lin rfl (ao (v:=(.bool ((impD rs ss).2))) ha rfl rfl rfl fun a ha=>?_);refine Ls rfl ha fun a ha=>?_;refine Ls rfl ha fun a ha=>?_;refine wpList_nil (aa (wp_seq (ab (lin rfl (ak (vs:= [(.slice Ar rs.length cr)]) T24 rfl ha rfl (hS.blkL 3 rfl) rfl (af rfl) rfl fun a ha=>?_)))));refine lin rfl (ak (vs:= [(.slice Au us.length cu)]) T24 rfl ha rfl (hS.blkL 4 rfl) rfl (af rfl) rfl fun a ha=>?_);have hk67:=rsP (cB hS.inv.nil hr hu);refine lin rfl (ah func17 rfl rfl (ha.evs rfl) ha rfl (hk67) ?_);rintro e w ⟨rfl,hc⟩;refine⟨_,rfl,fun a ha=>?_⟩;have hS:=hS.call hc;refine Lm rfl ha fun a ha=>?_;refine lin rfl (ao (v:=(.bool ((impD rs us).1))) ha rfl rfl rfl fun a ha=>?_);refine lin rfl (ao (v:=(.bool ((impD rs us).2))) ha rfl rfl rfl fun a ha=>?_);refine Ls rfl ha fun a ha=>?_;refine Ls rfl ha fun a ha=>?_;refine wpList_nil (aa (wp_seq (wp_seq (aX (D:= []) (N:=220) (E:= [(3,(.pointer (some ⟨b1,0,none⟩))),(4,(.pointer (some ⟨b3,0,none⟩))),(5,(.pointer (some ⟨b5,0,none⟩))),(6,(.bool false)),(7,(.pointer (some ⟨b22,0,none⟩))),(8,(.bool ((mergeU ss us).1.2))),(16,(.bool ((impD rs ss).1))),(17,(.bool ((impD rs ss).2))),(18,(.bool ((impD rs us).1))),(19,(.bool ((impD rs us).2))),(149,(.bool ((((impD rs ss).2&&(impD rs us).2)&&(impD rs ss).1)&&(impD rs us).1)))]) (fun a ha=>?_) ?_))));rotate_left
         ·refine Lm rfl ha fun a ha=>?_;refine Lm rfl ha fun a ha=>?_;refine ap (t:=141) ha rfl (fun h68 ha=>?_) (fun h68 ha=>?_)
          ·refine ae rfl ha rfl rfl rfl (al ha rfl rfl fun a ha=>?_);refine lin rfl (aj ha rfl rfl rfl fun a ha=>?_);refine Lm rfl ha fun a ha=>?_;refine ap (t:=144) ha rfl (fun h69 ha=>?_) (fun h69 ha=>?_)
           ·refine ae rfl ha rfl rfl rfl (al ha rfl rfl fun a ha=>?_);refine lin rfl (aj ha rfl rfl rfl fun a ha=>?_);refine Lm rfl ha fun a ha=>?_;refine ap (t:=147) ha rfl (fun h70 ha=>?_) (fun h70 ha=>?_)
            ·refine ae rfl ha rfl rfl rfl (al ha rfl rfl fun a ha=>?_);refine lin rfl (aj ha rfl rfl rfl fun a ha=>?_);have hj71:((((impD rs ss).2&&(impD rs us).2)&&(impD rs ss).1)&&(impD rs us).1)=(impD rs us).1:=by
              try rw [h68]
              try rw [h69]
              try rw [h70]
              rfl
             exact wpList_nil ⟨rfl,rfl,Has.cons ha rfl (Has.cons ha rfl (Has.cons ha rfl (Has.cons ha rfl (Has.cons ha rfl (Has.cons ha rfl (Has.cons ha rfl (Has.cons ha rfl (Has.cons ha rfl (Has.cons ha rfl (Has.cons ha (by rw [hj71];rfl) (ha.nil)))))))))))⟩
            ·refine Lf rfl ha rfl rfl fun a ha=>?_;refine lin rfl (ai ha rfl rfl rfl fun a ha=>?_);have hj72:((((impD rs ss).2&&(impD rs us).2)&&(impD rs ss).1)&&(impD rs us).1)=false:=by
              try rw [h68]
              try rw [h69]
              try rw [h70]
              rfl
             exact wpList_nil ⟨rfl,rfl,Has.cons ha rfl (Has.cons ha rfl (Has.cons ha rfl (Has.cons ha rfl (Has.cons ha rfl (Has.cons ha rfl (Has.cons ha rfl (Has.cons ha rfl (Has.cons ha rfl (Has.cons ha rfl (Has.cons ha (by rw [hj72];rfl) (ha.nil)))))))))))⟩
           ·refine Lf rfl ha rfl rfl fun a ha=>?_;refine lin rfl (ai ha rfl rfl rfl fun a ha=>?_);refine Lm rfl ha fun a ha=>?_;refine Lf rfl ha rfl rfl fun a ha=>?_;refine lin rfl (ai ha rfl rfl rfl fun a ha=>?_);have hj73:((((impD rs ss).2&&(impD rs us).2)&&(impD rs ss).1)&&(impD rs us).1)=false:=by
             try rw [h68]
             try rw [h69]
             rfl
            exact wpList_nil ⟨rfl,rfl,Has.cons ha rfl (Has.cons ha rfl (Has.cons ha rfl (Has.cons ha rfl (Has.cons ha rfl (Has.cons ha rfl (Has.cons ha rfl (Has.cons ha rfl (Has.cons ha rfl (Has.cons ha rfl (Has.cons ha (by rw [hj73];rfl) (ha.nil)))))))))))⟩
          ·refine Lf rfl ha rfl rfl fun a ha=>?_;refine lin rfl (ai ha rfl rfl rfl fun a ha=>?_);refine Lm rfl ha fun a ha=>?_;refine Lf rfl ha rfl rfl fun a ha=>?_;refine lin rfl (ai ha rfl rfl rfl fun a ha=>?_);refine Lm rfl ha fun a ha=>?_;refine Lf rfl ha rfl rfl fun a ha=>?_;refine lin rfl (ai ha rfl rfl rfl fun a ha=>?_);have hj74:((((impD rs ss).2&&(impD rs us).2)&&(impD rs ss).1)&&(impD rs us).1)=false:=by
            try rw [h68]
            rfl
           exact wpList_nil ⟨rfl,rfl,Has.cons ha rfl (Has.cons ha rfl (Has.cons ha rfl (Has.cons ha rfl (Has.cons ha rfl (Has.cons ha rfl (Has.cons ha rfl (Has.cons ha rfl (Has.cons ha rfl (Has.cons ha rfl (Has.cons ha (by rw [hj74];rfl) (ha.nil)))))))))))⟩
         refine aa (ap (t:=149) ha rfl (fun h75 ha=>?_) (fun h75 ha=>?_))
         ·have hm2:=mer_a2 h75;refine au ha rfl (wp_seq (ab (lin rfl (ak (vs:= [(.slice Ar rs.length cr)]) T24 rfl ha rfl (hS.blkL 3 rfl) rfl (af rfl) rfl fun a ha=>?_))));refine lin rfl (ak (vs:= [(.slice A20 (((mergeU ss us).1.1).length) c20)]) T24 rfl ha rfl (hS.blkL 2 rfl) rfl (af rfl) rfl fun a ha=>?_);have hk76:=rsP (cB hS.inv.nil hr hr20);refine lin rfl (ah func17 rfl rfl (ha.evs rfl) ha rfl (hk76) ?_);rintro e w ⟨rfl,hc⟩;refine⟨_,rfl,fun a ha=>?_⟩;have hS:=hS.call hc;refine Lm rfl ha fun a ha=>?_;refine lin rfl (ao (v:=(.bool ((impD rs ((mergeU ss us).1.1)).1))) ha rfl rfl rfl fun a ha=>?_);refine lin rfl (ao (v:=(.bool ((impD rs ((mergeU ss us).1.1)).2))) ha rfl rfl rfl fun a ha=>?_);refine Ls rfl ha fun a ha=>?_;refine Ls rfl ha fun a ha=>?_;refine wpList_nil (aa (wp_seq (aX (D:= []) (N:=220) (E:= [(3,(.pointer (some ⟨b1,0,none⟩))),(4,(.pointer (some ⟨b3,0,none⟩))),(5,(.pointer (some ⟨b5,0,none⟩))),(6,(.bool false)),(7,(.pointer (some ⟨b22,0,none⟩))),(8,(.bool ((mergeU ss us).1.2))),(20,(.bool ((impD rs ((mergeU ss us).1.1)).1))),(21,(.bool ((impD rs ((mergeU ss us).1.1)).2))),(164,(.bool ((!(mergeU ss us).1.2)||((impD rs ((mergeU ss us).1.1)).2&&(!(impD rs ((mergeU ss us).1.1)).1)))))]) (fun a ha=>?_) ?_)));rotate_left
          ·refine Lm rfl ha fun a ha=>?_;refine lin rfl (aM ha rfl rfl fun a ha=>?_);refine Lm rfl ha fun a ha=>?_;refine ap (t:=158) ha rfl (fun h77 ha=>?_) (fun h77 ha=>?_)
           ·refine Lf rfl ha rfl rfl fun a ha=>?_;refine Lf rfl ha rfl rfl fun a ha=>?_;refine aC rfl rfl rfl ha rfl rfl rfl fun a ha=>?_;refine aC rfl rfl rfl ha rfl rfl rfl fun a ha=>?_;refine Lf rfl ha rfl rfl fun a ha=>?_;refine lin rfl (aj ha rfl rfl rfl fun a ha=>?_);have hj78:((!(mergeU ss us).1.2)||((impD rs ((mergeU ss us).1.1)).2&&(!(impD rs ((mergeU ss us).1.1)).1)))=true:=by
             try rw [h77]
             rfl
            exact wpList_nil ⟨rfl,rfl,Has.cons ha rfl (Has.cons ha rfl (Has.cons ha rfl (Has.cons ha rfl (Has.cons ha rfl (Has.cons ha rfl (Has.cons ha rfl (Has.cons ha rfl (Has.cons ha (by rw [hj78];rfl) (ha.nil)))))))))⟩
           ·refine ae rfl ha rfl rfl rfl (al ha rfl rfl fun a ha=>?_);refine ae rfl ha rfl rfl rfl (al ha rfl rfl fun a ha=>?_);refine ap (t:=160) ha rfl (fun h79 ha=>?_) (fun h79 ha=>?_)
            ·refine ae rfl ha rfl rfl rfl (al ha rfl rfl fun a ha=>?_);refine ae rfl ha rfl rfl rfl (aM ha rfl rfl fun a ha=>?_);refine ae rfl ha rfl rfl rfl (aj ha rfl rfl rfl fun a ha=>?_);refine lin rfl (ai ha rfl rfl rfl fun a ha=>?_);have hj80:((!(mergeU ss us).1.2)||((impD rs ((mergeU ss us).1.1)).2&&(!(impD rs ((mergeU ss us).1.1)).1)))=(!(impD rs ((mergeU ss us).1.1)).1):=by
              try rw [h77]
              try rw [h79]
              rfl
             exact wpList_nil ⟨rfl,rfl,Has.cons ha rfl (Has.cons ha rfl (Has.cons ha rfl (Has.cons ha rfl (Has.cons ha rfl (Has.cons ha rfl (Has.cons ha rfl (Has.cons ha rfl (Has.cons ha (by rw [hj80];rfl) (ha.nil)))))))))⟩
            ·refine Lf rfl ha rfl rfl fun a ha=>?_;refine Lf rfl ha rfl rfl fun a ha=>?_;refine ae rfl ha rfl rfl rfl (ai ha rfl rfl rfl fun a ha=>?_);refine lin rfl (ai ha rfl rfl rfl fun a ha=>?_);have hj81:((!(mergeU ss us).1.2)||((impD rs ((mergeU ss us).1.1)).2&&(!(impD rs ((mergeU ss us).1.1)).1)))=false:=by
              try rw [h77]
              try rw [h79]
              rfl
             exact wpList_nil ⟨rfl,rfl,Has.cons ha rfl (Has.cons ha rfl (Has.cons ha rfl (Has.cons ha rfl (Has.cons ha rfl (Has.cons ha rfl (Has.cons ha rfl (Has.cons ha rfl (Has.cons ha (by rw [hj81];rfl) (ha.nil)))))))))⟩
          refine aa (ap (t:=164) ha rfl (fun h82 ha=>?_) (fun h82 ha=>?_))
          ·refine au ha rfl (wp_seq (ab (Ls rfl ha fun a ha=>?_)));refine wpList_nil (aa (wp_ret (am (ret1 rfl ha rfl ?_))));exact(mer_b2 hvss hvus hvrs hm1.1 hm2 h82).elim
          ·refine aq ha rfl (wp_skip (aa (wp_seq (ab (lin rfl (ak (vs:= [(.slice Au us.length cu)]) T24 rfl ha rfl (hS.blkL 4 rfl) rfl (af rfl) rfl fun a ha=>?_))))));refine lin rfl (ak (vs:= [(.slice Ar rs.length cr)]) T24 rfl ha rfl (hS.blkL 3 rfl) rfl (af rfl) rfl fun a ha=>?_);have hk84:=bU hS.inv.nil hu hr;refine lin rfl (ah func19 rfl rfl (ha.evs rfl) ha rfl (hk84) ?_);rintro e w ⟨H83,A83,c83,rfl,hr83,hc83⟩;refine⟨_,rfl,fun a ha=>?_⟩;have hS:=hS.call hc83;have hs:=hs.mono hc83.le;have hr:=hr.mono hc83.le;have hr20:=hr20.mono hc83.le;refine Lm rfl ha fun a ha=>?_;refine lin rfl (ao (v:=(.agg #[(.slice A83 (((mergeU us rs).1.1).length) c83)])) ha rfl rfl rfl fun a ha=>?_);refine lin rfl (ao (v:=(.bool ((mergeU us rs).1.2))) ha rfl rfl rfl fun a ha=>?_);refine lin rfl (ao (v:=(.int .i64 ((mergeU us rs).2))) ha rfl rfl rfl fun a ha=>?_);refine lin rfl (aE (cs:= #[(.slice none 0 0)]) T24 hS ha rfl rfl fun b85 a w hS ha=>?_);refine lin rfl (ay (cs':= #[(.slice A83 (((mergeU us rs).1.1).length) c83)]) T24 hS (i:=0) rfl ha rfl rfl rfl rfl rfl rfl fun a w hS ha=>?_);refine Ls rfl ha fun a ha=>?_;refine Ls rfl ha fun a ha=>?_;refine wpList_nil (aa (wp_seq (wp_seq (aX (D:= []) (N:=220) (E:= [(3,(.pointer (some ⟨b1,0,none⟩))),(5,(.pointer (some ⟨b5,0,none⟩))),(6,(.bool false)),(7,(.pointer (some ⟨b22,0,none⟩))),(8,(.bool ((mergeU ss us).1.2))),(22,(.pointer (some ⟨b85,0,none⟩))),(23,(.bool ((mergeU us rs).1.2))),(24,(.int .i64 ((mergeU us rs).2))),(181,(.bool (((!decide (((mergeU us rs).2)=0))||(!(mergeU ss us).1.2))||(!(mergeU us rs).1.2))))]) (fun a ha=>?_) ?_))));rotate_left
           ·refine Lm rfl ha fun a ha=>?_;refine lin rfl (a9 (i:=((mergeU us rs).2)) (j:=0) ha rfl rfl rfl fun a ha=>?_);refine Lm rfl ha fun a ha=>?_;refine aJ (t:=174) ha rfl (fun h87 ha=>?_) (fun h87 ha=>?_)
            ·refine Lf rfl ha rfl rfl fun a ha=>?_;refine Lf rfl ha rfl rfl fun a ha=>?_;refine lin rfl (aj ha rfl rfl rfl fun a ha=>?_);refine Lm rfl ha fun a ha=>?_;refine Lf rfl ha rfl rfl fun a ha=>?_;refine Lf rfl ha rfl rfl fun a ha=>?_;refine lin rfl (aj ha rfl rfl rfl fun a ha=>?_);have hj88:(((!decide (((mergeU us rs).2)=0))||(!(mergeU ss us).1.2))||(!(mergeU us rs).1.2))=true:=by
              try rw [decide_eq_false h87]
              rfl
             exact wpList_nil ⟨rfl,rfl,Has.cons ha rfl (Has.cons ha rfl (Has.cons ha rfl (Has.cons ha rfl (Has.cons ha rfl (Has.cons ha rfl (Has.cons ha rfl (Has.cons ha rfl (Has.cons ha (by rw [hj88];rfl) (ha.nil)))))))))⟩
            ·refine ae rfl ha rfl rfl rfl (al ha rfl rfl fun a ha=>?_);refine ae rfl ha rfl rfl rfl (aM ha rfl rfl fun a ha=>?_);refine lin rfl (ai ha rfl rfl rfl fun a ha=>?_);refine Lm rfl ha fun a ha=>?_;refine ap (t:=178) ha rfl (fun h89 ha=>?_) (fun h89 ha=>?_)
             ·refine Lf rfl ha rfl rfl fun a ha=>?_;refine Lf rfl ha rfl rfl fun a ha=>?_;refine lin rfl (aj ha rfl rfl rfl fun a ha=>?_);have hj90:(((!decide (((mergeU us rs).2)=0))||(!(mergeU ss us).1.2))||(!(mergeU us rs).1.2))=true:=by
               try rw [decide_eq_true h87]
               try rw [h89]
               rfl
              exact wpList_nil ⟨rfl,rfl,Has.cons ha rfl (Has.cons ha rfl (Has.cons ha rfl (Has.cons ha rfl (Has.cons ha rfl (Has.cons ha rfl (Has.cons ha rfl (Has.cons ha rfl (Has.cons ha (by rw [hj90];rfl) (ha.nil)))))))))⟩
             ·refine ae rfl ha rfl rfl rfl (al ha rfl rfl fun a ha=>?_);refine ae rfl ha rfl rfl rfl (aM ha rfl rfl fun a ha=>?_);refine lin rfl (ai ha rfl rfl rfl fun a ha=>?_);have hj91:(((!decide (((mergeU us rs).2)=0))||(!(mergeU ss us).1.2))||(!(mergeU us rs).1.2))=(!(mergeU us rs).1.2):=by
               try rw [decide_eq_true h87]
               try rw [h89]
               rfl
              exact wpList_nil ⟨rfl,rfl,Has.cons ha rfl (Has.cons ha rfl (Has.cons ha rfl (Has.cons ha rfl (Has.cons ha rfl (Has.cons ha rfl (Has.cons ha rfl (Has.cons ha rfl (Has.cons ha (by rw [hj91];rfl) (ha.nil)))))))))⟩
           refine aa (ap (t:=181) ha rfl (fun h92 ha=>?_) (fun h92 ha=>?_))
           ·refine au ha rfl (wp_seq (aX (D:= []) (N:=220) (E:= [(3,(.pointer (some ⟨b1,0,none⟩))),(5,(.pointer (some ⟨b5,0,none⟩))),(6,(.bool ((decide (((mergeU us rs).2)=0))||(decide (((mergeU us rs).2)=2))))),(7,(.pointer (some ⟨b22,0,none⟩))),(22,(.pointer (some ⟨b85,0,none⟩))),(24,(.int .i64 ((mergeU us rs).2)))]) (fun a ha=>?_) ?_));rotate_left
            ·refine Lm rfl ha fun a ha=>?_;refine lin rfl (aT (i:=((mergeU us rs).2)) (j:=0) ha rfl rfl rfl fun a ha=>?_);refine Lm rfl ha fun a ha=>?_;refine an (t:=184) ha rfl (fun h93 ha=>?_) (fun h93 ha=>?_)
             ·refine Lf rfl ha rfl rfl fun a ha=>?_;refine Lf rfl ha rfl rfl fun a ha=>?_;refine lin rfl (aj ha rfl rfl rfl fun a ha=>?_);refine Ls rfl ha fun a ha=>?_;have hj94:((decide (((mergeU us rs).2)=0))||(decide (((mergeU us rs).2)=2)))=true:=by
               try rw [decide_eq_true h93]
               rfl
              exact wpList_nil ⟨rfl,rfl,Has.cons ha rfl (Has.cons ha rfl (Has.cons ha (by rw [hj94];rfl) (ha.pk rfl)))⟩
             ·refine ae rfl ha rfl rfl rfl (al ha rfl rfl fun a ha=>?_);refine ae rfl ha rfl rfl rfl (aT (i:=((mergeU us rs).2)) (j:=2) ha rfl rfl rfl fun a ha=>?_);refine lin rfl (ai ha rfl rfl rfl fun a ha=>?_);refine Ls rfl ha fun a ha=>?_;have hj95:((decide (((mergeU us rs).2)=0))||(decide (((mergeU us rs).2)=2)))=(decide (((mergeU us rs).2)=2)):=by
               try rw [decide_eq_false h93]
               rfl
              exact wpList_nil ⟨rfl,rfl,Has.cons ha rfl (Has.cons ha rfl (Has.cons ha (by rw [hj95];rfl) (ha.pk rfl)))⟩
            refine aa (wp_ret (am (ret1 rfl ha rfl ?_)));have hfin:((decide (((mergeU us rs).2)=0))||(decide (((mergeU us rs).2)=2)))=true:=eR hvus hvrs;rw [hfin];exact⟨_,rfl,hS.drop_all⟩
           ·have hm3:=mer_a3 h92;refine aq ha rfl (wp_skip (aa (wp_seq (ab (lin rfl (ak (vs:= [(.slice A20 (((mergeU ss us).1.1).length) c20)]) T24 rfl ha rfl (hS.blkL 3 rfl) rfl (af rfl) rfl fun a ha=>?_))))));refine lin rfl (ak (vs:= [(.slice Ar rs.length cr)]) T24 rfl ha rfl (hS.blkL 4 rfl) rfl (af rfl) rfl fun a ha=>?_);have hk97:=bU hS.inv.nil hr20 hr;refine lin rfl (ah func19 rfl rfl (ha.evs rfl) ha rfl (hk97) ?_);rintro e w ⟨H96,A96,c96,rfl,hr96,hc96⟩;refine⟨_,rfl,fun a ha=>?_⟩;have hS:=hS.call hc96;have hs:=hs.mono hc96.le;have hr83:=hr83.mono hc96.le;refine Lm rfl ha fun a ha=>?_;refine lin rfl (ao (v:=(.agg #[(.slice A96 (((mergeU ((mergeU ss us).1.1) rs).1.1).length) c96)])) ha rfl rfl rfl fun a ha=>?_);refine lin rfl (ao (v:=(.bool ((mergeU ((mergeU ss us).1.1) rs).1.2))) ha rfl rfl rfl fun a ha=>?_);refine lin rfl (ao (v:=(.int .i64 ((mergeU ((mergeU ss us).1.1) rs).2))) ha rfl rfl rfl fun a ha=>?_);refine lin rfl (aE (cs:= #[(.slice none 0 0)]) T24 hS ha rfl rfl fun b98 a w hS ha=>?_);refine lin rfl (ay (cs':= #[(.slice A96 (((mergeU ((mergeU ss us).1.1) rs).1.1).length) c96)]) T24 hS (i:=0) rfl ha rfl rfl rfl rfl rfl rfl fun a w hS ha=>?_);refine Ls rfl ha fun a ha=>?_;refine Ls rfl ha fun a ha=>?_;refine wpList_nil (aa (wp_seq (ab (lin rfl (ak (vs:= [(.slice As ss.length cs)]) T24 rfl ha rfl (hS.blkL 7 rfl) rfl (af rfl) rfl fun a ha=>?_)))));refine lin rfl (ak (vs:= [(.slice A83 (((mergeU us rs).1.1).length) c83)]) T24 rfl ha rfl (hS.blkL 1 rfl) rfl (af rfl) rfl fun a ha=>?_);have hk101:=bU hS.inv.nil hs hr83;refine lin rfl (ah func19 rfl rfl (ha.evs rfl) ha rfl (hk101) ?_);rintro e w ⟨H100,A100,c100,rfl,hr100,hc100⟩;refine⟨_,rfl,fun a ha=>?_⟩;have hS:=hS.call hc100;have hr96:=hr96.mono hc100.le;refine Lm rfl ha fun a ha=>?_;refine lin rfl (ao (v:=(.agg #[(.slice A100 (((mergeU ss ((mergeU us rs).1.1)).1.1).length) c100)])) ha rfl rfl rfl fun a ha=>?_);refine lin rfl (ao (v:=(.bool ((mergeU ss ((mergeU us rs).1.1)).1.2))) ha rfl rfl rfl fun a ha=>?_);refine lin rfl (ao (v:=(.int .i64 ((mergeU ss ((mergeU us rs).1.1)).2))) ha rfl rfl rfl fun a ha=>?_);refine lin rfl (aE (cs:= #[(.slice none 0 0)]) T24 hS ha rfl rfl fun b102 a w hS ha=>?_);refine lin rfl (ay (cs':= #[(.slice A100 (((mergeU ss ((mergeU us rs).1.1)).1.1).length) c100)]) T24 hS (i:=0) rfl ha rfl rfl rfl rfl rfl rfl fun a w hS ha=>?_);refine Ls rfl ha fun a ha=>?_;refine Ls rfl ha fun a ha=>?_;refine wpList_nil (aa (wp_seq (wp_seq (aX (D:= []) (N:=220) (E:= [(6,(.bool false)),(25,(.pointer (some ⟨b98,0,none⟩))),(26,(.bool ((mergeU ((mergeU ss us).1.1) rs).1.2))),(27,(.int .i64 ((mergeU ((mergeU ss us).1.1) rs).2))),(28,(.pointer (some ⟨b102,0,none⟩))),(29,(.bool ((mergeU ss ((mergeU us rs).1.1)).1.2))),(30,(.int .i64 ((mergeU ss ((mergeU us rs).1.1)).2))),(207,(.bool ((!decide (((mergeU ((mergeU ss us).1.1) rs).2)=0))||(!decide (((mergeU ss ((mergeU us rs).1.1)).2)=0)))))]) (fun a ha=>?_) ?_))));rotate_left
            ·refine Lm rfl ha fun a ha=>?_;refine lin rfl (a9 (i:=((mergeU ((mergeU ss us).1.1) rs).2)) (j:=0) ha rfl rfl rfl fun a ha=>?_);refine Lm rfl ha fun a ha=>?_;refine aJ (t:=204) ha rfl (fun h104 ha=>?_) (fun h104 ha=>?_)
             ·refine Lf rfl ha rfl rfl fun a ha=>?_;refine Lf rfl ha rfl rfl fun a ha=>?_;refine lin rfl (aj ha rfl rfl rfl fun a ha=>?_);have hj105:((!decide (((mergeU ((mergeU ss us).1.1) rs).2)=0))||(!decide (((mergeU ss ((mergeU us rs).1.1)).2)=0)))=true:=by
               try rw [decide_eq_false h104]
               rfl
              exact wpList_nil ⟨rfl,rfl,Has.cons ha rfl (Has.cons ha rfl (Has.cons ha rfl (Has.cons ha rfl (Has.cons ha rfl (Has.cons ha rfl (Has.cons ha rfl (Has.cons ha (by rw [hj105];rfl) (ha.nil))))))))⟩
             ·refine ae rfl ha rfl rfl rfl (al ha rfl rfl fun a ha=>?_);refine ae rfl ha rfl rfl rfl (a9 (i:=((mergeU ss ((mergeU us rs).1.1)).2)) (j:=0) ha rfl rfl rfl fun a ha=>?_);refine lin rfl (ai ha rfl rfl rfl fun a ha=>?_);have hj106:((!decide (((mergeU ((mergeU ss us).1.1) rs).2)=0))||(!decide (((mergeU ss ((mergeU us rs).1.1)).2)=0)))=(!decide (((mergeU ss ((mergeU us rs).1.1)).2)=0)):=by
               try rw [decide_eq_true h104]
               rfl
              exact wpList_nil ⟨rfl,rfl,Has.cons ha rfl (Has.cons ha rfl (Has.cons ha rfl (Has.cons ha rfl (Has.cons ha rfl (Has.cons ha rfl (Has.cons ha rfl (Has.cons ha (by rw [hj106];rfl) (ha.nil))))))))⟩
            refine aa (ap (t:=207) ha rfl (fun h107 ha=>?_) (fun h107 ha=>?_))
            ·refine au ha rfl (wp_seq (ab (Ls rfl ha fun a ha=>?_)));refine wpList_nil (aa (wp_ret (am (ret1 rfl ha rfl ?_))));exact⟨_,rfl,hS.drop_all⟩
            ·have hm4:=fP h107;refine aq ha rfl (wp_skip (aa (wp_seq (bD (w0:=w0) (H0:=H) (L0:= []) (H:=H100) (L:= [(some b102,(.cells #[(.slice A100 (((mergeU ss ((mergeU us rs).1.1)).1.1).length) c100)] 24 (0,0))),(some b98,(.cells #[(.slice A96 (((mergeU ((mergeU ss us).1.1) rs).1.1).length) c96)] 24 (0,0))),(some b85,(.cells #[(.slice A83 (((mergeU us rs).1.1).length) c83)] 24 (0,0))),(some b43,(.cells #[(.slice A41 (((mergeU ss ss).1.1).length) c41)] 24 (0,0))),(some b26,(.cells #[(.slice A24 (((mergeU us ss).1.1).length) c24)] 24 (0,0))),(some b22,(.cells #[(.slice A20 (((mergeU ss us).1.1).length) c20)] 24 (0,0))),(some b5,(.cells #[(.slice Ar rs.length cr)] 24 (0,0))),(some b3,(.cells #[(.slice Au us.length cu)] 24 (0,0))),(some b1,(.cells #[(.slice As ss.length cs)] 24 (0,0)))]) (D:= []) (N:=220) (E:= [(6,(.bool (((mergeU ((mergeU ss us).1.1) rs).1.2 ==(mergeU ss ((mergeU us rs).1.1)).1.2)&&((!(mergeU ((mergeU ss us).1.1) rs).1.2)||(eqvB ((mergeU ((mergeU ss us).1.1) rs).1.1) ((mergeU ss ((mergeU us rs).1.1)).1.1)))))),(25,(.pointer (some ⟨b98,0,none⟩))),(26,(.bool ((mergeU ((mergeU ss us).1.1) rs).1.2))),(28,(.pointer (some ⟨b102,0,none⟩))),(29,(.bool ((mergeU ss ((mergeU us rs).1.1)).1.2)))]) (fun a w hS ha=>?_) ?_))));rotate_left
             ·refine Lm rfl ha fun a ha=>?_;refine Lm rfl ha fun a ha=>?_;refine lin rfl (fO T4.und ha rfl rfl rfl fun a ha=>?_);refine Lm rfl ha fun a ha=>?_;refine ap (t:=211) ha rfl (fun h109 ha=>?_) (fun h109 ha=>?_)
              ·refine ae rfl ha rfl rfl rfl (al ha rfl rfl fun a ha=>?_);refine ae rfl ha rfl rfl rfl (aM ha rfl rfl fun a ha=>?_);refine ae rfl ha rfl rfl rfl (al ha rfl rfl fun a ha=>?_);refine ap (t:=214) ha rfl (fun h110 ha=>?_) (fun h110 ha=>?_)
               ·refine Lf rfl ha rfl rfl fun a ha=>?_;refine Lf rfl ha rfl rfl fun a ha=>?_;refine Lf rfl ha rfl rfl fun a ha=>?_;refine ae rfl ha rfl rfl rfl (aj ha rfl rfl rfl fun a ha=>?_);refine lin rfl (aj ha rfl rfl rfl fun a ha=>?_);refine Ls rfl ha fun a ha=>?_;have hj111:(((mergeU ((mergeU ss us).1.1) rs).1.2 ==(mergeU ss ((mergeU us rs).1.1)).1.2)&&((!(mergeU ((mergeU ss us).1.1) rs).1.2)||(eqvB ((mergeU ((mergeU ss us).1.1) rs).1.1) ((mergeU ss ((mergeU us rs).1.1)).1.1))))=true:=by
                 try rw [h109]
                 try rw [h110]
                 rfl
                exact wpList_nil ⟨rfl,hS,Has.cons ha (by rw [hj111];rfl) (ha.pk rfl)⟩
               ·refine ae rfl ha rfl rfl rfl (ak (vs:= [(.slice A96 (((mergeU ((mergeU ss us).1.1) rs).1.1).length) c96)]) T24 rfl ha rfl (hS.blkL 1 rfl) rfl (af rfl) rfl fun a ha=>?_);refine ae rfl ha rfl rfl rfl (ak (vs:= [(.slice A100 (((mergeU ss ((mergeU us rs).1.1)).1.1).length) c100)]) T24 rfl ha rfl (hS.blkL 0 rfl) rfl (af rfl) rfl fun a ha=>?_);have hk112:=rsP (bL hS.inv.nil hr96 hr100);refine ae rfl ha rfl rfl rfl (ah func20 rfl rfl (ha.evs rfl) ha rfl (hk112) ?_);rintro e w ⟨rfl,hc⟩;refine⟨_,rfl,fun a ha=>?_⟩;have hS:=hS.call hc;refine ae rfl ha rfl rfl rfl (ai ha rfl rfl rfl fun a ha=>?_);refine lin rfl (aj ha rfl rfl rfl fun a ha=>?_);refine Ls rfl ha fun a ha=>?_;have hj113:(((mergeU ((mergeU ss us).1.1) rs).1.2 ==(mergeU ss ((mergeU us rs).1.1)).1.2)&&((!(mergeU ((mergeU ss us).1.1) rs).1.2)||(eqvB ((mergeU ((mergeU ss us).1.1) rs).1.1) ((mergeU ss ((mergeU us rs).1.1)).1.1))))=(eqvB ((mergeU ((mergeU ss us).1.1) rs).1.1) ((mergeU ss ((mergeU us rs).1.1)).1.1)):=by
                 try rw [h109]
                 try rw [h110]
                 rfl
                exact wpList_nil ⟨rfl,hS,Has.cons ha (by rw [hj113];rfl) (ha.pk rfl)⟩
              ·refine Lf rfl ha rfl rfl fun a ha=>?_;refine Lf rfl ha rfl rfl fun a ha=>?_;refine Lf rfl ha rfl rfl fun a ha=>?_;refine aC rfl rfl rfl ha rfl rfl rfl fun a ha=>?_;refine aC rfl rfl rfl ha rfl rfl rfl fun a ha=>?_;refine aC rfl rfl rfl ha rfl rfl rfl fun a ha=>?_;refine Lf rfl ha rfl rfl fun a ha=>?_;refine lin rfl (ai ha rfl rfl rfl fun a ha=>?_);refine Ls rfl ha fun a ha=>?_;have hj114:(((mergeU ((mergeU ss us).1.1) rs).1.2 ==(mergeU ss ((mergeU us rs).1.1)).1.2)&&((!(mergeU ((mergeU ss us).1.1) rs).1.2)||(eqvB ((mergeU ((mergeU ss us).1.1) rs).1.1) ((mergeU ss ((mergeU us rs).1.1)).1.1))))=false:=by
                try rw [h109]
                rfl
               exact wpList_nil ⟨rfl,hS,Has.cons ha (by rw [hj114];rfl) (ha.pk rfl)⟩
             refine aa (wp_ret (ret1 rfl ha rfl ?_));have hfin:(((mergeU ((mergeU ss us).1.1) rs).1.2 ==(mergeU ss ((mergeU us rs).1.1)).1.2)&&((!(mergeU ((mergeU ss us).1.1) rs).1.2)||(eqvB ((mergeU ((mergeU ss us).1.1) rs).1.1) ((mergeU ss ((mergeU us rs).1.1)).1.1))))=true:=mer_e3 hvss hvus hvrs hm1.1 hm3 hm4;rw [hfin];exact⟨_,rfl,hS.drop_all⟩
         ·refine aq ha rfl (wp_skip (aa (wp_seq (ab (lin rfl (ak (vs:= [(.slice Au us.length cu)]) T24 rfl ha rfl (hS.blkL 4 rfl) rfl (af rfl) rfl fun a ha=>?_))))));refine lin rfl (ak (vs:= [(.slice Ar rs.length cr)]) T24 rfl ha rfl (hS.blkL 3 rfl) rfl (af rfl) rfl fun a ha=>?_);have hk116:=bU hS.inv.nil hu hr;refine lin rfl (ah func19 rfl rfl (ha.evs rfl) ha rfl (hk116) ?_);rintro e w ⟨H115,A115,c115,rfl,hr115,hc115⟩;refine⟨_,rfl,fun a ha=>?_⟩;have hS:=hS.call hc115;have hs:=hs.mono hc115.le;have hr:=hr.mono hc115.le;have hr20:=hr20.mono hc115.le;refine Lm rfl ha fun a ha=>?_;refine lin rfl (ao (v:=(.agg #[(.slice A115 (((mergeU us rs).1.1).length) c115)])) ha rfl rfl rfl fun a ha=>?_);refine lin rfl (ao (v:=(.bool ((mergeU us rs).1.2))) ha rfl rfl rfl fun a ha=>?_);refine lin rfl (ao (v:=(.int .i64 ((mergeU us rs).2))) ha rfl rfl rfl fun a ha=>?_);refine lin rfl (aE (cs:= #[(.slice none 0 0)]) T24 hS ha rfl rfl fun b117 a w hS ha=>?_);refine lin rfl (ay (cs':= #[(.slice A115 (((mergeU us rs).1.1).length) c115)]) T24 hS (i:=0) rfl ha rfl rfl rfl rfl rfl rfl fun a w hS ha=>?_);refine Ls rfl ha fun a ha=>?_;refine Ls rfl ha fun a ha=>?_;refine wpList_nil (aa (wp_seq (wp_seq (aX (D:= []) (N:=220) (E:= [(3,(.pointer (some ⟨b1,0,none⟩))),(5,(.pointer (some ⟨b5,0,none⟩))),(6,(.bool false)),(7,(.pointer (some ⟨b22,0,none⟩))),(8,(.bool ((mergeU ss us).1.2))),(22,(.pointer (some ⟨b117,0,none⟩))),(23,(.bool ((mergeU us rs).1.2))),(24,(.int .i64 ((mergeU us rs).2))),(181,(.bool (((!decide (((mergeU us rs).2)=0))||(!(mergeU ss us).1.2))||(!(mergeU us rs).1.2))))]) (fun a ha=>?_) ?_))));rotate_left
          ·refine Lm rfl ha fun a ha=>?_;refine lin rfl (a9 (i:=((mergeU us rs).2)) (j:=0) ha rfl rfl rfl fun a ha=>?_);refine Lm rfl ha fun a ha=>?_;refine aJ (t:=174) ha rfl (fun h119 ha=>?_) (fun h119 ha=>?_)
           ·refine Lf rfl ha rfl rfl fun a ha=>?_;refine Lf rfl ha rfl rfl fun a ha=>?_;refine lin rfl (aj ha rfl rfl rfl fun a ha=>?_);refine Lm rfl ha fun a ha=>?_;refine Lf rfl ha rfl rfl fun a ha=>?_;refine Lf rfl ha rfl rfl fun a ha=>?_;refine lin rfl (aj ha rfl rfl rfl fun a ha=>?_);have hj120:(((!decide (((mergeU us rs).2)=0))||(!(mergeU ss us).1.2))||(!(mergeU us rs).1.2))=true:=by
             try rw [decide_eq_false h119]
             rfl
            exact wpList_nil ⟨rfl,rfl,Has.cons ha rfl (Has.cons ha rfl (Has.cons ha rfl (Has.cons ha rfl (Has.cons ha rfl (Has.cons ha rfl (Has.cons ha rfl (Has.cons ha rfl (Has.cons ha (by rw [hj120];rfl) (ha.nil)))))))))⟩
           ·refine ae rfl ha rfl rfl rfl (al ha rfl rfl fun a ha=>?_);refine ae rfl ha rfl rfl rfl (aM ha rfl rfl fun a ha=>?_);refine lin rfl (ai ha rfl rfl rfl fun a ha=>?_);refine Lm rfl ha fun a ha=>?_;refine ap (t:=178) ha rfl (fun h121 ha=>?_) (fun h121 ha=>?_)
            ·refine Lf rfl ha rfl rfl fun a ha=>?_;refine Lf rfl ha rfl rfl fun a ha=>?_;refine lin rfl (aj ha rfl rfl rfl fun a ha=>?_);have hj122:(((!decide (((mergeU us rs).2)=0))||(!(mergeU ss us).1.2))||(!(mergeU us rs).1.2))=true:=by
              try rw [decide_eq_true h119]
              try rw [h121]
              rfl
             exact wpList_nil ⟨rfl,rfl,Has.cons ha rfl (Has.cons ha rfl (Has.cons ha rfl (Has.cons ha rfl (Has.cons ha rfl (Has.cons ha rfl (Has.cons ha rfl (Has.cons ha rfl (Has.cons ha (by rw [hj122];rfl) (ha.nil)))))))))⟩
            ·refine ae rfl ha rfl rfl rfl (al ha rfl rfl fun a ha=>?_);refine ae rfl ha rfl rfl rfl (aM ha rfl rfl fun a ha=>?_);refine lin rfl (ai ha rfl rfl rfl fun a ha=>?_);have hj123:(((!decide (((mergeU us rs).2)=0))||(!(mergeU ss us).1.2))||(!(mergeU us rs).1.2))=(!(mergeU us rs).1.2):=by
              try rw [decide_eq_true h119]
              try rw [h121]
              rfl
             exact wpList_nil ⟨rfl,rfl,Has.cons ha rfl (Has.cons ha rfl (Has.cons ha rfl (Has.cons ha rfl (Has.cons ha rfl (Has.cons ha rfl (Has.cons ha rfl (Has.cons ha rfl (Has.cons ha (by rw [hj123];rfl) (ha.nil)))))))))⟩
          refine aa (ap (t:=181) ha rfl (fun h124 ha=>?_) (fun h124 ha=>?_))
          ·refine au ha rfl (wp_seq (aX (D:= []) (N:=220) (E:= [(3,(.pointer (some ⟨b1,0,none⟩))),(5,(.pointer (some ⟨b5,0,none⟩))),(6,(.bool ((decide (((mergeU us rs).2)=0))||(decide (((mergeU us rs).2)=2))))),(7,(.pointer (some ⟨b22,0,none⟩))),(22,(.pointer (some ⟨b117,0,none⟩))),(24,(.int .i64 ((mergeU us rs).2)))]) (fun a ha=>?_) ?_));rotate_left
           ·refine Lm rfl ha fun a ha=>?_;refine lin rfl (aT (i:=((mergeU us rs).2)) (j:=0) ha rfl rfl rfl fun a ha=>?_);refine Lm rfl ha fun a ha=>?_;refine an (t:=184) ha rfl (fun h125 ha=>?_) (fun h125 ha=>?_)
            ·refine Lf rfl ha rfl rfl fun a ha=>?_;refine Lf rfl ha rfl rfl fun a ha=>?_;refine lin rfl (aj ha rfl rfl rfl fun a ha=>?_);refine Ls rfl ha fun a ha=>?_;have hj126:((decide (((mergeU us rs).2)=0))||(decide (((mergeU us rs).2)=2)))=true:=by
              try rw [decide_eq_true h125]
              rfl
             exact wpList_nil ⟨rfl,rfl,Has.cons ha rfl (Has.cons ha rfl (Has.cons ha (by rw [hj126];rfl) (ha.pk rfl)))⟩
            ·refine ae rfl ha rfl rfl rfl (al ha rfl rfl fun a ha=>?_);refine ae rfl ha rfl rfl rfl (aT (i:=((mergeU us rs).2)) (j:=2) ha rfl rfl rfl fun a ha=>?_);refine lin rfl (ai ha rfl rfl rfl fun a ha=>?_);refine Ls rfl ha fun a ha=>?_;have hj127:((decide (((mergeU us rs).2)=0))||(decide (((mergeU us rs).2)=2)))=(decide (((mergeU us rs).2)=2)):=by
              try rw [decide_eq_false h125]
              rfl
             exact wpList_nil ⟨rfl,rfl,Has.cons ha rfl (Has.cons ha rfl (Has.cons ha (by rw [hj127];rfl) (ha.pk rfl)))⟩
           refine aa (wp_ret (am (ret1 rfl ha rfl ?_)));have hfin:((decide (((mergeU us rs).2)=0))||(decide (((mergeU us rs).2)=2)))=true:=eR hvus hvrs;rw [hfin];exact⟨_,rfl,hS.drop_all⟩
          ·have hm3:=mer_a3 h124;refine aq ha rfl (wp_skip (aa (wp_seq (ab (lin rfl (ak (vs:= [(.slice A20 (((mergeU ss us).1.1).length) c20)]) T24 rfl ha rfl (hS.blkL 3 rfl) rfl (af rfl) rfl fun a ha=>?_))))));refine lin rfl (ak (vs:= [(.slice Ar rs.length cr)]) T24 rfl ha rfl (hS.blkL 4 rfl) rfl (af rfl) rfl fun a ha=>?_);have hk129:=bU hS.inv.nil hr20 hr;refine lin rfl (ah func19 rfl rfl (ha.evs rfl) ha rfl (hk129) ?_);rintro e w ⟨H128,A128,c128,rfl,hr128,hc128⟩;refine⟨_,rfl,fun a ha=>?_⟩;have hS:=hS.call hc128;have hs:=hs.mono hc128.le;have hr115:=hr115.mono hc128.le;refine Lm rfl ha fun a ha=>?_;refine lin rfl (ao (v:=(.agg #[(.slice A128 (((mergeU ((mergeU ss us).1.1) rs).1.1).length) c128)])) ha rfl rfl rfl fun a ha=>?_);refine lin rfl (ao (v:=(.bool ((mergeU ((mergeU ss us).1.1) rs).1.2))) ha rfl rfl rfl fun a ha=>?_);refine lin rfl (ao (v:=(.int .i64 ((mergeU ((mergeU ss us).1.1) rs).2))) ha rfl rfl rfl fun a ha=>?_);refine lin rfl (aE (cs:= #[(.slice none 0 0)]) T24 hS ha rfl rfl fun b130 a w hS ha=>?_);refine lin rfl (ay (cs':= #[(.slice A128 (((mergeU ((mergeU ss us).1.1) rs).1.1).length) c128)]) T24 hS (i:=0) rfl ha rfl rfl rfl rfl rfl rfl fun a w hS ha=>?_);refine Ls rfl ha fun a ha=>?_;refine Ls rfl ha fun a ha=>?_;refine wpList_nil (aa (wp_seq (ab (lin rfl (ak (vs:= [(.slice As ss.length cs)]) T24 rfl ha rfl (hS.blkL 7 rfl) rfl (af rfl) rfl fun a ha=>?_)))));refine lin rfl (ak (vs:= [(.slice A115 (((mergeU us rs).1.1).length) c115)]) T24 rfl ha rfl (hS.blkL 1 rfl) rfl (af rfl) rfl fun a ha=>?_);have hk133:=bU hS.inv.nil hs hr115;refine lin rfl (ah func19 rfl rfl (ha.evs rfl) ha rfl (hk133) ?_);rintro e w ⟨H132,A132,c132,rfl,hr132,hc132⟩;refine⟨_,rfl,fun a ha=>?_⟩;have hS:=hS.call hc132;have hr128:=hr128.mono hc132.le;refine Lm rfl ha fun a ha=>?_;refine lin rfl (ao (v:=(.agg #[(.slice A132 (((mergeU ss ((mergeU us rs).1.1)).1.1).length) c132)])) ha rfl rfl rfl fun a ha=>?_);refine lin rfl (ao (v:=(.bool ((mergeU ss ((mergeU us rs).1.1)).1.2))) ha rfl rfl rfl fun a ha=>?_);refine lin rfl (ao (v:=(.int .i64 ((mergeU ss ((mergeU us rs).1.1)).2))) ha rfl rfl rfl fun a ha=>?_);refine lin rfl (aE (cs:= #[(.slice none 0 0)]) T24 hS ha rfl rfl fun b134 a w hS ha=>?_);refine lin rfl (ay (cs':= #[(.slice A132 (((mergeU ss ((mergeU us rs).1.1)).1.1).length) c132)]) T24 hS (i:=0) rfl ha rfl rfl rfl rfl rfl rfl fun a w hS ha=>?_);refine Ls rfl ha fun a ha=>?_;refine Ls rfl ha fun a ha=>?_;refine wpList_nil (aa (wp_seq (wp_seq (aX (D:= []) (N:=220) (E:= [(6,(.bool false)),(25,(.pointer (some ⟨b130,0,none⟩))),(26,(.bool ((mergeU ((mergeU ss us).1.1) rs).1.2))),(27,(.int .i64 ((mergeU ((mergeU ss us).1.1) rs).2))),(28,(.pointer (some ⟨b134,0,none⟩))),(29,(.bool ((mergeU ss ((mergeU us rs).1.1)).1.2))),(30,(.int .i64 ((mergeU ss ((mergeU us rs).1.1)).2))),(207,(.bool ((!decide (((mergeU ((mergeU ss us).1.1) rs).2)=0))||(!decide (((mergeU ss ((mergeU us rs).1.1)).2)=0)))))]) (fun a ha=>?_) ?_))));rotate_left
           ·refine Lm rfl ha fun a ha=>?_;refine lin rfl (a9 (i:=((mergeU ((mergeU ss us).1.1) rs).2)) (j:=0) ha rfl rfl rfl fun a ha=>?_);refine Lm rfl ha fun a ha=>?_;refine aJ (t:=204) ha rfl (fun h136 ha=>?_) (fun h136 ha=>?_)
            ·refine Lf rfl ha rfl rfl fun a ha=>?_;refine Lf rfl ha rfl rfl fun a ha=>?_;refine lin rfl (aj ha rfl rfl rfl fun a ha=>?_);have hj137:((!decide (((mergeU ((mergeU ss us).1.1) rs).2)=0))||(!decide (((mergeU ss ((mergeU us rs).1.1)).2)=0)))=true:=by
              try rw [decide_eq_false h136]
              rfl
             exact wpList_nil ⟨rfl,rfl,Has.cons ha rfl (Has.cons ha rfl (Has.cons ha rfl (Has.cons ha rfl (Has.cons ha rfl (Has.cons ha rfl (Has.cons ha rfl (Has.cons ha (by rw [hj137];rfl) (ha.nil))))))))⟩
            ·refine ae rfl ha rfl rfl rfl (al ha rfl rfl fun a ha=>?_);refine ae rfl ha rfl rfl rfl (a9 (i:=((mergeU ss ((mergeU us rs).1.1)).2)) (j:=0) ha rfl rfl rfl fun a ha=>?_);refine lin rfl (ai ha rfl rfl rfl fun a ha=>?_);have hj138:((!decide (((mergeU ((mergeU ss us).1.1) rs).2)=0))||(!decide (((mergeU ss ((mergeU us rs).1.1)).2)=0)))=(!decide (((mergeU ss ((mergeU us rs).1.1)).2)=0)):=by
              try rw [decide_eq_true h136]
              rfl
             exact wpList_nil ⟨rfl,rfl,Has.cons ha rfl (Has.cons ha rfl (Has.cons ha rfl (Has.cons ha rfl (Has.cons ha rfl (Has.cons ha rfl (Has.cons ha rfl (Has.cons ha (by rw [hj138];rfl) (ha.nil))))))))⟩
           refine aa (ap (t:=207) ha rfl (fun h139 ha=>?_) (fun h139 ha=>?_))
           ·refine au ha rfl (wp_seq (ab (Ls rfl ha fun a ha=>?_)));refine wpList_nil (aa (wp_ret (am (ret1 rfl ha rfl ?_))));exact⟨_,rfl,hS.drop_all⟩
           ·have hm4:=fP h139;refine aq ha rfl (wp_skip (aa (wp_seq (bD (w0:=w0) (H0:=H) (L0:= []) (H:=H132) (L:= [(some b134,(.cells #[(.slice A132 (((mergeU ss ((mergeU us rs).1.1)).1.1).length) c132)] 24 (0,0))),(some b130,(.cells #[(.slice A128 (((mergeU ((mergeU ss us).1.1) rs).1.1).length) c128)] 24 (0,0))),(some b117,(.cells #[(.slice A115 (((mergeU us rs).1.1).length) c115)] 24 (0,0))),(some b43,(.cells #[(.slice A41 (((mergeU ss ss).1.1).length) c41)] 24 (0,0))),(some b26,(.cells #[(.slice A24 (((mergeU us ss).1.1).length) c24)] 24 (0,0))),(some b22,(.cells #[(.slice A20 (((mergeU ss us).1.1).length) c20)] 24 (0,0))),(some b5,(.cells #[(.slice Ar rs.length cr)] 24 (0,0))),(some b3,(.cells #[(.slice Au us.length cu)] 24 (0,0))),(some b1,(.cells #[(.slice As ss.length cs)] 24 (0,0)))]) (D:= []) (N:=220) (E:= [(6,(.bool (((mergeU ((mergeU ss us).1.1) rs).1.2 ==(mergeU ss ((mergeU us rs).1.1)).1.2)&&((!(mergeU ((mergeU ss us).1.1) rs).1.2)||(eqvB ((mergeU ((mergeU ss us).1.1) rs).1.1) ((mergeU ss ((mergeU us rs).1.1)).1.1)))))),(25,(.pointer (some ⟨b130,0,none⟩))),(26,(.bool ((mergeU ((mergeU ss us).1.1) rs).1.2))),(28,(.pointer (some ⟨b134,0,none⟩))),(29,(.bool ((mergeU ss ((mergeU us rs).1.1)).1.2)))]) (fun a w hS ha=>?_) ?_))));rotate_left
            ·refine Lm rfl ha fun a ha=>?_;refine Lm rfl ha fun a ha=>?_;refine lin rfl (fO T4.und ha rfl rfl rfl fun a ha=>?_);refine Lm rfl ha fun a ha=>?_;refine ap (t:=211) ha rfl (fun h141 ha=>?_) (fun h141 ha=>?_)
             ·refine ae rfl ha rfl rfl rfl (al ha rfl rfl fun a ha=>?_);refine ae rfl ha rfl rfl rfl (aM ha rfl rfl fun a ha=>?_);refine ae rfl ha rfl rfl rfl (al ha rfl rfl fun a ha=>?_);refine ap (t:=214) ha rfl (fun h142 ha=>?_) (fun h142 ha=>?_)
              ·refine Lf rfl ha rfl rfl fun a ha=>?_;refine Lf rfl ha rfl rfl fun a ha=>?_;refine Lf rfl ha rfl rfl fun a ha=>?_;refine ae rfl ha rfl rfl rfl (aj ha rfl rfl rfl fun a ha=>?_);refine lin rfl (aj ha rfl rfl rfl fun a ha=>?_);refine Ls rfl ha fun a ha=>?_;have hj143:(((mergeU ((mergeU ss us).1.1) rs).1.2 ==(mergeU ss ((mergeU us rs).1.1)).1.2)&&((!(mergeU ((mergeU ss us).1.1) rs).1.2)||(eqvB ((mergeU ((mergeU ss us).1.1) rs).1.1) ((mergeU ss ((mergeU us rs).1.1)).1.1))))=true:=by
                try rw [h141]
                try rw [h142]
                rfl
               exact wpList_nil ⟨rfl,hS,Has.cons ha (by rw [hj143];rfl) (ha.pk rfl)⟩
              ·refine ae rfl ha rfl rfl rfl (ak (vs:= [(.slice A128 (((mergeU ((mergeU ss us).1.1) rs).1.1).length) c128)]) T24 rfl ha rfl (hS.blkL 1 rfl) rfl (af rfl) rfl fun a ha=>?_);refine ae rfl ha rfl rfl rfl (ak (vs:= [(.slice A132 (((mergeU ss ((mergeU us rs).1.1)).1.1).length) c132)]) T24 rfl ha rfl (hS.blkL 0 rfl) rfl (af rfl) rfl fun a ha=>?_);have hk144:=rsP (bL hS.inv.nil hr128 hr132);refine ae rfl ha rfl rfl rfl (ah func20 rfl rfl (ha.evs rfl) ha rfl (hk144) ?_);rintro e w ⟨rfl,hc⟩;refine⟨_,rfl,fun a ha=>?_⟩;have hS:=hS.call hc;refine ae rfl ha rfl rfl rfl (ai ha rfl rfl rfl fun a ha=>?_);refine lin rfl (aj ha rfl rfl rfl fun a ha=>?_);refine Ls rfl ha fun a ha=>?_;have hj145:(((mergeU ((mergeU ss us).1.1) rs).1.2 ==(mergeU ss ((mergeU us rs).1.1)).1.2)&&((!(mergeU ((mergeU ss us).1.1) rs).1.2)||(eqvB ((mergeU ((mergeU ss us).1.1) rs).1.1) ((mergeU ss ((mergeU us rs).1.1)).1.1))))=(eqvB ((mergeU ((mergeU ss us).1.1) rs).1.1) ((mergeU ss ((mergeU us rs).1.1)).1.1)):=by
                try rw [h141]
                try rw [h142]
                rfl
               exact wpList_nil ⟨rfl,hS,Has.cons ha (by rw [hj145];rfl) (ha.pk rfl)⟩
             ·refine Lf rfl ha rfl rfl fun a ha=>?_;refine Lf rfl ha rfl rfl fun a ha=>?_;refine Lf rfl ha rfl rfl fun a ha=>?_;refine aC rfl rfl rfl ha rfl rfl rfl fun a ha=>?_;refine aC rfl rfl rfl ha rfl rfl rfl fun a ha=>?_;refine aC rfl rfl rfl ha rfl rfl rfl fun a ha=>?_;refine Lf rfl ha rfl rfl fun a ha=>?_;refine lin rfl (ai ha rfl rfl rfl fun a ha=>?_);refine Ls rfl ha fun a ha=>?_;have hj146:(((mergeU ((mergeU ss us).1.1) rs).1.2 ==(mergeU ss ((mergeU us rs).1.1)).1.2)&&((!(mergeU ((mergeU ss us).1.1) rs).1.2)||(eqvB ((mergeU ((mergeU ss us).1.1) rs).1.1) ((mergeU ss ((mergeU us rs).1.1)).1.1))))=false:=by
               try rw [h141]
               rfl
              exact wpList_nil ⟨rfl,hS,Has.cons ha (by rw [hj146];rfl) (ha.pk rfl)⟩
            refine aa (wp_ret (ret1 rfl ha rfl ?_));have hfin:(((mergeU ((mergeU ss us).1.1) rs).1.2 ==(mergeU ss ((mergeU us rs).1.1)).1.2)&&((!(mergeU ((mergeU ss us).1.1) rs).1.2)||(eqvB ((mergeU ((mergeU ss us).1.1) rs).1.1) ((mergeU ss ((mergeU us rs).1.1)).1.1))))=true:=mer_e3 hvss hvus hvrs hm1.1 hm3 hm4;rw [hfin];exact⟨_,rfl,hS.drop_all⟩
end Go.Vk.Try
namespace Go.Vk.Try
open Go.ChangeShapes Go.WideShapes Go.ChangeAt Go.RowKit Go.Deep
theorem cells3: Go.Proofs.Try.prog.cellsOf 3=1:=by kernel_rfl
theorem cells9: Go.Proofs.Try.prog.cellsOf 9=1:=by kernel_rfl
theorem cells22: Go.Proofs.Try.prog.cellsOf 22=1:=by kernel_rfl
theorem cells26: Go.Proofs.Try.prog.cellsOf 26=4:=by kernel_rfl
section
variable {H: Type} {enc: TypeId × Value→H} {W: World}
theorem open_tm0 {n: Nat} {cs: List Value} {x: DataW H × List MemPlace} (h: DataW.trod enc prog W 0 (fun _=>true) true n 26 cs=some x) :
  ∃(k i: Int) (s: ByteArray) (v: Value) (m: Nat) (y: DataW H × List MemPlace),cs= [.int .i64 k,.int .i64 i,.string s,v]∧DataW.trod enc prog W 0 (fun _=>true) true m 22 [v]=some y∧y.1 ∈(match x.1 with | .agg ps=>ps | _=> []):=by
 obtain⟨xs,m,_,rfl,hl,hlen,hf⟩:=DataW.trod_struct T26.und h;rw [cells26] at hl
 match cs,hl with
 | [c0,c1,c2,c3],_ =>
  match xs,hlen with
  | [y0,y1,y2,y3],_ =>
   have h0:=hf 0 _ rfl;have h1:=hf 1 _ rfl;have h2:=hf 2 _ rfl;have h3:=hf 3 _ rfl;simp [cells3,cells9,cells22] at h0 h1 h2 h3;obtain⟨k,e0,_⟩:=DataW.trod_int T3.und h0;obtain⟨i,e1,_⟩:=DataW.trod_int T3.und h1;obtain⟨s,e2,_⟩:=DataW.trod_string T9.und h2;simp only [List.cons.injEq,and_true] at e0 e1 e2;subst e0 e1 e2;exact⟨k,i,s,c3,m,y3,rfl,h3,by simp⟩
theorem cell_at {a: Addr} {v: Value} (h: W.cell? a=some v): ∃(cs: Array Value) (e: Nat) (fz: Nat × Nat),a=⟨a.block,a.off,none⟩∧W.heap[a.block]? =some (.cells cs e fz)∧cs[a.off]? =some v:=by
 have hs:=World.cell?_spot h;unfold World.cell? at h;rw [hs] at h
 cases hb: W.heap[a.block]? with
 | none=>rw [hb] at h;simp at h
 | some o =>
  rw [hb] at h
  cases o with
  | cells cs e fz =>
   refine⟨cs,e,fz,?_,rfl,by simpa using h⟩
   cases a;simp at hs;simp [hs]
  | _=>simp at h
theorem dl (a: Addr) (k: Nat):(a.add k).block=a.block:=by unfold Addr.add;split <;> rfl
theorem add_off (a: Addr) (k: Nat):(a.add k).off=a.off+k:=by
 unfold Addr.add
 split
 ·omega
 ·rfl
theorem bulk_mem {d: DataW H} {l: List (DataW H)} (h: d ∈ l): Go.Proofs.Ytefepjpkelfcbaa.Rows.uptoBulk d≤Go.Proofs.Ytefepjpkelfcbaa.Rows.uptoBulkAll l:=by
 induction l with
 | nil=>cases h
 | cons x r ih =>
  simp only [Go.Proofs.Ytefepjpkelfcbaa.Rows.uptoBulkAll]
  rcases List.mem_cons.1 h with e | e
  ·subst e;omega
  ·have:=ih e;omega
theorem bulk_len (l: List (DataW H)): l.length≤Go.Proofs.Ytefepjpkelfcbaa.Rows.uptoBulkAll l:=by
 induction l with
 | nil=>simp
 | cons x r ih =>
  have h1: 1≤Go.Proofs.Ytefepjpkelfcbaa.Rows.uptoBulk x:=by
   cases x with
   | lit l=>cases l <;> simp [Go.Proofs.Ytefepjpkelfcbaa.Rows.uptoBulk]
   | _=>simp [Go.Proofs.Ytefepjpkelfcbaa.Rows.uptoBulk]
  simp only [Go.Proofs.Ytefepjpkelfcbaa.Rows.uptoBulkAll,List.length_cons];omega
theorem bulk_part {d y: DataW H} (h: y ∈(match d with | .agg ps=>ps | _=> [])): Go.Proofs.Ytefepjpkelfcbaa.Rows.uptoBulk y < Go.Proofs.Ytefepjpkelfcbaa.Rows.uptoBulk d:=by
 cases d with
 | agg ps=>change y ∈ ps at h;have:=bulk_mem h;simp only [Go.Proofs.Ytefepjpkelfcbaa.Rows.uptoBulk];omega
 | _=>cases h
theorem open_row: ∀(K: Nat) {n: Nat} {v: Value} {y: DataW H × List MemPlace},Go.Proofs.Ytefepjpkelfcbaa.Rows.uptoBulk y.1≤K→Go.Proofs.Ytefepjpkelfcbaa.Rows.uptoBulk y.1≤1048576→DataW.trod enc prog W 0 (fun _=>true) true n 22 [v]=some y→
  ∃(A: Option Addr) (ts: List Tm) (c: Nat),v=.slice A ts.length c∧RowT (fun b=>W.heap[b]?) A c ts∧ts.length≤1048576:=by
 intro K
 induction K with
 | zero =>
  intro n v y h;have: 1≤Go.Proofs.Ytefepjpkelfcbaa.Rows.uptoBulk y.1:=by
   cases y.1 with
   | lit l=>cases l <;> simp [Go.Proofs.Ytefepjpkelfcbaa.Rows.uptoBulk]
   | _=>simp [Go.Proofs.Ytefepjpkelfcbaa.Rows.uptoBulk]
  omega
 | succ K ih =>
  intro n v y hK hB h
  rcases open_slice T22.und h with ⟨hc,_⟩ |⟨a,len,cap,m,n',D,Pl,hc,_,hl,hm,hmm,hx,hall⟩
  ·simp only [List.cons.injEq,and_true] at hc;exact⟨none, [],0,hc,RowT.nil _,by simp⟩
  ·simp only [List.cons.injEq,and_true] at hc;simp only [if_true] at hmm;subst hmm hx;rw [cells26] at hall;simp only [Go.Proofs.Ytefepjpkelfcbaa.Rows.uptoBulk] at hK hB;have hlen: len≤1048576:=by have:=bulk_len ((List.range len).map D);simp at this;omega
   have key: ∀ i,i < len→∃(t: Tm) (A: Option Addr) (c: Nat) (cs': List Value),cs'=tcells t A c∧W.cells? 0 (a.add (i * 4)) 4=some cs'∧RowT (fun b=>W.heap[b]?) A c t.l:=by
    intro i hi;obtain⟨cs',h1,h2⟩:=hall i (by omega);obtain⟨k,j,s,w,m',z,rfl,h3,h4⟩:=open_tm0 h2;have h5: Go.Proofs.Ytefepjpkelfcbaa.Rows.uptoBulk z.1 < Go.Proofs.Ytefepjpkelfcbaa.Rows.uptoBulk (D i):=bulk_part h4;have h6:=bulk_mem (show D i ∈(List.range len).map D from List.mem_map.2 ⟨i,List.mem_range.2 hi,rfl⟩);obtain⟨A,ts,c,rfl,h7,_⟩:=ih (by omega) (by omega) h3;exact⟨.mk k j s ts,A,c,_,rfl,h1,h7⟩
   classical
   let T: Nat→Tm:=fun i=>if hi: i < len then (key i hi).choose else Tm.zero
   let Af: Nat→Option Addr:=fun i=>if hi: i < len then (key i hi).choose_spec.choose else none
   let cf: Nat→Nat:=fun i=>if hi: i < len then (key i hi).choose_spec.choose_spec.choose else 0
   have hsp: ∀ i,i < len→W.cells? 0 (a.add (i * 4)) 4=some (tcells (T i) (Af i) (cf i))∧RowT (fun b=>W.heap[b]?) (Af i) (cf i) (T i).l:=by
    intro i hi;obtain⟨cs',e1,e2,e3⟩:=(key i hi).choose_spec.choose_spec.choose_spec;simp only [T,Af,cf,dif_pos hi];exact⟨e1 ▸ e2,e3⟩
   have hget: ∀(j: Nat) (t: Tm),((List.range len).map T)[j]? =some t→j < len∧t=T j:=by
    intro j t hj;rw [List.getElem?_map] at hj
    by_cases hlt: j < len
    ·rw [List.getElem?_range hlt] at hj;exact⟨hlt,(Option.some.inj hj).symm⟩
    ·rw [List.getElem?_eq_none (by simpa using Nat.le_of_not_lt hlt)] at hj;cases hj
   refine⟨some a,(List.range len).map T,m,by rw [hc];simp,?_,by simp;omega⟩
   by_cases h0: len=0
   ·subst h0;exact .mk (by simp) (by simp) 0 0 0 #[] (0,0) (fun hn=>absurd rfl hn) (fun _=>none) (fun _=>0) (fun j t hj=>by simp at hj) (fun j t hj=>by simp at hj)
   ·obtain⟨_,hl4,hcell⟩:=World.cells?_some (hsp 0 (by omega)).1;obtain⟨cs,e,fz,ha,hb,_⟩:=cell_at (hcell 0 (by omega));have hb': W.heap[a.block]? =some (.cells cs e fz):=by rw [dl,dl] at hb;exact hb
    have ha': a=⟨a.block,a.off,none⟩:=by
     have:=World.cell?_spot (hcell 0 (by omega))
     cases a;simp [Addr.add] at this;simp [this]
    refine .mk (by simp;omega) (by simp;omega) a.block a.off e cs fz (fun _=>⟨by rw [← ha'],hb'⟩) Af cf (fun j t hj i u hu=>?_) (fun j t hj=>?_)
    ·obtain⟨hlt,rfl⟩:=hget j t hj;obtain⟨_,_,hcell⟩:=World.cells?_some (hsp j hlt).1;have hi4: i < 4:=(List.getElem?_eq_some_iff.1 hu).1;have h8:=hcell i hi4;rw [hu] at h8;obtain⟨cs2,e2,fz2,_,hb2,hu2⟩:=cell_at h8;have hb3: W.heap[a.block]? =some (.cells cs2 e2 fz2):=by rw [dl,dl] at hb2;exact hb2
     rw [hb'] at hb3;injection hb3 with hb3
     injection hb3 with hb3
     subst hb3;rw [add_off,add_off] at hu2;exact hu2
    ·obtain⟨hlt,rfl⟩:=hget j t hj;exact(hsp j hlt).2
theorem inv_all (W: World): Inv W (fun b=>W.heap[b]?) []:=⟨fun e he=>(by cases he),List.Pairwise.nil,fun k o h=>⟨h,dC⟩⟩
theorem below_of {w: World} {H: PHeap} {H': PHeap} {w': World} (h: Step w H [] w' H' []): Below w.heap.size w w':=⟨h.os,h.tape,h.output,h.size,fun k hk=>h.blk k hk dC⟩
end
end Go.Vk.Try
namespace Go.Vk.Try
open Go.ChangeShapes Go.WideShapes Go.ChangeAt Go.RowKit Go.Deep Go.Proofs.Ytefepjpkelfcbaa
theorem own: ownKnob Go.Proofs.Try.prog.godebug=none:=by kernel_rfl
theorem laidOut: laidOutB prog=true:=by kernel_rfl
section
variable {H: Type} {enc: TypeId × Value→H} {W: World}
theorem open_store {v: Value} {d: DataW H} {ps: List MemPlace} (hB: Rows.uptoBulk d≤1048576) (hv: v.formed prog 24=true∨∃ cs,v=.agg cs) (h: DataW.Trod enc prog W 0 (fun _=>true) true 24 v d ps) :
  ∃(A: Option Addr) (ts: List Tm) (c: Nat),v.cells.toList= [.slice A ts.length c]∧RowT (fun b=>W.heap[b]?) A c ts∧ts.length≤1048576:=by
 obtain⟨n,h⟩:=h;obtain⟨y0,m,e,hl,h0⟩:=trod_struct1 T24.und h;rw [show Go.Proofs.Try.prog.cellsOf 24=1 from by kernel_rfl] at hl
 match hcs: v.cells.toList,hl with
 | [c0],_ =>
  rw [hcs] at h0;simp [cells22] at h0;have e1:=(Prod.mk.inj e).1;subst e1;simp only [Rows.uptoBulk,Rows.uptoBulkAll] at hB;obtain⟨A,ts,c,rfl,hr⟩:=open_row (Rows.uptoBulk y0.1) (Nat.le_refl _) (by omega) h0;exact⟨A,ts,c,rfl,hr⟩
theorem trodAll_stays {W': World} (hb: Below W.heap.size W W') (sp: Nat→Bool): ∀(ts: List TypeId) (vs: List Value) (ds: List (DataW H)) (ps: List MemPlace),(∀ t ∈ ts,Go.Proofs.Try.prog.readableRec t=true∧t < Go.Proofs.Try.prog.types.size)→DataW.TrodAll enc prog W 0 (fun _=>true) true ts vs ds ps→(∀ x ∈ ps,x.block < W.heap.size)→(∀ x ∈ ps,sp x.block=true)→
  DataW.TrodAll enc prog W' 0 sp true ts vs ds ps
 | [], [], [],ps,_,h,_,_=>h
 | [],_::_,_,_,_,h,_,_=>h.elim
 | [], [],_::_,_,_,h,_,_=>h.elim
 | _::_, [],_,_,_,h,_,_=>h.elim
 | _::_,_::_, [],_,_,h,_,_=>h.elim
 | t::ts,v::vs,d::ds,ps,ht,h,hl,hs=>by
  obtain⟨p,q,h1,h2,rfl⟩:=h;refine⟨p,q,WideElems.Trod_stays laidOut (ht t List.mem_cons_self).1 (ht t List.mem_cons_self).2 h1 (fun x hx=>hb.same (hl x (List.mem_append_left _ hx))) (fun x hx=>hs x (List.mem_append_left _ hx)),?_,rfl⟩;exact trodAll_stays hb sp ts vs ds q (fun u hu=>ht u (List.mem_cons_of_mem _ hu)) h2 (fun x hx=>hl x (List.mem_append_right _ hx)) (fun x hx=>hs x (List.mem_append_right _ hx))
theorem post_old {f: Func} {s: ChangeSpec} {W': World} {args: Array Value} {ds gs: List (DataW H)} {before: List MemPlace} {l: DataW H} {r: Value}
  (hW: DataW.Whole enc prog f.params.toList s.vars false W args.toList ds gs before) (hvs: s.vars= []) (hds:(s.fn H (ds++gs)).args=ds) (hvr:(s.fn H (ds++gs)).vars= [])
  (hres: ∀(b: Nat) (sp: Nat→Bool) (hd: Bool),DataW.TrodAll enc prog W' b sp hd f.resultTypes.toList (r.resultList f.resultTypes.size) (s.fn H (ds++gs)).results [])
  (hb: Below W.heap.size W W') (hts: ∀ t ∈ f.params.toList,Go.Proofs.Try.prog.readableRec t=true∧t < Go.Proofs.Try.prog.types.size)
  (hok: ∀(j: Nat) (t: TypeId) (u: Value),f.resultTypes[j]? =some t→(r.resultList f.resultTypes.size)[j]? =some u→Value.okWide prog W' .any 0 t u) :
  s.post enc prog f false true false false W args r W':=by
 have hlt:=hW.lt;have hW0:=hW;obtain⟨p,q,hA,hV,rfl,hz,hn⟩:=hW0;rw [hvs] at hV;have hargs: ∀ sp: Nat→Bool,(∀ x ∈ p++q,sp x.block=true)→DataW.TrodAll enc prog W' 0 sp true f.params.toList args.toList (s.fn H (ds++gs)).args p:=fun sp hs=>by
  rw [hds];exact trodAll_stays hb sp _ _ _ _ hts hA (fun x hx=>hlt x (List.mem_append_left _ hx)) (fun x hx=>hs x (List.mem_append_left _ hx))
 obtain⟨rfl,rfl⟩:=trodVars_none hV;have hvars: ∀ sp: Nat→Bool,DataW.TrodVars enc prog W' sp s.vars (s.fn H (ds++ [])).vars []:=fun sp=>by rw [hvs,hvr];exact rfl
 have hold: ∀ x ∈ p++ [],(fun b=>decide (b < W.heap.size)) x.block=true:=fun x hx=>by simpa using hlt x hx
 refine⟨ds, [],p++ [], [],p, [],hW,hres _ _ _,hargs _ hold,hvars _,World.keptBut_mono (fun x hx=>⟨hx,.inr (by simpa using hx)⟩) (hb.frame _),fun _=>?_⟩;refine⟨hok,_,_,([]++p)++ [],⟨[]++p, [],trodAll_append (hargs _ (fun _ _=>rfl)) (hres _ _ _),hvars _,rfl,?_,?_⟩,?_⟩
 ·intro b off hp;have hp': MemPlace.cell b off ∈ p++ []:=by simpa using hp
  have h1:=hz b off hp';have h2:=hb.block b (hlt _ hp');unfold World.frozen? at h1 ⊢;rw [h2];exact h1
 ·intro ha;cases ha
 ·intro x hx _;simpa using hx
theorem cT {v: Value} {d: DataW H} {ps: List MemPlace} (hB: Rows.uptoBulk d≤1048576) (hv: Value.okWide prog W .any 0 24 v) (h: DataW.Trod enc prog W 0 (fun _=>true) true 24 v d ps) :
  ∃(A: Option Addr) (ts: List Tm) (c: Nat),v=.agg #[.slice A ts.length c]∧RowT (fun b=>W.heap[b]?) A c ts∧ts.length≤1048576:=by
 unfold Value.okWide at hv;rw [T24.und] at hv;obtain⟨cs,rfl,_⟩:=hv;obtain⟨A,ts,c,h1,h2⟩:=open_store hB (.inr ⟨cs,rfl⟩) h;refine⟨A,ts,c,?_,h2⟩;have: cs.toList= [.slice A ts.length c]:=h1;rw [← Array.toArray_toList (xs:=cs),this]
end
end Go.Vk.Try
namespace Go.Vk.Try
open Go.ChangeShapes Go.WideShapes Go.ChangeAt Go.RowKit Go.Deep Go.Proofs.Ytefepjpkelfcbaa
theorem unifyMerges_contract (H: Type) (enc: TypeId × Value→H) (W: World) (base: Nat) (args: Array Value) (ds gs: List (DataW H)) (before: List MemPlace)
  (hval: ∀(j: Nat) t v,Go.Proofs.Try.f4.params[j]? =some t→args[j]? =some v→Value.okWide prog W .any 0 t v)
  (hW: DataW.Whole enc prog Go.Proofs.Try.f4.params.toList Rows.unifyMergesSpec.vars false W args.toList ds gs before) (hk: Rows.uptoSmall H (ds++gs)=true) :
  Calls prog 4 args W fun e W'=> ∃ v,e=.returned v∧Rows.unifyMergesSpec.post enc prog f4 false true false false W args v W':=by
 have hW':=hW;obtain⟨p,q,hA0,hV,rfl,hfz,hnd⟩:=hW;have hA: DataW.TrodAll enc prog W 0 (fun _=>true) true Go.Proofs.Try.f4.params.toList args.toList ds p:=hA0;rw [params4] at hA hval;obtain⟨v0,v1,v2,d0,d1,d2,p0,p1,p2,rfl,rfl,rfl,g0,g1,g2⟩:=trodAll_three hA;obtain⟨rfl,rfl⟩:=trodVars_none hV;have hb: Rows.uptoBulkAll ([d0,d1,d2]++ [])≤1048576:=of_decide_eq_true hk;simp only [List.append_nil,Rows.uptoBulkAll] at hb;obtain⟨A0,ts0,c0,rfl,h0,hl0⟩:=cT (by omega) (hval 0 24 v0 rfl rfl) g0;obtain⟨A1,ts1,c1,rfl,h1,hl1⟩:=cT (by omega) (hval 1 24 v1 rfl rfl) g1;obtain⟨A2,ts2,c2,rfl,h2,hl2⟩:=cT (by omega) (hval 2 24 v2 rfl rfl) g2;refine(c_UnifyMerges (inv_all W) h0 h1 h2 (by omega) (by omega) (by omega)).mono fun e W' hh=>?_;obtain⟨H',rfl,hS⟩:=hh;exact⟨_,rfl,post_old (l:=d0) hW' rfl rfl rfl (fun _ _ _=>trodAll_mk1 (shut_bool underlying4 _)) (below_of hS) (by rw [params4];intro t ht;simp at ht;rcases ht with rfl <;> exact⟨by kernel_rfl,of_decide_eq_true (by kernel_rfl)⟩) (ok_one (by kernel_rfl) rfl (okWide_bool_mk underlying4 _))⟩
theorem unifyMerges_lifted (os: Os) (started: os.Started) (H: Type) (enc: TypeId × Value→H) (F: Stop.Interp) :
  ReturnsInHanded {} checked os 4 .any ((Rows.OpenSpec.upto Rows.unifyMergesSpec).pre6 enc prog f4 Rows.unifyMergesUptoRow.domain false) (((Rows.OpenSpec.upto Rows.unifyMergesSpec).at F).post enc prog f4 false true false false):=by
 refine returnsInHanded_of_cond (C:=checked) (s:=Rows.OpenSpec.upto Rows.unifyMergesSpec) (k:=Rows.uptoSmall) rfl own started (by kernel_rfl) func4
  (OpenSpec.witness (enc:=enc) (C:=checked) (s:=Rows.OpenSpec.upto Rows.unifyMergesSpec) (k:=Rows.uptoSmall) rfl false ⟨#[],#[.agg #[.slice none 0 0],.agg #[.slice none 0 0],.agg #[.slice none 0 0]], []⟩ 8 (by kernel_rfl) (by kernel_rfl) (by kernel_rfl)
   (x:=([.agg [.nil],.agg [.nil],.agg [.nil]], [], [])) (by kernel_rfl) rfl (by kernel_rfl)) ?_
 intro W base args ds gs before hval hW _ hk _;exact unifyMerges_contract H enc W base args ds gs before hval hW hk
theorem unifyMerges_proved: Rows.UnifyMergesUptoSaid:=
 OpenClaim.holds_of_cond 4 f4 rfl rfl rfl rfl rfl rfl rfl ⟨rfl,rfl,rfl,rfl,rfl⟩ rfl rfl rfl rfl rfl (by kernel_rfl) func4 (by kernel_rfl)
  (of_decide_eq_true (by kernel_rfl)) (by unfold Func.isWrapper;first |(rw [if_pos (by decide +kernel)];kernel_rfl) |(rw [if_neg (by decide +kernel)];exact⟨rfl,rfl⟩))
  (fun os started H enc _ F=>unifyMerges_lifted os started H enc F)
end Go.Vk.Try
namespace Go.Proofs.Ytefepjpkelfcbaa
theorem unifyMerges_holds: Rows.UnifyMergesUptoSaid:=Go.Vk.Try.unifyMerges_proved
end Go.Proofs.Ytefepjpkelfcbaa

