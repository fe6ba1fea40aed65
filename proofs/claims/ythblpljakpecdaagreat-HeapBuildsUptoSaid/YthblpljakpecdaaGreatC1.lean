/- Part 1 of the proof of heapBuilds_holds. Conditions: none. -/
import Derived.Test.YthblpljakpecdaaGreatC0
set_option linter.unusedVariables false
set_option linter.unusedSimpArgs false
set_option linter.unusedSectionVars false
set_option maxRecDepth 100000
open Go.Proofs.Tryz
namespace Go.Vk.Tryz
open Go.RowKit
theorem c_form5 {w0: World} {H: PHeap} (hI: Inv w0 H []) {t: Tm} {A: Option Addr} {c: Nat} {bb: Nat} (hbb: H bb=some (.cells #[.func (.func 169) #[] #[]] 211 (0,0))) (hr: RowT H A c t.l): Calls prog 175 #[(tv t A c),(pB bb)] w0 (Rs w0 H (.bool (form5 t))):=by
 have F:=Step.refl hI;refine enter [(tv t A c),(pB bb)] func175 J ntmps175 J fun a C=>?_;refine wp_seq (ab (lin J (aG (cs:=(tA t A c)) F C J J J fun T a w F C=>?_)));refine Ls J C fun a C=>?_;refine wpList_nil (aa (wp_seq (ab (lin J (ae (v:=(.func (.func 169) #[] #[])) T211 J C J (F.blkH hbb) J J fun a C=>?_)))));refine lin J (am (vs:=(tL t A c)) T41 J C J (F.blkL 0 J) J (aj J) J fun a C=>?_);refine lin J (a8 func169 J J (C.evs J) C J J (ej F.inv.nil hr) ?_);rintro e w ⟨rfl,O⟩;refine⟨_,rfl,fun a C=>?_⟩;have F:=F.call O;refine Lm J C fun a C=>?_;refine au (t:=7) C J (fun G C=>?_) (fun G C=>?_)
 ·refine ad J C J J J (ac (f:=2) (o2:=2) T41 T9 J J J J C J J fun a C=>?_);refine ad J C J J J (ae (v:=(.string t.s)) T9 J C J (F.blkL 0 J) J J fun a C=>?_);refine ad J C J J J (Co func173 C J (c_name F.inv.nil) ?_);rintro e w ⟨rfl,O⟩;refine⟨_,rfl,fun a C=>?_⟩;have F:=F.call O;refine lin J (an C J J J fun a C=>?_);refine Lm J C fun a C=>?_;refine au (t:=12) C J (fun I C=>?_) (fun I C=>?_)
  ·refine ad J C J J J (ac (f:=3) (o2:=3) T41 T39 J J J J C J J fun a C=>?_);refine ad J C J J J (ae (v:=(.slice A t.l.length c)) T39 J C J (F.blkL 0 J) J J fun a C=>?_);refine ad J C J J J (aI T39.und C J J fun a C=>?_);refine ad J C J J J (co (i:=((t.l.length: Nat): Int)) (j:=1) C J J J fun a C=>?_);refine lin J (an C J J J fun a C=>?_);refine Lm J C fun a C=>?_;refine ai (t:=18) C J (fun M C=>?_) (fun M C=>?_)
   ·refine ad J C J J J (ac (f:=3) (o2:=3) T41 T39 J J J J C J J fun a C=>?_);refine ad J C J J J (ae (v:=(.slice A t.l.length c)) T39 J C J (F.blkL 0 J) J J fun a C=>?_);refine ad J C J J J (aI T39.und C J J fun a C=>?_);refine ad J C J J J (cY (i:=((t.l.length: Nat): Int)) (j:=16) C J J J fun a C=>?_);refine lin J (an C J J J fun a C=>?_);refine Ls J C fun a C=>?_;refine wpList_nil (aa (wp_ret (ret1 J C J ?_)));refine⟨congrArg _ ?_,F.plain.drop_all⟩
    first | rfl |(simp only [form5];rfl) |(simp [form5,G,I,M])
   ·refine Lf J C J J fun a C=>?_;refine Lf J C J J fun a C=>?_;refine Lf J C J J fun a C=>?_;refine Lf J C J J fun a C=>?_;refine lin J (ak C J J J fun a C=>?_);refine Ls J C fun a C=>?_;refine wpList_nil (aa (wp_ret (ret1 J C J ?_)));refine⟨congrArg _ ?_,F.plain.drop_all⟩
    first | rfl |(simp only [form5];rfl) |(simp [form5,G,I,M])
  ·refine Lf J C J J fun a C=>?_;refine Lf J C J J fun a C=>?_;refine Lf J C J J fun a C=>?_;refine Lf J C J J fun a C=>?_;refine lin J (ak C J J J fun a C=>?_);refine Lm J C fun a C=>?_;refine Lf J C J J fun a C=>?_;refine Lf J C J J fun a C=>?_;refine Lf J C J J fun a C=>?_;refine Lf J C J J fun a C=>?_;refine lin J (ak C J J J fun a C=>?_);refine Ls J C fun a C=>?_;refine wpList_nil (aa (wp_ret (ret1 J C J ?_)));refine⟨congrArg _ ?_,F.plain.drop_all⟩
   first | rfl |(simp only [form5];rfl) |(simp [form5,G,I])
 ·refine Lf J C J J fun a C=>?_;refine Lf J C J J fun a C=>?_;refine Lf J C J J fun a C=>?_;refine lin J (ak C J J J fun a C=>?_);refine Lm J C fun a C=>?_;refine Lf J C J J fun a C=>?_;refine Lf J C J J fun a C=>?_;refine Lf J C J J fun a C=>?_;refine Lf J C J J fun a C=>?_;refine lin J (ak C J J J fun a C=>?_);refine Lm J C fun a C=>?_;refine Lf J C J J fun a C=>?_;refine Lf J C J J fun a C=>?_;refine Lf J C J J fun a C=>?_;refine Lf J C J J fun a C=>?_;refine lin J (ak C J J J fun a C=>?_);refine Ls J C fun a C=>?_;refine wpList_nil (aa (wp_ret (ret1 J C J ?_)));refine⟨congrArg _ ?_,F.plain.drop_all⟩
  first | rfl |(simp only [form5];rfl) |(simp [form5,G])
theorem c_form6 {w0: World} {H: PHeap} (hI: Inv w0 H []) {t: Tm} {A: Option Addr} {c: Nat} {bb: Nat} (hbb: H bb=some (.cells #[.func (.func 169) #[] #[]] 211 (0,0))) (hr: RowT H A c t.l): Calls prog 176 #[(tv t A c),(pB bb)] w0 (Rs w0 H (.bool (form6 t))):=by
 have F:=Step.refl hI;refine enter [(tv t A c),(pB bb)] func176 J ntmps176 J fun a C=>?_;refine wp_seq (ab (lin J (aG (cs:=(tA t A c)) F C J J J fun M a w F C=>?_)));refine Ls J C fun a C=>?_;refine wpList_nil (aa (wp_seq (ab (lin J (ae (v:=(.func (.func 169) #[] #[])) T211 J C J (F.blkH hbb) J J fun a C=>?_)))));refine lin J (am (vs:=(tL t A c)) T41 J C J (F.blkL 0 J) J (aj J) J fun a C=>?_);refine lin J (a8 func169 J J (C.evs J) C J J (ej F.inv.nil hr) ?_);rintro e w ⟨rfl,I⟩;refine⟨_,rfl,fun a C=>?_⟩;have F:=F.call I;refine Lm J C fun a C=>?_;refine au (t:=7) C J (fun G C=>?_) (fun G C=>?_)
 ·refine ad J C J J J (ac (f:=3) (o2:=3) T41 T39 J J J J C J J fun a C=>?_);refine ad J C J J J (ae (v:=(.slice A t.l.length c)) T39 J C J (F.blkL 0 J) J J fun a C=>?_);refine ad J C J J J (aI T39.und C J J fun a C=>?_);refine ad J C J J J (cY (i:=((t.l.length: Nat): Int)) (j:=64) C J J J fun a C=>?_);refine lin J (an C J J J fun a C=>?_);refine Ls J C fun a C=>?_;refine wpList_nil (aa (wp_ret (ret1 J C J ?_)));refine⟨congrArg _ ?_,F.plain.drop_all⟩
  first | rfl |(simp only [form6];rfl) |(simp [form6,G])
 ·refine Lf J C J J fun a C=>?_;refine Lf J C J J fun a C=>?_;refine Lf J C J J fun a C=>?_;refine Lf J C J J fun a C=>?_;refine lin J (ak C J J J fun a C=>?_);refine Ls J C fun a C=>?_;refine wpList_nil (aa (wp_ret (ret1 J C J ?_)));refine⟨congrArg _ ?_,F.plain.drop_all⟩
  first | rfl |(simp only [form6];rfl) |(simp [form6,G])
def fvals (b: Nat): Array Value:= #[.nilFunc,.func (.func 170) #[] #[.pointer (some ⟨b,0,none⟩)],.func (.func 171) #[] #[.pointer (some ⟨b,0,none⟩)],.func (.func 172) #[] #[.pointer (some ⟨b,0,none⟩)],.func (.func 174) #[] #[.pointer (some ⟨b,0,none⟩)],.func (.func 175) #[] #[.pointer (some ⟨b,0,none⟩)],.func (.func 176) #[] #[.pointer (some ⟨b,0,none⟩)]]
def fnum (k: Int): Nat:=if k=1 then 170 else if k=2 then 171 else if k=3 then 172 else if k=4 then 174 else if k=5 then 175 else 176
def RF (w: World) (H: PHeap) (e: Ending) (w': World): Prop:= ∃ H' b,e=.returned (.agg (fvals b))/\H' b=some (.cells #[.func (.func 169) #[] #[]] 211 (0,0))/\Step w H [] w' H' []
theorem c_forms {w0: World} {H: PHeap} (hI: Inv w0 H []): Calls prog 157 #[] w0 (RF w0 H):=by
 have G:=Step.refl hI;refine enter [] func157 J ntmps157 J fun a C=>?_;refine wp_seq (ab (lin J (aB (cs:= #[.nilFunc,.nilFunc,.nilFunc,.nilFunc,.nilFunc,.nilFunc,.nilFunc]) T200 G C J J fun O a w G C=>?_)));refine wpList_nil (aa (wp_seq (ab (lin J (aB (cs:= #[.nilFunc]) T211 G C J J fun F a w G C=>?_)))));refine lin J (al (cs':= #[(.func (.func 169) #[] #[])]) T211 G (i:=0) J C J J J J J J fun a w G C=>?_);refine wpList_nil (aa (wp_seq (ab (lin J (ce (fs:= #[]) (cs:= #[(pB F)]) C (C.evs (xs:= []) J) (C.evs J) J fun a C=>?_)))));refine lin J (ce (fs:= #[]) (cs:= #[(pB F)]) C (C.evs (xs:= []) J) (C.evs J) J fun a C=>?_);refine lin J (ce (fs:= #[]) (cs:= #[(pB F)]) C (C.evs (xs:= []) J) (C.evs J) J fun a C=>?_);refine lin J (ce (fs:= #[]) (cs:= #[(pB F)]) C (C.evs (xs:= []) J) (C.evs J) J fun a C=>?_);refine lin J (ce (fs:= #[]) (cs:= #[(pB F)]) C (C.evs (xs:= []) J) (C.evs J) J fun a C=>?_);refine lin J (ce (fs:= #[]) (cs:= #[(pB F)]) C (C.evs (xs:= []) J) (C.evs J) J fun a C=>?_);refine lin J (o_buildArr (vs:= [(1,(.func (.func 170) #[] #[(pB F)])),(2,(.func (.func 171) #[] #[(pB F)])),(3,(.func (.func 172) #[] #[(pB F)])),(4,(.func (.func 174) #[] #[(pB F)])),(5,(.func (.func 175) #[] #[(pB F)])),(6,(.func (.func 176) #[] #[(pB F)]))]) (cells:= [.nilFunc,(.func (.func 170) #[] #[(pB F)]),(.func (.func 171) #[] #[(pB F)]),(.func (.func 172) #[] #[(pB F)]),(.func (.func 174) #[] #[(pB F)]),(.func (.func 175) #[] #[(pB F)]),(.func (.func 176) #[] #[(pB F)])]) T200 T199 C (C.evp J) J J fun a C=>?_);refine lin J (al (cs':= #[.nilFunc,(.func (.func 170) #[] #[(pB F)]),(.func (.func 171) #[] #[(pB F)]),(.func (.func 172) #[] #[(pB F)]),(.func (.func 174) #[] #[(pB F)]),(.func (.func 175) #[] #[(pB F)]),(.func (.func 176) #[] #[(pB F)])]) T200 G (i:=1) J C J J J J J J fun a w G C=>?_);refine wpList_nil (aa (wp_ret (retA (i:=1) (cs:= #[.nilFunc,(.func (.func 170) #[] #[(pB F)]),(.func (.func 171) #[] #[(pB F)]),(.func (.func 172) #[] #[(pB F)]),(.func (.func 174) #[] #[(pB F)]),(.func (.func 175) #[] #[(pB F)]),(.func (.func 176) #[] #[(pB F)])]) J T200 J G J C J J ?_)));obtain⟨I,G,T,M⟩:=(G.front 0 J).give;exact⟨I,_,rfl,M,G.drop_all⟩
theorem fcell {b: Nat} {k: Int} (h1: ¬ k < 1) (h6: ¬ 6 < k):(fvals b)[0+k.toNat * 1]? =some (.func (.func (fnum k)) #[] #[.pointer (some ⟨b,0,none⟩)]):=by
 have: k=1\/k=2\/k=3\/k=4\/k=5\/k=6:=by omega
 rcases this with rfl | rfl | rfl | rfl | rfl | rfl <;> rfl
theorem ffunc {k: Int}: ∃ f c,Go.Proofs.Tryz.prog.funcs[fnum k]? =some f∧f.body=some c∧(f.name == "runtime.NumGoroutine")=false:=by
 unfold fnum
 repeat' split
 ·exact⟨_,_,func170,rfl,rfl⟩
 ·exact⟨_,_,func171,rfl,rfl⟩
 ·exact⟨_,_,func172,rfl,rfl⟩
 ·exact⟨_,_,func174,rfl,rfl⟩
 ·exact⟨_,_,func175,rfl,rfl⟩
 ·exact⟨_,_,func176,rfl,rfl⟩
theorem c_form {w0: World} {H: PHeap} (hI: Inv w0 H []) {t: Tm} {A: Option Addr} {c: Nat} {bb: Nat} (hbb: H bb=some (.cells #[.func (.func 169) #[] #[]] 211 (0,0))) (hr: RowT H A c t.l) (k: Int): Calls prog (fnum k) #[tv t A c,.pointer (some ⟨bb,0,none⟩)] w0 (Rs w0 H (.bool (formB k t))):=by
 unfold fnum formB
 by_cases h1: k=1
 ·rw [if_pos h1,if_pos h1];exact c_form1 hI hbb hr
 rw [if_neg h1,if_neg h1]
 by_cases h2: k=2
 ·rw [if_pos h2,if_pos h2];exact c_form2 hI hbb hr
 rw [if_neg h2,if_neg h2]
 by_cases C: k=3
 ·rw [if_pos C,if_pos C];exact c_form3 hI hbb hr
 rw [if_neg C,if_neg C]
 by_cases F: k=4
 ·rw [if_pos F,if_pos F];exact c_form4 hI hbb hr
 rw [if_neg F,if_neg F]
 by_cases G: k=5
 ·rw [if_pos G,if_pos G];exact c_form5 hI hbb hr
 rw [if_neg G,if_neg G];exact c_form6 hI hbb hr
theorem cT: ∀(t: Tm) (left deep: Int),0<=left->0<=cnt left deep t/\cnt left deep t<=left+1:=by
 refine Tm.ind fun t ih=>?_;intro left deep G;rw [cQ]
 split
 ·omega
 ·rename_i hb
  have h1: 1<=left:=by
   simp only [badB,Bool.not_eq_true,Bool.or_eq_false_iff,decide_eq_false_iff_not] at hb;omega
  have F: ∀(l: List Tm) (n: Int),(∀(j: Nat) (u: Tm),l[j]? =some u->∀(left deep: Int),0<=left->0<=cnt left deep u/\cnt left deep u<=left+1)->0<=n->n<=left->0<=cntL left deep n l/\cntL left deep n l<=left+1:=by
   intro l
   induction l with
   | nil=>intro n _ h2 C;rw [cntL];omega
   | cons u l ihl =>
    intro n hl h2 C;rw [cntL];have:=hl 0 u J (left - n) (deep - 1) j0
    split
    ·omega
    ·exact ihl _ (fun j v hv=>hl (j+1) v hv) j0 j0
  exact F t.l 1 ih j0 h1
theorem bZ {left deep n: Int} {l: List Tm} {k: Nat} {u: Tm} (h: l[k]? =some u): cntL left deep n (l.drop k)=if left < n+cnt (left - n) (deep - 1) u then left+1 else cntL left deep (n+cnt (left - n) (deep - 1) u) (l.drop (k+1)):=by
 have hk: k < l.length:=(List.getElem?_eq_some_iff.1 h).1;rw [List.drop_eq_getElem_cons hk,cntL,(List.getElem?_eq_some_iff.1 h).2]
theorem c_count: ∀(t: Tm) (left deep: Int) (A: Option Addr) (c: Nat) (bb: Nat) (w0: World) (H: PHeap),H bb=some (.cells #[.func (.func 169) #[] #[]] 211 (0,0))->0<=left/\left<=4000->0<=deep/\deep<=600->RowT H A c t.l->Inv w0 H []->Calls prog 158 #[(tv t A c),(iV left),(iV deep),(.agg #[.nilFunc,(.func (.func 170) #[] #[.pointer (some ⟨bb,0,none⟩)]),(.func (.func 171) #[] #[.pointer (some ⟨bb,0,none⟩)]),(.func (.func 172) #[] #[.pointer (some ⟨bb,0,none⟩)]),(.func (.func 174) #[] #[.pointer (some ⟨bb,0,none⟩)]),(.func (.func 175) #[] #[.pointer (some ⟨bb,0,none⟩)]),(.func (.func 176) #[] #[.pointer (some ⟨bb,0,none⟩)])])] w0 (Rs w0 H (iV (cnt left deep t))):=by
 refine Tm.ind fun t ih=>?_;intro left deep A c bb w0 H b2 c3 c2 hr b5;have G:=Step.refl b5;have c5:=hr.len;refine enter [(tv t A c),(iV left),(iV deep),(.agg #[.nilFunc,(.func (.func 170) #[] #[.pointer (some ⟨bb,0,none⟩)]),(.func (.func 171) #[] #[.pointer (some ⟨bb,0,none⟩)]),(.func (.func 172) #[] #[.pointer (some ⟨bb,0,none⟩)]),(.func (.func 174) #[] #[.pointer (some ⟨bb,0,none⟩)]),(.func (.func 175) #[] #[.pointer (some ⟨bb,0,none⟩)]),(.func (.func 176) #[] #[.pointer (some ⟨bb,0,none⟩)])])] func158 J ntmps158 J fun a C=>?_;refine wp_seq (ab (lin J (aG (cs:=(tA t A c)) G C J J J fun a2 a w G C=>?_)));refine lin J (aG (cs:= #[.nilFunc,(.func (.func 170) #[] #[.pointer (some ⟨bb,0,none⟩)]),(.func (.func 171) #[] #[.pointer (some ⟨bb,0,none⟩)]),(.func (.func 172) #[] #[.pointer (some ⟨bb,0,none⟩)]),(.func (.func 174) #[] #[.pointer (some ⟨bb,0,none⟩)]),(.func (.func 175) #[] #[.pointer (some ⟨bb,0,none⟩)]),(.func (.func 176) #[] #[.pointer (some ⟨bb,0,none⟩)])]) G C J J J fun a4 a w G C=>?_);refine Ls J C fun a C=>?_;refine wpList_nil (aa (wp_seq (wp_seq ?_)))
 let a3:List (Nat×Value):=[(1,(iV left)),(2,(iV deep)),(4,(pB a2)),(7,(pB a4))];by_cases T: deep < 1
 ·have a6:=G;refine bD ba [FcV (iV deep),FcV (.bool true),FcV (.bool true),FcV undef,FcV undef,FcV (.bool true),FcV (.bool true),FcV undef,FcV undef,FcV undef,FcV (.bool true),FcV (.bool true),FcV undef,FcV undef,FcV undef,FcV (.bool true),FcV (.bool true),FcV undef,FcV undef,FcV undef,FcV undef,FcV undef,FcV undef,FcV undef,FcV (.bool true)] (N:=63) (E:= a3) mixed J Mq G (C.pk J) (.c4 ?_ ?_ ?_ ?_ (.c4 ?_ ?_ ?_ ?_ (.c4 ?_ ?_ ?_ ?_ (.c4 ?_ ?_ ?_ ?_ (.c4 ?_ ?_ ?_ ?_ (.c4 ?_ ?_ ?_ ?_ (.cons ?_ (.nil)))))))) (fun a w bt bk G C a0=>?_)
  ·refine Qz J fun a w G C F=>?_;exact aq C J J fun a C=>qe C G
  ·refine Qz1 0 J fun a w G C F=>?_;refine id (aQ (i:=deep) (j:=1) C J J J fun a C=>?_);exact qdone J C G (by first |(rw [decide_eq_true T] <;> rfl) |(rw [decide_eq_false T] <;> rfl) |(rw [T] <;> rfl) | simp [T])
  ·refine Qz1 1 J fun a w G C F=>?_;refine id (aq C J J fun a C=>?_);exact qdone J C G (by first |(rw [decide_eq_true T] <;> rfl) |(rw [decide_eq_false T] <;> rfl) |(rw [T] <;> rfl) | simp [T])
  ·intro a w M I G C F;subst I;obtain⟨_,C,rfl⟩:=F.g C 2 J;rw [if_neg (ap J J C J J J)];intro d V;rfl
  ·intro a w M I G C F;subst I;obtain⟨_,C,rfl⟩:=F.g C 3 J;obtain⟨_,C,rfl⟩:=F.g C 2 J;rw [if_neg (ap J J C J J J)];intro d V;rfl
  ·refine Qz1 2 J fun a w G C F=>?_;obtain⟨_,C,rfl⟩:=F.g C 4 J;exact an C J J J fun a C=>qe C G
  ·refine Qz1 5 J fun a w G C F=>?_;exact aq C J J fun a C=>qe C G
  ·intro a w M I G C F;subst I;obtain⟨_,C,rfl⟩:=F.g C 6 J;rw [if_neg (ap J J C J J J)];intro d V;rfl
  ·intro a w M I G C F;subst I;obtain⟨_,C,rfl⟩:=F.g C 7 J;obtain⟨_,C,rfl⟩:=F.g C 6 J;rw [if_neg (ap J J C J J J)];intro d V;rfl
  ·intro a w M I G C F;subst I;obtain⟨_,C,rfl⟩:=F.g C 8 J;obtain⟨_,C,rfl⟩:=F.g C 6 J;rw [if_neg (ap J J C J J J)];intro d V;rfl
  ·refine Qz1 6 J fun a w G C F=>?_;obtain⟨_,C,rfl⟩:=F.g C 9 J;exact an C J J J fun a C=>qe C G
  ·refine Qz1 10 J fun a w G C F=>?_;exact aq C J J fun a C=>qe C G
  ·intro a w M I G C F;subst I;obtain⟨_,C,rfl⟩:=F.g C 11 J;rw [if_neg (ap J J C J J J)];intro d V;rfl
  ·intro a w M I G C F;subst I;obtain⟨_,C,rfl⟩:=F.g C 12 J;obtain⟨_,C,rfl⟩:=F.g C 11 J;rw [if_neg (ap J J C J J J)];intro d V;rfl
  ·intro a w M I G C F;subst I;obtain⟨_,C,rfl⟩:=F.g C 13 J;obtain⟨_,C,rfl⟩:=F.g C 11 J;rw [if_neg (ap J J C J J J)];intro d V;rfl
  ·refine Qz1 11 J fun a w G C F=>?_;obtain⟨_,C,rfl⟩:=F.g C 14 J;exact an C J J J fun a C=>qe C G
  ·refine Qz1 15 J fun a w G C F=>?_;exact aq C J J fun a C=>qe C G
  ·intro a w M I G C F;subst I;obtain⟨_,C,rfl⟩:=F.g C 16 J;rw [if_neg (ap J J C J J J)];intro d V;rfl
  ·intro a w M I G C F;subst I;obtain⟨_,C,rfl⟩:=F.g C 17 J;obtain⟨_,C,rfl⟩:=F.g C 16 J;rw [if_neg (ap J J C J J J)];intro d V;rfl
  ·intro a w M I G C F;subst I;obtain⟨_,C,rfl⟩:=F.g C 18 J;obtain⟨_,C,rfl⟩:=F.g C 16 J;rw [if_neg (ap J J C J J J)];intro d V;rfl
  ·intro a w M I G C F;subst I;obtain⟨_,C,rfl⟩:=F.g C 19 J;obtain⟨_,C,rfl⟩:=F.g C 16 J;rw [if_neg (ap J J C J J J)];intro d V;rfl
  ·intro a w M I G C F;subst I;obtain⟨_,C,rfl⟩:=F.g C 16 J;rw [if_neg (ap J J C J J J)];intro d V;rfl
  ·intro a w M I G C F;subst I;obtain⟨_,C,rfl⟩:=F.g C 20 J;obtain⟨_,C,rfl⟩:=F.g C 21 J;obtain⟨_,C,rfl⟩:=F.g C 16 J;rw [if_neg (ap J J C J J J)];intro d V;rfl
  ·intro a w M I G C F;subst I;obtain⟨_,C,rfl⟩:=F.g C 22 J;obtain⟨_,C,rfl⟩:=F.g C 16 J;rw [if_neg (ap J J C J J J)];intro d V;rfl
  ·refine Qz1 16 J fun a w G C F=>?_;obtain⟨_,C,rfl⟩:=F.g C 23 J;exact an C J J J fun a C=>qe C G
  subst bk;obtain⟨_,C,rfl⟩:=Dd C a0 24 J;refine aa (ao C J (wp_seq (ab (Lm J C fun a C=>?_))));refine lin J (aF (i:=left) (j:=1) C J J J j0 fun a C=>?_);refine Ls J C fun a C=>?_;refine wpList_nil (aa (wp_ret (af (ret1 J C J ?_))));refine⟨congrArg _ (congrArg _ ?_),G.plain.drop_all⟩
  first |(rw [<- a1,bZ ht0,if_pos (by assumption)]) |(rw [cQ,if_pos (by simp [badB,T])])
 ·by_cases O: left < 1
  ·have a6:=G;refine bD ba [FcV (iV deep),FcV (.bool false),FcV (.bool false),FcV (iV left),FcV (.bool true),FcV (.bool true),FcV (.bool true),FcV undef,FcV undef,FcV undef,FcV (.bool true),FcV (.bool true),FcV undef,FcV undef,FcV undef,FcV (.bool true),FcV (.bool true),FcV undef,FcV undef,FcV undef,FcV undef,FcV undef,FcV undef,FcV undef,FcV (.bool true)] (N:=63) (E:= a3) mixed J Mq G (C.pk J) (.c4 ?_ ?_ ?_ ?_ (.c4 ?_ ?_ ?_ ?_ (.c4 ?_ ?_ ?_ ?_ (.c4 ?_ ?_ ?_ ?_ (.c4 ?_ ?_ ?_ ?_ (.c4 ?_ ?_ ?_ ?_ (.cons ?_ (.nil)))))))) (fun a w bu bl G C a0=>?_)
   ·refine Qz J fun a w G C F=>?_;exact aq C J J fun a C=>qe C G
   ·refine Qz1 0 J fun a w G C F=>?_;refine id (aQ (i:=deep) (j:=1) C J J J fun a C=>?_);exact qdone J C G (by first |(rw [decide_eq_true T] <;> rfl) |(rw [decide_eq_false T] <;> rfl) |(rw [T] <;> rfl) | simp [T])
   ·refine Qz1 1 J fun a w G C F=>?_;refine id (aq C J J fun a C=>?_);exact qdone J C G (by first |(rw [decide_eq_true T] <;> rfl) |(rw [decide_eq_false T] <;> rfl) |(rw [T] <;> rfl) | simp [T])
   ·intro a w M I G C F;subst I;obtain⟨_,C,rfl⟩:=F.g C 2 J;rw [if_pos (ay J C J J J)];exact aq C J J fun a C=>qe C G
   ·intro a w M I G C F;subst I;obtain⟨_,C,rfl⟩:=F.g C 3 J;obtain⟨_,C,rfl⟩:=F.g C 2 J;rw [if_pos (ay J C J J J)];refine id (aQ (i:=left) (j:=1) C J J J fun a C=>?_);exact qdone J C G (by first |(rw [decide_eq_true O] <;> rfl) |(rw [decide_eq_false O] <;> rfl) |(rw [O] <;> rfl) | simp [O])
   ·refine Qz1 2 J fun a w G C F=>?_;obtain⟨_,C,rfl⟩:=F.g C 4 J;refine id (ak C J J J fun a C=>?_);exact qdone J C G (by first |(rw [decide_eq_true O] <;> rfl) |(rw [decide_eq_false O] <;> rfl) |(rw [O] <;> rfl) | simp [O])
   ·refine Qz1 5 J fun a w G C F=>?_;refine id (aq C J J fun a C=>?_);exact qdone J C G (by first |(rw [decide_eq_true O] <;> rfl) |(rw [decide_eq_false O] <;> rfl) |(rw [O] <;> rfl) | simp [O])
   ·intro a w M I G C F;subst I;obtain⟨_,C,rfl⟩:=F.g C 6 J;rw [if_neg (ap J J C J J J)];intro d V;rfl
   ·intro a w M I G C F;subst I;obtain⟨_,C,rfl⟩:=F.g C 7 J;obtain⟨_,C,rfl⟩:=F.g C 6 J;rw [if_neg (ap J J C J J J)];intro d V;rfl
   ·intro a w M I G C F;subst I;obtain⟨_,C,rfl⟩:=F.g C 8 J;obtain⟨_,C,rfl⟩:=F.g C 6 J;rw [if_neg (ap J J C J J J)];intro d V;rfl
   ·refine Qz1 6 J fun a w G C F=>?_;obtain⟨_,C,rfl⟩:=F.g C 9 J;exact an C J J J fun a C=>qe C G
   ·refine Qz1 10 J fun a w G C F=>?_;exact aq C J J fun a C=>qe C G
   ·intro a w M I G C F;subst I;obtain⟨_,C,rfl⟩:=F.g C 11 J;rw [if_neg (ap J J C J J J)];intro d V;rfl
   ·intro a w M I G C F;subst I;obtain⟨_,C,rfl⟩:=F.g C 12 J;obtain⟨_,C,rfl⟩:=F.g C 11 J;rw [if_neg (ap J J C J J J)];intro d V;rfl
   ·intro a w M I G C F;subst I;obtain⟨_,C,rfl⟩:=F.g C 13 J;obtain⟨_,C,rfl⟩:=F.g C 11 J;rw [if_neg (ap J J C J J J)];intro d V;rfl
   ·refine Qz1 11 J fun a w G C F=>?_;obtain⟨_,C,rfl⟩:=F.g C 14 J;exact an C J J J fun a C=>qe C G
   ·refine Qz1 15 J fun a w G C F=>?_;exact aq C J J fun a C=>qe C G
   ·intro a w M I G C F;subst I;obtain⟨_,C,rfl⟩:=F.g C 16 J;rw [if_neg (ap J J C J J J)];intro d V;rfl
   ·intro a w M I G C F;subst I;obtain⟨_,C,rfl⟩:=F.g C 17 J;obtain⟨_,C,rfl⟩:=F.g C 16 J;rw [if_neg (ap J J C J J J)];intro d V;rfl
   ·intro a w M I G C F;subst I;obtain⟨_,C,rfl⟩:=F.g C 18 J;obtain⟨_,C,rfl⟩:=F.g C 16 J;rw [if_neg (ap J J C J J J)];intro d V;rfl
   ·intro a w M I G C F;subst I;obtain⟨_,C,rfl⟩:=F.g C 19 J;obtain⟨_,C,rfl⟩:=F.g C 16 J;rw [if_neg (ap J J C J J J)];intro d V;rfl
   ·intro a w M I G C F;subst I;obtain⟨_,C,rfl⟩:=F.g C 16 J;rw [if_neg (ap J J C J J J)];intro d V;rfl
   ·intro a w M I G C F;subst I;obtain⟨_,C,rfl⟩:=F.g C 20 J;obtain⟨_,C,rfl⟩:=F.g C 21 J;obtain⟨_,C,rfl⟩:=F.g C 16 J;rw [if_neg (ap J J C J J J)];intro d V;rfl
   ·intro a w M I G C F;subst I;obtain⟨_,C,rfl⟩:=F.g C 22 J;obtain⟨_,C,rfl⟩:=F.g C 16 J;rw [if_neg (ap J J C J J J)];intro d V;rfl
   ·refine Qz1 16 J fun a w G C F=>?_;obtain⟨_,C,rfl⟩:=F.g C 23 J;exact an C J J J fun a C=>qe C G
   subst bl;obtain⟨_,C,rfl⟩:=Dd C a0 24 J;refine aa (ao C J (wp_seq (ab (Lm J C fun a C=>?_))));refine lin J (aF (i:=left) (j:=1) C J J J j0 fun a C=>?_);refine Ls J C fun a C=>?_;refine wpList_nil (aa (wp_ret (af (ret1 J C J ?_))));refine⟨congrArg _ (congrArg _ ?_),G.plain.drop_all⟩
   first |(rw [<- a1,bZ ht0,if_pos (by assumption)]) |(rw [cQ,if_pos (by simp [badB,T,O])])
  ·by_cases X: t.kind < 1
   ·have a6:=G;refine bD ba [FcV (iV deep),FcV (.bool false),FcV (.bool false),FcV (iV left),FcV (.bool false),FcV (.bool false),FcV (.bool false),FcV (pB a2),FcV (iV t.kind),FcV (.bool true),FcV (.bool true),FcV (.bool true),FcV undef,FcV undef,FcV undef,FcV (.bool true),FcV (.bool true),FcV undef,FcV undef,FcV undef,FcV undef,FcV undef,FcV undef,FcV undef,FcV (.bool true)] (N:=63) (E:= a3) mixed J Mq G (C.pk J) (.c4 ?_ ?_ ?_ ?_ (.c4 ?_ ?_ ?_ ?_ (.c4 ?_ ?_ ?_ ?_ (.c4 ?_ ?_ ?_ ?_ (.c4 ?_ ?_ ?_ ?_ (.c4 ?_ ?_ ?_ ?_ (.cons ?_ (.nil)))))))) (fun a w bp bh G C a0=>?_)
    ·refine Qz J fun a w G C F=>?_;exact aq C J J fun a C=>qe C G
    ·refine Qz1 0 J fun a w G C F=>?_;refine id (aQ (i:=deep) (j:=1) C J J J fun a C=>?_);exact qdone J C G (by first |(rw [decide_eq_true T] <;> rfl) |(rw [decide_eq_false T] <;> rfl) |(rw [T] <;> rfl) | simp [T])
    ·refine Qz1 1 J fun a w G C F=>?_;refine id (aq C J J fun a C=>?_);exact qdone J C G (by first |(rw [decide_eq_true T] <;> rfl) |(rw [decide_eq_false T] <;> rfl) |(rw [T] <;> rfl) | simp [T])
    ·intro a w M I G C F;subst I;obtain⟨_,C,rfl⟩:=F.g C 2 J;rw [if_pos (ay J C J J J)];exact aq C J J fun a C=>qe C G
    ·intro a w M I G C F;subst I;obtain⟨_,C,rfl⟩:=F.g C 3 J;obtain⟨_,C,rfl⟩:=F.g C 2 J;rw [if_pos (ay J C J J J)];refine id (aQ (i:=left) (j:=1) C J J J fun a C=>?_);exact qdone J C G (by first |(rw [decide_eq_true O] <;> rfl) |(rw [decide_eq_false O] <;> rfl) |(rw [O] <;> rfl) | simp [O])
    ·refine Qz1 2 J fun a w G C F=>?_;obtain⟨_,C,rfl⟩:=F.g C 4 J;refine id (ak C J J J fun a C=>?_);exact qdone J C G (by first |(rw [decide_eq_true O] <;> rfl) |(rw [decide_eq_false O] <;> rfl) |(rw [O] <;> rfl) | simp [O])
    ·refine Qz1 5 J fun a w G C F=>?_;refine id (aq C J J fun a C=>?_);exact qdone J C G (by first |(rw [decide_eq_true O] <;> rfl) |(rw [decide_eq_false O] <;> rfl) |(rw [O] <;> rfl) | simp [O])
    ·intro a w M I G C F;subst I;obtain⟨_,C,rfl⟩:=F.g C 6 J;rw [if_pos (ay J C J J J)];exact ac (f:=0) (o2:=0) T41 T3 J J J J C J J fun a C=>qe C G
    ·intro a w M I G C F;subst I;obtain⟨_,C,rfl⟩:=F.g C 7 J;obtain⟨_,C,rfl⟩:=F.g C 6 J;rw [if_pos (ay J C J J J)];exact ae (v:=(iV t.kind)) T3 J C J (G.blkL 1 J) J J fun a C=>qe C G
    ·intro a w M I G C F;subst I;obtain⟨_,C,rfl⟩:=F.g C 8 J;obtain⟨_,C,rfl⟩:=F.g C 6 J;rw [if_pos (ay J C J J J)];refine id (aQ (i:=t.kind) (j:=1) C J J J fun a C=>?_);exact qdone J C G (by first |(rw [decide_eq_true X] <;> rfl) |(rw [decide_eq_false X] <;> rfl) |(rw [X] <;> rfl) | simp [X])
    ·refine Qz1 6 J fun a w G C F=>?_;obtain⟨_,C,rfl⟩:=F.g C 9 J;refine id (ak C J J J fun a C=>?_);exact qdone J C G (by first |(rw [decide_eq_true X] <;> rfl) |(rw [decide_eq_false X] <;> rfl) |(rw [X] <;> rfl) | simp [X])
    ·refine Qz1 10 J fun a w G C F=>?_;refine id (aq C J J fun a C=>?_);exact qdone J C G (by first |(rw [decide_eq_true X] <;> rfl) |(rw [decide_eq_false X] <;> rfl) |(rw [X] <;> rfl) | simp [X])
    ·intro a w M I G C F;subst I;obtain⟨_,C,rfl⟩:=F.g C 11 J;rw [if_neg (ap J J C J J J)];intro d V;rfl
    ·intro a w M I G C F;subst I;obtain⟨_,C,rfl⟩:=F.g C 12 J;obtain⟨_,C,rfl⟩:=F.g C 11 J;rw [if_neg (ap J J C J J J)];intro d V;rfl
    ·intro a w M I G C F;subst I;obtain⟨_,C,rfl⟩:=F.g C 13 J;obtain⟨_,C,rfl⟩:=F.g C 11 J;rw [if_neg (ap J J C J J J)];intro d V;rfl
    ·refine Qz1 11 J fun a w G C F=>?_;obtain⟨_,C,rfl⟩:=F.g C 14 J;exact an C J J J fun a C=>qe C G
    ·refine Qz1 15 J fun a w G C F=>?_;exact aq C J J fun a C=>qe C G
    ·intro a w M I G C F;subst I;obtain⟨_,C,rfl⟩:=F.g C 16 J;rw [if_neg (ap J J C J J J)];intro d V;rfl
    ·intro a w M I G C F;subst I;obtain⟨_,C,rfl⟩:=F.g C 17 J;obtain⟨_,C,rfl⟩:=F.g C 16 J;rw [if_neg (ap J J C J J J)];intro d V;rfl
    ·intro a w M I G C F;subst I;obtain⟨_,C,rfl⟩:=F.g C 18 J;obtain⟨_,C,rfl⟩:=F.g C 16 J;rw [if_neg (ap J J C J J J)];intro d V;rfl
    ·intro a w M I G C F;subst I;obtain⟨_,C,rfl⟩:=F.g C 19 J;obtain⟨_,C,rfl⟩:=F.g C 16 J;rw [if_neg (ap J J C J J J)];intro d V;rfl
    ·intro a w M I G C F;subst I;obtain⟨_,C,rfl⟩:=F.g C 16 J;rw [if_neg (ap J J C J J J)];intro d V;rfl
    ·intro a w M I G C F;subst I;obtain⟨_,C,rfl⟩:=F.g C 20 J;obtain⟨_,C,rfl⟩:=F.g C 21 J;obtain⟨_,C,rfl⟩:=F.g C 16 J;rw [if_neg (ap J J C J J J)];intro d V;rfl
    ·intro a w M I G C F;subst I;obtain⟨_,C,rfl⟩:=F.g C 22 J;obtain⟨_,C,rfl⟩:=F.g C 16 J;rw [if_neg (ap J J C J J J)];intro d V;rfl
    ·refine Qz1 16 J fun a w G C F=>?_;obtain⟨_,C,rfl⟩:=F.g C 23 J;exact an C J J J fun a C=>qe C G
    subst bh;obtain⟨_,C,rfl⟩:=Dd C a0 24 J;refine aa (ao C J (wp_seq (ab (Lm J C fun a C=>?_))));refine lin J (aF (i:=left) (j:=1) C J J J j0 fun a C=>?_);refine Ls J C fun a C=>?_;refine wpList_nil (aa (wp_ret (af (ret1 J C J ?_))));refine⟨congrArg _ (congrArg _ ?_),G.plain.drop_all⟩
    first |(rw [<- a1,bZ ht0,if_pos (by assumption)]) |(rw [cQ,if_pos (by simp [badB,T,O,X])])
   ·by_cases Y: 6 < t.kind
    ·have a6:=G;refine bD ba [FcV (iV deep),FcV (.bool false),FcV (.bool false),FcV (iV left),FcV (.bool false),FcV (.bool false),FcV (.bool false),FcV (pB a2),FcV (iV t.kind),FcV (.bool false),FcV (.bool false),FcV (.bool false),FcV (pB a2),FcV (iV t.kind),FcV (.bool true),FcV (.bool true),FcV (.bool true),FcV undef,FcV undef,FcV undef,FcV undef,FcV undef,FcV undef,FcV undef,FcV (.bool true)] (N:=63) (E:= a3) mixed J Mq G (C.pk J) (.c4 ?_ ?_ ?_ ?_ (.c4 ?_ ?_ ?_ ?_ (.c4 ?_ ?_ ?_ ?_ (.c4 ?_ ?_ ?_ ?_ (.c4 ?_ ?_ ?_ ?_ (.c4 ?_ ?_ ?_ ?_ (.cons ?_ (.nil)))))))) (fun a w bq bi G C a0=>?_)
     ·refine Qz J fun a w G C F=>?_;exact aq C J J fun a C=>qe C G
     ·refine Qz1 0 J fun a w G C F=>?_;refine id (aQ (i:=deep) (j:=1) C J J J fun a C=>?_);exact qdone J C G (by first |(rw [decide_eq_true T] <;> rfl) |(rw [decide_eq_false T] <;> rfl) |(rw [T] <;> rfl) | simp [T])
     ·refine Qz1 1 J fun a w G C F=>?_;refine id (aq C J J fun a C=>?_);exact qdone J C G (by first |(rw [decide_eq_true T] <;> rfl) |(rw [decide_eq_false T] <;> rfl) |(rw [T] <;> rfl) | simp [T])
     ·intro a w M I G C F;subst I;obtain⟨_,C,rfl⟩:=F.g C 2 J;rw [if_pos (ay J C J J J)];exact aq C J J fun a C=>qe C G
     ·intro a w M I G C F;subst I;obtain⟨_,C,rfl⟩:=F.g C 3 J;obtain⟨_,C,rfl⟩:=F.g C 2 J;rw [if_pos (ay J C J J J)];refine id (aQ (i:=left) (j:=1) C J J J fun a C=>?_);exact qdone J C G (by first |(rw [decide_eq_true O] <;> rfl) |(rw [decide_eq_false O] <;> rfl) |(rw [O] <;> rfl) | simp [O])
     ·refine Qz1 2 J fun a w G C F=>?_;obtain⟨_,C,rfl⟩:=F.g C 4 J;refine id (ak C J J J fun a C=>?_);exact qdone J C G (by first |(rw [decide_eq_true O] <;> rfl) |(rw [decide_eq_false O] <;> rfl) |(rw [O] <;> rfl) | simp [O])
     ·refine Qz1 5 J fun a w G C F=>?_;refine id (aq C J J fun a C=>?_);exact qdone J C G (by first |(rw [decide_eq_true O] <;> rfl) |(rw [decide_eq_false O] <;> rfl) |(rw [O] <;> rfl) | simp [O])
     ·intro a w M I G C F;subst I;obtain⟨_,C,rfl⟩:=F.g C 6 J;rw [if_pos (ay J C J J J)];exact ac (f:=0) (o2:=0) T41 T3 J J J J C J J fun a C=>qe C G
     ·intro a w M I G C F;subst I;obtain⟨_,C,rfl⟩:=F.g C 7 J;obtain⟨_,C,rfl⟩:=F.g C 6 J;rw [if_pos (ay J C J J J)];exact ae (v:=(iV t.kind)) T3 J C J (G.blkL 1 J) J J fun a C=>qe C G
     ·intro a w M I G C F;subst I;obtain⟨_,C,rfl⟩:=F.g C 8 J;obtain⟨_,C,rfl⟩:=F.g C 6 J;rw [if_pos (ay J C J J J)];refine id (aQ (i:=t.kind) (j:=1) C J J J fun a C=>?_);exact qdone J C G (by first |(rw [decide_eq_true X] <;> rfl) |(rw [decide_eq_false X] <;> rfl) |(rw [X] <;> rfl) | simp [X])
     ·refine Qz1 6 J fun a w G C F=>?_;obtain⟨_,C,rfl⟩:=F.g C 9 J;refine id (ak C J J J fun a C=>?_);exact qdone J C G (by first |(rw [decide_eq_true X] <;> rfl) |(rw [decide_eq_false X] <;> rfl) |(rw [X] <;> rfl) | simp [X])
     ·refine Qz1 10 J fun a w G C F=>?_;refine id (aq C J J fun a C=>?_);exact qdone J C G (by first |(rw [decide_eq_true X] <;> rfl) |(rw [decide_eq_false X] <;> rfl) |(rw [X] <;> rfl) | simp [X])
     ·intro a w M I G C F;subst I;obtain⟨_,C,rfl⟩:=F.g C 11 J;rw [if_pos (ay J C J J J)];exact ac (f:=0) (o2:=0) T41 T3 J J J J C J J fun a C=>qe C G
     ·intro a w M I G C F;subst I;obtain⟨_,C,rfl⟩:=F.g C 12 J;obtain⟨_,C,rfl⟩:=F.g C 11 J;rw [if_pos (ay J C J J J)];exact ae (v:=(iV t.kind)) T3 J C J (G.blkL 1 J) J J fun a C=>qe C G
     ·intro a w M I G C F;subst I;obtain⟨_,C,rfl⟩:=F.g C 13 J;obtain⟨_,C,rfl⟩:=F.g C 11 J;rw [if_pos (ay J C J J J)];refine id (cx (i:=t.kind) (j:=6) C J J J fun a C=>?_);exact qdone J C G (by first |(rw [decide_eq_true Y] <;> rfl) |(rw [decide_eq_false Y] <;> rfl) |(rw [Y] <;> rfl) | simp [Y])
     ·refine Qz1 11 J fun a w G C F=>?_;obtain⟨_,C,rfl⟩:=F.g C 14 J;refine id (ak C J J J fun a C=>?_);exact qdone J C G (by first |(rw [decide_eq_true Y] <;> rfl) |(rw [decide_eq_false Y] <;> rfl) |(rw [Y] <;> rfl) | simp [Y])
     ·refine Qz1 15 J fun a w G C F=>?_;refine id (aq C J J fun a C=>?_);exact qdone J C G (by first |(rw [decide_eq_true Y] <;> rfl) |(rw [decide_eq_false Y] <;> rfl) |(rw [Y] <;> rfl) | simp [Y])
     ·intro a w M I G C F;subst I;obtain⟨_,C,rfl⟩:=F.g C 16 J;rw [if_neg (ap J J C J J J)];intro d V;rfl
     ·intro a w M I G C F;subst I;obtain⟨_,C,rfl⟩:=F.g C 17 J;obtain⟨_,C,rfl⟩:=F.g C 16 J;rw [if_neg (ap J J C J J J)];intro d V;rfl
     ·intro a w M I G C F;subst I;obtain⟨_,C,rfl⟩:=F.g C 18 J;obtain⟨_,C,rfl⟩:=F.g C 16 J;rw [if_neg (ap J J C J J J)];intro d V;rfl
     ·intro a w M I G C F;subst I;obtain⟨_,C,rfl⟩:=F.g C 19 J;obtain⟨_,C,rfl⟩:=F.g C 16 J;rw [if_neg (ap J J C J J J)];intro d V;rfl
     ·intro a w M I G C F;subst I;obtain⟨_,C,rfl⟩:=F.g C 16 J;rw [if_neg (ap J J C J J J)];intro d V;rfl
     ·intro a w M I G C F;subst I;obtain⟨_,C,rfl⟩:=F.g C 20 J;obtain⟨_,C,rfl⟩:=F.g C 21 J;obtain⟨_,C,rfl⟩:=F.g C 16 J;rw [if_neg (ap J J C J J J)];intro d V;rfl
     ·intro a w M I G C F;subst I;obtain⟨_,C,rfl⟩:=F.g C 22 J;obtain⟨_,C,rfl⟩:=F.g C 16 J;rw [if_neg (ap J J C J J J)];intro d V;rfl
     ·refine Qz1 16 J fun a w G C F=>?_;obtain⟨_,C,rfl⟩:=F.g C 23 J;exact an C J J J fun a C=>qe C G
     subst bi;obtain⟨_,C,rfl⟩:=Dd C a0 24 J;refine aa (ao C J (wp_seq (ab (Lm J C fun a C=>?_))));refine lin J (aF (i:=left) (j:=1) C J J J j0 fun a C=>?_);refine Ls J C fun a C=>?_;refine wpList_nil (aa (wp_ret (af (ret1 J C J ?_))));refine⟨congrArg _ (congrArg _ ?_),G.plain.drop_all⟩
     first |(rw [<- a1,bZ ht0,if_pos (by assumption)]) |(rw [cQ,if_pos (by simp [badB,T,O,X,Y])])
    ·have a6:=G;refine bD ba [FcV (iV deep),FcV (.bool false),FcV (.bool false),FcV (iV left),FcV (.bool false),FcV (.bool false),FcV (.bool false),FcV (pB a2),FcV (iV t.kind),FcV (.bool false),FcV (.bool false),FcV (.bool false),FcV (pB a2),FcV (iV t.kind),FcV (.bool false),FcV (.bool false),FcV (.bool false),FcV (pB a2),FcV (iV t.kind),FcV (.pointer (some ⟨a4,0+(Int.toNat t.kind) * 1,none⟩)),FcV (.func (.func (fnum t.kind)) #[] #[.pointer (some ⟨bb,0,none⟩)]),FcV (tv t A c),FcV (.bool (formB t.kind t)),FcV (.bool (!(formB t.kind t))),FcV (.bool (!(formB t.kind t)))] (N:=63) (E:= a3) mixed J Mq G (C.pk J) (.c4 ?_ ?_ ?_ ?_ (.c4 ?_ ?_ ?_ ?_ (.c4 ?_ ?_ ?_ ?_ (.c4 ?_ ?_ ?_ ?_ (.c4 ?_ ?_ ?_ ?_ (.c4 ?_ ?_ ?_ ?_ (.cons ?_ (.nil)))))))) (fun a w br bj G C a0=>?_)
     ·refine Qz J fun a w G C F=>?_;exact aq C J J fun a C=>qe C G
     ·refine Qz1 0 J fun a w G C F=>?_;refine id (aQ (i:=deep) (j:=1) C J J J fun a C=>?_);exact qdone J C G (by first |(rw [decide_eq_true T] <;> rfl) |(rw [decide_eq_false T] <;> rfl) |(rw [T] <;> rfl) | simp [T])
     ·refine Qz1 1 J fun a w G C F=>?_;refine id (aq C J J fun a C=>?_);exact qdone J C G (by first |(rw [decide_eq_true T] <;> rfl) |(rw [decide_eq_false T] <;> rfl) |(rw [T] <;> rfl) | simp [T])
     ·intro a w M I G C F;subst I;obtain⟨_,C,rfl⟩:=F.g C 2 J;rw [if_pos (ay J C J J J)];exact aq C J J fun a C=>qe C G
     ·intro a w M I G C F;subst I;obtain⟨_,C,rfl⟩:=F.g C 3 J;obtain⟨_,C,rfl⟩:=F.g C 2 J;rw [if_pos (ay J C J J J)];refine id (aQ (i:=left) (j:=1) C J J J fun a C=>?_);exact qdone J C G (by first |(rw [decide_eq_true O] <;> rfl) |(rw [decide_eq_false O] <;> rfl) |(rw [O] <;> rfl) | simp [O])
     ·refine Qz1 2 J fun a w G C F=>?_;obtain⟨_,C,rfl⟩:=F.g C 4 J;refine id (ak C J J J fun a C=>?_);exact qdone J C G (by first |(rw [decide_eq_true O] <;> rfl) |(rw [decide_eq_false O] <;> rfl) |(rw [O] <;> rfl) | simp [O])
     ·refine Qz1 5 J fun a w G C F=>?_;refine id (aq C J J fun a C=>?_);exact qdone J C G (by first |(rw [decide_eq_true O] <;> rfl) |(rw [decide_eq_false O] <;> rfl) |(rw [O] <;> rfl) | simp [O])
     ·intro a w M I G C F;subst I;obtain⟨_,C,rfl⟩:=F.g C 6 J;rw [if_pos (ay J C J J J)];exact ac (f:=0) (o2:=0) T41 T3 J J J J C J J fun a C=>qe C G
     ·intro a w M I G C F;subst I;obtain⟨_,C,rfl⟩:=F.g C 7 J;obtain⟨_,C,rfl⟩:=F.g C 6 J;rw [if_pos (ay J C J J J)];exact ae (v:=(iV t.kind)) T3 J C J (G.blkL 1 J) J J fun a C=>qe C G
     ·intro a w M I G C F;subst I;obtain⟨_,C,rfl⟩:=F.g C 8 J;obtain⟨_,C,rfl⟩:=F.g C 6 J;rw [if_pos (ay J C J J J)];refine id (aQ (i:=t.kind) (j:=1) C J J J fun a C=>?_);exact qdone J C G (by first |(rw [decide_eq_true X] <;> rfl) |(rw [decide_eq_false X] <;> rfl) |(rw [X] <;> rfl) | simp [X])
     ·refine Qz1 6 J fun a w G C F=>?_;obtain⟨_,C,rfl⟩:=F.g C 9 J;refine id (ak C J J J fun a C=>?_);exact qdone J C G (by first |(rw [decide_eq_true X] <;> rfl) |(rw [decide_eq_false X] <;> rfl) |(rw [X] <;> rfl) | simp [X])
     ·refine Qz1 10 J fun a w G C F=>?_;refine id (aq C J J fun a C=>?_);exact qdone J C G (by first |(rw [decide_eq_true X] <;> rfl) |(rw [decide_eq_false X] <;> rfl) |(rw [X] <;> rfl) | simp [X])
     ·intro a w M I G C F;subst I;obtain⟨_,C,rfl⟩:=F.g C 11 J;rw [if_pos (ay J C J J J)];exact ac (f:=0) (o2:=0) T41 T3 J J J J C J J fun a C=>qe C G
     ·intro a w M I G C F;subst I;obtain⟨_,C,rfl⟩:=F.g C 12 J;obtain⟨_,C,rfl⟩:=F.g C 11 J;rw [if_pos (ay J C J J J)];exact ae (v:=(iV t.kind)) T3 J C J (G.blkL 1 J) J J fun a C=>qe C G
     ·intro a w M I G C F;subst I;obtain⟨_,C,rfl⟩:=F.g C 13 J;obtain⟨_,C,rfl⟩:=F.g C 11 J;rw [if_pos (ay J C J J J)];refine id (cx (i:=t.kind) (j:=6) C J J J fun a C=>?_);exact qdone J C G (by first |(rw [decide_eq_true Y] <;> rfl) |(rw [decide_eq_false Y] <;> rfl) |(rw [Y] <;> rfl) | simp [Y])
     ·refine Qz1 11 J fun a w G C F=>?_;obtain⟨_,C,rfl⟩:=F.g C 14 J;refine id (ak C J J J fun a C=>?_);exact qdone J C G (by first |(rw [decide_eq_true Y] <;> rfl) |(rw [decide_eq_false Y] <;> rfl) |(rw [Y] <;> rfl) | simp [Y])
     ·refine Qz1 15 J fun a w G C F=>?_;refine id (aq C J J fun a C=>?_);exact qdone J C G (by first |(rw [decide_eq_true Y] <;> rfl) |(rw [decide_eq_false Y] <;> rfl) |(rw [Y] <;> rfl) | simp [Y])
     ·intro a w M I G C F;subst I;obtain⟨_,C,rfl⟩:=F.g C 16 J;rw [if_pos (ay J C J J J)];exact ac (f:=0) (o2:=0) T41 T3 J J J J C J J fun a C=>qe C G
     ·intro a w M I G C F;subst I;obtain⟨_,C,rfl⟩:=F.g C 17 J;obtain⟨_,C,rfl⟩:=F.g C 16 J;rw [if_pos (ay J C J J J)];exact ae (v:=(iV t.kind)) T3 J C J (G.blkL 1 J) J J fun a C=>qe C G
     ·intro a w M I G C F;subst I;obtain⟨_,C,rfl⟩:=F.g C 18 J;obtain⟨_,C,rfl⟩:=F.g C 16 J;rw [if_pos (ay J C J J J)];exact o_indexArr (j:=(Int.toNat t.kind)) T200.und T199 C J J j0 j0 J fun a C=>qe C G
     ·intro a w M I G C F;subst I;obtain⟨_,C,rfl⟩:=F.g C 19 J;obtain⟨_,C,rfl⟩:=F.g C 16 J;rw [if_pos (ay J C J J J)];exact ae (v:=(.func (.func (fnum t.kind)) #[] #[.pointer (some ⟨bb,0,none⟩)])) T199 J C J (G.blkL 0 J) (fcell j0 j0) J fun a C=>qe C G
     ·intro a w M I G C F;subst I;obtain⟨_,C,rfl⟩:=F.g C 16 J;rw [if_pos (ay J C J J J)];exact am (vs:=(tL t A c)) T41 J C J (G.blkL 1 J) J (aj J) J fun a C=>qe C G
     ·intro a w M I G C F;subst I;obtain⟨_,C,rfl⟩:=F.g C 20 J;obtain⟨_,C,rfl⟩:=F.g C 21 J;obtain⟨_,C,rfl⟩:=F.g C 16 J;rw [if_pos (ay J C J J J)];obtain⟨c0,bz,bc,b9,bf⟩:=ffunc (k:=t.kind);refine id (a8 bc b9 bf (C.evs J) C J J (c_form G.inv.nil b2 hr t.kind) ?_);rintro e w ⟨rfl,b7⟩;refine⟨_,rfl,fun a C=>?_⟩;have G:=G.call b7;exact qe C G
     ·intro a w M I G C F;subst I;obtain⟨_,C,rfl⟩:=F.g C 22 J;obtain⟨_,C,rfl⟩:=F.g C 16 J;rw [if_pos (ay J C J J J)];exact aK C J J fun a C=>qe C G
     ·refine Qz1 16 J fun a w G C F=>?_;obtain⟨_,C,rfl⟩:=F.g C 23 J;exact ak C J J J fun a C=>qe C G
     subst bj;obtain⟨_,C,rfl⟩:=Dd C a0 24 J;refine aa (au (t:=36) C J (fun a5 C=>?_) (fun a5 C=>?_))
     ·refine ao C J (wp_seq (ab (Lm J C fun a C=>?_)));refine lin J (aF (i:=left) (j:=1) C J J J j0 fun a C=>?_);refine Ls J C fun a C=>?_;refine wpList_nil (aa (wp_ret (af (ret1 J C J ?_))));refine⟨congrArg _ (congrArg _ ?_),G.plain.drop_all⟩
      first |(rw [<- a1,bZ ht0,if_pos (by assumption)]) |(rw [cQ,if_pos (by simp [badB,T,O,X,Y,a5])])
     ·refine ag C J (wp_skip (aa (wp_seq (ab (Ls J C fun a C=>?_)))));refine wpList_nil (aa (wp_seq (wp_seq (ab (lin J (ac (f:=3) (o2:=3) T41 T39 J J J J C J J fun a C=>?_))))));refine lin J (ae (v:=(.slice A t.l.length c)) T39 J C J (G.blkL 1 J) J J fun a C=>?_);refine lin J (aI T39.und C J J fun a C=>?_);refine Lm J C fun a C=>?_;refine wpList_nil (aa (wp_block (aL (fun bn a w=> ∃(k: Nat),∃(n: Int),bn=t.l.length - k/\Has [] a 63 [(1,(iV left)),(2,(iV deep)),(7,(pB a4)),(9,(iV n)),(40,(.slice A t.l.length c)),(41,(iV ((t.l.length: Nat): Int))),(42,(iV ((k: Nat): Int)))]/\Step w0 H [] w H [(some a4,(.cells #[.nilFunc,(.func (.func 170) #[] #[.pointer (some ⟨bb,0,none⟩)]),(.func (.func 171) #[] #[.pointer (some ⟨bb,0,none⟩)]),(.func (.func 172) #[] #[.pointer (some ⟨bb,0,none⟩)]),(.func (.func 174) #[] #[.pointer (some ⟨bb,0,none⟩)]),(.func (.func 175) #[] #[.pointer (some ⟨bb,0,none⟩)]),(.func (.func 176) #[] #[.pointer (some ⟨bb,0,none⟩)])] 200 (0,0))),(some a2,(.cells (tA t A c) 41 (0,0)))]/\(k<=t.l.length)/\(0<=n/\n<=left)/\(cntL left deep n (t.l.drop k)=cnt left deep t)) _ ⟨0,1,rfl,C.pk J,G,j0,j0,(by rw [cQ,if_neg (by simp [badB,T,O,X,Y,a5])];rfl)⟩ ?_)));intro c8 a w bg;obtain⟨k,n,c7,C,G,hk,c6,a1⟩:=bg;refine wp_seq (ab (lin J (aQ (i:=((k: Nat): Int)) (j:=((t.l.length: Nat): Int)) C J J J fun a C=>?_)));refine wpList_nil (aa (wp_seq (ai (t:=43) C J (fun ax C=>?_) (fun ax C=>?_))))
      ·refine ao C J (wp_skip (aa (wp_seq (wp_block (wp_seq (ab ?_))))));obtain⟨Z,b3,bo,bx,bw,c1,a7,a9,ah,b4,b6,b8,bm⟩:=hr.get (j:=k) j0;refine lin J (az (b:=b3) (o:=bo) (j:=k) T39.und T41 b4 C J J j0 j0 J fun a C=>?_);refine lin J (am (vs:=(tL Z a7 a9)) T41 J C J (G.blkH b6) J b8 J fun a C=>?_);refine lin J (aB (cs:=aZ) T41 G C J J fun bv a w G C=>?_);refine lin J (al (cs':=(tA Z a7 a9)) T41 G (i:=0) J C J J J J J J fun a w G C=>?_);refine wpList_nil (aa (wp_seq (ab (Lm J C fun a C=>?_))));refine lin J (am (vs:=(tL Z a7 a9)) T41 J C J (G.blkL 0 J) J (aj J) J fun a C=>?_);refine Lm J C fun a C=>?_;refine Lm J C fun a C=>?_;refine lin J (cK (i:=left) (j:=n) C J J J j0 fun a C=>?_);refine Lm J C fun a C=>?_;refine lin J (cK (i:=deep) (j:=1) C J J J j0 fun a C=>?_);refine lin J (am (vs:= [.nilFunc,(.func (.func 170) #[] #[.pointer (some ⟨bb,0,none⟩)]),(.func (.func 171) #[] #[.pointer (some ⟨bb,0,none⟩)]),(.func (.func 172) #[] #[.pointer (some ⟨bb,0,none⟩)]),(.func (.func 174) #[] #[.pointer (some ⟨bb,0,none⟩)]),(.func (.func 175) #[] #[.pointer (some ⟨bb,0,none⟩)]),(.func (.func 176) #[] #[.pointer (some ⟨bb,0,none⟩)])]) T200 J C J (G.blkL 1 J) J (aj J) J fun a C=>?_);refine lin J (Cs func158 C J (ih _ _ ah _ _ _ _ _ _ _ b2 j0 j0 bm G.inv.nil) G fun a w C G=>?_);have ad:=cT Z (left - n) (deep - 1) j0;refine lin J (aF (i:=n) (j:=(cnt (left - n) (deep - 1) Z)) C J J J j0 fun a C=>?_);refine Ls J C fun a C=>?_;refine wpList_nil (aa (wp_seq (ab (Lm J C fun a C=>?_))));refine Lm J C fun a C=>?_;refine lin J (cx (i:=(n+(cnt (left - n) (deep - 1) Z))) (j:=left) C J J J fun a C=>?_);refine wpList_nil (aa (ai (t:=58) C J (fun b1 C=>?_) (fun b1 C=>?_)))
       ·refine ao C J (wp_seq (ab (Lm J C fun a C=>?_)));have ad:=cT Z (left - n) (deep - 1) j0;refine lin J (aF (i:=left) (j:=1) C J J J j0 fun a C=>?_);refine Ls J C fun a C=>?_;refine wpList_nil (aa (wp_ret (av (af (af (av (af (ret1 J C J ?_))))))));refine⟨congrArg _ (congrArg _ ?_),G.plain.drop_all⟩
        first |(rw [<- a1,bZ ah,if_pos (by assumption)]) |(rw [cQ,if_pos (by simp [badB,T,O,X,Y,a5,ax,b1])])
       ·refine ag C J (wp_skip (ar (aa (ab ?_))));have ad:=cT Z (left - n) (deep - 1) j0;refine lin J (aF (i:=((k: Nat): Int)) (j:=1) C J J J j0 fun a C=>?_);refine Lm J C fun a C=>?_;refine wpList_nil (aa (?_));have ad:=cT Z (left - n) (deep - 1) j0;rw [bZ ah,if_neg (by assumption)] at a1;have G:=G.drop;exact⟨t.l.length - (k+1),by omega,(k+1),(n+cnt (left - n) (deep - 1) Z),rfl,C.pk J,G,j0,j0,a1⟩
      ·refine ag C J (wp_exit (aw (aw (aH (aa (wp_seq (ab (Lm J C fun a C=>?_))))))));refine Ls J C fun a C=>?_;refine wpList_nil (aa (wp_ret (ret1 J C J ?_)));refine⟨congrArg _ (congrArg _ ?_),G.plain.drop_all⟩;rw [<- a1,List.drop_of_length_le j0,cntL]
end Go.Vk.Tryz
namespace Go.Vk.Tryz
open Go.RowKit
theorem chkAll_drop {left: Int} {l: List Tm} {k: Nat} {u: Tm} (h: l[k]? =some u): chkAll left (l.drop k)=if left < cnt left 600 u then false else chkAll (left - cnt left 600 u) (l.drop (k+1)):=by
 have hk: k < l.length:=(List.getElem?_eq_some_iff.1 h).1;rw [List.drop_eq_getElem_cons hk,chkAll,(List.getElem?_eq_some_iff.1 h).2]
theorem c_CheckAll {w0: World} {H: PHeap} (hI: Inv w0 H []) {A: Option Addr} {c: Nat} {ts: List Tm} (hr: RowT H A c ts): Calls prog 139 #[(.slice A ts.length c)] w0 (Rs w0 H (iV (if chkAll 4000 ts then 0 else 3))):=by
 have F:=Step.refl hI;have aq:=hr.len;refine enter [(.slice A ts.length c)] func139 J ntmps139 J fun a C=>?_;refine wp_seq (ab (Ls J C fun a C=>?_));refine wpList_nil (aa (wp_seq (ab (lin J (Co func157 C J (c_forms F.inv.nil) ?_)))));rintro e w ⟨Z,G,rfl,a5,X⟩;refine⟨_,rfl,fun a C=>?_⟩;have F:=F.call X;have hr:=hr.mono X.le;refine lin J (aB (cs:= #[.nilFunc,.nilFunc,.nilFunc,.nilFunc,.nilFunc,.nilFunc,.nilFunc]) T200 F C J J fun V a w F C=>?_);refine Ls J C fun a C=>?_;refine lin J (al (cs':= #[.nilFunc,(.func (.func 170) #[] #[.pointer (some ⟨G,0,none⟩)]),(.func (.func 171) #[] #[.pointer (some ⟨G,0,none⟩)]),(.func (.func 172) #[] #[.pointer (some ⟨G,0,none⟩)]),(.func (.func 174) #[] #[.pointer (some ⟨G,0,none⟩)]),(.func (.func 175) #[] #[.pointer (some ⟨G,0,none⟩)]),(.func (.func 176) #[] #[.pointer (some ⟨G,0,none⟩)])]) T200 F (i:=0) J C J J J J J J fun a w F C=>?_);refine wpList_nil (aa (wp_seq (wp_seq (ab (Lm J C fun a C=>?_)))));refine lin J (aI T39.und C J J fun a C=>?_);refine Lm J C fun a C=>?_;refine wpList_nil (aa (wp_block ?_));refine aL (fun a9 a w=> ∃(k: Nat),∃(left: Int),a9=ts.length - k/\Has [] a 26 [(3,(iV left)),(4,(pB V)),(9,(.slice A ts.length c)),(10,(iV ((ts.length: Nat): Int))),(11,(iV ((k: Nat): Int)))]/\Step w0 H [] w Z [(some V,(.cells #[.nilFunc,(.func (.func 170) #[] #[.pointer (some ⟨G,0,none⟩)]),(.func (.func 171) #[] #[.pointer (some ⟨G,0,none⟩)]),(.func (.func 172) #[] #[.pointer (some ⟨G,0,none⟩)]),(.func (.func 174) #[] #[.pointer (some ⟨G,0,none⟩)]),(.func (.func 175) #[] #[.pointer (some ⟨G,0,none⟩)]),(.func (.func 176) #[] #[.pointer (some ⟨G,0,none⟩)])] 200 (0,0)))]/\(k<=ts.length)/\(0<=left/\left<=4000)/\(chkAll left (ts.drop k)=chkAll 4000 ts)) _ ⟨0,4000,rfl,C.pk J,F,by omega,by omega,rfl⟩ ?_;intro ax a w a7;obtain⟨k,left,au,C,F,hk,ap,M⟩:=a7;refine wp_seq (ab (lin J (aQ (i:=((k: Nat): Int)) (j:=((ts.length: Nat): Int)) C J J J fun a C=>?_)));refine wpList_nil (aa (wp_seq (ai (t:=12) C J (fun a1 C=>?_) (fun a1 C=>?_))))
 ·refine ao C J (wp_skip (aa (wp_seq (wp_block (wp_seq (ab ?_))))));obtain⟨I,a0,ac,ah,ae,ak,O,T,Y,a3,a4,a6,a8⟩:=hr.get (j:=k) j0;refine lin J (az (b:=a0) (o:=ac) (j:=k) T39.und T41 a3 C J J j0 j0 J fun a C=>?_);refine lin J (am (vs:=(tL I O T)) T41 J C J (F.blkH a4) J a6 J fun a C=>?_);refine lin J (aB (cs:=aZ) T41 F C J J fun ad a w F C=>?_);refine lin J (al (cs':=(tA I O T)) T41 F (i:=0) J C J J J J J J fun a w F C=>?_);refine wpList_nil (aa (wp_seq (ab (lin J (am (vs:=(tL I O T)) T41 J C J (F.blkL 0 J) J (aj J) J fun a C=>?_)))));refine Lm J C fun a C=>?_;refine lin J (am (vs:= [.nilFunc,(.func (.func 170) #[] #[.pointer (some ⟨G,0,none⟩)]),(.func (.func 171) #[] #[.pointer (some ⟨G,0,none⟩)]),(.func (.func 172) #[] #[.pointer (some ⟨G,0,none⟩)]),(.func (.func 174) #[] #[.pointer (some ⟨G,0,none⟩)]),(.func (.func 175) #[] #[.pointer (some ⟨G,0,none⟩)]),(.func (.func 176) #[] #[.pointer (some ⟨G,0,none⟩)])]) T200 J C J (F.blkL 1 J) J (aj J) J fun a C=>?_);refine lin J (Cs func158 C J (c_count _ _ _ _ _ _ _ _ a5 j0 j0 a8 F.inv.nil) F fun a w C F=>?_);have an:=cT I left 600 j0;refine Ls J C fun a C=>?_;refine wpList_nil (aa (wp_seq (wp_seq (ab (Lm J C fun a C=>?_)))));refine Lm J C fun a C=>?_;refine lin J (cx (i:=(cnt left 600 I)) (j:=left) C J J J fun a C=>?_);refine wpList_nil (aa (ai (t:=21) C J (fun a2 C=>?_) (fun a2 C=>?_)))
  ·refine ao C J (wp_seq (ab (Ls J C fun a C=>?_)));refine wpList_nil (aa (wp_ret (af (av (af (af (av (af (ret1 J C J ?_)))))))));refine⟨congrArg _ (congrArg _ ?_),F.plain.drop_all⟩;rw [show chkAll 4000 ts=false from by rw [<- M,chkAll_drop Y,if_pos (by assumption)]];rfl
  ·refine ag C J (wp_skip (aa (ab (Lm J C fun a C=>?_))));refine Lm J C fun a C=>?_;refine lin J (cK (i:=left) (j:=(cnt left 600 I)) C J J J j0 fun a C=>?_);refine Ls J C fun a C=>?_;refine wpList_nil (ar (aa (ab (lin J (aF (i:=((k: Nat): Int)) (j:=1) C J J J j0 fun a C=>?_)))));refine Lm J C fun a C=>?_;refine wpList_nil (aa (?_));rw [chkAll_drop Y,if_neg (by assumption)] at M;have F:=F.drop;exact⟨ts.length - (k+1),by omega,(k+1),(left - cnt left 600 I),rfl,C.pk J,F,j0,j0,M⟩
 ·refine ag C J (wp_exit (aw (aw (aH (aa (wp_seq (ab (Ls J C fun a C=>?_))))))));refine wpList_nil (aa (wp_ret (ret1 J C J ?_)));refine⟨congrArg _ (congrArg _ ?_),F.plain.drop_all⟩;rw [show chkAll 4000 ts=true from by rw [<- M,List.drop_of_length_le j0,chkAll]];rfl
theorem eR {w0: World} {H: PHeap} (hI: Inv w0 H []) {t: Tm} {A: Option Addr} {c: Nat} (hr: RowT H A c t.l): Calls prog 109 #[(tv t A c)] w0 (Rs w0 H (iV (if isTm t then 0 else 3))):=by
 have F:=Step.refl hI;refine enter [(tv t A c)] func109 J ntmps109 J fun a C=>?_;refine wp_seq (ab (lin J (aG (cs:=(tA t A c)) F C J J J fun X a w F C=>?_)));refine Ls J C fun a C=>?_;refine wpList_nil (aa (wp_seq (ab (lin J (am (vs:=(tL t A c)) T41 J C J (F.blkL 0 J) J (aj J) J fun a C=>?_)))));refine lin J (a6 (vs:= [(0,(tv t A c))]) (cells:=(tL t A c)) T39.und T41 F C (C.evp J) J J J J fun I a w F C=>?_);obtain⟨G,F,T,M⟩:=F.give;have hr:=hr.mono T;have V: RowT G (some ⟨I,0,none⟩) 1 [t]:=RowT.of_lit ([⟨t,A,c⟩]: List TV) M (AllR.cons hr (AllR.nil _)) j1 J;have O:=c_CheckAll F.inv.nil V;refine lin J (Cs func139 C J (O) F fun a w C F=>?_);refine Ls J C fun a C=>?_;refine wpList_nil (aa (wp_ret (ret1 J C J ?_)));refine⟨congrArg _ ?_,F.plain.drop_all⟩;unfold isTm;rfl
theorem c_Size: ∀(t: Tm) (A: Option Addr) (c: Nat) (w0: World) (H: PHeap),RowT H A c t.l->t.sz<=1000000000000->Inv w0 H []->Calls prog 161 #[(tv t A c)] w0 (Rs w0 H (.tuple #[.int .i64 ((t.sz: Nat): Int),.int .i64 ((dep t: Nat): Int)])):=by
 refine Tm.ind fun t ih=>?_;intro A c w0 H hr ap a0;have F:=Step.refl a0;have al:=hr.len;have a7:=t.sz_eq;have a3:=gi t;have ak:=cN t.l;refine enter [(tv t A c)] func161 J ntmps161 J fun a C=>?_;refine wp_seq (ab (lin J (aG (cs:=(tA t A c)) F C J J J fun M a w F C=>?_)));refine Ls J C fun a C=>?_;refine Ls J C fun a C=>?_;refine wpList_nil (aa (wp_seq (ab (Ls J C fun a C=>?_))));refine wpList_nil (aa (wp_seq (ab (Ls J C fun a C=>?_))));refine wpList_nil (aa (wp_seq (wp_seq (ab (Ls J C fun a C=>?_)))));refine wpList_nil (aa (wp_block ?_));refine aL (fun a8 a w=> ∃(k: Nat),a8=t.l.length - k/\Has [] a 34 [(1,(pB M)),(4,(iV (1+((Tm.szL (t.l.take k): Nat): Int)))),(5,(iV ((depL (t.l.take k): Nat): Int))),(6,(iV ((k: Nat): Int)))]/\Step w0 H [] w H [(some M,(.cells (tA t A c) 41 (0,0)))]/\(k<=t.l.length)) _ ⟨0,rfl,C.pk J,F,by omega⟩ ?_;intro ay a w a5;obtain⟨k,an,C,F,hk⟩:=a5;have av:=bB t.l k;have ax:=cN (t.l.take k);refine wp_seq (wp_seq (ab (Lm J C fun a C=>?_)));refine lin J (ac (f:=3) (o2:=3) T41 T39 J J J J C J J fun a C=>?_);refine lin J (ae (v:=(.slice A t.l.length c)) T39 J C J (F.blkL 0 J) J J fun a C=>?_);refine lin J (aI T39.und C J J fun a C=>?_);refine lin J (aQ (i:=((k: Nat): Int)) (j:=((t.l.length: Nat): Int)) C J J J fun a C=>?_);refine wpList_nil (aa (ai (t:=13) C J (fun Y C=>?_) (fun Y C=>?_)))
 ·refine ao C J (wp_skip (aa (wp_seq (wp_block (wp_seq (ab (lin J (ac (f:=3) (o2:=3) T41 T39 J J J J C J J fun a C=>?_))))))));refine lin J (ae (v:=(.slice A t.l.length c)) T39 J C J (F.blkL 0 J) J J fun a C=>?_);refine Lm J C fun a C=>?_;obtain⟨G,V,a9,af,ad,aj,T,X,I,Z,a1,a2,a6⟩:=hr.get (j:=k) j0;refine lin J (az (b:=V) (o:=a9) (j:=k) T39.und T41 Z C J J j0 j0 J fun a C=>?_);refine lin J (am (vs:=(tL G T X)) T41 J C J (F.blkH a1) J a2 J fun a C=>?_);have aq:=Tm.szL_get I;have au:=bB t.l k;refine lin J (Cs func161 C J (ih _ _ I _ _ _ _ a6 j0 F.inv.nil) F fun a w C F=>?_);refine Lm J C fun a C=>?_;refine lin J (ah (v:=(iV ((G.sz: Nat): Int))) C J J J fun a C=>?_);refine lin J (ah (v:=(iV (((dep G): Nat): Int))) C J J J fun a C=>?_);refine Ls J C fun a C=>?_;refine Ls J C fun a C=>?_;refine wpList_nil (aa (wp_seq (ab (Lm J C fun a C=>?_))));refine Lm J C fun a C=>?_;refine lin J (aF (i:=(1+((Tm.szL (t.l.take k): Nat): Int))) (j:=((G.sz: Nat): Int)) C J J J j0 fun a C=>?_);refine Ls J C fun a C=>?_;refine wpList_nil (aa (ab (Lm J C fun a C=>?_)));refine Lm J C fun a C=>?_;refine lin J (o_max (i:=((depL (t.l.take k): Nat): Int)) (j:=(((dep G): Nat): Int)) C J J J fun a C=>?_);refine Ls J C fun a C=>?_;refine wpList_nil (ar (aa (ab (Lm J C fun a C=>?_))));refine lin J (aF (i:=((k: Nat): Int)) (j:=1) C J J J j0 fun a C=>?_);refine Ls J C fun a C=>?_;refine wpList_nil (aa (?_));have O:=bY I;exact⟨t.l.length - (k+1),by omega,(k+1),rfl,Has.cons C J (Has.cons C (by rw [O,szL_snoc];simp only [lk,Nat.beq,cond_true,cond_false];congr 2;omega) (Has.cons C (by rw [O,depL_snoc];simp only [lk,Nat.beq,cond_true,cond_false];congr 2;omega) (C.pk J))),F,j0⟩
 ·refine ag C J (wp_exit (aw (aw (aH (aa (wp_seq (ab (Lm J C fun a C=>?_))))))));refine Lm J C fun a C=>?_;refine lin J (aF (i:=((depL (t.l.take k): Nat): Int)) (j:=1) C J J J j0 fun a C=>?_);refine Ls J C fun a C=>?_;refine Ls J C fun a C=>?_;refine wpList_nil (aa (wp_ret (ret2 J C J J ?_)));have a4: t.l.take k=t.l:=List.take_of_length_le j0;rw [a4];refine⟨?_,F.plain.drop_all⟩;rw [a7,a3,Int.natCast_add,Int.natCast_add];rfl
end Go.Vk.Tryz
namespace Go.Vk.Tryz
open Go.RowKit
theorem name_no {s: ByteArray} {k: Nat} {u: UInt8} (hu: s.data[k]? =some u) (h: u.toNat < 32\/126 < u.toNat): nameB s=false:=by
 unfold nameB;rw [show s.data.toList.all nby=false from by
  rw [Bool.eq_false_iff];intro C;have:=List.all_eq_true.1 C u (Array.mem_toList_iff.2 (Array.mem_of_getElem? hu));simp only [nby,Bool.and_eq_true,decide_eq_true_eq] at this;omega,Bool.and_false]
theorem name_yes {s: ByteArray} (h: s.data.toList.all nby=true):(decide ((1: Int)<=(((s).size: Nat): Int))&&decide ((((s).size: Nat): Int)<=32))=nameB s:=by
 unfold nameB;rw [h,Bool.and_true]
 congr 1 <;> · rw [Bool.eq_iff_iff,decide_eq_true_eq,decide_eq_true_eq];omega
theorem name_step {s: ByteArray} {k: Nat} {u: UInt8} (hall: ∀(j: Nat) (u: UInt8),j < k->s.data[j]? =some u->nby u=true) (hu: s.data[k]? =some u) (h: 32<=u.toNat/\u.toNat<=126): ∀(j: Nat) (u: UInt8),j < k+1->s.data[j]? =some u->nby u=true:=by
 intro j v C hv
 rcases Nat.lt_succ_iff_lt_or_eq.1 C with h1 | h1
 ·exact hall j v h1 hv
 ·subst h1;rw [hu] at hv;rw [<- Option.some.inj hv];simpa [nby] using h
theorem c_RName {w0: World} {H: PHeap} (hI: Inv w0 H []) {s: ByteArray} (hs: s.size<=2000000): Calls prog 181 #[(.string s)] w0 (Rs w0 H (.bool (nameB s))):=by
 have F:=Step.refl hI;refine enter [(.string s)] func181 J ntmps181 J fun a C=>?_;refine wp_seq (ab (Ls J C fun a C=>?_));refine wpList_nil (aa (wp_seq (wp_seq (ab (Ls J C fun a C=>?_)))));refine wpList_nil (aa (wp_block ?_));refine aL (fun X a w=> ∃(k: Nat),X=s.size - k/\Has [] a 28 [(0,(.string s)),(3,(iV ((k: Nat): Int)))]/\Step w0 H [] w H []/\(k<=s.size)/\(∀(j: Nat) (u: UInt8),j < k->s.data[j]? =some u->nby u=true)) _ ⟨0,rfl,C.pk J,F,by omega,fun j u h=>by omega⟩ ?_;intro Z a w V;obtain⟨k,Y,C,F,hk,T⟩:=V;refine wp_seq (wp_seq (ab (Lm J C fun a C=>?_)));refine Lm J C fun a C=>?_;refine lin J (cy T9.und C J J fun a C=>?_);refine lin J (aQ (i:=((k: Nat): Int)) (j:=(((s).size: Nat): Int)) C J J J fun a C=>?_);refine wpList_nil (aa (ai (t:=7) C J (fun h2 C=>?_) (fun h2 C=>?_)))
 ·obtain⟨u,hu⟩: ∃ u,s.data[k]? =some u:=⟨_,Array.getElem?_eq_getElem (show k < s.data.size from by have: s.size=s.data.size:=rfl;omega)⟩;refine ao C J (wp_skip (aa (wp_seq (wp_block (wp_seq (bH (D:= []) (N:=28) (E:= [(0,(.string s)),(3,(iV ((k: Nat): Int))),(19,(.bool ((decide (((u.toNat: Nat): Int) < 32))||(decide (126 <((u.toNat: Nat): Int))))))]) (fun a C=>?_) ?_))))));rotate_left
  ·refine Lm J C fun a C=>?_;refine Lm J C fun a C=>?_;refine lin J (o_indexS (j:=k) (u:=u) T9.und C J J J hu J fun a C=>?_);refine lin J (aQ (i:=((u.toNat: Nat): Int)) (j:=32) C J J J fun a C=>?_);refine Lm J C fun a C=>?_;refine ai (t:=14) C J (fun G C=>?_) (fun G C=>?_)
   ·refine Lf J C J J fun a C=>?_;refine Lf J C J J fun a C=>?_;refine Lf J C J J fun a C=>?_;refine Lf J C J J fun a C=>?_;refine lin J (an C J J J fun a C=>?_);exact wpList_nil ⟨rfl,rfl,Has.cons C J (Has.cons C J (Has.cons C (by simp [lk,Nat.beq,h2,G]) (C.nil)))⟩
   ·refine ad J C J J J (aq C J J fun a C=>?_);refine ad J C J J J (aq C J J fun a C=>?_);refine ad J C J J J (o_indexS (j:=k) (u:=u) T9.und C J J J hu J fun a C=>?_);refine ad J C J J J (cx (i:=((u.toNat: Nat): Int)) (j:=126) C J J J fun a C=>?_);refine lin J (ak C J J J fun a C=>?_);exact wpList_nil ⟨rfl,rfl,Has.cons C J (Has.cons C J (Has.cons C (by simp [lk,Nat.beq,h2,G]) (C.nil)))⟩
  refine aa (au (t:=19) C J (fun I C=>?_) (fun I C=>?_))
  ·refine ao C J (wp_seq (ab (Ls J C fun a C=>?_)));refine wpList_nil (aa (wp_ret (av (af (af (av (af (ret1 J C J ?_))))))));refine⟨congrArg _ (congrArg _ ?_),F.plain.drop_all⟩;exact(name_no hu (by have O:=I;simp at O;omega)).symm
  ·refine ag C J (wp_skip (ar (aa (ab (Lm J C fun a C=>?_)))));refine lin J (aF (i:=((k: Nat): Int)) (j:=1) C J J J j0 fun a C=>?_);refine Ls J C fun a C=>?_;refine wpList_nil (aa (?_));exact⟨s.size - (k+1),by omega,(k+1),rfl,C.pk J,F,j0,name_step T hu (by have O:=I;simp at O;omega)⟩
 ·refine ag C J (wp_exit (aw (aw (aH (aa (wp_seq (bH (D:= []) (N:=28) (E:= [(0,(.string s)),(2,(.bool ((decide (1<=(((s).size: Nat): Int)))&&(decide ((((s).size: Nat): Int)<=32)))))]) (fun a C=>?_) ?_)))))));rotate_left
  ·refine Lm J C fun a C=>?_;refine lin J (cy T9.und C J J fun a C=>?_);refine lin J (co (i:=(((s).size: Nat): Int)) (j:=1) C J J J fun a C=>?_);refine Lm J C fun a C=>?_;refine ai (t:=23) C J (fun M C=>?_) (fun M C=>?_)
   ·refine ad J C J J J (aq C J J fun a C=>?_);refine ad J C J J J (cy T9.und C J J fun a C=>?_);refine ad J C J J J (cY (i:=(((s).size: Nat): Int)) (j:=32) C J J J fun a C=>?_);refine lin J (an C J J J fun a C=>?_);refine Ls J C fun a C=>?_;exact wpList_nil ⟨rfl,rfl,Has.cons C J (Has.cons C (by simp [lk,Nat.beq,h2,M]) (C.nil))⟩
   ·refine Lf J C J J fun a C=>?_;refine Lf J C J J fun a C=>?_;refine Lf J C J J fun a C=>?_;refine lin J (ak C J J J fun a C=>?_);refine Ls J C fun a C=>?_;exact wpList_nil ⟨rfl,rfl,Has.cons C J (Has.cons C (by simp [lk,Nat.beq,h2,M]) (C.nil))⟩
  refine aa (wp_ret (ret1 J C J ?_));refine⟨congrArg _ (congrArg _ ?_),F.plain.drop_all⟩;exact name_yes (nby_all (p:=k) j0 T)
theorem c_node {w0: World} {H: PHeap} (hI: Inv w0 H []) {t: Tm} {A: Option Addr} {c: Nat} (hr: RowT H A c t.l) (hb: strB t=true): Calls prog 177 #[(tv t A c)] w0 (Rs w0 H (.bool (nodeR t))):=by
 have F:=Step.refl hI;refine enter [(tv t A c)] func177 J ntmps177 J fun a C=>?_;refine wp_seq (ab (lin J (aG (cs:=(tA t A c)) F C J J J fun V a w F C=>?_)));refine Ls J C fun a C=>?_;refine wpList_nil (aa (wp_seq (ab (lin J (ac (f:=3) (o2:=3) T41 T39 J J J J C J J fun a C=>?_)))));refine lin J (ae (v:=(.slice A t.l.length c)) T39 J C J (F.blkL 0 J) J J fun a C=>?_);refine lin J (aI T39.und C J J fun a C=>?_);refine Ls J C fun a C=>?_;refine wpList_nil (aa (wp_seq (wp_seq (ab (lin J (ac (f:=0) (o2:=0) T41 T3 J J J J C J J fun a C=>?_))))));refine lin J (ae (v:=(iV t.kind)) T3 J C J (F.blkL 0 J) J J fun a C=>?_);refine wpList_nil (aa (wp_block (wp_seq (ab (lin J (aJ (i:=t.kind) (j:=1) C J J J fun a C=>?_))))));refine Ls J C fun a C=>?_;refine wpList_nil (aa (ai (t:=9) C J (fun G C=>?_) (fun G C=>?_)))
 ·refine ao C J (wp_seq (bH (D:= []) (N:=108) (E:= [(1,(pB V)),(2,(.bool ((((decide (0<=t.n))&&(decide (t.n < 100000)))&&(decide (t.s=⟨#[]⟩)))&&(decide (((t.l.length: Nat): Int)=0))))),(3,(iV ((t.l.length: Nat): Int)))]) (fun a C=>?_) ?_));rotate_left
  ·refine lin J (ac (f:=1) (o2:=1) T41 T3 J J J J C J J fun a C=>?_);refine lin J (ae (v:=(iV t.n)) T3 J C J (F.blkL 0 J) J J fun a C=>?_);refine lin J (co (i:=t.n) (j:=0) C J J J fun a C=>?_);refine Lm J C fun a C=>?_;refine ai (t:=14) C J (fun Z C=>?_) (fun Z C=>?_)
   ·refine ad J C J J J (ac (f:=1) (o2:=1) T41 T3 J J J J C J J fun a C=>?_);refine ad J C J J J (ae (v:=(iV t.n)) T3 J C J (F.blkL 0 J) J J fun a C=>?_);refine ad J C J J J (aQ (i:=t.n) (j:=100000) C J J J fun a C=>?_);refine lin J (an C J J J fun a C=>?_);refine Lm J C fun a C=>?_;refine ai (t:=19) C J (fun a5 C=>?_) (fun a5 C=>?_)
    ·refine ad J C J J J (ac (f:=2) (o2:=2) T41 T9 J J J J C J J fun a C=>?_);refine ad J C J J J (ae (v:=(.string t.s)) T9 J C J (F.blkL 0 J) J J fun a C=>?_);refine ad J C J J J (dG C J J J fun a C=>?_);refine lin J (an C J J J fun a C=>?_);refine Lm J C fun a C=>?_;refine ai (t:=24) C J (fun al C=>?_) (fun al C=>?_)
     ·refine ad J C J J J (aq C J J fun a C=>?_);refine ad J C J J J (aJ (i:=((t.l.length: Nat): Int)) (j:=0) C J J J fun a C=>?_);refine lin J (an C J J J fun a C=>?_);refine Ls J C fun a C=>?_;exact wpList_nil ⟨rfl,rfl,Has.cons C J (Has.cons C (by simp [lk,Nat.beq,G,Z,a5,al]) (C.pk J))⟩
     ·refine Lf J C J J fun a C=>?_;refine Lf J C J J fun a C=>?_;refine lin J (ak C J J J fun a C=>?_);refine Ls J C fun a C=>?_;exact wpList_nil ⟨rfl,rfl,Has.cons C J (Has.cons C (by simp [lk,Nat.beq,G,Z,a5,al]) (C.pk J))⟩
    ·refine Lf J C J J fun a C=>?_;refine Lf J C J J fun a C=>?_;refine Lf J C J J fun a C=>?_;refine lin J (ak C J J J fun a C=>?_);refine Lm J C fun a C=>?_;refine Lf J C J J fun a C=>?_;refine Lf J C J J fun a C=>?_;refine lin J (ak C J J J fun a C=>?_);refine Ls J C fun a C=>?_;exact wpList_nil ⟨rfl,rfl,Has.cons C J (Has.cons C (by simp [lk,Nat.beq,G,Z,a5]) (C.pk J))⟩
   ·refine Lf J C J J fun a C=>?_;refine Lf J C J J fun a C=>?_;refine Lf J C J J fun a C=>?_;refine lin J (ak C J J J fun a C=>?_);refine Lm J C fun a C=>?_;refine Lf J C J J fun a C=>?_;refine Lf J C J J fun a C=>?_;refine Lf J C J J fun a C=>?_;refine lin J (ak C J J J fun a C=>?_);refine Lm J C fun a C=>?_;refine Lf J C J J fun a C=>?_;refine Lf J C J J fun a C=>?_;refine lin J (ak C J J J fun a C=>?_);refine Ls J C fun a C=>?_;exact wpList_nil ⟨rfl,rfl,Has.cons C J (Has.cons C (by simp [lk,Nat.beq,G,Z]) (C.pk J))⟩
  refine aa (wp_ret (av (af (ret1 J C J ?_))));refine⟨congrArg _ ?_,F.plain.drop_all⟩;simp [nodeR,G]
 ·refine ag C J (wp_seq (ab (lin J (aJ (i:=t.kind) (j:=2) C J J J fun a C=>?_))));refine Ls J C fun a C=>?_;refine wpList_nil (aa (ai (t:=28) C J (fun I C=>?_) (fun I C=>?_)))
  ·refine ao C J (wp_seq (bH (D:= []) (N:=108) (E:= [(1,(pB V)),(2,(.bool ((((decide ((-2147483647)<=t.n))&&(decide (t.n<=2147483647)))&&(decide (t.s=⟨#[]⟩)))&&(decide (((t.l.length: Nat): Int)=0))))),(3,(iV ((t.l.length: Nat): Int)))]) (fun a C=>?_) ?_));rotate_left
   ·refine lin J (ac (f:=1) (o2:=1) T41 T3 J J J J C J J fun a C=>?_);refine lin J (ae (v:=(iV t.n)) T3 J C J (F.blkL 0 J) J J fun a C=>?_);refine lin J (co (i:=t.n) (j:=(-2147483647)) C J J J fun a C=>?_);refine Lm J C fun a C=>?_;refine ai (t:=33) C J (fun a0 C=>?_) (fun a0 C=>?_)
    ·refine ad J C J J J (ac (f:=1) (o2:=1) T41 T3 J J J J C J J fun a C=>?_);refine ad J C J J J (ae (v:=(iV t.n)) T3 J C J (F.blkL 0 J) J J fun a C=>?_);refine ad J C J J J (cY (i:=t.n) (j:=2147483647) C J J J fun a C=>?_);refine lin J (an C J J J fun a C=>?_);refine Lm J C fun a C=>?_;refine ai (t:=38) C J (fun a6 C=>?_) (fun a6 C=>?_)
     ·refine ad J C J J J (ac (f:=2) (o2:=2) T41 T9 J J J J C J J fun a C=>?_);refine ad J C J J J (ae (v:=(.string t.s)) T9 J C J (F.blkL 0 J) J J fun a C=>?_);refine ad J C J J J (dG C J J J fun a C=>?_);refine lin J (an C J J J fun a C=>?_);refine Lm J C fun a C=>?_;refine ai (t:=43) C J (fun a7 C=>?_) (fun a7 C=>?_)
      ·refine ad J C J J J (aq C J J fun a C=>?_);refine ad J C J J J (aJ (i:=((t.l.length: Nat): Int)) (j:=0) C J J J fun a C=>?_);refine lin J (an C J J J fun a C=>?_);refine Ls J C fun a C=>?_;exact wpList_nil ⟨rfl,rfl,Has.cons C J (Has.cons C (by simp [lk,Nat.beq,G,I,a0,a6,a7]) (C.pk J))⟩
      ·refine Lf J C J J fun a C=>?_;refine Lf J C J J fun a C=>?_;refine lin J (ak C J J J fun a C=>?_);refine Ls J C fun a C=>?_;exact wpList_nil ⟨rfl,rfl,Has.cons C J (Has.cons C (by simp [lk,Nat.beq,G,I,a0,a6,a7]) (C.pk J))⟩
     ·refine Lf J C J J fun a C=>?_;refine Lf J C J J fun a C=>?_;refine Lf J C J J fun a C=>?_;refine lin J (ak C J J J fun a C=>?_);refine Lm J C fun a C=>?_;refine Lf J C J J fun a C=>?_;refine Lf J C J J fun a C=>?_;refine lin J (ak C J J J fun a C=>?_);refine Ls J C fun a C=>?_;exact wpList_nil ⟨rfl,rfl,Has.cons C J (Has.cons C (by simp [lk,Nat.beq,G,I,a0,a6]) (C.pk J))⟩
    ·refine Lf J C J J fun a C=>?_;refine Lf J C J J fun a C=>?_;refine Lf J C J J fun a C=>?_;refine lin J (ak C J J J fun a C=>?_);refine Lm J C fun a C=>?_;refine Lf J C J J fun a C=>?_;refine Lf J C J J fun a C=>?_;refine Lf J C J J fun a C=>?_;refine lin J (ak C J J J fun a C=>?_);refine Lm J C fun a C=>?_;refine Lf J C J J fun a C=>?_;refine Lf J C J J fun a C=>?_;refine lin J (ak C J J J fun a C=>?_);refine Ls J C fun a C=>?_;exact wpList_nil ⟨rfl,rfl,Has.cons C J (Has.cons C (by simp [lk,Nat.beq,G,I,a0]) (C.pk J))⟩
   refine aa (wp_ret (av (af (ret1 J C J ?_))));refine⟨congrArg _ ?_,F.plain.drop_all⟩;simp [nodeR,G,I]
  ·refine ag C J (wp_seq (ab (lin J (aJ (i:=t.kind) (j:=3) C J J J fun a C=>?_))));refine Ls J C fun a C=>?_;refine wpList_nil (aa (ai (t:=47) C J (fun M C=>?_) (fun M C=>?_)))
   ·refine ao C J (wp_seq (eC (w0:=w0) (H0:=H) (L0:= []) (H:=H) (L:= [(some V,(.cells (tA t A c) 41 (0,0)))]) (D:= []) (N:=108) (E:= [(1,(pB V)),(2,(.bool (((decide (t.n=0))&&(nameB t.s))&&(decide (((t.l.length: Nat): Int)=0))))),(3,(iV ((t.l.length: Nat): Int)))]) (fun a w F C=>?_) ?_));rotate_left
    ·refine lin J (ac (f:=1) (o2:=1) T41 T3 J J J J C J J fun a C=>?_);refine lin J (ae (v:=(iV t.n)) T3 J C J (F.blkL 0 J) J J fun a C=>?_);refine lin J (aJ (i:=t.n) (j:=0) C J J J fun a C=>?_);refine Lm J C fun a C=>?_;refine ai (t:=52) C J (fun a1 C=>?_) (fun a1 C=>?_)
     ·refine ad J C J J J (ac (f:=2) (o2:=2) T41 T9 J J J J C J J fun a C=>?_);refine ad J C J J J (ae (v:=(.string t.s)) T9 J C J (F.blkL 0 J) J J fun a C=>?_);refine ad J C J J J (Co func181 C J (c_RName F.inv.nil (strB_s hb)) ?_);rintro e w ⟨rfl,am⟩;refine⟨_,rfl,fun a C=>?_⟩;have F:=F.call am;refine lin J (an C J J J fun a C=>?_);refine Lm J C fun a C=>?_;refine au (t:=57) C J (fun a8 C=>?_) (fun a8 C=>?_)
      ·refine ad J C J J J (aq C J J fun a C=>?_);refine ad J C J J J (aJ (i:=((t.l.length: Nat): Int)) (j:=0) C J J J fun a C=>?_);refine lin J (an C J J J fun a C=>?_);refine Ls J C fun a C=>?_;exact wpList_nil ⟨rfl,F,Has.cons C J (Has.cons C (by simp [lk,Nat.beq,G,I,M,a1,a8]) (C.pk J))⟩
      ·refine Lf J C J J fun a C=>?_;refine Lf J C J J fun a C=>?_;refine lin J (ak C J J J fun a C=>?_);refine Ls J C fun a C=>?_;exact wpList_nil ⟨rfl,F,Has.cons C J (Has.cons C (by simp [lk,Nat.beq,G,I,M,a1,a8]) (C.pk J))⟩
     ·refine Lf J C J J fun a C=>?_;refine Lf J C J J fun a C=>?_;refine Lf J C J J fun a C=>?_;refine lin J (ak C J J J fun a C=>?_);refine Lm J C fun a C=>?_;refine Lf J C J J fun a C=>?_;refine Lf J C J J fun a C=>?_;refine lin J (ak C J J J fun a C=>?_);refine Ls J C fun a C=>?_;exact wpList_nil ⟨rfl,F,Has.cons C J (Has.cons C (by simp [lk,Nat.beq,G,I,M,a1]) (C.pk J))⟩
    refine aa (wp_ret (av (af (ret1 J C J ?_))));refine⟨congrArg _ ?_,F.plain.drop_all⟩;simp [nodeR,G,I,M]
   ·refine ag C J (wp_seq (ab (lin J (aJ (i:=t.kind) (j:=4) C J J J fun a C=>?_))));refine Ls J C fun a C=>?_;refine wpList_nil (aa (ai (t:=61) C J (fun O C=>?_) (fun O C=>?_)))
    ·refine ao C J (wp_seq (bH (D:= []) (N:=108) (E:= [(1,(pB V)),(2,(.bool (((decide (t.n=0))&&(decide ((((t.s).size: Nat): Int)<=255)))&&(decide (((t.l.length: Nat): Int)=0))))),(3,(iV ((t.l.length: Nat): Int)))]) (fun a C=>?_) ?_));rotate_left
     ·refine lin J (ac (f:=1) (o2:=1) T41 T3 J J J J C J J fun a C=>?_);refine lin J (ae (v:=(iV t.n)) T3 J C J (F.blkL 0 J) J J fun a C=>?_);refine lin J (aJ (i:=t.n) (j:=0) C J J J fun a C=>?_);refine Lm J C fun a C=>?_;refine ai (t:=66) C J (fun a2 C=>?_) (fun a2 C=>?_)
      ·refine ad J C J J J (ac (f:=2) (o2:=2) T41 T9 J J J J C J J fun a C=>?_);refine ad J C J J J (ae (v:=(.string t.s)) T9 J C J (F.blkL 0 J) J J fun a C=>?_);refine ad J C J J J (cy T9.und C J J fun a C=>?_);refine ad J C J J J (cY (i:=(((t.s).size: Nat): Int)) (j:=255) C J J J fun a C=>?_);refine lin J (an C J J J fun a C=>?_);refine Lm J C fun a C=>?_;refine ai (t:=72) C J (fun a9 C=>?_) (fun a9 C=>?_)
       ·refine ad J C J J J (aq C J J fun a C=>?_);refine ad J C J J J (aJ (i:=((t.l.length: Nat): Int)) (j:=0) C J J J fun a C=>?_);refine lin J (an C J J J fun a C=>?_);refine Ls J C fun a C=>?_;exact wpList_nil ⟨rfl,rfl,Has.cons C J (Has.cons C (by simp [lk,Nat.beq,G,I,M,O,a2,a9]) (C.pk J))⟩
       ·refine Lf J C J J fun a C=>?_;refine Lf J C J J fun a C=>?_;refine lin J (ak C J J J fun a C=>?_);refine Ls J C fun a C=>?_;exact wpList_nil ⟨rfl,rfl,Has.cons C J (Has.cons C (by simp [lk,Nat.beq,G,I,M,O,a2,a9]) (C.pk J))⟩
      ·refine Lf J C J J fun a C=>?_;refine Lf J C J J fun a C=>?_;refine Lf J C J J fun a C=>?_;refine Lf J C J J fun a C=>?_;refine lin J (ak C J J J fun a C=>?_);refine Lm J C fun a C=>?_;refine Lf J C J J fun a C=>?_;refine Lf J C J J fun a C=>?_;refine lin J (ak C J J J fun a C=>?_);refine Ls J C fun a C=>?_;exact wpList_nil ⟨rfl,rfl,Has.cons C J (Has.cons C (by simp [lk,Nat.beq,G,I,M,O,a2]) (C.pk J))⟩
     refine aa (wp_ret (av (af (ret1 J C J ?_))));refine⟨congrArg _ ?_,F.plain.drop_all⟩;simp [nodeR,G,I,M,O]
    ·refine ag C J (wp_seq (ab (lin J (aJ (i:=t.kind) (j:=5) C J J J fun a C=>?_))));refine Ls J C fun a C=>?_;refine wpList_nil (aa (ai (t:=76) C J (fun T C=>?_) (fun T C=>?_)))
     ·refine ao C J (wp_seq (eC (w0:=w0) (H0:=H) (L0:= []) (H:=H) (L:= [(some V,(.cells (tA t A c) 41 (0,0)))]) (D:= []) (N:=108) (E:= [(1,(pB V)),(2,(.bool ((((decide (t.n=0))&&(nameB t.s))&&(decide (1<=((t.l.length: Nat): Int))))&&(decide (((t.l.length: Nat): Int)<=16))))),(3,(iV ((t.l.length: Nat): Int)))]) (fun a w F C=>?_) ?_));rotate_left
      ·refine lin J (ac (f:=1) (o2:=1) T41 T3 J J J J C J J fun a C=>?_);refine lin J (ae (v:=(iV t.n)) T3 J C J (F.blkL 0 J) J J fun a C=>?_);refine lin J (aJ (i:=t.n) (j:=0) C J J J fun a C=>?_);refine Lm J C fun a C=>?_;refine ai (t:=81) C J (fun Y C=>?_) (fun Y C=>?_)
       ·refine ad J C J J J (ac (f:=2) (o2:=2) T41 T9 J J J J C J J fun a C=>?_);refine ad J C J J J (ae (v:=(.string t.s)) T9 J C J (F.blkL 0 J) J J fun a C=>?_);refine ad J C J J J (Co func181 C J (c_RName F.inv.nil (strB_s hb)) ?_);rintro e w ⟨rfl,am⟩;refine⟨_,rfl,fun a C=>?_⟩;have F:=F.call am;refine lin J (an C J J J fun a C=>?_);refine Lm J C fun a C=>?_;refine au (t:=86) C J (fun a3 C=>?_) (fun a3 C=>?_)
        ·refine ad J C J J J (aq C J J fun a C=>?_);refine ad J C J J J (co (i:=((t.l.length: Nat): Int)) (j:=1) C J J J fun a C=>?_);refine lin J (an C J J J fun a C=>?_);refine Lm J C fun a C=>?_;refine ai (t:=90) C J (fun ah C=>?_) (fun ah C=>?_)
         ·refine ad J C J J J (aq C J J fun a C=>?_);refine ad J C J J J (cY (i:=((t.l.length: Nat): Int)) (j:=16) C J J J fun a C=>?_);refine lin J (an C J J J fun a C=>?_);refine Ls J C fun a C=>?_;exact wpList_nil ⟨rfl,F,Has.cons C J (Has.cons C (by simp [lk,Nat.beq,G,I,M,O,T,Y,a3,ah]) (C.pk J))⟩
         ·refine Lf J C J J fun a C=>?_;refine Lf J C J J fun a C=>?_;refine lin J (ak C J J J fun a C=>?_);refine Ls J C fun a C=>?_;exact wpList_nil ⟨rfl,F,Has.cons C J (Has.cons C (by simp [lk,Nat.beq,G,I,M,O,T,Y,a3,ah]) (C.pk J))⟩
        ·refine Lf J C J J fun a C=>?_;refine Lf J C J J fun a C=>?_;refine lin J (ak C J J J fun a C=>?_);refine Lm J C fun a C=>?_;refine Lf J C J J fun a C=>?_;refine Lf J C J J fun a C=>?_;refine lin J (ak C J J J fun a C=>?_);refine Ls J C fun a C=>?_;exact wpList_nil ⟨rfl,F,Has.cons C J (Has.cons C (by simp [lk,Nat.beq,G,I,M,O,T,Y,a3]) (C.pk J))⟩
       ·refine Lf J C J J fun a C=>?_;refine Lf J C J J fun a C=>?_;refine Lf J C J J fun a C=>?_;refine lin J (ak C J J J fun a C=>?_);refine Lm J C fun a C=>?_;refine Lf J C J J fun a C=>?_;refine Lf J C J J fun a C=>?_;refine lin J (ak C J J J fun a C=>?_);refine Lm J C fun a C=>?_;refine Lf J C J J fun a C=>?_;refine Lf J C J J fun a C=>?_;refine lin J (ak C J J J fun a C=>?_);refine Ls J C fun a C=>?_;exact wpList_nil ⟨rfl,F,Has.cons C J (Has.cons C (by simp [lk,Nat.beq,G,I,M,O,T,Y]) (C.pk J))⟩
      refine aa (wp_ret (av (af (ret1 J C J ?_))));refine⟨congrArg _ ?_,F.plain.drop_all⟩;simp [nodeR,G,I,M,O,T]
     ·refine ag C J (wp_seq (ab (lin J (aJ (i:=t.kind) (j:=6) C J J J fun a C=>?_))));refine Ls J C fun a C=>?_;refine wpList_nil (aa (ai (t:=94) C J (fun X C=>?_) (fun X C=>?_)))
      ·refine ao C J (wp_seq (bH (D:= []) (N:=108) (E:= [(1,(pB V)),(2,(.bool (((decide (t.n=0))&&(decide (t.s=⟨#[]⟩)))&&(decide (((t.l.length: Nat): Int)<=64))))),(3,(iV ((t.l.length: Nat): Int)))]) (fun a C=>?_) ?_));rotate_left
       ·refine lin J (ac (f:=1) (o2:=1) T41 T3 J J J J C J J fun a C=>?_);refine lin J (ae (v:=(iV t.n)) T3 J C J (F.blkL 0 J) J J fun a C=>?_);refine lin J (aJ (i:=t.n) (j:=0) C J J J fun a C=>?_);refine Lm J C fun a C=>?_;refine ai (t:=99) C J (fun a4 C=>?_) (fun a4 C=>?_)
        ·refine ad J C J J J (ac (f:=2) (o2:=2) T41 T9 J J J J C J J fun a C=>?_);refine ad J C J J J (ae (v:=(.string t.s)) T9 J C J (F.blkL 0 J) J J fun a C=>?_);refine ad J C J J J (dG C J J J fun a C=>?_);refine lin J (an C J J J fun a C=>?_);refine Lm J C fun a C=>?_;refine ai (t:=104) C J (fun aj C=>?_) (fun aj C=>?_)
         ·refine ad J C J J J (aq C J J fun a C=>?_);refine ad J C J J J (cY (i:=((t.l.length: Nat): Int)) (j:=64) C J J J fun a C=>?_);refine lin J (an C J J J fun a C=>?_);refine Ls J C fun a C=>?_;exact wpList_nil ⟨rfl,rfl,Has.cons C J (Has.cons C (by simp [lk,Nat.beq,G,I,M,O,T,X,a4,aj]) (C.pk J))⟩
         ·refine Lf J C J J fun a C=>?_;refine Lf J C J J fun a C=>?_;refine lin J (ak C J J J fun a C=>?_);refine Ls J C fun a C=>?_;exact wpList_nil ⟨rfl,rfl,Has.cons C J (Has.cons C (by simp [lk,Nat.beq,G,I,M,O,T,X,a4,aj]) (C.pk J))⟩
        ·refine Lf J C J J fun a C=>?_;refine Lf J C J J fun a C=>?_;refine Lf J C J J fun a C=>?_;refine lin J (ak C J J J fun a C=>?_);refine Lm J C fun a C=>?_;refine Lf J C J J fun a C=>?_;refine Lf J C J J fun a C=>?_;refine lin J (ak C J J J fun a C=>?_);refine Ls J C fun a C=>?_;exact wpList_nil ⟨rfl,rfl,Has.cons C J (Has.cons C (by simp [lk,Nat.beq,G,I,M,O,T,X,a4]) (C.pk J))⟩
       refine aa (wp_ret (av (af (ret1 J C J ?_))));refine⟨congrArg _ ?_,F.plain.drop_all⟩;simp [nodeR,G,I,M,O,T,X]
      ·refine ag C J (wp_skip (ar (aa (wp_seq (ab (Ls J C fun a C=>?_))))));refine wpList_nil (aa (wp_ret (ret1 J C J ?_)));refine⟨congrArg _ ?_,F.plain.drop_all⟩;simp [nodeR,G,I,M,O,T,X]
theorem c_nodes: ∀(t: Tm) (A: Option Addr) (c: Nat) (w0: World) (H: PHeap),RowT H A c t.l->strB t=true->Inv w0 H []->Calls prog 162 #[(tv t A c)] w0 (Rs w0 H (.bool (nodesR t))):=by
 refine Tm.ind fun t ih=>?_;intro A c w0 H hr Y a4;have F:=Step.refl a4;have ap:=hr.len;refine enter [(tv t A c)] func162 J ntmps162 J fun a C=>?_;refine wp_seq (ab (lin J (aG (cs:=(tA t A c)) F C J J J fun T a w F C=>?_)));refine Ls J C fun a C=>?_;refine wpList_nil (aa (wp_seq (wp_seq (ab (lin J (am (vs:=(tL t A c)) T41 J C J (F.blkL 0 J) J (aj J) J fun a C=>?_))))));refine lin J (Cs func177 C J (c_node F.inv.nil hr Y) F fun a w C F=>?_);refine lin J (aK C J J fun a C=>?_);refine wpList_nil (aa (au (t:=7) C J (fun M C=>?_) (fun M C=>?_)))
 ·refine ao C J (wp_seq (ab (Ls J C fun a C=>?_)));refine wpList_nil (aa (wp_ret (af (ret1 J C J ?_))));refine⟨congrArg _ (congrArg _ ?_),F.plain.drop_all⟩;rw [bF,bT];have G:=M
  try simp only [Bool.not_eq_true',Bool.not_eq_false',Bool.not_true,Bool.not_false,Bool.or_eq_true,Bool.and_eq_true,Bool.or_eq_false_iff,Bool.not_eq_true,Bool.not_eq_false] at G
  simp [G]
 ·refine ag C J (wp_skip (aa (wp_seq (wp_seq (ab (Ls J C fun a C=>?_))))));refine wpList_nil (aa (wp_block ?_));refine aL (fun a9 a w=> ∃(k: Nat),a9=t.l.length - k/\Has [] a 23 [(1,(pB T)),(3,(iV ((k: Nat): Int)))]/\Step w0 H [] w H [(some T,(.cells (tA t A c) 41 (0,0)))]/\(k<=t.l.length)/\(∀(j: Nat) (u: Tm),j < k->t.l[j]? =some u->nodesR u=true)) _ ⟨0,rfl,C.pk J,F,by omega,fun j u h=>by omega⟩ ?_;intro ax a w a7;obtain⟨k,aq,C,F,hk,X⟩:=a7;refine wp_seq (wp_seq (ab (Lm J C fun a C=>?_)));refine lin J (ac (f:=3) (o2:=3) T41 T39 J J J J C J J fun a C=>?_);refine lin J (ae (v:=(.slice A t.l.length c)) T39 J C J (F.blkL 0 J) J J fun a C=>?_);refine lin J (aI T39.und C J J fun a C=>?_);refine lin J (aQ (i:=((k: Nat): Int)) (j:=((t.l.length: Nat): Int)) C J J J fun a C=>?_);refine wpList_nil (aa (ai (t:=12) C J (fun V C=>?_) (fun V C=>?_)))
  ·refine ao C J (wp_skip (aa (wp_seq (wp_block (wp_seq (ab (lin J (ac (f:=3) (o2:=3) T41 T39 J J J J C J J fun a C=>?_))))))));refine lin J (ae (v:=(.slice A t.l.length c)) T39 J C J (F.blkL 0 J) J J fun a C=>?_);refine Lm J C fun a C=>?_;obtain⟨ah,a1,ad,al,ak,an,a0,a2,I,a3,a5,a6,a8⟩:=hr.get (j:=k) j0;refine lin J (az (b:=a1) (o:=ad) (j:=k) T39.und T41 a3 C J J j0 j0 J fun a C=>?_);refine lin J (am (vs:=(tL ah a0 a2)) T41 J C J (F.blkH a5) J a6 J fun a C=>?_);refine lin J (Cs func162 C J (ih _ _ I _ _ _ _ a8 (strB_get Y I) F.inv.nil) F fun a w C F=>?_);refine Ls J C fun a C=>?_;refine wpList_nil (aa (wp_seq (ab (Lm J C fun a C=>?_))));refine lin J (aK C J J fun a C=>?_);refine wpList_nil (aa (au (t:=22) C J (fun O C=>?_) (fun O C=>?_)))
   ·refine ao C J (wp_seq (ab (Ls J C fun a C=>?_)));refine wpList_nil (aa (wp_ret (av (af (af (av (af (ret1 J C J ?_))))))));refine⟨congrArg _ (congrArg _ ?_),F.plain.drop_all⟩;rw [bF,bT];rw [all_not I (by simpa using O)];simp
   ·refine ag C J (wp_skip (ar (aa (ab (Lm J C fun a C=>?_)))));refine lin J (aF (i:=((k: Nat): Int)) (j:=1) C J J J j0 fun a C=>?_);refine Ls J C fun a C=>?_;refine wpList_nil (aa (?_));exact⟨t.l.length - (k+1),by omega,(k+1),rfl,C.pk J,F,j0,all_step X I (by simpa using O)⟩
  ·refine ag C J (wp_exit (aw (aw (aH (aa (wp_seq (ab (Ls J C fun a C=>?_))))))));refine wpList_nil (aa (wp_ret (ret1 J C J ?_)));refine⟨congrArg _ (congrArg _ ?_),F.plain.drop_all⟩;rw [bF,bT];rw [eK X j0];have G:=M
   try simp only [Bool.not_eq_true',Bool.not_eq_false',Bool.not_true,Bool.not_false,Bool.or_eq_true,Bool.and_eq_true,Bool.or_eq_false_iff,Bool.not_eq_true,Bool.not_eq_false] at G
   have Z:=V
   try simp only [Bool.not_eq_true',Bool.not_eq_false',Bool.not_true,Bool.not_false,Bool.or_eq_true,Bool.and_eq_true,Bool.or_eq_false_iff,Bool.not_eq_true,Bool.not_eq_false] at Z
   simp [G,Z]
theorem c_RIs {w0: World} {H: PHeap} (hI: Inv w0 H []) {t: Tm} {A: Option Addr} {c: Nat} (hr: RowT H A c t.l) (hz: t.sz<=1000000000000) (hb: strB t=true): Calls prog 142 #[(tv t A c)] w0 (Rs w0 H (.bool (isR t))):=by
 have F:=Step.refl hI;refine enter [(tv t A c)] func142 J ntmps142 J fun a C=>?_;refine wp_seq (ab (lin J (aG (cs:=(tA t A c)) F C J J J fun M a w F C=>?_)));refine Ls J C fun a C=>?_;refine wpList_nil (aa (wp_seq (ab (lin J (am (vs:=(tL t A c)) T41 J C J (F.blkL 0 J) J (aj J) J fun a C=>?_)))));refine lin J (Cs func161 C J (c_Size _ _ _ _ _ hr hz F.inv.nil) F fun a w C F=>?_);refine Lm J C fun a C=>?_;refine lin J (ah (v:=(iV ((t.sz: Nat): Int))) C J J J fun a C=>?_);refine lin J (ah (v:=(iV (((dep t): Nat): Int))) C J J J fun a C=>?_);refine Ls J C fun a C=>?_;refine Ls J C fun a C=>?_;refine wpList_nil (aa (wp_seq (eC (w0:=w0) (H0:=H) (L0:= []) (H:=H) (L:= [(some M,(.cells (tA t A c) 41 (0,0)))]) (D:= []) (N:=20) (E:= [(1,(pB M)),(2,(.bool (((decide (((t.sz: Nat): Int)<=4000))&&(decide ((((dep t): Nat): Int)<=600)))&&(nodesR t)))),(3,(iV ((t.sz: Nat): Int))),(4,(iV (((dep t): Nat): Int)))]) (fun a w F C=>?_) ?_)));rotate_left
 ·refine Lm J C fun a C=>?_;refine lin J (cY (i:=((t.sz: Nat): Int)) (j:=4000) C J J J fun a C=>?_);refine Lm J C fun a C=>?_;refine ai (t:=12) C J (fun G C=>?_) (fun G C=>?_)
  ·refine ad J C J J J (aq C J J fun a C=>?_);refine ad J C J J J (cY (i:=(((dep t): Nat): Int)) (j:=600) C J J J fun a C=>?_);refine lin J (an C J J J fun a C=>?_);refine Lm J C fun a C=>?_;refine ai (t:=16) C J (fun I C=>?_) (fun I C=>?_)
   ·refine ad J C J J J (am (vs:=(tL t A c)) T41 J C J (F.blkL 0 J) J (aj J) J fun a C=>?_);refine ad J C J J J (Co func162 C J (c_nodes _ _ _ _ _ hr hb F.inv.nil) ?_);rintro e w ⟨rfl,O⟩;refine⟨_,rfl,fun a C=>?_⟩;have F:=F.call O;refine lin J (an C J J J fun a C=>?_);refine Ls J C fun a C=>?_;exact wpList_nil ⟨rfl,F,Has.cons C J (Has.cons C (by simp [lk,Nat.beq,G,I]) (C.pk J))⟩
   ·refine Lf J C J J fun a C=>?_;refine Lf J C J J fun a C=>?_;refine lin J (ak C J J J fun a C=>?_);refine Ls J C fun a C=>?_;exact wpList_nil ⟨rfl,F,Has.cons C J (Has.cons C (by simp [lk,Nat.beq,G,I]) (C.pk J))⟩
  ·refine Lf J C J J fun a C=>?_;refine Lf J C J J fun a C=>?_;refine lin J (ak C J J J fun a C=>?_);refine Lm J C fun a C=>?_;refine Lf J C J J fun a C=>?_;refine Lf J C J J fun a C=>?_;refine lin J (ak C J J J fun a C=>?_);refine Ls J C fun a C=>?_;exact wpList_nil ⟨rfl,F,Has.cons C J (Has.cons C (by simp [lk,Nat.beq,G]) (C.pk J))⟩
 refine aa (wp_ret (ret1 J C J ?_));refine⟨congrArg _ ?_,F.plain.drop_all⟩;simp [isR]
def IxI (w: World) (H: PHeap) (b: Bool) (e: Ending) (w': World): Prop:= ∃ r: Int,e=.returned (iV r)/\(0<=r↔b=true)/\Step w H [] w' H []
theorem c_Index {w0: World} {H: PHeap} (hI: Inv w0 H []) {A: Option Addr} {c: Nat} {xs: List Int} {n: Int} (hr: RdI w0 A c xs): Calls prog 112 #[(.slice A xs.length c),(iV n)] w0 (IxI w0 H (xs.contains n)):=by
 have F:=Step.refl hI;have a5:=hr.len;refine enter [(.slice A xs.length c),(iV n)] func112 J ntmps112 J fun a C=>?_;refine wp_seq (ab (Ls J C fun a C=>?_));refine wpList_nil (aa (wp_seq (wp_seq (ab (Lm J C fun a C=>?_)))));refine lin J (aI T26.und C J J fun a C=>?_);refine Lm J C fun a C=>?_;refine wpList_nil (aa (wp_block ?_));refine aL (fun a0 a w=> ∃(k: Nat),a0=xs.length - k/\Has [] a 19 [(0,(.slice A xs.length c)),(1,(iV n)),(7,(iV ((xs.length: Nat): Int))),(8,(iV ((k: Nat): Int)))]/\Step w0 H [] w H []/\(k<=xs.length)/\(∀(j: Nat) (u: Int),j < k->xs[j]? =some u->decide (u=n)=false)) _ ⟨0,rfl,C.pk J,F,by omega,fun j u h=>by omega⟩ ?_;intro a7 a w Z;obtain⟨k,a6,C,F,hk,I⟩:=Z;refine wp_seq (ab (lin J (aQ (i:=((k: Nat): Int)) (j:=((xs.length: Nat): Int)) C J J J fun a C=>?_)));refine wpList_nil (aa (wp_seq (ai (t:=9) C J (fun h2 C=>?_) (fun h2 C=>?_))))
 ·refine ao C J (wp_skip (aa (wp_seq (wp_block (wp_seq (ab (Lm J C fun a C=>?_)))))));refine Ls J C fun a C=>?_;refine wpList_nil (aa (wp_seq (ab (Lm J C fun a C=>?_))));refine Lm J C fun a C=>?_;refine Lm J C fun a C=>?_;obtain⟨O,T,a1,a3,a2,a4,M,V,X,Y⟩:=hr.get (j:=k) j0;refine lin J (az (b:=T) (o:=a1) (j:=k) T26.und T3 V C J J j0 j0 J fun a C=>?_);refine lin J (ae (v:=(iV O)) T3 J C J (F.keep0 _ _ X) (by rw [Nat.mul_one];exact Y) J fun a C=>?_);refine lin J (aJ (i:=n) (j:=O) C J J J fun a C=>?_);refine wpList_nil (aa (ai (t:=16) C J (fun G C=>?_) (fun G C=>?_)))
  ·refine ao C J (wp_seq (ab (Lm J C fun a C=>?_)));refine Ls J C fun a C=>?_;refine wpList_nil (aa (wp_ret (av (af (af (av (af (ret1 J C J ?_))))))));exact⟨(k: Int),rfl,⟨fun _=>by rw [<- any_contains];exact any_at M (decide_eq_true (Eq.symm (by simpa using G))),fun _=>by omega⟩,F.drop_all⟩
  ·refine ag C J (wp_skip (ar (aa (ab (lin J (aF (i:=((k: Nat): Int)) (j:=1) C J J J j0 fun a C=>?_))))));refine Lm J C fun a C=>?_;refine wpList_nil (aa (?_));exact⟨xs.length - (k+1),by omega,(k+1),rfl,C.pk J,F,j0,none_step I M (decide_eq_false (fun e=>by simp [e] at G))⟩
 ·refine ag C J (wp_exit (aw (aw (aH (aa (wp_seq (ab (Ls J C fun a C=>?_))))))));refine wpList_nil (aa (wp_ret (ret1 J C J ?_)));exact⟨-1,rfl,⟨fun h=>by omega,fun h=>by rw [<- any_contains,any_none I j0] at h;cases h⟩,F.drop_all⟩
theorem c_Contains {w0: World} {H: PHeap} (hI: Inv w0 H []) {A: Option Addr} {c: Nat} {xs: List Int} {n: Int} (hr: RdI w0 A c xs): Calls prog 65 #[(.slice A xs.length c),(iV n)] w0 (Rs w0 H (.bool (xs.contains n))):=by
 have F:=Step.refl hI;refine enter [(.slice A xs.length c),(iV n)] func65 J ntmps65 J fun a C=>?_;refine wp_seq (ab (Ls J C fun a C=>?_));refine wpList_nil (aa (wp_seq (ab (Lm J C fun a C=>?_))));refine Lm J C fun a C=>?_;refine lin J (Co func112 C J (c_Index F.inv.nil (hr.keep F.keep0)) ?_);rintro e w ⟨M,rfl,I,G⟩;refine⟨_,rfl,fun a C=>?_⟩;have F:=F.call G;refine lin J (co (i:=M) (j:=0) C J J J fun a C=>?_);refine Ls J C fun a C=>?_;refine wpList_nil (aa (wp_ret (ret1 J C J ?_)));refine⟨congrArg _ (congrArg _ ?_),F.plain.drop_all⟩;rw [Bool.eq_iff_iff,decide_eq_true_eq];exact I
theorem ints_eq {xs ys: List Int} {k: Nat} (hl: xs.length=ys.length) (h: ∀(j: Nat) (u v: Int),j < k->xs[j]? =some u->ys[j]? =some v->u=v) (hk: xs.length<=k): xs=ys:=by
 apply List.ext_getElem?
 intro j
 by_cases C: j < xs.length
 ·have h1:=List.getElem?_eq_getElem C;have h2:=List.getElem?_eq_getElem (show j < ys.length by omega);rw [h1,h2,h j _ _ j0 h1 h2]
 ·rw [List.getElem?_eq_none j0,List.getElem?_eq_none j0]
theorem ints_step {xs ys: List Int} {k: Nat} {x y: Int} (h: ∀(j: Nat) (u v: Int),j < k->xs[j]? =some u->ys[j]? =some v->u=v) (hx: xs[k]? =some x) (hy: ys[k]? =some y) (e: x=y): ∀(j: Nat) (u v: Int),j < k+1->xs[j]? =some u->ys[j]? =some v->u=v:=by
 intro j u v C hu hv
 rcases Nat.lt_succ_iff_lt_or_eq.1 C with h1 | h1
 ·exact h j u v h1 hu hv
 ·subst h1;rw [hx] at hu;rw [hy] at hv;rw [<- Option.some.inj hu,<- Option.some.inj hv,e]
theorem c_EqualI {w0: World} {H: PHeap} (hI: Inv w0 H []) {A A': Option Addr} {c c': Nat} {xs ys: List Int} (hr: RdI w0 A c xs) (hr': RdI w0 A' c' ys): Calls prog 21 #[(.slice A xs.length c),(.slice A' ys.length c')] w0 (Rs w0 H (.bool (decide (xs=ys)))):=by
 have F:=Step.refl hI;have ay:=hr.len;have b1:=hr'.len;refine enter [(.slice A xs.length c),(.slice A' ys.length c')] func21 J ntmps21 J fun a C=>?_;refine wp_seq (ab (Ls J C fun a C=>?_));refine wpList_nil (aa (wp_seq (wp_seq (ab (Lm J C fun a C=>?_)))));refine lin J (aI T26.und C J J fun a C=>?_);refine Lm J C fun a C=>?_;refine lin J (aI T26.und C J J fun a C=>?_);refine lin J (bA (i:=((xs.length: Nat): Int)) (j:=((ys.length: Nat): Int)) C J J J fun a C=>?_);refine wpList_nil (aa (aP (t:=10) C J (fun h1 C=>?_) (fun h1 C=>?_)))
 ·refine ao C J (wp_seq (ab (Ls J C fun a C=>?_)));refine wpList_nil (aa (wp_ret (af (ret1 J C J ?_))));refine⟨congrArg _ (congrArg _ ?_),F.plain.drop_all⟩;exact(decide_eq_false (fun e=>by subst e;simp at h1)).symm
 ·refine ag C J (wp_skip (aa (wp_seq (wp_seq (ab (Lm J C fun a C=>?_))))));refine lin J (aI T26.und C J J fun a C=>?_);refine Lm J C fun a C=>?_;refine wpList_nil (aa (wp_block ?_));refine aL (fun ah a w=> ∃(k: Nat),ah=xs.length - k/\Has [] a 26 [(0,(.slice A xs.length c)),(1,(.slice A' ys.length c')),(12,(iV ((xs.length: Nat): Int))),(13,(iV ((k: Nat): Int)))]/\Step w0 H [] w H []/\(k<=xs.length)/\(∀(j: Nat) (u v: Int),j < k->xs[j]? =some u->ys[j]? =some v->u=v)) _ ⟨0,rfl,C.pk J,F,by omega,fun j u v h=>by omega⟩ ?_;intro b3 a w ac;obtain⟨k,b2,C,F,hk,X⟩:=ac;refine wp_seq (ab (lin J (aQ (i:=((k: Nat): Int)) (j:=((xs.length: Nat): Int)) C J J J fun a C=>?_)));refine wpList_nil (aa (wp_seq (ai (t:=14) C J (fun a2 C=>?_) (fun a2 C=>?_))))
  ·refine ao C J (wp_skip (aa (wp_seq (wp_block (wp_seq (ab (Lm J C fun a C=>?_)))))));refine Ls J C fun a C=>?_;refine wpList_nil (aa (wp_seq ?_));have ax:=F;obtain⟨I,O,a0,am,ak,ap,Y,a3,a5,a7⟩:=hr.get (j:=k) j0;obtain⟨M,T,a1,an,al,au,Z,a4,a6,a8⟩:=hr'.get (j:=k) j0;refine bD ba [FcV (.slice A xs.length c),FcV (iV ((k: Nat): Int)),FcV (.pointer (some ⟨O,a0+k * 1,none⟩)),FcV (iV I),FcV (.slice A' ys.length c'),FcV (iV ((k: Nat): Int)),FcV (.pointer (some ⟨T,a1+k * 1,none⟩)),FcV (iV M),FcV (.bool (!decide (I=M)))] (N:=26) (E:= [(0,(.slice A xs.length c)),(1,(.slice A' ys.length c')),(5,(iV ((k: Nat): Int))),(12,(iV ((xs.length: Nat): Int))),(13,(iV ((k: Nat): Int)))]) mixed J Mq F (C.pk J) (.c4 ?_ ?_ ?_ ?_ (.c4 ?_ ?_ ?_ ?_ (.cons ?_ (.nil)))) (fun a w aj ad F C a9=>?_)
   ·refine Qz J fun a w F C G=>?_;refine id (aq C J J fun a C=>?_);exact qdone J C F (by first |(rw [decide_eq_true hr] <;> rfl) |(rw [decide_eq_false hr] <;> rfl) |(rw [hr] <;> rfl) | simp [hr])
   ·refine Qz J fun a w F C G=>?_;exact aq C J J fun a C=>qe C F
   ·refine Qz1 0 J fun a w F C G=>?_;obtain⟨_,C,rfl⟩:=G.g C 1 J;exact az (b:=O) (o:=a0) (j:=k) T26.und T3 a3 C J J j0 j0 J fun a C=>qe C F
   ·refine Qz1 2 J fun a w F C G=>?_;exact ae (v:=(iV I)) T3 J C J (F.keep0 _ _ a5) (by rw [Nat.mul_one];exact a7) J fun a C=>qe C F
   ·refine Qz J fun a w F C G=>?_;refine id (aq C J J fun a C=>?_);exact qdone J C F (by first |(rw [decide_eq_true hr'] <;> rfl) |(rw [decide_eq_false hr'] <;> rfl) |(rw [hr'] <;> rfl) | simp [hr'])
   ·refine Qz J fun a w F C G=>?_;exact aq C J J fun a C=>qe C F
   ·refine Qz1 4 J fun a w F C G=>?_;obtain⟨_,C,rfl⟩:=G.g C 5 J;exact az (b:=T) (o:=a1) (j:=k) T26.und T3 a4 C J J j0 j0 J fun a C=>qe C F
   ·refine Qz1 6 J fun a w F C G=>?_;exact ae (v:=(iV M)) T3 J C J (F.keep0 _ _ a6) (by rw [Nat.mul_one];exact a8) J fun a C=>qe C F
   ·refine Qz1 3 J fun a w F C G=>?_;obtain⟨_,C,rfl⟩:=G.g C 7 J;exact bA (i:=I) (j:=M) C J J J fun a C=>qe C F
   subst ad;obtain⟨_,C,rfl⟩:=Dd C a9 8 J;refine aa (aP (t:=24) C J (fun V C=>?_) (fun V C=>?_))
   ·refine ao C J (wp_seq (ab (Ls J C fun a C=>?_)));refine wpList_nil (aa (wp_ret (av (af (af (av (af (ret1 J C J ?_))))))));refine⟨congrArg _ (congrArg _ ?_),F.plain.drop_all⟩;exact(decide_eq_false (fun e=>by subst e;rw [Y] at Z;simp_all)).symm
   ·refine ag C J (wp_skip (ar (aa (ab (lin J (aF (i:=((k: Nat): Int)) (j:=1) C J J J j0 fun a C=>?_))))));refine Lm J C fun a C=>?_;refine wpList_nil (aa (?_));exact⟨xs.length - (k+1),by omega,(k+1),rfl,C.pk J,F,j0,ints_step X Y Z (by simpa using V)⟩
  ·refine ag C J (wp_exit (aw (aw (aH (aa (wp_seq (ab (Ls J C fun a C=>?_))))))));refine wpList_nil (aa (wp_ret (ret1 J C J ?_)));refine⟨congrArg _ (congrArg _ ?_),F.plain.drop_all⟩;exact(decide_eq_true (ints_eq j0 X j0)).symm
theorem c_Same: ∀(ta tb: Tm) (A: Option Addr) (c: Nat) (A': Option Addr) (c': Nat) (w0: World) (H: PHeap),RowT H A c ta.l->RowT H A' c' tb.l->Inv w0 H []->Calls prog 26 #[(tv ta A c),(tv tb A' c')] w0 (Rs w0 H (.bool (eqT ta tb))):=by
 refine Tm.ind fun ta ih=>?_;intro tb A c A' c' w0 H hr I b1;have F:=Step.refl b1;have bp:=hr.len;have bq:=I.len;refine enter [(tv ta A c),(tv tb A' c')] func26 J ntmps26 J fun a C=>?_;refine wp_seq (ab (lin J (aG (cs:=(tA ta A c)) F C J J J fun T a w F C=>?_)));refine lin J (aG (cs:=(tA tb A' c')) F C J J J fun V a w F C=>?_);refine Ls J C fun a C=>?_;refine wpList_nil (aa (wp_seq (wp_seq (bH (D:= []) (N:=55) (E:= [(2,(pB T)),(3,(pB V)),(34,(.bool ((((!decide (ta.kind=tb.kind))||(!decide (ta.n=tb.n)))||(!decide (ta.s=tb.s)))||(!decide (((ta.l.length: Nat): Int)=((tb.l.length: Nat): Int))))))]) (fun a C=>?_) ?_))));rotate_left
 ·refine lin J (ac (f:=0) (o2:=0) T41 T3 J J J J C J J fun a C=>?_);refine lin J (ae (v:=(iV ta.kind)) T3 J C J (F.blkL 1 J) J J fun a C=>?_);refine lin J (ac (f:=0) (o2:=0) T41 T3 J J J J C J J fun a C=>?_);refine lin J (ae (v:=(iV tb.kind)) T3 J C J (F.blkL 0 J) J J fun a C=>?_);refine lin J (bA (i:=ta.kind) (j:=tb.kind) C J J J fun a C=>?_);refine Lm J C fun a C=>?_;refine aP (t:=12) C J (fun X C=>?_) (fun X C=>?_)
  ·refine Lf J C J J fun a C=>?_;refine Lf J C J J fun a C=>?_;refine Lf J C J J fun a C=>?_;refine Lf J C J J fun a C=>?_;refine Lf J C J J fun a C=>?_;refine lin J (an C J J J fun a C=>?_);refine Lm J C fun a C=>?_;refine Lf J C J J fun a C=>?_;refine Lf J C J J fun a C=>?_;refine Lf J C J J fun a C=>?_;refine Lf J C J J fun a C=>?_;refine Lf J C J J fun a C=>?_;refine lin J (an C J J J fun a C=>?_);refine Lm J C fun a C=>?_;refine Lf J C J J fun a C=>?_;refine Lf J C J J fun a C=>?_;refine Lf J C J J fun a C=>?_;refine Lf J C J J fun a C=>?_;refine Lf J C J J fun a C=>?_;refine Lf J C J J fun a C=>?_;refine Lf J C J J fun a C=>?_;refine lin J (an C J J J fun a C=>?_);exact wpList_nil ⟨rfl,rfl,Has.cons C J (Has.cons C J (Has.cons C (by simp [lk,Nat.beq,X]) (C.nil)))⟩
  ·refine ad J C J J J (ac (f:=1) (o2:=1) T41 T3 J J J J C J J fun a C=>?_);refine ad J C J J J (ae (v:=(iV ta.n)) T3 J C J (F.blkL 1 J) J J fun a C=>?_);refine ad J C J J J (ac (f:=1) (o2:=1) T41 T3 J J J J C J J fun a C=>?_);refine ad J C J J J (ae (v:=(iV tb.n)) T3 J C J (F.blkL 0 J) J J fun a C=>?_);refine ad J C J J J (bA (i:=ta.n) (j:=tb.n) C J J J fun a C=>?_);refine lin J (ak C J J J fun a C=>?_);refine Lm J C fun a C=>?_;refine aP (t:=19) C J (fun Y C=>?_) (fun Y C=>?_)
   ·refine Lf J C J J fun a C=>?_;refine Lf J C J J fun a C=>?_;refine Lf J C J J fun a C=>?_;refine Lf J C J J fun a C=>?_;refine Lf J C J J fun a C=>?_;refine lin J (an C J J J fun a C=>?_);refine Lm J C fun a C=>?_;refine Lf J C J J fun a C=>?_;refine Lf J C J J fun a C=>?_;refine Lf J C J J fun a C=>?_;refine Lf J C J J fun a C=>?_;refine Lf J C J J fun a C=>?_;refine Lf J C J J fun a C=>?_;refine Lf J C J J fun a C=>?_;refine lin J (an C J J J fun a C=>?_);exact wpList_nil ⟨rfl,rfl,Has.cons C J (Has.cons C J (Has.cons C (by simp [lk,Nat.beq,X,Y]) (C.nil)))⟩
   ·refine ad J C J J J (ac (f:=2) (o2:=2) T41 T9 J J J J C J J fun a C=>?_);refine ad J C J J J (ae (v:=(.string ta.s)) T9 J C J (F.blkL 1 J) J J fun a C=>?_);refine ad J C J J J (ac (f:=2) (o2:=2) T41 T9 J J J J C J J fun a C=>?_);refine ad J C J J J (ae (v:=(.string tb.s)) T9 J C J (F.blkL 0 J) J J fun a C=>?_);refine ad J C J J J (o_nes C J J J fun a C=>?_);refine lin J (ak C J J J fun a C=>?_);refine Lm J C fun a C=>?_;refine aP (t:=26) C J (fun a2 C=>?_) (fun a2 C=>?_)
    ·refine Lf J C J J fun a C=>?_;refine Lf J C J J fun a C=>?_;refine Lf J C J J fun a C=>?_;refine Lf J C J J fun a C=>?_;refine Lf J C J J fun a C=>?_;refine Lf J C J J fun a C=>?_;refine Lf J C J J fun a C=>?_;refine lin J (an C J J J fun a C=>?_);exact wpList_nil ⟨rfl,rfl,Has.cons C J (Has.cons C J (Has.cons C (by simp [lk,Nat.beq,X,Y,a2]) (C.nil)))⟩
    ·refine ad J C J J J (ac (f:=3) (o2:=3) T41 T39 J J J J C J J fun a C=>?_);refine ad J C J J J (ae (v:=(.slice A ta.l.length c)) T39 J C J (F.blkL 1 J) J J fun a C=>?_);refine ad J C J J J (aI T39.und C J J fun a C=>?_);refine ad J C J J J (ac (f:=3) (o2:=3) T41 T39 J J J J C J J fun a C=>?_);refine ad J C J J J (ae (v:=(.slice A' tb.l.length c')) T39 J C J (F.blkL 0 J) J J fun a C=>?_);refine ad J C J J J (aI T39.und C J J fun a C=>?_);refine ad J C J J J (bA (i:=((ta.l.length: Nat): Int)) (j:=((tb.l.length: Nat): Int)) C J J J fun a C=>?_);refine lin J (ak C J J J fun a C=>?_);exact wpList_nil ⟨rfl,rfl,Has.cons C J (Has.cons C J (Has.cons C (by simp [lk,Nat.beq,X,Y,a2]) (C.nil)))⟩
 refine aa (au (t:=34) C J (fun Z C=>?_) (fun Z C=>?_))
 ·refine ao C J (wp_seq (ab (Ls J C fun a C=>?_)));refine wpList_nil (aa (wp_ret (af (ret1 J C J ?_))));refine⟨congrArg _ (congrArg _ ?_),F.plain.drop_all⟩;rw [fH]
  symm
  rw [<- fH];exact eqT_false.2 (fun e=>by subst e;simp at Z)
 ·have bo: ta.l.length=tb.l.length:=by have a0:=Z;simp at a0;omega
  refine ag C J (wp_skip (aa (wp_seq (wp_seq (ab (Ls J C fun a C=>?_))))));refine wpList_nil (aa (wp_block ?_));refine aL (fun bf a w=> ∃(k: Nat),bf=ta.l.length - k/\Has [] a 55 [(2,(pB T)),(3,(pB V)),(5,(iV ((k: Nat): Int)))]/\Step w0 H [] w H [(some V,(.cells (tA tb A' c') 41 (0,0))),(some T,(.cells (tA ta A c) 41 (0,0)))]/\(k<=ta.l.length)/\(eqL (ta.l.drop k) (tb.l.drop k)=eqL ta.l tb.l)) _ ⟨0,rfl,C.pk J,F,by omega,rfl⟩ ?_;intro bt a w b7;obtain⟨k,br,C,F,hk,hv⟩:=b7;refine wp_seq (wp_seq (ab (Lm J C fun a C=>?_)));refine lin J (ac (f:=3) (o2:=3) T41 T39 J J J J C J J fun a C=>?_);refine lin J (ae (v:=(.slice A ta.l.length c)) T39 J C J (F.blkL 1 J) J J fun a C=>?_);refine lin J (aI T39.und C J J fun a C=>?_);refine lin J (aQ (i:=((k: Nat): Int)) (j:=((ta.l.length: Nat): Int)) C J J J fun a C=>?_);refine wpList_nil (aa (ai (t:=39) C J (fun ap C=>?_) (fun ap C=>?_)))
  ·refine ao C J (wp_skip (aa (wp_seq (wp_block (wp_seq ?_)))));have bn:=F;obtain⟨M,a6,aj,bj,bh,bl,a4,a8,a3,ax,b2,b4,b9⟩:=hr.get (j:=k) j0;obtain⟨O,a7,al,bk,bi,bm,a5,a9,ah,ay,b3,b5,bc⟩:=I.get (j:=k) j0;refine bD ba [FcV (.pointer (some ⟨T,3,none⟩)),FcV (.slice A ta.l.length c),FcV (iV ((k: Nat): Int)),FcV (.pointer (some ⟨a6,aj+k * 4,none⟩)),FcV (tv M a4 a8),FcV (.pointer (some ⟨V,3,none⟩)),FcV (.slice A' tb.l.length c'),FcV (iV ((k: Nat): Int)),FcV (.pointer (some ⟨a7,al+k * 4,none⟩)),FcV (tv O a5 a9),FcV (.bool (eqT M O)),FcV (.bool (eqT M O))] (N:=55) (E:= [(2,(pB T)),(3,(pB V)),(5,(iV ((k: Nat): Int)))]) mixed J Mq F (C.pk J) (.c4 ?_ ?_ ?_ ?_ (.c4 ?_ ?_ ?_ ?_ (.c4 ?_ ?_ ?_ ?_ (.nil)))) (fun a w bg b8 F C b6=>?_)
   ·refine Qz J fun a w F C G=>?_;exact ac (f:=3) (o2:=3) T41 T39 J J J J C J J fun a C=>qe C F
   ·refine Qz1 0 J fun a w F C G=>?_;refine id (ae (v:=(.slice A ta.l.length c)) T39 J C J (F.blkL 1 J) J J fun a C=>?_);exact qdone J C F (by first |(rw [decide_eq_true hr] <;> rfl) |(rw [decide_eq_false hr] <;> rfl) |(rw [hr] <;> rfl) | simp [hr])
   ·refine Qz J fun a w F C G=>?_;exact aq C J J fun a C=>qe C F
   ·refine Qz1 1 J fun a w F C G=>?_;obtain⟨_,C,rfl⟩:=G.g C 2 J;exact az (b:=a6) (o:=aj) (j:=k) T39.und T41 ax C J J j0 j0 J fun a C=>qe C F
   ·refine Qz1 3 J fun a w F C G=>?_;exact am (vs:=(tL M a4 a8)) T41 J C J (F.blkH b2) J b4 J fun a C=>qe C F
   ·refine Qz J fun a w F C G=>?_;exact ac (f:=3) (o2:=3) T41 T39 J J J J C J J fun a C=>qe C F
   ·refine Qz1 5 J fun a w F C G=>?_;refine id (ae (v:=(.slice A' tb.l.length c')) T39 J C J (F.blkL 0 J) J J fun a C=>?_);exact qdone J C F (by first |(rw [decide_eq_true I] <;> rfl) |(rw [decide_eq_false I] <;> rfl) |(rw [I] <;> rfl) | simp [I])
   ·refine Qz J fun a w F C G=>?_;exact aq C J J fun a C=>qe C F
   ·refine Qz1 6 J fun a w F C G=>?_;obtain⟨_,C,rfl⟩:=G.g C 7 J;exact az (b:=a7) (o:=al) (j:=k) T39.und T41 ay C J J j0 j0 J fun a C=>qe C F
   ·refine Qz1 8 J fun a w F C G=>?_;exact am (vs:=(tL O a5 a9)) T41 J C J (F.blkH b3) J b5 J fun a C=>qe C F
   ·refine Qz1 4 J fun a w F C G=>?_;obtain⟨_,C,rfl⟩:=G.g C 9 J;exact Cs func26 C J (ih _ _ a3 _ _ _ _ _ _ _ b9 bc F.inv.nil) F fun a w C F=>qe C F
   ·refine Qz1 10 J fun a w F C G=>?_;exact bu C J J fun a C=>qe C F
   subst b8;obtain⟨_,C,rfl⟩:=Dd C b6 11 J;refine aa (wp_seq (ab (Lm J C fun a C=>?_)));refine lin J (aK C J J fun a C=>?_);refine wpList_nil (aa (au (t:=54) C J (fun a1 C=>?_) (fun a1 C=>?_)))
   ·refine ao C J (wp_seq (ab (Ls J C fun a C=>?_)));refine wpList_nil (aa (wp_ret (av (af (af (av (af (ret1 J C J ?_))))))));refine⟨congrArg _ (congrArg _ ?_),F.plain.drop_all⟩;rw [fH];rw [<- hv,eqL_drop a3 ah,show eqT M O=false from by simpa using a1];simp
   ·refine ag C J (wp_skip (ar (aa (ab (Lm J C fun a C=>?_)))));refine lin J (aF (i:=((k: Nat): Int)) (j:=1) C J J J j0 fun a C=>?_);refine Ls J C fun a C=>?_;refine wpList_nil (aa (?_));rw [eqL_drop a3 ah,show eqT M O=true from by simpa using a1,Bool.true_and] at hv;exact⟨ta.l.length - (k+1),by omega,(k+1),rfl,C.pk J,F,j0,hv⟩
  ·refine ag C J (wp_exit (aw (aw (aH (aa (wp_seq (ab (Ls J C fun a C=>?_))))))));refine wpList_nil (aa (wp_ret (ret1 J C J ?_)));refine⟨congrArg _ (congrArg _ ?_),F.plain.drop_all⟩;rw [fH];rw [<- hv,eqL_end j0 j0];have a0:=Z;simp at a0;simp [a0]
end Go.Vk.Tryz
namespace Go.Vk
open Go.RowKit
def RowG {α: Type} (sz: Nat) (f: α->List Value) (H: PHeap) (A: Option Addr) (c: Nat) (xs: List α): Prop:=
 xs.length<=c/\xs.length<=1048576/\∃(b off e: Nat) (cs: Array Value) (fz: Nat × Nat),(xs≠[]->A=some ⟨b,off,none⟩/\H b=some (.cells cs e fz))/\∀ j x,xs[j]? =some x->∀ i u,(f x)[i]? =some u->cs[off+j * sz+i]? =some u
theorem RowG.mono {α: Type} {sz: Nat} {f: α->List Value} {H H': PHeap} {A: Option Addr} {c: Nat} {xs: List α} (h: RowG sz f H A c xs) (hl: Le H H'): RowG sz f H' A c xs:=by
 obtain⟨h1,h2,b,off,e,cs,fz,h3,h4⟩:=h;exact⟨h1,h2,b,off,e,cs,fz,fun hn=>⟨(h3 hn).1,hl _ _ (h3 hn).2⟩,h4⟩
theorem RowG.len {α: Type} {sz: Nat} {f: α->List Value} {H: PHeap} {A: Option Addr} {c: Nat} {xs: List α} (h: RowG sz f H A c xs): xs.length<=c/\xs.length<=1048576:=⟨h.1,h.2.1⟩
theorem RowG.get {α: Type} {sz: Nat} {f: α->List Value} {H: PHeap} {A: Option Addr} {c: Nat} {xs: List α} (h: RowG sz f H A c xs) {j: Nat} (hj: j < xs.length) :
  ∃(x: α) (b off e: Nat) (cs: Array Value) (fz: Nat × Nat),xs[j]? =some x/\A=some ⟨b,off,none⟩/\H b=some (.cells cs e fz)/\∀ i u,(f x)[i]? =some u->cs[off+j * sz+i]? =some u:=by
 obtain⟨_,_,b,off,e,cs,fz,h3,h4⟩:=h;obtain⟨h5,h6⟩:=h3 (fun e=>by subst e;simp at hj);exact⟨xs[j],b,off,e,cs,fz,List.getElem?_eq_getElem hj,h5,h6,h4 j _ (List.getElem?_eq_getElem hj)⟩
end Go.Vk
namespace Go.Vk
end Go.Vk
namespace Go.Vk
section
variable {n: Nat} {B: List Tm}
end
theorem Acyc.ext {B: List Tm} {m: Int} (h: Acyc B): Acyc (extS B m):=by
 obtain⟨rk,hr⟩:=h;refine⟨rk,fun i t hi hk j hj=>?_⟩;unfold extS at hi;rw [List.getElem?_append] at hi
 split at hi
 ·exact hr i t hi hk j hj
 ·rw [List.getElem?_replicate] at hi
  split at hi
  ·obtain rfl:=Option.some.inj hi;exact absurd J hk
  ·cases hi
end Go.Vk
namespace Go.Vk
theorem occL_mem {j: Int}: ∀ {ts: List Tm} {t: Tm},t ∈ ts->j ∈ occ t->j ∈ occL ts
 | u::ts,t,ht,hj=>by
  rw [occL]
  rcases List.mem_cons.1 ht with rfl | ht
  ·exact List.mem_append_left _ hj
  ·exact List.mem_append_right _ (occL_mem ht hj)
theorem eu (i: Int): occ (vr i)= [i]:=by rw [go];rfl
theorem Reach.of_occ {B: List Tm} {t: Tm} {j v: Int} (hj: j ∈ Vk.occ t) (h: Reach B (vr j) v): Reach B t v:=by
 cases h with
 | occ h1=>rw [eu] at h1;rw [List.mem_singleton.1 h1];exact .occ hj
 | step h1 h2 h3 h4=>rw [eu] at h1;rw [List.mem_singleton.1 h1] at h2;exact .step hj h2 h3 h4
theorem Reach.split {B: List Tm} {t: Tm} {v: Int} (h: Reach B t v): ∃ j,j ∈ Vk.occ t/\Reach B (vr j) v:=by
 cases h with
 | occ h1=>exact ⟨v,h1,.occ (by rw [eu];exact List.mem_singleton.2 J)⟩
 | @step _ u j _ h1 h2 h3 h4=>exact ⟨j,h1,.step (by rw [eu];exact List.mem_singleton.2 J) h2 h3 h4⟩
theorem Reach.sub {B: List Tm} {t x: Tm} {v: Int} (hk: ¬ t.kind=1) (hx: x ∈ t.l) (h: Reach B x v): Reach B t v:=by
 obtain⟨j,h1,h2⟩:=h.split;exact .of_occ (by rw [go,if_neg hk];exact occL_mem hx h1) h2
theorem rk_max (rk: Nat->Nat): ∀(l: List Int) (j: Int),j ∈ l->rk j.toNat<=l.foldr (fun i m=>max (rk i.toNat) m) 0
 | i::l,j,h=>by
  rw [List.foldr_cons]
  rcases List.mem_cons.1 h with rfl | h
  ·omega
  ·have:=rk_max rk l j h;omega
theorem Gst.occV {n: Nat} {B: List Tm} (hG: Gst n B) (i: Nat) (t: Tm) (hi: B[i]? =some t): OccV B.length t:=fun j hj=>hG.allV.occ (List.mem_of_getElem? hi) j hj
theorem okT_occ {n: Nat} {t: Tm} (h: okT n t=true): ∀ j ∈ occ t,0<=j/\j < n:=(show AllV n [t] from fun u hu=>by rw [List.mem_singleton.1 hu];exact gv h).occ (List.mem_singleton.2 J)
theorem Acyc.set {n: Nat} {B: List Tm} (hG: Gst n B) (hA: Acyc B) {v: Int} {t: Tm} (hb: BC n B v t) (hn: ¬ Reach B t v): Acyc (B.set v.toNat t):=by
 obtain⟨rk,hr⟩:=hA;have hv0:=hb.lo
 classical
 refine⟨fun i=>if Reach B (vr (i: Int)) v then rk i+((occ t).foldr (fun i m=>max (rk i.toNat) m) 0+1) else rk i,fun i u hi hk j hj=>?_⟩;rw [List.getElem?_set] at hi
 split at hi
 ·rename_i e
  split at hi
  ·obtain rfl:=Option.some.inj hi;have hj0:=okT_occ hb.ok j hj;have e1:((j.toNat: Nat): Int)=j:=by omega
   have e2:((i: Nat): Int)=v:=by omega
   simp only [e1,e2];rw [if_neg (fun h=>hn (.of_occ hj h)),if_pos (Reach.occ (by rw [eu];exact List.mem_singleton.2 J))];have:=rk_max rk (occ t) j hj;omega
  ·cases hi
 ·have h1:=hr i u hi hk j hj;have hj0:=hG.occV i u hi j hj;have e1:((j.toNat: Nat): Int)=j:=by omega
  simp only [e1]
  by_cases h2: Reach B (vr j) v
  ·have h3: Reach B (vr (i: Int)) v:=.step (j:=(i: Int)) (by rw [eu];exact List.mem_singleton.2 J) (by rw [show ((i: Nat): Int).toNat=i by omega];exact hi) hk (.of_occ hj h2);rw [if_pos h2,if_pos h3];omega
  ·rw [if_neg h2]
   split <;> omega
section
variable {τ: Type} {bb: τ->Int->τ} {n: Nat}
end
end Go.Vk
namespace Go.Vk
open Classical in
noncomputable def acycB (B: List Tm): Bool:=decide (Acyc B)
theorem acycB_iff {B: List Tm}: acycB B=true↔Acyc B:=by unfold acycB;exact @decide_eq_true_iff (Acyc B) (Classical.propDecidable _)
end Go.Vk
namespace Go.Vk
open Go.RowKit
section
variable {w0 w: World} {H0 H: PHeap} {L0 Es fam: List Ent}
end
noncomputable def isB (B: List Tm): Bool:=(decide (((B.length: Nat): Int)<=100000)&&elsU B.length 0 B)&&acycB B
theorem isB_iff {B: List Tm}: isB B=true↔Gst B.length B/\Acyc B:=by
 unfold isB;simp only [Bool.and_eq_true,decide_eq_true_eq,acycB_iff]
 constructor
 ·rintro⟨⟨h1,h2⟩,h3⟩;exact⟨Gst.of j0 h2,h3⟩
 ·rintro⟨h1,h2⟩;refine⟨⟨by have:=h1.le;omega,elsU_mk fun j t hj=>?_⟩,h2⟩;rw [Nat.zero_add];exact elU_iff.2 (h1.el j t hj)
end Go.Vk
namespace Go.Vk
def impD (s u: List Tm): Bool × Bool:=((impU s u).1,decide ((impU s u).2=0))
end Go.Vk
namespace Go.Vk
section
variable {s r: List Tm} {t u: Tm} (hs: isB s=true) (hr: isB r=true) (ht: okT s.length t=true) (hu: okT s.length u=true) (hl: s.length<=r.length) (he:(askU s t u).2=0) (hf:(askU r t u).2=0) (h1:(impD r s).2=true) (h2:(impD r s).1=true)
include hs hr ht hu hl he hf h1 h2
end
section
variable {s: List Tm} {t u: Tm} (hs: isB s=true) (ht: okT s.length t=true) (hu: okT s.length u=true)
include hs ht hu
end
section
variable {s r: List Tm} {t u: Tm} (hs: isB s=true) (hr: isB r=true) (ht: okT s.length t=true) (hu: okT s.length u=true) (hl: s.length<=r.length)
include hs ht hu
include hr hl
omit hr hl
end
theorem d5 {s: List Tm} {y z: Tm} (hs: isB s=true) (hy: okT s.length y=true) (hk: y.kind=1) (ht: s[y.n.toNat]? =some z) (h2: ¬ z.kind=0): follow s z=follow s y/\okT s.length z=true/\vm z < vm y:=by
 have hG:=(isB_iff.1 hs).1;have:=follow_down hG.dec (okT_vis hG hy) hk ht (by unfold opn;rw [getD_some ht];exact decide_eq_false h2);exact⟨this.1,(hG.bnd ht h2).1,this.2.2⟩
end Go.Vk
namespace Go.Vk
open Go.RowKit
abbrev bls (xs: List Bool): List Value:=xs.map Value.bool
theorem cu {xs: List Bool} {j: Nat} {x: Bool} (h: xs[j]? =some x):(bls xs)[j * 1+0]? =some (.bool x):=by
 rw [Nat.mul_one,Nat.add_zero]
 show (List.map _ _)[j]? =_
 rw [List.getElem?_map,h];rfl
theorem dk {xs: List Bool} {j: Nat} (hj: j < xs.length) (x: Bool): splice (bls xs) (j * 1) [.bool x]=bls (xs.set j x):=by
 unfold splice bls;rw [Nat.mul_one,List.map_set,List.set_eq_take_append_cons_drop,if_pos (by simpa using hj),List.append_assoc];rfl
theorem dx (k: Nat): zcells (.bool false) k=bls (List.replicate k false):=by
 have hl:(zcells (.bool false) k).length=k * 1:=bG _ _
 apply List.ext_getElem?
 intro j
 by_cases hj: j < k
 ·simp only [zcells,Builtin.zeroCells,Array.toList_map,List.getElem?_map,Array.toList_range,bls];have hr:(List.range (k *(Value.bool false).cells.size))[j]? =some j:=List.getElem?_range (show j < k * 1 by omega);rw [hr,List.getElem?_replicate,if_pos hj];simp only [Option.map_some,Option.some.injEq];have h5: j %(Value.bool false).cells.size=0:=Nat.mod_one j;rw [h5];rfl
 ·rw [List.getElem?_eq_none j0,List.getElem?_eq_none (by simp;omega)]
def Us (B: List Tm) (seen: List Int): Nat:=unseenN seen 0 B
theorem Us_meet {B: List Tm} {seen: List Int} {v: Int} {u: Tm} (h0: 0<=v) (hu: B[v.toNat]? =some u) (hs: seen.contains v=false): Us B (v::seen)+u.sz<=Us B seen:=by
 have:=dl seen B 0 v.toNat u hu (by rw [show ((0+v.toNat: Nat): Int)=v by omega];exact hs);rw [show ((0+v.toNat: Nat): Int)=v by omega] at this;exact this
structure WK (B: List Tm) (t: Tm) (seen out seen' out': List Int): Prop where
 vf: ∀ ts,AllV B.length ts->VF B (fun _=>false) (t::ts) seen out=VF B (fun _=>false) ts seen' out'
 u: Us B seen'<=Us B seen
 o: out'.length+Us B seen'<=out.length+Us B seen
section
variable {n: Nat} {B: List Tm} (hG: Gst B.length B) {t: Tm} {seen out: List Int} (ho: overR (B.length: Int) t=true)
include hG ho
omit hG in
theorem allV_cons {ts: List Tm} (h: AllV B.length ts): AllV B.length (t::ts):=fun u hu=>by
 rcases List.mem_cons.1 hu with rfl | hu
 ·exact ho
 ·exact h u hu
theorem WK.op (hk: t.kind=1) (hs: seen.contains t.n=false) {u: Tm} (hu: B[t.n.toNat]? =some u) (h0: u.kind=0): WK B t seen out (t.n::seen) (out++ [t.n]):=by
 have hv:=cg ho hk;have hm:=Us_meet hv.1 hu hs;have hp:=u.sz_pos;exact⟨fun ts h=>VF_open hG.allV (allV_cons ho h) hk hs (by unfold opn;rw [getD_some hu];exact decide_eq_true h0) J,by omega,by rw [List.length_append];simp only [List.length_cons,List.length_nil];omega⟩
theorem WK.bd (hk: t.kind=1) (hs: seen.contains t.n=false) {u: Tm} (hu: B[t.n.toNat]? =some u) (h0: ¬ u.kind=0) {seen' out': List Int} (h: WK B u (t.n::seen) out seen' out'): WK B t seen out seen' out':=by
 have hv:=cg ho hk;have hm:=Us_meet hv.1 hu hs;have h1:=h.u;have h2:=h.o;exact⟨fun ts hts=>(VF_bound' hG.allV (allV_cons ho hts) hk hs (by unfold opn;rw [getD_some hu];exact decide_eq_false h0) hu).trans (h.vf ts hts),by omega,by omega⟩
end
end Go.Vk
namespace Go.Vk
open Go.RowKit
structure Wd where
 tag: Int
 n: Int
 s: ByteArray
 one: Bool
def Wd.zero: Wd:=⟨0,0,⟨#[]⟩,false⟩
instance: Inhabited Wd:=⟨Wd.zero⟩
theorem Wd.ext_ {a b: Wd} (h1: a.tag=b.tag) (h2: a.n=b.n) (h3: a.s=b.s) (h4: a.one=b.one): a=b:=by cases a;cases b;simp_all
instance: DecidableEq Wd:=fun a b=>decidable_of_iff (a.tag=b.tag/\a.n=b.n/\a.s=b.s/\a.one=b.one) ⟨fun ⟨h1,h2,h3,h4⟩=>Wd.ext_ h1 h2 h3 h4,fun h=>by subst h;exact⟨rfl,rfl,rfl,rfl⟩⟩
def Wd.cells (x: Wd): List Value:= [.int .i64 x.tag,.int .i64 x.n,.string x.s,.bool x.one]
abbrev wA (x: Wd): Array Value:= #[.int .i64 x.tag,.int .i64 x.n,.string x.s,.bool x.one]
abbrev wL (x: Wd): List Value:= [.int .i64 x.tag,.int .i64 x.n,.string x.s,.bool x.one]
abbrev eO (b t: Nat) (cs: Array Value): Ent:=(some b,.cells cs t (0,0))
abbrev hA (p: Nat) (A: Option Addr) (n c: Nat) (A': Option Addr) (n' c': Nat): Array Value:= #[.pointer (some ⟨p,0,none⟩),.slice A n c,.slice A' n' c',.bool true]
theorem Wd.len (x: Wd): x.cells.length=4:=rfl
theorem Wd.one' (x: Wd): ∀ u ∈ x.cells,u.oneCell'=true:=by
 intro u hu;simp only [Wd.cells,List.mem_cons,List.not_mem_nil,or_false] at hu
 rcases hu with rfl | rfl | rfl | rfl <;> rfl
section
variable {α: Type} {f: α->List Value} {m: Nat}
theorem splice_gfl (hf: ∀ x,(f x).length=m) {xs: List α} {j: Nat} (hj: j < xs.length) (x: α): splice (gfl f xs) (j * m) (f x)=gfl f (xs.set j x):=by
 unfold splice;rw [fa hf,hf,show j * m+m=(j+1) * m by rw [Nat.add_mul];omega,e9 hf,List.set_eq_take_append_cons_drop,if_pos hj,a7,bQ,List.append_assoc]
theorem zcells_gfl (hf: ∀ x,(f x).length=m) (hm: 0 < m) {z: Value} {x0: α} (hz: z.cells.toList=f x0) (k: Nat): zcells z k=gfl f (List.replicate k x0):=by
 have hs: z.cells.size=m:=by rw [<- Array.length_toList,hz,hf]
 have hl:(zcells z k).length=k * m:=by rw [bG,hs]
 apply List.ext_getElem?
 intro j
 by_cases hj: j < k * m
 ·have hr:(List.range (k * m))[j]? =some j:=List.getElem?_range hj;have h1:(zcells z k)[j]? =some (z.cells[j % m]!):=by
   simp only [zcells,Builtin.zeroCells,Array.toList_map,List.getElem?_map,Array.toList_range,hs,hr,Option.map_some]
  have hmod: j % m < m:=Nat.mod_lt _ hm;have hdiv: j / m < k:=by rw [Nat.div_lt_iff_lt_mul hm];exact hj
  have h2:(f x0)[j % m]? =some (z.cells[j % m]!):=by
   rw [<- hz,Array.getElem?_toList,getElem!_pos z.cells (j % m) j0];exact Array.getElem?_eq_getElem j0
  have h3:=d6 hf (xs:=List.replicate k x0) (j:=j / m) (i:=j % m) (x:=x0) (by rw [List.getElem?_replicate,if_pos hdiv]) h2;rw [Nat.div_add_mod'] at h3;rw [h1,h3]
 ·rw [List.getElem?_eq_none j0,List.getElem?_eq_none (by rw [aN hf,List.length_replicate];omega)]
theorem Row.lenG (hf: ∀ x,(f x).length=m) (hm: 0 < m) {v: Value} {en: Ent} {e n: Nat} {xs: List α} (h: Row v en e m n (gfl f xs)): n=xs.length:=by
 have:=h.1;rw [aN hf] at this;exact(Nat.eq_of_mul_eq_mul_right hm this).symm
end
section
variable {α: Type} {f: α->List Value} {sz: Nat} {xs: List α}
theorem gfl_at (hf: ∀ x,(f x).length=sz) (hsz: 0 < sz) {k: Nat} {u: Value} (h:(gfl f xs)[k]? =some u): ∃ x,xs[k / sz]? =some x/\(f x)[k % sz]? =some u:=by
 have hl:=(List.getElem?_eq_some_iff.1 h).1;rw [aN hf] at hl;have hd: k / sz < xs.length:=by rw [Nat.div_lt_iff_lt_mul hsz];exact hl
 have hm: k % sz <(f xs[k / sz]).length:=by rw [hf];exact Nat.mod_lt _ hsz
 refine⟨xs[k / sz],List.getElem?_eq_getElem hd,?_⟩;have h1:=d6 hf (List.getElem?_eq_getElem hd) (List.getElem?_eq_getElem hm);rw [Nat.div_add_mod',h] at h1;rw [List.getElem?_eq_getElem hm];exact h1.symm
theorem fV (hf: ∀ x,(f x).length=sz) (hsz: 0 < sz) {cs: Array Value} {off: Nat} (h2: ∀ j x,xs[j]? =some x->∀ i u,(f x)[i]? =some u->cs[off+j * sz+i]? =some u) {k: Nat} {u: Value} (hk:(gfl f xs)[k]? =some u): cs[off+k]? =some u:=by
 obtain⟨x,h3,h4⟩:=gfl_at hf hsz hk;have:=h2 _ _ h3 _ _ h4
 rwa [Nat.add_assoc,Nat.div_add_mod'] at this
theorem row_src {w: World} {H: PHeap} {L: List Ent} {A: Option Addr} {n c e: Nat} {en: Ent} {i: Nat} {vs: List Value} (hI: Inv w H L) (hi: L[i]? =some en) (hR: Row (.slice A n c) en e sz n vs): vs≠[]->∃ b o e' cs fz,A=some ⟨b,o,none⟩/\w.heap[b]? =some (.cells cs e' fz)/\∀ j u,vs[j]? =some u->cs[o+j]? =some u:=by
 intro hn
 rcases hR.2 with ⟨h1,h2,h3⟩ |⟨b,cap,cur,h1,h2,h3,h4,h5,h6⟩
 ·exact absurd (List.eq_nil_of_length_eq_zero (by rw [hR.1,h2,Nat.zero_mul])) hn
 ·injection h1 with h1
  subst h1 h2;refine⟨b,0,e,cur,(0,0),rfl,hI.at_ i hi,fun j u hj=>?_⟩;rw [<- h6,List.getElem?_take] at hj
  split at hj
  ·rw [Nat.zero_add];simpa using hj
  ·cases hj
end
structure RdG {α: Type} (sz: Nat) (f: α->List Value) (w: World) (L0: List Ent) (A: Option Addr) (c: Nat) (xs: List α): Prop where
 hc: xs.length<=c
 hm: xs.length<=1048576
 rd: ∃(b off e: Nat) (cs: Array Value) (fz: Nat × Nat),(xs≠[]->A=some ⟨b,off,none⟩/\w.heap[b]? =some (.cells cs e fz)/\¬ dom L0 b)/\∀ j x,xs[j]? =some x->∀ i u,(f x)[i]? =some u->cs[off+j * sz+i]? =some u
section
variable {α: Type} {f: α->List Value} {sz: Nat} {w0 w: World} {H0 H: PHeap} {L0 L L1: List Ent} {A: Option Addr} {c: Nat} {xs: List α}
theorem RdG.get (h: RdG sz f w L0 A c xs) {j: Nat} (hj: j < xs.length) :
  ∃(x: α) (b off e: Nat) (cs: Array Value) (fz: Nat × Nat),xs[j]? =some x/\A=some ⟨b,off,none⟩/\(w.heap[b]? =some (.cells cs e fz)/\¬ dom L0 b)/\∀ i u,(f x)[i]? =some u->cs[off+j * sz+i]? =some u:=by
 obtain⟨b,off,e,cs,fz,h3,h4⟩:=h.rd;obtain⟨h5,h6⟩:=h3 (fun e=>by subst e;simp at hj);exact⟨xs[j],b,off,e,cs,fz,List.getElem?_eq_getElem hj,h5,h6,h4 j _ (List.getElem?_eq_getElem hj)⟩
theorem RdG.nil (w: World) (L0: List Ent): RdG sz f w L0 none 0 []:=⟨Nat.le_refl _,by simp,0,0,0,#[],(0,0),fun h=>absurd J h,fun j x h=>by simp at h⟩
theorem RdG.of_data (hI: Inv w H L) (h: RowG sz f H A c xs): RdG sz f w L A c xs:=by
 obtain⟨h1,h2,b,off,e,cs,fz,h3,h4⟩:=h;exact⟨h1,h2,b,off,e,cs,fz,fun hn=>⟨(h3 hn).1,hI.ext b _ (h3 hn).2⟩,h4⟩
theorem RdG.fewer (h: RdG sz f w L0 A c xs) (hs: ∀ k,dom L1 k->dom L0 k): RdG sz f w L1 A c xs:=by
 obtain⟨b,off,e,cs,fz,h3,h4⟩:=h.rd;exact⟨h.hc,h.hm,b,off,e,cs,fz,fun hn=>⟨(h3 hn).1,(h3 hn).2.1,fun hd=>(h3 hn).2.2 (hs b hd)⟩,h4⟩
theorem RdG.at_ {H': PHeap} (h: RdG sz f w0 L0 A c xs) (hS: Step w0 H0 L0 w H L) (hs: ∀ k,dom L1 k->dom L k): RdG sz f w L1 A c xs:=by
 obtain⟨b,off,e,cs,fz,h3,h4⟩:=h.rd;refine⟨h.hc,h.hm,b,off,e,cs,fz,fun hn=>?_,h4⟩;obtain⟨h5,h6,h7⟩:=h3 hn;refine⟨h5,hS.keepN h6 h7,fun hd=>?_⟩
 rcases hS.newL b (hs b hd) with h8 | h8
 ·have:=(Array.getElem?_eq_some_iff.1 h6).1;omega
 ·exact h7 h8
theorem RdG.of_own {n e: Nat} {en: Ent} (hf: ∀ x,(f x).length=sz) (hsz: 0 < sz) (hI: Inv w H (en::L)) (hR: Row (.slice A n c) en e sz n (gfl f xs)) (hm: xs.length<=1048576): RdG sz f w L A c xs:=by
 have hn:=hR.lenG hf hsz
 rcases hR.2 with ⟨h1,h2,h3⟩ |⟨b,cap,cur,h1,h2,h3,h4,h5,h6⟩
 ·injection h1 with h1 _ h1c
  subst h1 h1c;have: xs= []:=List.eq_nil_of_length_eq_zero j0;subst this;exact RdG.nil w L
 ·injection h1 with h1 _ h1c
  subst h1 h1c;refine⟨by omega,hm,b,0,e,cur,(0,0),fun _=>⟨rfl,?_,fun hd=>?_⟩,fun j x hj i u hu=>?_⟩
  ·have:=hI.own en List.mem_cons_self b (by rw [h2]);rw [h2] at this;exact this
  ·obtain⟨y,hy,hyb⟩:=hd;exact(List.pairwise_cons.1 hI.pw).1 y hy b (by rw [h2]) hyb
  ·have h7:=d6 hf hj hu;rw [<- h6,List.getElem?_take] at h7
   split at h7
   ·rw [Nat.zero_add];simpa using h7
   ·cases h7
theorem Step.frameR {w': World} {H': PHeap} (R: List Ent) {Lc Lc': List Ent} (h: Step w0 H0 L0 w H (R++Lc)) (c: Step w H Lc w' H' Lc'): Step w0 H0 L0 w' H' (R++Lc'):=
 (Step.frame (h.perm List.perm_append_comm) c).perm List.perm_append_comm
theorem Step.tail (R: List Ent) {Lc: List Ent} (h: Step w0 H0 L0 w H (R++Lc)): Inv w H Lc:=(Step.dropN R Lc h).inv
theorem bP (R: List Ent) {Lc: List Ent}: ∀ k,dom Lc k->dom (R++Lc) k:=fun k h=>bi.2 (.inr h)
theorem RowG.of_lit {b e: Nat} {cs: Array Value} {fz: Nat × Nat} (hf: ∀ x,(f x).length=sz) (xs: List α) (hb: H b=some (.cells cs e fz)) (hm: xs.length<=1048576) (hc: cs.toList=gfl f xs): RowG sz f H (some ⟨b,0,none⟩) xs.length xs:=by
 refine⟨Nat.le_refl _,hm,b,0,e,cs,fz,fun _=>⟨rfl,hb⟩,fun j x hj i u hu=>?_⟩;have h7:=d6 hf hj hu;rw [<- hc] at h7;rw [Nat.zero_add];simpa using h7
theorem RowG.nil: RowG sz f H none 0 ([]: List α):=⟨Nat.le_refl _,by simp,0,0,0,#[],(0,0),fun h=>absurd J h,fun j x h=>by simp at h⟩
end
end Go.Vk
namespace Go.Vk
inductive PB where
 | var (to: List Wd) (hooks: List Int)
 | fn (name: ByteArray) (args: List Wd)
 | vec (elems: List Wd)
instance: Inhabited PB:=⟨.vec []⟩
def PB.words: PB->List Wd
 | .var to _=>to
 | .fn _ l=>l
 | .vec l=>l
def PB.size: PB->Nat
 | .var _ _=>1
 | .fn _ l=>l.length+1
 | .vec l=>l.length+1
def PB.tag: PB->Int
 | .var _ _=>4
 | .fn _ _=>5
 | .vec _=>6
abbrev BK:=Nat × PB
abbrev PS:=List (Option PB)
abbrev BS:=List (Option BK)
def er (bs: BS): PS:=bs.map fun o=>o.map (·.2)
def atG {α: Type} (tg: α->Int) (l: List (Option α)) (w: Wd): Option α:=
 if w.n < 0\/(l.length: Int)<=w.n\/¬ w.s=⟨#[]⟩ then none
 else match l.getD w.n.toNat none with
  | some b=>if w.tag=tg b then some b else none
  | none=>none
abbrev atB (bs: BS) (w: Wd): Option BK:=atG (fun b=>b.2.tag) bs w
abbrev atS (S: PS) (w: Wd): Option PB:=atG PB.tag S w
theorem bO (bs: BS):(er bs).length=bs.length:=by simp [er]
theorem dL (bs: BS) (j: Nat):(er bs)[j]? =(bs[j]?).map fun o=>o.map (·.2):=by simp [er]
theorem er_getD (bs: BS) (j: Nat):(er bs).getD j none=(bs.getD j none).map (·.2):=by
 rw [List.getD_eq_getElem?_getD,List.getD_eq_getElem?_getD,dL]
 cases bs[j]? <;> rfl
theorem fI (bs: BS) (j: Nat) (b: Option BK): er (bs.set j b)=(er bs).set j (b.map (·.2)):=by simp [er,List.map_set]
theorem eM (bs: BS) (w: Wd):(atB bs w).map (·.2)=atS (er bs) w:=by
 unfold atB atS atG;rw [bO,er_getD]
 split
 ·rfl
 ·cases bs.getD w.n.toNat none with
  | none=>rfl
  | some b =>
   show Option.map _ (if _ then _ else _)=if w.tag=b.2.tag then _ else _
   split <;> rfl
theorem aD {α: Type} {tg: α->Int} {l: List (Option α)} {w: Wd} {b: α} (h: atG tg l w=some b): 0<=w.n/\w.n < l.length/\w.s=⟨#[]⟩/\l[w.n.toNat]? =some (some b)/\w.tag=tg b:=by
 unfold atG at h
 split at h
 ·cases h
 ·rename_i hn
  rw [List.getD_eq_getElem?_getD] at h;have h1: 0<=w.n:=by omega
  have h2: w.n < l.length:=by omega
  have h3: w.s=⟨#[]⟩:=Classical.byContradiction fun e=>hn (.inr (.inr e));have hl: w.n.toNat < l.length:=by omega
  rw [List.getElem?_eq_getElem hl] at h;simp only [Option.getD_some] at h
  split at h
  ·rename_i b' hb
   split at h
   ·rename_i ht
    obtain rfl:=Option.some.inj h;exact⟨h1,h2,h3,by rw [List.getElem?_eq_getElem hl,hb],ht⟩
   ·cases h
  ·cases h
theorem dm {α: Type} {tg: α->Int} {l: List (Option α)} {w: Wd} {b: α} (h1: 0<=w.n) (h2: w.n < l.length) (h3: w.s=⟨#[]⟩) (h4: l[w.n.toNat]? =some (some b)): atG tg l w=if w.tag=tg b then some b else none:=by
 unfold atG;rw [if_neg (by rintro(h | h | h);omega;omega;exact h h3),List.getD_eq_getElem?_getD,h4];rfl
theorem ck {α: Type} {tg: α->Int} {l: List (Option α)} {w: Wd} (h4: w.n < 0\/(l.length: Int)<=w.n\/(¬ w.s=⟨#[]⟩)\/l[w.n.toNat]? =some none): atG tg l w=none:=by
 unfold atG
 split
 ·rfl
 ·rename_i hn
  rcases h4 with h | h | h | h
  ·exact absurd (.inl h) hn
  ·exact absurd (.inr (.inl h)) hn
  ·exact absurd (.inr (.inr h)) hn
  ·rw [List.getD_eq_getElem?_getD,h];rfl
def refB (w: Wd): Bool:=decide (w.tag=4)||decide (w.tag=5)||decide (w.tag=6)
def nmB (s: ByteArray): Bool:=isTm (.mk 3 0 s [])
def wordS (S: PS) (w: Wd): Bool:=
 if w.tag=1 then decide (w.s=⟨#[]⟩)&&!w.one&&decide (-2147483647<=w.n)&&decide (w.n<=2147483647)
 else if w.tag=2 then decide (w.n=0)&&!w.one&&nmB w.s
 else if w.tag=3 then decide (w.n=0)&&!w.one&&decide ((w.s.size: Int)<=255)
 else refB w&&(atS S w).isSome
def allS (S: PS) (l: List Wd): Bool:=l.all (wordS S)
def findP (tk: List Bool) (size: Nat): Nat->Nat->Int
 | 0,_=> -1
 | k+1,at_=>if tk.length < at_+size then -1 else
  match ((tk.drop at_).take size).findIdx? id with
  | some i=>findP tk size k (at_+i+1)
  | none=>at_
def findS (tk: List Bool) (size: Nat): Int:=findP tk size (tk.length+1) 0
def fillP (tk: List Bool) (at_ size: Nat) (v: Bool): List Bool:=tk.take at_++List.replicate size v++tk.drop (at_+size)
structure HS where
 S: PS
 tk: List Bool
 u: Int
def HS.new (n: Nat): HS:=⟨List.replicate n none,List.replicate n false,0⟩
def HS.place (h: HS) (b: PB): HS × Int:=
 let a:=findS h.tk b.size
 if a < 0 then (h,a) else (⟨h.S.set a.toNat (some b),fillP h.tk a.toNat b.size true,h.u+b.size⟩,a)
def HS.clear (h: HS) (a: Nat): HS:=
 match h.S.getD a none with
 | some b=>⟨h.S.set a none,fillP h.tk a b.size false,h.u - b.size⟩
 | none=>h
def refW (tag a: Int): Wd × Int:=if a < 0 then (Wd.zero,210) else (⟨tag,a,⟨#[]⟩,true⟩,0)
def HS.var (h: HS): HS ×(Wd × Int):=let r:=h.place (.var [] []);(r.1,refW 4 r.2)
def HS.fun_ (h: HS) (s: ByteArray) (l: List Wd): HS ×(Wd × Int):=
 if nmB s=false then (h,(Wd.zero,1)) else if allS h.S l=false then (h,(Wd.zero,211)) else if l.length < 1\/16 < l.length then (h,(Wd.zero,1))
 else let r:=h.place (.fn s l);(r.1,refW 5 r.2)
def HS.vec (h: HS) (l: List Wd): HS ×(Wd × Int):=
 if allS h.S l=false then (h,(Wd.zero,211)) else if 64 < l.length then (h,(Wd.zero,1))
 else let r:=h.place (.vec l);(r.1,refW 6 r.2)
def nxtW (w x: Wd): Wd:=if refB x then ⟨x.tag,x.n,x.s,x.one&&w.one⟩ else x
def folS (S: PS): Nat->Wd->Wd × Bool
 | 0,_=>(Wd.zero,false)
 | k+1,w=>match atS S w with
  | some (.var (x::_) _)=>folS S k (nxtW w x)
  | _=>(w,true)
def followS (S: PS) (w: Wd): Wd × Bool:=folS S (S.length+1) w
def valueS (S: PS) (w: Wd): Wd × Int:=
 if wordS S w=false then (Wd.zero,211) else
 let x:=followS S w
 if x.2=false then (Wd.zero,2) else if wordS S x.1=false then (Wd.zero,211) else (x.1,0)
def openS (S: PS) (w: Wd): Option Nat × Int:=
 let x:=valueS S w
 if x.2≠0 then (none,x.2) else match atS S x.1 with
  | some (.var _ _)=>(some x.1.n.toNat,0)
  | _=>(none,211)
def addG (l: List Int): List Int->List Int
 | []=>l
 | g::gs=>addG (if l.contains g then l else l++ [g]) gs
def hooksAt (S: PS) (i: Nat): List Int:=
 match S.getD i none with
 | some (.var _ hk)=>hk
 | _=> []
def HS.setB (h: HS) (i: Nat) (b: PB): HS:= { h with S:=h.S.set i (some b) }
def HS.bind (h: HS) (v x: Wd): HS ×(List Int × Int):=
 let t:=openS h.S v
 if t.2≠0 then (h,([],t.2)) else
 let y:=valueS h.S x
 if y.2≠0 then (h,([],y.2)) else
 match t.1 with
 | none=>(h,([],0))
 | some i=>match atS h.S y.1 with
  | some (.var to hk) =>
   if y.1.n.toNat=i then (h,([],0)) else
   let l:=addG hk (hooksAt h.S i)
   if 4000 < l.length then (h,([],2)) else ((h.setB y.1.n.toNat (.var to l)).setB i (.var [x] []),([],0))
  | _=>(h.setB i (.var [x] []),(hooksAt h.S i,0))
def HS.hook (h: HS) (v: Wd) (g: Int): HS × Int:=
 let t:=openS h.S v
 if t.2≠0 then (h,t.2) else if g < 0\/2147483647 < g then (h,1) else
 match t.1 with
 | none=>(h,0)
 | some i=>match h.S.getD i none with
  | some (.var to hk)=>if hk.contains g then (h,0) else if 4000<=hk.length then (h,2) else (h.setB i (.var to (hk++ [g])),0)
  | _=>(h,0)
def rdL (f: Int->Wd->Int × Option Tm): Int->List Wd->Int × Option (List Tm)
 | left, []=>(left,some [])
 | left,w::ws =>
  let r:=f left w
  match r.2 with
  | none=>(r.1,none)
  | some t =>
   let r':=rdL f r.1 ws
   (r'.1,r'.2.map (t:: ·))
def rdS (S: PS): Nat->Int->Wd->Int × Option Tm
 | 0,left,_=>(left - 1,none)
 | d+1,left,w =>
  let x:=followS S w
  if x.2=false\/left - 1 < 0 then (left - 1,none)
  else if x.1.tag=1 then (left - 1,some (.mk 2 x.1.n ⟨#[]⟩ []))
  else if x.1.tag=2 then (left - 1,some (.mk 3 0 x.1.s []))
  else if x.1.tag=3 then (left - 1,some (.mk 4 0 x.1.s []))
  else match atS S x.1 with
   | none=>(left - 1,none)
   | some (.var _ _)=>(left - 1,some (.mk 1 x.1.n ⟨#[]⟩ []))
   | some (.fn s ws)=>let r:=rdL (rdS S d) (left - 1) ws;(r.1,r.2.map (.mk 5 0 s ·))
   | some (.vec ws)=>let r:=rdL (rdS S d) (left - 1) ws;(r.1,r.2.map (.mk 6 0 ⟨#[]⟩ ·))
def readS (S: PS) (w: Wd): Tm × Int:=
 if wordS S w=false then (Tm.zero,211) else match (rdS S 600 4000 w).2 with
  | some t=>(t,0)
  | none=>(Tm.zero,2)
def HS.free (h: HS) (w: Wd): HS ×(List Wd × Int):=
 match atS h.S w with
 | none=>(h,([],211))
 | some b=>if b.tag=4/\b.words= [] then (h,([],211)) else if w.one=false then (h,([],212)) else (h.clear w.n.toNat,(b.words,0))
def shW (w: Wd): Wd:=⟨w.tag,w.n,w.s,false⟩
def HS.update (h: HS) (w: Wd) (i: Int) (x: Wd): HS ×(Wd × Wd × Bool × Int):=
 match atS h.S w with
 | some (.vec l) =>
  if i < 0\/(l.length: Int)<=i then (h,(Wd.zero,Wd.zero,false,1)) else if wordS h.S x=false then (h,(Wd.zero,Wd.zero,false,211)) else
  let old:=l.getD i.toNat Wd.zero
  if w.one then (h.setB w.n.toNat (.vec (l.set i.toNat x)),(w,old,true,0)) else
  let r:=h.place (.vec ((l.map shW).set i.toNat x))
  if r.2 < 0 then (h,(Wd.zero,Wd.zero,false,210)) else (r.1.setB w.n.toNat (.vec (l.map shW)),(⟨6,r.2,⟨#[]⟩,true⟩,shW old,false,0))
 | _=>(h,(Wd.zero,Wd.zero,false,211))
def walkS (S: PS): Nat->List Bool->List Nat->List Wd->List Nat
 | 0,_,out,_=>out
 | _+1,_,out, []=>out
 | k+1,met,out,w::st=>match atS S w with
  | none=>walkS S k met out st
  | some b=>if met.getD w.n.toNat false then walkS S k met out st else walkS S k (met.set w.n.toNat true) (out++ [w.n.toNat]) (b.words.reverse++st)
def wordsN (S: PS): Nat:=(S.map fun o=>match o with | some b=>b.words.length | none=>0).sum
def blocksS (S: PS) (roots: List Wd): List Nat:=walkS S (roots.length+wordsN S+1) (List.replicate S.length false) [] roots.reverse
def noteW (c: List Int × List Bool) (w: Wd): List Int × List Bool:=
 if refB w then (c.1.set w.n.toNat (c.1.getD w.n.toNat 0+1),c.2.set w.n.toNat (c.2.getD w.n.toNat false||w.one)) else c
def wordsAt (S: PS) (j: Nat): List Wd:=
 match S.getD j none with
 | some b=>b.words
 | none=> []
def noteL (S: PS): List Int × List Bool->List Wd->Option (List Int × List Bool)
 | c, []=>some c
 | c,w::ws=>if wordS S w=false then none else noteL S (noteW c w) ws
def noteB (S: PS): List Int × List Bool->List Nat->Option (List Int × List Bool)
 | c, []=>some c
 | c,j::js=>match noteL S c (wordsAt S j) with
  | none=>none
  | some c'=>noteB S c' js
def mostS (S: PS) (j: Nat): Int:=
 match S.getD j none with
 | some (.var [] _)=>2
 | _=>1
def badAt (S: PS) (c: List Int × List Bool) (j: Nat): Bool:=c.2.getD j false&&decide (mostS S j < c.1.getD j 0)
def auditS (S: PS) (roots: List Wd): Int:=
 if allS S roots=false then 211 else
 match noteB S (roots.foldl noteW (List.replicate S.length 0,List.replicate S.length false)) (blocksS S roots) with
 | none=>213
 | some c=>if (blocksS S roots).any (badAt S c) then 213 else 0
end Go.Vk
namespace Go.Vk
open Go.RowKit
def fl3 (fs: List (Ent × Ent × Ent)): List Ent:=fs.flatMap fun t=> [t.1,t.2.1,t.2.2]
theorem eY (t: Ent × Ent × Ent) (fs: List (Ent × Ent × Ent)): fl3 (t::fs)=t.1::t.2.1::t.2.2::fl3 fs:=rfl
theorem dC: ∀(fs: List (Ent × Ent × Ent)) (j: Nat) (t: Ent × Ent × Ent),fs[j]? =some t->(fl3 fs).Perm (t.1::t.2.1::t.2.2::fl3 (fs.eraseIdx j))
 | [],j,t,h=>by simp at h
 | x::fs,0,t,h=>by
  obtain rfl: x=t:=by simpa using h
  exact List.Perm.refl _
 | x::fs,j+1,t,h=>by
  have h1:=dC fs j t (by simpa using h);rw [eY,List.eraseIdx_cons_succ,eY];refine(((h1.cons x.2.2).cons x.2.1).cons x.1).trans ?_;exact(List.perm_append_comm (l₁:= [x.1,x.2.1,x.2.2]) (l₂:= [t.1,t.2.1,t.2.2])).append_right (fl3 (fs.eraseIdx j))
def bkv: Option BK->Value
 | none=>.nilIface
 | some (q,.var _ _)=>.iface 114 (.pointer (some ⟨q,0,none⟩))
 | some (q,.fn _ _)=>.iface 110 (.pointer (some ⟨q,0,none⟩))
 | some (q,.vec _)=>.iface 117 (.pointer (some ⟨q,0,none⟩))
def bkc (o: Option BK): List Value:= [bkv o]
theorem cz (o: Option BK):(bkc o).length=1:=rfl
theorem bkv_cells (o: Option BK):(bkv o).cells.toList=bkc o:=by
 rcases o with _ |⟨q,_ | _ | _⟩ <;> rfl
theorem bkv_sz (o: Option BK):(bkv o).cells.size=1:=by
 rcases o with _ |⟨q,_ | _ | _⟩ <;> rfl
theorem bkv_one (o: Option BK):((bkv o).cells.toList.all fun u=>u.oneCell')=true:=by
 rcases o with _ |⟨q,_ | _ | _⟩ <;> rfl
def Bk3: Option BK->Ent × Ent × Ent->Prop
 | none,t=>t.1.1=none/\t.2.1.1=none/\t.2.2.1=none
 | some (q,.var to hk),t=> ∃(A: Option Addr) (c: Nat) (A': Option Addr) (c': Nat),t.1=(some q,.cells #[.slice A to.length c,.slice A' hk.length c'] 116 (0,0))/\Row (.slice A to.length c) t.2.1 35 4 to.length (gfl Wd.cells to)/\Row (.slice A' hk.length c') t.2.2 3 1 hk.length (ints hk)
 | some (q,.fn s l),t=> ∃(A: Option Addr) (c: Nat),t.1=(some q,.cells #[.string s,.slice A l.length c] 113 (0,0))/\Row (.slice A l.length c) t.2.1 35 4 l.length (gfl Wd.cells l)/\t.2.2.1=none
 | some (q,.vec l),t=> ∃(A: Option Addr) (c: Nat),t.1=(some q,.cells #[.slice A l.length c] 119 (0,0))/\Row (.slice A l.length c) t.2.1 35 4 l.length (gfl Wd.cells l)/\t.2.2.1=none
def PB.ok: PB->Prop
 | .var to hk=>to.length<=1/\hk.length<=4000
 | .fn _ l=>l.length<=64
 | .vec l=>l.length<=64
theorem PB.ok.words {b: PB} (h: b.ok): b.words.length<=64:=by
 cases b with
 | var to hk=>have:=h.1;simp only [PB.words];omega
 | fn s l=>exact h
 | vec l=>exact h
theorem PB.ok.size {b: PB} (h: b.ok): 1<=b.size/\b.size<=65:=by
 cases b with
 | var to hk=>simp only [PB.size];omega
 | fn s l=>have: l.length<=64:=h;simp only [PB.size];omega
 | vec l=>have: l.length<=64:=h;simp only [PB.size];omega
structure Fs (bs: BS) (fs: List (Ent × Ent × Ent)): Prop where
 len: fs.length=bs.length
 at_: ∀(j: Nat) (o: Option BK) (t: Ent × Ent × Ent),bs[j]? =some o->fs[j]? =some t->Bk3 o t
 ok: ∀(j: Nat) (b: BK),bs[j]? =some (some b)->b.2.ok
theorem Fs.get {bs: BS} {fs: List (Ent × Ent × Ent)} (h: Fs bs fs) {j: Nat} {o: Option BK} (hj: bs[j]? =some o): ∃ t,fs[j]? =some t/\Bk3 o t:=by
 have hl:=(List.getElem?_eq_some_iff.1 hj).1;have: j < fs.length:=by rw [h.len];exact hl
 exact⟨fs[j],List.getElem?_eq_getElem this,h.at_ j o _ hj (List.getElem?_eq_getElem this)⟩
theorem Fs.set {bs: BS} {fs: List (Ent × Ent × Ent)} (h: Fs bs fs) {j: Nat} {o: Option BK} {t: Ent × Ent × Ent} (ht: Bk3 o t) (ho: ∀ b,o=some b->b.2.ok): Fs (bs.set j o) (fs.set j t):=by
 refine⟨by simp [h.len],fun i o' t' hi hi'=>?_,fun i b hi=>?_⟩
 ·rw [List.getElem?_set] at hi hi'
  by_cases hij: j=i
  ·rw [if_pos hij] at hi hi'
   split at hi
   ·split at hi'
    ·obtain rfl:=Option.some.inj hi;obtain rfl:=Option.some.inj hi';exact ht
    ·cases hi'
   ·cases hi
  ·rw [if_neg hij] at hi hi';exact h.at_ i o' t' hi hi'
 ·rw [List.getElem?_set] at hi
  by_cases hij: j=i
  ·rw [if_pos hij] at hi
   split at hi
   ·exact ho b (Option.some.inj hi)
   ·cases hi
  ·rw [if_neg hij] at hi;exact h.ok i b hi
theorem Fs.none (n: Nat): Fs (List.replicate n none) (List.replicate n (noEnt,noEnt,noEnt)):=by
 refine⟨by simp,fun j o t hj ht=>?_,fun j b hj=>?_⟩
 ·rw [List.getElem?_replicate] at hj ht
  split at hj
  ·rename_i hl
   rw [if_pos hl] at ht;obtain rfl:=Option.some.inj hj;obtain rfl:=Option.some.inj ht;exact⟨rfl,rfl,rfl⟩
  ·cases hj
 ·rw [List.getElem?_replicate] at hj
  split at hj <;> cases hj
def HP (p: Nat) (bs: BS) (tk: List Bool) (u: Int) (L: List Ent): Prop:=
 ∃(Ab: Option Addr) (cb: Nat) (At: Option Addr) (ct: Nat) (eb et: Ent) (fs: List (Ent × Ent × Ent)),
  L=(some p,.cells #[.slice Ab bs.length cb,.slice At bs.length ct,.int .i64 u] 103 (0,0))::eb::et::fl3 fs/\
  Row (.slice Ab bs.length cb) eb 105 1 bs.length (gfl bkc bs)/\Row (.slice At bs.length ct) et 4 1 bs.length (bls tk)/\tk.length=bs.length/\bs.length<=65536/\Fs bs fs
section
variable {w0 w: World} {H0 H: PHeap} {L0 Es: List Ent} {fs: List (Ent × Ent × Ent)} {t t': Ent × Ent × Ent} {j: Nat}
theorem Step.ex3 (h: Step w0 H0 L0 w H (Es++fl3 fs)) (hj: fs[j]? =some t): Step w0 H0 L0 w H (Es++t.1::t.2.1::t.2.2::fl3 (fs.eraseIdx j)):=h.perm (List.Perm.append_left _ (dC _ _ _ hj))
theorem Step.hd3 (hj: fs[j]? =some t) (h: Step w0 H0 L0 w H (Es++t'.1::t'.2.1::t'.2.2::fl3 (fs.eraseIdx j))): Step w0 H0 L0 w H (Es++fl3 (fs.set j t')):=by
 refine h.perm (List.Perm.append_left _ ?_);have hl:=(List.getElem?_eq_some_iff.1 hj).1;have:=dC (fs.set j t') j t' (by rw [List.getElem?_set,if_pos J,if_pos hl]);rw [List.eraseIdx_set_eq] at this;exact this.symm
theorem Step.fl30 (h: Step w0 H0 L0 w H Es): ∀ n: Nat,Step w0 H0 L0 w H (Es++fl3 (List.replicate n (noEnt,noEnt,noEnt)))
 | 0=>by rw [List.replicate_zero];show Step w0 H0 L0 w H (Es++ []);rw [List.append_nil];exact h
 | n+1=>by
  have h1:=(((Step.fl30 h n).cons_none (en:=noEnt) J).cons_none (en:=noEnt) J).cons_none (en:=noEnt) J;rw [List.replicate_succ,eY];refine h1.perm ?_;exact(List.perm_append_comm (l₁:= [noEnt,noEnt,noEnt]) (l₂:=Es)).append_right _ |>.trans (by rw [List.append_assoc];exact List.Perm.refl _)
end
theorem Fs.inj {w: World} {H: PHeap} {Es: List Ent} {bs: BS} {fs: List (Ent × Ent × Ent)} (h: Fs bs fs) (hI: Inv w H (Es++fl3 fs)) {i j: Nat} {b c: BK} (hi: bs[i]? =some (some b)) (hj: bs[j]? =some (some c)) (hq: b.1=c.1): i=j:=by
 have key: ∀ {i: Nat} {b: BK},bs[i]? =some (some b)->∃ t,fs[i]? =some t/\t.1.1=some b.1:=by
  intro i b hi;obtain⟨t,h1,h2⟩:=h.get hi;refine⟨t,h1,?_⟩;obtain⟨q,pb⟩:=b
  cases pb with
  | var to hk=>obtain ⟨_,_,_,_,h3,_⟩:=h2;rw [h3]
  | fn s l=>obtain ⟨_,_,h3,_⟩:=h2;rw [h3]
  | vec l=>obtain ⟨_,_,h3,_⟩:=h2;rw [h3]
 obtain⟨t,h1,h2⟩:=key hi;obtain⟨s,h3,h4⟩:=key hj;refine Classical.byContradiction fun hne=>?_;have hp:=hI.perm (List.Perm.append_left Es (dC fs i t h1));have hj': s.1 ∈ fl3 (fs.eraseIdx i):=by
  have: s ∈ fs.eraseIdx i:=by
   rw [List.mem_eraseIdx_iff_getElem?];exact⟨j,fun e=>hne e.symm,h3⟩
  exact List.mem_flatMap.2 ⟨s,this,List.mem_cons_self⟩
 have hpw:=(List.pairwise_append.1 hp.pw).2.1;have h5:=(List.pairwise_cons.1 hpw).1 s.1 (List.mem_cons_of_mem _ (List.mem_cons_of_mem _ hj')) b.1 h2;exact h5 (by rw [h4,hq])
theorem bg {fs: List (Ent × Ent × Ent)} {j: Nat} {t: Ent × Ent × Ent} (h: fs[j]? =some t): t.1 ∈ fl3 fs:=List.mem_flatMap.2 ⟨t,List.mem_of_getElem? h,by simp⟩
theorem bp {fs: List (Ent × Ent × Ent)} {j: Nat} {t: Ent × Ent × Ent} (h: fs[j]? =some t): t.2.1 ∈ fl3 fs:=List.mem_flatMap.2 ⟨t,List.mem_of_getElem? h,by simp⟩
theorem bK {fs: List (Ent × Ent × Ent)} {j: Nat} {t: Ent × Ent × Ent} (h: fs[j]? =some t): t.2.2 ∈ fl3 fs:=List.mem_flatMap.2 ⟨t,List.mem_of_getElem? h,by simp⟩
theorem cJ {e: Ent} (R: List Ent) {Lc: List Ent} (h: e ∈ Lc): e ∈ R++Lc:=List.mem_append_right _ h
section
variable {w0 w: World} {H0 H: PHeap} {L0 L Lc: List Ent}
theorem Step.at_mem (R: List Ent) {b: Nat} {o: Obj} (h: Step w0 H0 L0 w H (R++Lc)) (hm:(some b,o) ∈ Lc): w.heap[b]? =some o:=h.inv.own _ (cJ R hm) b J
theorem Step.castR {L': List Ent} (R: List Ent) (hE: Lc=L') (h: Step w0 H0 L0 w H (R++Lc)): Step w0 H0 L0 w H (R++L'):=hE ▸ h
theorem Step.castB {L': List Ent} (R: List Ent) (h: Step w0 H0 L0 w H (R++L')) (hE: Lc=L'): Step w0 H0 L0 w H (R++Lc):=hE ▸ h
theorem RdG.of_mem {α: Type} {f: α->List Value} {sz: Nat} {A: Option Addr} {n c e: Nat} {en: Ent} {xs: List α} (hf: ∀ x,(f x).length=sz) (hsz: 0 < sz) (hI: Inv w H L) (hm: en ∈ L) (hR: Row (.slice A n c) en e sz n (gfl f xs)) (hl: xs.length<=1048576): RdG sz f w [] A c xs:=by
 obtain⟨i,hi⟩:=List.getElem?_of_mem hm;exact(RdG.of_own hf hsz (hI.perm (dP L i en hi)) hR hl).fewer fun k hk=>absurd hk cj
theorem RdI.of_mem {A: Option Addr} {n c e: Nat} {en: Ent} {xs: List Int} (hI: Inv w H L) (hm: en ∈ L) (h: Row (.slice A n c) en e 1 n (ints xs)) (hl: n * 8<=140737488355328): RdI w A c xs:=by
 obtain⟨i,hi⟩:=List.getElem?_of_mem hm;exact RdI.of_row hI h i hi hl
theorem Step.of_below (hI: Inv w0 H []) (hb: Below w0.heap.size w0 w): Step w0 H [] w H []:=by
 obtain⟨h1,h2,h3,h4,h5⟩:=hb;exact⟨h1,h2,h3,h4,fun k hk _=>h5 k hk,⟨fun e he=>(by cases he),List.Pairwise.nil,fun k o hk=>⟨(h5 k (hI.hlt hk)).trans (hI.ext k o hk).1,cj⟩⟩,Le.refl _,fun _ _ h=>.inl h,fun k hk=>absurd hk cj⟩
end
section
variable {w0 w: World} {H0 H: PHeap} {L0: List Ent} {fs: List (Ent × Ent × Ent)} {t told: Ent × Ent × Ent} {j: Nat}
theorem Step.blkOut (Es: List Ent) (hj: fs[j]? =some t) (h: Step w0 H0 L0 w H (Es++fl3 fs)): Step w0 H0 L0 w H (t.1::t.2.1::t.2.2::(Es++fl3 (fs.set j (noEnt,noEnt,noEnt)))):=by
 have h2: Step w0 H0 L0 w H (t.1::t.2.1::t.2.2::(Es++fl3 (fs.eraseIdx j))):=(h.ex3 hj).perm (List.perm_append_comm_assoc Es [t.1,t.2.1,t.2.2] (fl3 (fs.eraseIdx j)));have h3:=((h2.cons_none (en:=noEnt) J).cons_none (en:=noEnt) J).cons_none (en:=noEnt) J;refine Step.hd3 (t':=(noEnt,noEnt,noEnt)) (Es:=t.1::t.2.1::t.2.2::Es) hj (h3.perm ?_);exact List.perm_append_comm_assoc [noEnt,noEnt,noEnt] (t.1::t.2.1::t.2.2::Es) (fl3 (fs.eraseIdx j))
theorem Step.blkPut (Es: List Ent) (hj: fs[j]? =some told) (h: Step w0 H0 L0 w H (t.1::t.2.1::t.2.2::(Es++fl3 fs))): Step w0 H0 L0 w H (Es++fl3 (fs.set j t)):=by
 have h1: Step w0 H0 L0 w H ((t.1::t.2.1::t.2.2::Es)++fl3 fs):=h;have h2:=h1.ex3 hj;have h3: Step w0 H0 L0 w H (told.1::told.2.1::told.2.2::((t.1::t.2.1::t.2.2::Es)++fl3 (fs.eraseIdx j))):=h2.perm (List.perm_append_comm_assoc (t.1::t.2.1::t.2.2::Es) [told.1,told.2.1,told.2.2] (fl3 (fs.eraseIdx j)));refine Step.hd3 (t':=t) hj (h3.drop.drop.drop.perm ?_);exact List.perm_append_comm_assoc [t.1,t.2.1,t.2.2] Es (fl3 (fs.eraseIdx j))
end
theorem HP.mk' {p n cb ct: Nat} {Ab At: Option Addr} {eb et: Ent} {fs: List (Ent × Ent × Ent)} {bs: BS} {tk: List Bool} {u: Int} (hb: bs.length=n) (ht: tk.length=n) (h1: Row (.slice Ab n cb) eb 105 1 n (gfl bkc bs)) (h2: Row (.slice At n ct) et 4 1 n (bls tk)) (hn: n<=65536) (hF: Fs bs fs) :
  HP p bs tk u ((some p,.cells #[.slice Ab n cb,.slice At n ct,.int .i64 u] 103 (0,0))::eb::et::fl3 fs):=by
 subst hb;exact⟨Ab,cb,At,ct,eb,et,fs,rfl,h1,h2,ht,hn,hF⟩
theorem HP.open_ {p: Nat} {bs: BS} {tk: List Bool} {u: Int} {L: List Ent} (h: HP p bs tk u L): ∃(Ab: Option Addr) (cb: Nat) (At: Option Addr) (ct: Nat) (eb et: Ent) (fs: List (Ent × Ent × Ent)),L=(some p,.cells #[.slice Ab bs.length cb,.slice At bs.length ct,.int .i64 u] 103 (0,0))::eb::et::fl3 fs/\bs.length=bs.length/\tk.length=bs.length/\
  Row (.slice Ab bs.length cb) eb 105 1 bs.length (gfl bkc bs)/\Row (.slice At bs.length ct) et 4 1 bs.length (bls tk)/\bs.length<=65536/\Fs bs fs:=by
 obtain⟨Ab,cb,At,ct,eb,et,fs,h1,h2,h3,h4,h5,h6⟩:=h;exact⟨Ab,cb,At,ct,eb,et,fs,h1,rfl,h4,h2,h3,h5,h6⟩
end Go.Vk
namespace Go.Vk
open Go.RowKit
section
variable {P: Program} {K: Act->World->Prop} {Q: Exit->Act->World->Prop} {D: List Deferred} {a: Act} {w: World} {N: Nat} {m: Env} {d: Nat} {ty: TypeId} {pos: String} {aft: Array Edge} {g: Option (Nat × Bool)}
theorem bU {x: Operand} {t e: TypeId} {v: Value} (ht: P.underlying t=some (.pointer e)) (ha: Has D a N m) (hx: ev m x=some v) (hd: Nat.blt d N=true) (k: ∀ a',Has D a' N ((d,.iface t v)::m)->K a' w) :
  Oper.wp P ⟨some d,.makeInterface t x,ty,pos,aft,g⟩ a w K Q:=
 aM (by simp [execOp,ha.ev hx,Instr.makeInterface,run_underlying ht]) ha hd k
theorem br {x: Operand} {xt t e: TypeId} {v: Value} (ht: P.underlying t=some (.pointer e)) (ha: Has D a N m) (hx: ev m x=some (.iface t v)) (hd: Nat.blt d N=true) (k: ∀ a',Has D a' N ((d,.tuple #[v,.bool true])::m)->K a' w) :
  Oper.wp P ⟨some d,.typeAssert x xt t true,ty,pos,aft,g⟩ a w K Q:=
 aM (by simp [execOp,ha.ev hx,Instr.typeAssert,run_underlying ht]) ha hd k
theorem aW {x: Operand} {xt t t' e: TypeId} {v z: Value} {sz bytes: Nat} (T: Ty P t (.pointer e) sz bytes z) (ha: Has D a N m) (hx: ev m x=some (.iface t' v)) (hne: Nat.beq t' t=false) (hd: Nat.blt d N=true) (k: ∀ a',Has D a' N ((d,.tuple #[z,.bool false])::m)->K a' w) :
  Oper.wp P ⟨some d,.typeAssert x xt t true,ty,pos,aft,g⟩ a w K Q:=by
 have hn: ¬ t'=t:=fun e=>by rw [e,Nat.beq_refl] at hne;cases hne
 exact aM (by simp [execOp,ha.ev hx,Instr.typeAssert,T.run_und,hn,T.run_zero]) ha hd k
theorem bM {x: Operand} {xt t e: TypeId} {z: Value} {sz bytes: Nat} (T: Ty P t (.pointer e) sz bytes z) (ha: Has D a N m) (hx: ev m x=some .nilIface) (hd: Nat.blt d N=true) (k: ∀ a',Has D a' N ((d,.tuple #[z,.bool false])::m)->K a' w) :
  Oper.wp P ⟨some d,.typeAssert x xt t true,ty,pos,aft,g⟩ a w K Q:=
 aM (by simp [execOp,ha.ev hx,Instr.typeAssert,T.run_und,T.run_zero]) ha hd k
theorem eqIn_if {t i: TypeId} {ms: Array (String × TypeId)} {v: Value} (ht: P.underlying t=some (.interface ms)) (w: World) (d: Nat):(Op.equalIn (d+1) t (.iface i v) .nilIface).run P w=.ok false w:=by simp [Op.equalIn,run_underlying ht]
theorem eqIn_if0 {t: TypeId} {ms: Array (String × TypeId)} (ht: P.underlying t=some (.interface ms)) (w: World) (d: Nat):(Op.equalIn (d+1) t .nilIface .nilIface).run P w=.ok true w:=by simp [Op.equalIn,run_underlying ht]
theorem run_if_eq {t i: TypeId} {ms: Array (String × TypeId)} {v: Value} (ht: P.underlying t=some (.interface ms)) (w: World):(binOp .eql t (.iface i v) .nilIface).run P w=.ok (.bool false) w:=by
 have h:=eqIn_if (i:=i) (v:=v) ht w 9999;simp only [binOp];simp [Op.equal,Op.maxDepth,h]
theorem run_if_eq0 {t: TypeId} {ms: Array (String × TypeId)} (ht: P.underlying t=some (.interface ms)) (w: World):(binOp .eql t .nilIface .nilIface).run P w=.ok (.bool true) w:=by
 have h:=eqIn_if0 ht w 9999;simp only [binOp];simp [Op.equal,Op.maxDepth,h]
theorem run_if_ne {t i: TypeId} {ms: Array (String × TypeId)} {v: Value} (ht: P.underlying t=some (.interface ms)) (w: World):(binOp .neq t (.iface i v) .nilIface).run P w=.ok (.bool true) w:=by
 have h:=eqIn_if (i:=i) (v:=v) ht w 9999;simp only [binOp];simp [Op.equal,Op.maxDepth,h]
theorem run_if_ne0 {t: TypeId} {ms: Array (String × TypeId)} (ht: P.underlying t=some (.interface ms)) (w: World):(binOp .neq t .nilIface .nilIface).run P w=.ok (.bool false) w:=by
 have h:=eqIn_if0 ht w 9999;simp only [binOp];simp [Op.equal,Op.maxDepth,h]
theorem eqIn_ptr {t e b b' sz bytes: Nat} {dd: TypeDesc} {z: Value} (ht: P.underlying t=some (.pointer e)) (T: Ty P e dd sz bytes z) (hs: ¬ sz=0) (h1:(sameAddr ⟨b,0,none⟩ ⟨b',0,none⟩).run P w=.ok (decide (b=b')) w) (d: Nat):(Op.equalIn (d+1) t (.pointer (some ⟨b,0,none⟩)) (.pointer (some ⟨b',0,none⟩))).run P w=.ok (decide (b=b')) w:=by simp [Op.equalIn,run_underlying ht,T.run_sizeOf,hs,h1]
theorem run_ptr_eq {t e b b' sz bytes ca cb: Nat} {dd: TypeDesc} {z: Value} {ta tb: Array Value} (ht: P.underlying t=some (.pointer e)) (T: Ty P e dd sz bytes z) (hs: Nat.blt 0 sz=true) (hb: w.heap[b]? =some (.cells ta ca (0,0))) (hb': w.heap[b']? =some (.cells tb cb (0,0))):(binOp .eql t (.pointer (some ⟨b,0,none⟩)) (.pointer (some ⟨b',0,none⟩))).run P w=.ok (.bool (decide (b=b'))) w:=by
 have hs': ¬ sz=0:=by
  have:=Nat.le_of_ble_eq_true hs;omega
 have h1:(sameAddr ⟨b,0,none⟩ ⟨b',0,none⟩).run P w=.ok (decide (b=b')) w:=by
  by_cases h: b=b'
  ·subst h;rw [run_sameAddr_same];simp
  ·rw [run_sameAddr_other (hne:=by simp [h]) (ha:=hb) (hb:=hb')];simp [h]
 have h:=eqIn_ptr ht T hs' h1 9999;simp only [binOp];simp [Op.equal,Op.maxDepth,h]
theorem fQ {x: Operand} {t ty': TypeId} {ms: Array (String × TypeId)} {i: TypeId} {v: Value} (ht: P.underlying t=some (.interface ms)) (ha: Has D a N m) (hx: ev m x=some (.iface i v)) (hd: Nat.blt d N=true) (k: ∀ a',Has D a' N ((d,.bool false)::m)->K a' w) :
  Oper.wp P ⟨some d,.binOp .eql t x (.const .nilIface) ty',ty,pos,aft,g⟩ a w K Q:=
 aM (by simp [execOp,ha.ev hx,ha.ev (show ev m (.const .nilIface)=some .nilIface from rfl),eqGuard,run_if_eq (i:=i) (v:=v) ht w]) ha hd k
theorem o_ifeq0 {x: Operand} {t ty': TypeId} {ms: Array (String × TypeId)} (ht: P.underlying t=some (.interface ms)) (ha: Has D a N m) (hx: ev m x=some .nilIface) (hd: Nat.blt d N=true) (k: ∀ a',Has D a' N ((d,.bool true)::m)->K a' w) :
  Oper.wp P ⟨some d,.binOp .eql t x (.const .nilIface) ty',ty,pos,aft,g⟩ a w K Q:=
 aM (by simp [execOp,ha.ev hx,ha.ev (show ev m (.const .nilIface)=some .nilIface from rfl),eqGuard,run_if_eq0 ht w]) ha hd k
theorem gn {x: Operand} {t ty': TypeId} {ms: Array (String × TypeId)} {i: TypeId} {v: Value} (ht: P.underlying t=some (.interface ms)) (ha: Has D a N m) (hx: ev m x=some (.iface i v)) (hd: Nat.blt d N=true) (k: ∀ a',Has D a' N ((d,.bool true)::m)->K a' w) :
  Oper.wp P ⟨some d,.binOp .neq t x (.const .nilIface) ty',ty,pos,aft,g⟩ a w K Q:=
 aM (by simp [execOp,ha.ev hx,ha.ev (show ev m (.const .nilIface)=some .nilIface from rfl),eqGuard,run_if_ne (i:=i) (v:=v) ht w]) ha hd k
theorem o_ifne0 {x: Operand} {t ty': TypeId} {ms: Array (String × TypeId)} (ht: P.underlying t=some (.interface ms)) (ha: Has D a N m) (hx: ev m x=some .nilIface) (hd: Nat.blt d N=true) (k: ∀ a',Has D a' N ((d,.bool false)::m)->K a' w) :
  Oper.wp P ⟨some d,.binOp .neq t x (.const .nilIface) ty',ty,pos,aft,g⟩ a w K Q:=
 aM (by simp [execOp,ha.ev hx,ha.ev (show ev m (.const .nilIface)=some .nilIface from rfl),eqGuard,run_if_ne0 ht w]) ha hd k
theorem run_method {t e fn: Nat} {name: String} {v: Value} (hz: Nat.beq (P.types.size+Made.depth) 0=false) (hu: P.underlying t=some (.pointer e)) (hi:(P.info? t).map (fun i=>(i.methods.find? (·.name == name)).map fun m=>(m.path,m.func))=some (some (#[],some (fn,true)))) :
  (method (P.types.size+Made.depth) t v name).run P w=.ok (fn,v) w:=by
 obtain⟨i,h1,h2⟩:=Option.map_eq_some_iff.1 hi;obtain⟨mm,h3,h4⟩:=Option.map_eq_some_iff.1 h2;injection h4 with h5 h6
 cases hk: P.types.size+Made.depth with
 | zero=>rw [hk] at hz;cases hz
 | succ k=>simp [method,typeInfo,h1,h3,h5,h6,Go.follow,receiverAt,Place.get,run_underlying hu]
theorem cp {x: Operand} {name: String} {xs: Array Operand} {ts: Array TypeId} {t e fn: Nat} {f: Func} {c: Code} {v: Value} {vs: Array Value} {R: Ending→World→Prop} (hz: Nat.beq (P.types.size+Made.depth) 0=false) (hu: P.underlying t=some (.pointer e))
  (hi:(P.info? t).map (fun i=>(i.methods.find? (·.name == name)).map fun m=>(m.path,m.func))=some (some (#[],some (fn,true))))
  (hf: P.funcs[fn]? =some f) (hb: f.body=some c) (hn:(f.name == "runtime.NumGoroutine")=false) (hx: ev m x=some (.iface t v)) (hvs: xs.map a.eval=vs)
  (ha: Has D a N m) (hd: Nat.blt d N=true) (hc: Calls P fn (#[v]++vs) w R) (k: ∀ e w',R e w'→∃ v,e=.returned v∧∀ a',Has D a' N ((d,v)::m)→K a' w') :
  Oper.wp P ⟨some d,.call { callee:=.invoke x name,args:=xs,argTypes:=ts },ty,pos,aft,g⟩ a w K Q:=by
 have hr:(execOp a.eval ⟨some d,.call { callee:=.invoke x name,args:=xs,argTypes:=ts },ty,pos,aft,g⟩).run P w=.ok (.enter fn (#[v]++vs)) w:=by
  have h2:(f.name= "runtime.NumGoroutine")=False:=by simpa using hn
  have h3:(#[Value.iface t v]++vs).extract 1 (1+vs.size)=vs:=by
   apply Array.ext'
   simp
  have h4:(#[Value.iface t v]++vs)[0]? =some (.iface t v):=by simp [Array.getElem?_append]
  simp [execOp,resolve,invoke,ha.ev hx,hvs,h4,callMethod,run_method hz hu hi,callFunc,hf,h2,hb,h3]
 unfold Oper.wp;rw [hr];refine Calls.mono hc fun e w' hR=>?_;obtain⟨v,rfl,hk⟩:=k e w' hR;exact hk _ (ha.put hd v)
theorem o_ptr_eq {x y: Operand} {t ty' e: TypeId} {dd: TypeDesc} {b b' sz bytes ca cb: Nat} {z: Value} {ta tb: Array Value} (ht: P.underlying t=some (.pointer e)) (T: Ty P e dd sz bytes z) (hs: Nat.blt 0 sz=true) (ha: Has D a N m) (hx: ev m x=some (.pointer (some ⟨b,0,none⟩))) (hy: ev m y=some (.pointer (some ⟨b',0,none⟩)))
  (hb: w.heap[b]? =some (.cells ta ca (0,0))) (hb': w.heap[b']? =some (.cells tb cb (0,0))) (hd: Nat.blt d N=true) (k: ∀ a',Has D a' N ((d,.bool (decide (b=b')))::m)->K a' w) :
  Oper.wp P ⟨some d,.binOp .eql t x y ty',ty,pos,aft,g⟩ a w K Q:=
 aM (by simp [execOp,ha.ev hx,ha.ev hy,eqGuard,run_ptr_eq ht T hs hb hb']) ha hd k
end
end Go.Vk
namespace Go.Vk
theorem cE {tk: List Bool} {a n: Nat} {v: Bool} (h: a+n<=tk.length):(fillP tk a n v).length=tk.length:=by
 unfold fillP;simp only [List.length_append,List.length_take,List.length_replicate,List.length_drop];omega
theorem dZ {tk: List Bool} {a n: Nat} {v: Bool} (h: a+n<=tk.length) (k: Nat):(fillP tk a n v)[k]? =if a<=k/\k < a+n then some v else tk[k]?:=by
 unfold fillP;have h1:(tk.take a).length=a:=by rw [List.length_take];omega
 by_cases hk: k < a
 ·rw [if_neg j0,List.append_assoc,List.getElem?_append_left j0,List.getElem?_take,if_pos hk]
 ·by_cases hk2: k < a+n
  ·rw [if_pos ⟨by omega,hk2⟩,List.append_assoc,List.getElem?_append_right j0,List.getElem?_append_left (by rw [List.length_replicate];omega),List.getElem?_replicate,if_pos j0]
  ·rw [if_neg j0,List.getElem?_append_right (by rw [List.length_append,List.length_replicate];omega),List.getElem?_drop]
   congr 1
   rw [List.length_append,List.length_replicate];omega
theorem cut3 (tk: List Bool) (a n: Nat): tk=tk.take a++(tk.drop a).take n++tk.drop (a+n):=by
 rw [List.append_assoc,<- List.drop_drop,List.take_append_drop,List.take_append_drop]
theorem mid_eq {tk: List Bool} {a n: Nat} {v: Bool} (h: a+n<=tk.length) (hv: ∀ k,a<=k->k < a+n->tk[k]? =some v):(tk.drop a).take n=List.replicate n v:=by
 apply List.ext_getElem?
 intro k;rw [List.getElem?_take,List.getElem?_replicate,List.getElem?_drop]
 split
 ·exact hv _ j0 j0
 ·rfl
theorem fillP_count {tk: List Bool} {a n: Nat} {v: Bool} (h: a+n<=tk.length) (hv: ∀ k,a<=k->k < a+n->tk[k]? =some (!v)):((fillP tk a n v).count true: Int)=(tk.count true: Int)+(if v then (n: Int) else -(n: Int)):=by
 have h1:=congrArg (List.count true) (cut3 tk a n);rw [mid_eq h hv,List.count_append,List.count_append] at h1;unfold fillP;rw [List.count_append,List.count_append]
 cases v
 ·simp only [Bool.not_false,List.count_replicate,beq_self_eq_true,if_true] at h1;have: List.count true (List.replicate n false)=0:=by rw [List.count_replicate];rfl
  rw [this];simp only [Bool.false_eq_true,if_false];omega
 ·have: List.count true (List.replicate n (!true))=0:=by rw [List.count_replicate];rfl
  rw [this] at h1;simp only [List.count_replicate,beq_self_eq_true,if_true];omega
theorem findP_spec (tk: List Bool) (size: Nat): ∀ k a,findP tk size k a= -1\/∃ p: Nat,findP tk size k a=p/\a<=p/\p+size<=tk.length/\((tk.drop p).take size).findIdx? id=none
 | 0,a=>.inl J
 | k+1,a=>by
  unfold findP
  split
  ·exact .inl J
  ·split
   ·rename_i i hi
    rcases findP_spec tk size k (a+i+1) with h |⟨p,h1,h2,h3⟩
    ·exact .inl h
    ·exact .inr ⟨p,h1,by omega,h3⟩
   ·rename_i hi
    exact .inr ⟨a,rfl,Nat.le_refl _,by omega,hi⟩
theorem free_of {tk: List Bool} {p n: Nat} (h: p+n<=tk.length) (hi:((tk.drop p).take n).findIdx? id=none): ∀ k,p<=k->k < p+n->tk[k]? =some false:=by
 intro k h1 h2;rw [List.findIdx?_eq_none_iff] at hi;have hk: k < tk.length:=by omega
 have hm: tk[k] ∈(tk.drop p).take n:=by
  refine List.mem_of_getElem? (i:=k - p) ?_;rw [List.getElem?_take,if_pos j0,List.getElem?_drop,show p+(k - p)=k by omega];exact List.getElem?_eq_getElem hk
 have:=hi _ hm;rw [List.getElem?_eq_getElem hk];exact congrArg some this
theorem bJ (tk: List Bool) (size: Nat): findS tk size= -1\/∃ p: Nat,findS tk size=p/\p+size<=tk.length/\∀ k,p<=k->k < p+size->tk[k]? =some false:=by
 rcases findP_spec tk size (tk.length+1) 0 with h |⟨p,h1,_,h2,h3⟩
 ·exact .inl h
 ·exact .inr ⟨p,h1,h2,free_of h2 h3⟩
theorem findP_out {tk: List Bool} {size k a: Nat} (h: tk.length < a+size): findP tk size k a= -1:=by
 cases k with
 | zero=>rfl
 | succ k=>unfold findP;rw [if_pos h]
theorem findP_hit {tk: List Bool} {size k a i: Nat} (h: a+size<=tk.length) (hi: i < size) (hno: ∀ j,j < i->tk[a+j]? =some false) (ht: tk[a+i]? =some true): findP tk size (k+1) a=findP tk size k (a+i+1):=by
 conv=>lhs;unfold findP
 rw [if_neg j0];have:((tk.drop a).take size).findIdx? id=some i:=by
  rw [List.findIdx?_eq_some_iff_getElem];have hl: i <((tk.drop a).take size).length:=by rw [List.length_take,List.length_drop];omega
  refine⟨hl,?_,fun j hj=>?_⟩
  ·rw [List.getElem_take,List.getElem_drop];have:=(List.getElem?_eq_some_iff.1 ht).2;simp [this]
  ·rw [List.getElem_take,List.getElem_drop];have:=(List.getElem?_eq_some_iff.1 (hno j hj)).2;simp [this]
 rw [this]
theorem findP_free {tk: List Bool} {size k a: Nat} (h: a+size<=tk.length) (hno: ∀ j,j < size->tk[a+j]? =some false): findP tk size (k+1) a=a:=by
 unfold findP;rw [if_neg j0];have:((tk.drop a).take size).findIdx? id=none:=by
  rw [List.findIdx?_eq_none_iff];intro x hx;obtain⟨j,hj⟩:=List.getElem?_of_mem hx;rw [List.getElem?_take] at hj
  split at hj
  ·rename_i hlt
   rw [List.getElem?_drop,hno j hlt] at hj;obtain rfl:=Option.some.inj hj;rfl
  ·cases hj
 rw [this]
theorem fillP_zero (tk: List Bool) (a: Nat) (v: Bool): fillP tk a 0 v=tk:=by
 unfold fillP;rw [List.replicate_zero,List.append_nil,Nat.add_zero,List.take_append_drop]
theorem fillP_step {tk: List Bool} {a n: Nat} {v: Bool} (h: a+(n+1)<=tk.length):(fillP tk a n v).set (a+n) v=fillP tk a (n+1) v:=by
 apply List.ext_getElem?
 intro k;rw [List.getElem?_set,dZ h,cE j0]
 by_cases hk: a+n=k
 ·subst hk;rw [if_pos J,if_pos j0,if_pos j0]
 ·rw [if_neg hk,dZ j0]
  by_cases h2: a<=k/\k < a+n
  ·rw [if_pos h2,if_pos j0]
  ·rw [if_neg h2,if_neg j0]
structure HS.Ok (h: HS): Prop where
 ltk: h.tk.length=h.S.length
 le: h.S.length<=65536
 blk: ∀(j: Nat) (b: PB),h.S[j]? =some (some b)->b.ok/\j+b.size<=h.S.length
 tkn: ∀ k: Nat,h.tk[k]? =some true↔∃(j: Nat) (b: PB),h.S[j]? =some (some b)/\j<=k/\k < j+b.size
 dis: ∀(i j: Nat) (b c: PB),h.S[i]? =some (some b)->h.S[j]? =some (some c)->i < j->i+b.size<=j
 cnt: h.u=(h.tk.count true: Int)
theorem HS.Ok.u {h: HS} (hO: h.Ok): 0<=h.u/\h.u<=65536:=by
 have h1:=hO.cnt;have h2:=List.count_le_length (a:=true) (l:=h.tk);have h3:=hO.ltk;have h4:=hO.le;omega
theorem HS.Ok.new {n: Nat} (h: n<=65536):(HS.new n).Ok:=by
 refine⟨by simp [HS.new],by simpa [HS.new] using h,fun j b hj=>?_,fun k=>⟨fun hk=>?_,fun ⟨j,b,hj,_⟩=>?_⟩,fun i j b c hi=>?_,?_⟩
 ·simp only [HS.new,List.getElem?_replicate] at hj;split at hj <;> cases hj
 ·simp only [HS.new,List.getElem?_replicate] at hk;split at hk <;> cases hk
 ·simp only [HS.new,List.getElem?_replicate] at hj;split at hj <;> cases hj
 ·simp only [HS.new,List.getElem?_replicate] at hi;split at hi <;> cases hi
 ·show (0: Int)=((List.replicate n false).count true: Int)
  have: List.count true (List.replicate n false)=0:=by rw [List.count_replicate];rfl
  rw [this];rfl
theorem bL {α: Type} {l: List α} {a k: Nat} {x y: α} (h:(l.set a x)[k]? =some y):(k=a/\y=x)\/(k≠a/\l[k]? =some y):=by
 rw [List.getElem?_set] at h
 split at h
 ·rename_i e
  split at h
  ·exact .inl ⟨e.symm,(Option.some.inj h).symm⟩
  ·cases h
 ·rename_i e
  exact .inr ⟨fun h'=>e h'.symm,h⟩
theorem HS.Ok.place {h: HS} (hO: h.Ok) {b: PB} (hb: b.ok):(h.place b).1.Ok:=by
 unfold HS.place;dsimp only
 split
 ·exact hO
 ·rename_i hn
  rcases bJ h.tk b.size with h1 |⟨p,h1,h2,h3⟩
  ·omega
  ·rw [h1];have hp:((p: Nat): Int).toNat=p:=by omega
   rw [hp];have hs:=hb.size;have hl:=hO.ltk;have hpl: p < h.S.length:=by omega
   have hnew:(h.S.set p (some b))[p]? =some (some b):=by rw [List.getElem?_set,if_pos J,if_pos hpl]
   have hold: ∀(j: Nat) (c: PB),h.S[j]? =some (some c)->∀ k,j<=k->k < j+c.size->¬(p<=k/\k < p+b.size):=by
    intro j c hj k h4 h5 ⟨h6,h7⟩;have h8:=(hO.tkn k).2 ⟨j,c,hj,h4,h5⟩;rw [h3 k h6 h7] at h8;cases h8
   have hne: ∀(j: Nat) (c: PB),h.S[j]? =some (some c)->j≠p:=by
    intro j c hj e;subst e;exact hold j c hj j (Nat.le_refl _) (by have:=((hO.blk j c hj).1).size;omega) ⟨Nat.le_refl _,by omega⟩
   refine⟨?_,?_,fun j c hj=>?_,fun k=>?_,fun i j c e hi hj hij=>?_,?_⟩
   ·show (fillP h.tk p b.size true).length=(h.S.set p (some b)).length
    rw [cE h2,List.length_set];exact hl
   ·show (h.S.set p (some b)).length<=65536
    rw [List.length_set];exact hO.le
   ·show c.ok/\j+c.size<=(h.S.set p (some b)).length
    rw [List.length_set]
    rcases bL hj with ⟨e1,e2⟩ |⟨_,h4⟩
    ·obtain rfl:=Option.some.inj e2;subst e1;exact⟨hb,by omega⟩
    ·exact hO.blk j c h4
   ·show (fillP h.tk p b.size true)[k]? =some true↔∃ j c,(h.S.set p (some b))[j]? =some (some c)/\j<=k/\k < j+c.size
    rw [dZ h2]
    constructor
    ·intro hk
     split at hk
     ·rename_i hr
      exact⟨p,b,hnew,hr.1,hr.2⟩
     ·obtain⟨j,c,h4,h5,h6⟩:=(hO.tkn k).1 hk;exact⟨j,c,by rw [List.getElem?_set,if_neg (fun e=>hne j c h4 e.symm)];exact h4,h5,h6⟩
    ·rintro⟨j,c,h4,h5,h6⟩
     rcases bL h4 with ⟨e1,e2⟩ |⟨_,h7⟩
     ·obtain rfl:=Option.some.inj e2;subst e1;rw [if_pos ⟨h5,h6⟩]
     ·rw [if_neg (hold j c h7 k h5 h6)];exact(hO.tkn k).2 ⟨j,c,h7,h5,h6⟩
   ·rcases bL hi with ⟨e1,e2⟩ |⟨n1,h4⟩ <;> rcases bL hj with ⟨e3,e4⟩ |⟨n2,h5⟩
    ·omega
    ·obtain rfl:=Option.some.inj e2;subst e1;have:=((hO.blk j e h5).1).size;refine Classical.byContradiction fun hc=>hold j e h5 j (Nat.le_refl _) j0 ⟨by omega,by omega⟩
    ·obtain rfl:=Option.some.inj e4;subst e3;refine Classical.byContradiction fun hc=>hold i c h4 j j0 j0 ⟨Nat.le_refl _,by omega⟩
    ·exact hO.dis i j c e h4 h5 hij
   ·show h.u+b.size=((fillP h.tk p b.size true).count true: Int)
    rw [fillP_count h2 (by simpa using h3),hO.cnt];rfl
theorem HS.Ok.clear {h: HS} (hO: h.Ok) (a: Nat):(h.clear a).Ok:=by
 unfold HS.clear
 split
 ·rename_i b hb
  have hb': h.S[a]? =some (some b):=by
   rw [List.getD_eq_getElem?_getD] at hb
   cases hh: h.S[a]? with
   | none=>rw [hh] at hb;cases hb
   | some o=>rw [hh] at hb;exact congrArg some hb
  obtain⟨hbo,hfit⟩:=hO.blk a b hb';have hl:=hO.ltk;have hs:=hbo.size;have h2: a+b.size<=h.tk.length:=by omega
  have hr: ∀ k,a<=k->k < a+b.size->h.tk[k]? =some true:=fun k h1 h3=>(hO.tkn k).2 ⟨a,b,hb',h1,h3⟩;have hold: ∀(j: Nat) (c: PB),j≠a->h.S[j]? =some (some c)->∀ k,j<=k->k < j+c.size->¬(a<=k/\k < a+b.size):=by
   intro j c hja hj k h4 h5 ⟨h6,h7⟩
   rcases Nat.lt_or_gt_of_ne hja with hlt | hgt
   ·have:=hO.dis j a c b hj hb' hlt;omega
   ·have:=hO.dis a j b c hb' hj hgt;omega
  refine⟨?_,?_,fun j c hj=>?_,fun k=>?_,fun i j c e hi hj hij=>?_,?_⟩
  ·show (fillP h.tk a b.size false).length=(h.S.set a none).length
   rw [cE h2,List.length_set];exact hl
  ·show (h.S.set a none).length<=65536
   rw [List.length_set];exact hO.le
  ·show c.ok/\j+c.size<=(h.S.set a none).length
   rw [List.length_set]
   rcases bL hj with ⟨_,e2⟩ |⟨_,h4⟩
   ·cases e2
   ·exact hO.blk j c h4
  ·show (fillP h.tk a b.size false)[k]? =some true↔∃ j c,(h.S.set a none)[j]? =some (some c)/\j<=k/\k < j+c.size
   rw [dZ h2]
   constructor
   ·intro hk
    split at hk
    ·cases hk
    ·rename_i hnr
     obtain⟨j,c,h4,h5,h6⟩:=(hO.tkn k).1 hk;have hja: j≠a:=fun e=>by
      subst e;rw [hb'] at h4;obtain rfl:=Option.some.inj (Option.some.inj h4);exact hnr ⟨h5,h6⟩
     exact⟨j,c,by rw [List.getElem?_set,if_neg (fun e=>hja e.symm)];exact h4,h5,h6⟩
   ·rintro⟨j,c,h4,h5,h6⟩
    rcases bL h4 with ⟨_,e2⟩ |⟨hja,h7⟩
    ·cases e2
    ·rw [if_neg (hold j c hja h7 k h5 h6)];exact(hO.tkn k).2 ⟨j,c,h7,h5,h6⟩
  ·rcases bL hi with ⟨_,e2⟩ |⟨_,h4⟩
   ·cases e2
   ·rcases bL hj with ⟨_,e4⟩ |⟨_,h5⟩
    ·cases e4
    ·exact hO.dis i j c e h4 h5 hij
  ·show h.u - b.size=((fillP h.tk a b.size false).count true: Int)
   rw [fillP_count h2 (by simpa using hr),hO.cnt];simp only [Bool.false_eq_true,if_false];omega
 ·exact hO
theorem HS.Ok.setB {h: HS} (hO: h.Ok) {i: Nat} {b b': PB} (hi: h.S[i]? =some (some b)) (hb': b'.ok) (hs: b'.size=b.size):(h.setB i b').Ok:=by
 have key: ∀(j: Nat) (c: PB),(h.S.set i (some b'))[j]? =some (some c)->∃ c',h.S[j]? =some (some c')/\c'.size=c.size/\c.ok:=by
  intro j c hj
  rcases bL hj with ⟨e1,e2⟩ |⟨_,h4⟩
  ·obtain rfl:=Option.some.inj e2;subst e1;exact⟨b,hi,hs.symm,hb'⟩
  ·exact⟨c,h4,rfl,(hO.blk j c h4).1⟩
 refine⟨by show _=(h.S.set i (some b')).length;rw [List.length_set];exact hO.ltk,by show (h.S.set i (some b')).length<=_;rw [List.length_set];exact hO.le,fun j c hj=>?_,fun k=>?_,fun p q c e hp hq hpq=>?_,hO.cnt⟩
 ·show c.ok/\j+c.size<=(h.S.set i (some b')).length
  rw [List.length_set];obtain⟨c',h1,h2,h3⟩:=key j c hj;exact⟨h3,by rw [<- h2];exact(hO.blk j c' h1).2⟩
 ·refine(hO.tkn k).trans ⟨fun ⟨j,c,h1,h2,h3⟩=>?_,fun ⟨j,c,h1,h2,h3⟩=>?_⟩
  ·by_cases hj: i=j
   ·subst hj;rw [hi] at h1;obtain rfl:=Option.some.inj (Option.some.inj h1);exact⟨i,b',by show (h.S.set i (some b'))[i]? =_;rw [List.getElem?_set,if_pos J,if_pos (List.getElem?_eq_some_iff.1 hi).1],h2,by omega⟩
   ·exact⟨j,c,by show (h.S.set i (some b'))[j]? =_;rw [List.getElem?_set,if_neg hj];exact h1,h2,h3⟩
  ·obtain⟨c',h4,h5,_⟩:=key j c h1;exact⟨j,c',h4,h2,by omega⟩
 ·obtain⟨c',h1,h2,_⟩:=key p c hp;obtain⟨e',h3,h4,_⟩:=key q e hq;have:=hO.dis p q c' e' h1 h3 hpq;omega
end Go.Vk
namespace Go.Vk
abbrev wv (x: Wd): Value:=.agg #[.int .i64 x.tag,.int .i64 x.n,.string x.s,.bool x.one]
end Go.Vk
namespace Go.Vk.Tryz
open Go.RowKit
theorem map4 {α β: Type} {g: α->β} {l: List α} {a b c d: β} (h: l.map g= [a,b,c,d]): ∃ x y z u,l= [x,y,z,u]/\g x=a/\g y=b/\g z=c/\g u=d:=by
 match l,h with
 | [x,y,z,u],h =>
  simp only [List.map_cons,List.map_nil,List.cons.injEq,and_true] at h;exact⟨x,y,z,u,rfl,h⟩
theorem dec_wd (x y: Wd): decide (x=y)=(decide (x.tag=y.tag)&&(decide (x.n=y.n)&&(decide (x.s=y.s)&&decide (x.one=y.one)))):=by
 rw [Bool.eq_iff_iff];simp only [decide_eq_true_eq,Bool.and_eq_true];exact⟨fun h=>by subst h;exact⟨rfl,rfl,rfl,rfl⟩,fun ⟨h1,h2,h3,h4⟩=>Wd.ext_ h1 h2 h3 h4⟩
theorem run_eqWd (x y: Wd) (w: World):(Op.equal 35 (wv x) (wv y)).run prog w=.ok (decide (x=y)) w:=by
 have hu: Go.Proofs.Tryz.prog.underlying 35=some (.struct (Go.Proofs.Tryz.prog.fieldsOf 35)):=by kernel_rfl
 have hp: Go.Proofs.Tryz.prog.stoodInHeld 35=false:=by kernel_rfl
 obtain⟨f0,f1,f2,f3,hf,g0,g1,g2,g3⟩:=map4 (g:=fun f: Field=>(f.name,f.type,f.offset)) (l:=(Go.Proofs.Tryz.prog.fieldsOf 35).toList) (a:=("Tag",3,0)) (b:=("N",3,1)) (c:=("S",9,2)) (d:=("One",4,3)) j3;simp only [Prod.mk.injEq] at g0 g1 g2 g3;have a1: ∀ w,(isAgg 3).run prog w=.ok false w:=fun w=>by simp [isAgg,T3.run_und]
 have a2: ∀ w,(isAgg 9).run prog w=.ok false w:=fun w=>by simp [isAgg,T9.run_und]
 have a3: ∀ w,(isAgg 4).run prog w=.ok false w:=fun w=>by simp [isAgg,T4.run_und]
 unfold Op.equal Op.maxDepth;rw [run_equalIn_struct w 9999 35 _ _ hu hp,hf,dec_wd];simp only [Op.eqFields,part,Sem.run_bind,g0.1,g0.2.1,g0.2.2,g1.1,g1.2.1,g1.2.2,g2.1,g2.2.1,g2.2.2,g3.1,g3.2.1,g3.2.2,a1,a2,a3,Result.andThen_ok];simp [run_equalIn_int w _ _ _ _ _ _ T3.und,run_equalIn_string w _ _ _ _ T9.und,run_equalIn_bool' w _ _ _ _ T4.und,eQ]
 by_cases h1: x.tag=y.tag <;> by_cases h2: x.n=y.n <;> by_cases h3: x.s=y.s <;> by_cases h4: x.one=y.one <;> simp [h1,h2,h3,h4]
section
variable {K: Act->World->Prop} {Q: Exit->Act->World->Prop} {D: List Deferred} {a: Act} {w: World} {N: Nat} {m: Env} {d: Nat} {ty: TypeId} {pos: String} {aft: Array Edge} {g: Option (Nat × Bool)}
theorem o_eqwd {x y: Operand} {x1 y1: Wd} {ty': TypeId} (ha: Has D a N m) (hx: ev m x=some (wv x1)) (hy: ev m y=some (wv y1)) (hd: Nat.blt d N=true) (k: ∀ a',Has D a' N ((d,.bool (decide (x1=y1)))::m)->K a' w) :
  Oper.wp prog ⟨some d,.binOp .eql 35 x y ty',ty,pos,aft,g⟩ a w K Q:=by
 have hg: Go.Proofs.Tryz.prog.eqGuardType Go.Proofs.Tryz.prog.depth 35=false:=by kernel_rfl
 have h1:=run_eqWd x1 y1 w;exact aM (by simp [execOp,ha.ev hx,ha.ev hy,eqGuard,hg,binOp,h1]) ha hd k
theorem fR {x y: Operand} {x1 y1: Wd} {ty': TypeId} (ha: Has D a N m) (hx: ev m x=some (wv x1)) (hy: ev m y=some (wv y1)) (hd: Nat.blt d N=true) (k: ∀ a',Has D a' N ((d,.bool (!decide (x1=y1)))::m)->K a' w) :
  Oper.wp prog ⟨some d,.binOp .neq 35 x y ty',ty,pos,aft,g⟩ a w K Q:=by
 have hg: Go.Proofs.Tryz.prog.eqGuardType Go.Proofs.Tryz.prog.depth 35=false:=by kernel_rfl
 have h1:=run_eqWd x1 y1 w;exact aM (by simp [execOp,ha.ev hx,ha.ev hy,eqGuard,hg,binOp,h1]) ha hd k
end
end Go.Vk.Tryz
namespace Go.Vk
theorem ff {s: ByteArray} (h: nmB s=true): nameB s=true:=by
 unfold nmB isTm at h;rw [chkAll,cQ] at h
 split at h
 ·cases h
 ·rename_i h2
  simp only [badB,formB,form3,bareB,Tm.kind,Tm.s,Tm.n,Tm.l,Bool.or_eq_true,not_or,Bool.not_eq_true,Bool.not_eq_false',Bool.and_eq_true] at h2;simp at h2;exact h2
theorem nmB_size {s: ByteArray} (h: nmB s=true): s.size<=32:=by
 have h1:=ff h;unfold nameB at h1;simp only [Bool.and_eq_true,decide_eq_true_eq] at h1;exact h1.1.2
def HK (p: Nat) (h: HS) (L: List Ent): Prop:= ∃ bs: BS,er bs=h.S/\HP p bs h.tk h.u L
theorem bX (h: HS) (b: PB):(h.place b).2=findS h.tk b.size:=by
 unfold HS.place;dsimp only
 split <;> rfl
def plB (bs: BS) (tk: List Bool) (b: BK): BS:=if findS tk b.2.size < 0 then bs else bs.set (findS tk b.2.size).toNat (some b)
def plT (tk: List Bool) (b: BK): List Bool:=if findS tk b.2.size < 0 then tk else fillP tk (findS tk b.2.size).toNat b.2.size true
def plU (tk: List Bool) (u: Int) (b: BK): Int:=if findS tk b.2.size < 0 then u else u+b.2.size
theorem HK.place {p: Nat} {h: HS} {bs: BS} {b: BK} {L: List Ent} (hb: er bs=h.S) (hP: HP p (plB bs h.tk b) (plT h.tk b) (plU h.tk h.u b) L): HK p (h.place b.2).1 L:=by
 refine⟨plB bs h.tk b,?_,?_⟩
 ·unfold HS.place plB;dsimp only
  split
  ·exact hb
  ·show er (bs.set _ _)=h.S.set _ _
   rw [fI,hb];rfl
 ·have h1:(h.place b.2).1.tk=plT h.tk b:=by
   unfold HS.place plT;dsimp only
   split <;> rfl
  have h2:(h.place b.2).1.u=plU h.tk h.u b:=by
   unfold HS.place plU;dsimp only
   split <;> rfl
  rw [h1,h2];exact hP
theorem HK.clear {p a: Nat} {h: HS} {bs: BS} {b: BK} {L: List Ent} (hb: er bs=h.S) (hx: bs[a]? =some (some b)) (hP: HP p (bs.set a none) (fillP h.tk a b.2.size false) (h.u - ((b.2.size: Nat): Int)) L): HK p (h.clear a) L:=by
 have h1: h.S.getD a none=some b.2:=by rw [<- hb,er_getD,List.getD_eq_getElem?_getD,hx];rfl
 unfold HS.clear;rw [h1];exact⟨bs.set a none,by rw [fI,hb];rfl,hP⟩
theorem HK.len {h: HS} {bs: BS} (hO: h.Ok) (hb: er bs=h.S): bs.length<=65536/\h.tk.length=bs.length:=by
 have h1: bs.length=h.S.length:=by rw [<- hb,bO]
 rw [h1];exact⟨hO.le,hO.ltk⟩
def openB (bs: BS) (w: Wd): Option BK × Int:=
 if (valueS (er bs) w).2=0 then match atB bs (valueS (er bs) w).1 with
  | some (q,.var to hk)=>(some (q,.var to hk),0)
  | _=>(none,211)
 else (none,(valueS (er bs) w).2)
def ptB: Option BK->Value
 | some b=>.pointer (some ⟨b.1,0,none⟩)
 | none=>.pointer none
theorem openB_ok {bs: BS} {w: Wd} (h:(openB bs w).2=0): ∃(q: Nat) (to: List Wd) (hk: List Int),openB bs w=(some (q,.var to hk),0)/\atB bs (valueS (er bs) w).1=some (q,.var to hk)/\(valueS (er bs) w).2=0:=by
 unfold openB at h ⊢
 split at h
 ·rename_i h1
  rw [if_pos h1]
  split at h
  ·rename_i q to hk h2
   rw [h2];exact⟨q,to,hk,rfl,rfl,h1⟩
  ·cases h
 ·rename_i h1
  exact absurd h h1
theorem bz (bs: BS) (w: Wd): openS (er bs) w=((openB bs w).1.map fun _=>(valueS (er bs) w).1.n.toNat,(openB bs w).2):=by
 unfold openS openB;dsimp only
 by_cases h1:(valueS (er bs) w).2=0
 ·rw [if_pos h1,if_neg (by simpa using h1),<- eM]
  cases h2: atB bs (valueS (er bs) w).1 with
  | none=>rfl
  | some b=>obtain ⟨q,_ | _ | _⟩:=b <;> rfl
 ·rw [if_neg h1,if_pos h1];rfl
theorem cW {bs: BS} {j: Nat} {b: BK} {o: Option BK} (hj: bs[j]? =some (some b)) (h: bkc o=bkc (some b)): gfl bkc (bs.set j o)=gfl bkc bs:=by
 have hl:=(List.getElem?_eq_some_iff.1 hj).1;have he: bs[j]=some b:=(List.getElem?_eq_some_iff.1 hj).2;rw [List.set_eq_take_append_cons_drop,if_pos hl,a7,bQ,h]
 conv=>rhs;rw [<- List.take_append_drop j bs,List.drop_eq_getElem_cons hl,a7,bQ,he]
theorem cI {bs: BS} {S: PS} {j: Nat} {b: BK} (hb: er bs=S) (hj: bs[j]? =some (some b)): S[j]? =some (some b.2):=by rw [<- hb,dL,hj];rfl
theorem HK.setB {p i: Nat} {h: HS} {bs: BS} {q: Nat} {b: PB} {L: List Ent} (hb: er bs=h.S) (hP: HP p (bs.set i (some (q,b))) h.tk h.u L): HK p (h.setB i b) L:=
 ⟨bs.set i (some (q,b)),by rw [fI,hb];rfl,hP⟩
end Go.Vk
namespace Go.Proofs
open Go.Shelf
def Tryz.lays316_ren: Go.Shelf.Ren:=⟨fun | 316=>111 | n=>n,fun | 9=>9 | 3=>3 | 4=>4 | 37=>178 | 0=>0 | 127=>179 | 5=>5 | n=>n,fun | n=>n⟩
theorem Tryz.lays316: Go.Proofs.LaysM.n316 Tryz.prog Tryz.lays316_ren:= {
 mixed:=by kernel_rfl
 f316:=Tryz.func111.trans (congrArg some (by kernel_rfl))
 t0:=Tryz.underlying0
 a0:=Tryz.isAgg0
 z0:=Tryz.sizeOf0
 v0:=Tryz.zeroValue0
 t3:=Tryz.underlying3
 a3:=Tryz.isAgg3
 z3:=Tryz.sizeOf3
 v3:=Tryz.zeroValue3
 t4:=Tryz.underlying4
 a4:=Tryz.isAgg4
 z4:=Tryz.sizeOf4
 v4:=Tryz.zeroValue4
 t9:=Tryz.underlying9
 a9:=Tryz.isAgg9
 z9:=Tryz.sizeOf9
 v9:=Tryz.zeroValue9
 t37:=Tryz.underlying178
 a37:=Tryz.isAgg178
 z37:=Tryz.sizeOf178
 v37:=Tryz.zeroValue178
 t127:=Tryz.underlying179
 a127:=Tryz.isAgg179
 z127:=Tryz.sizeOf179
 v127:=Tryz.zeroValue179
 t5:=Tryz.underlying5
 a5:=Tryz.isAgg5
 z5:=Tryz.sizeOf5
 v5:=Tryz.zeroValue5
 i0:=by kernel_rfl
 i3:=by kernel_rfl
 i4:=by kernel_rfl
 i5:=by kernel_rfl
 i9:=by kernel_rfl
 i37:=by kernel_rfl
 i127:=by kernel_rfl }
end Go.Proofs
namespace Go.Vk.Tryz
open Go.RowKit
theorem c_SClone0 {w0: World} {H: PHeap} (hI: Inv w0 H []) {s: ByteArray} (hs: s.size<=281474976710656): Calls prog 111 #[.string s] w0 (Rs w0 H (.string s)):=
 Calls.mono (Go.Proofs.Any.stringslite_Clone lays316 s w0 hs) fun e w' ⟨h1,h2⟩=>⟨h1,Step.of_below hI h2⟩
theorem c_SClone {w0: World} {H: PHeap} (hI: Inv w0 H []) {s: ByteArray} (hs: s.size<=281474976710656): Calls prog 62 #[(.string s)] w0 (Rs w0 H (.string s)):=by
 have F:=Step.refl hI;refine enter [(.string s)] func62 J ntmps62 J fun a C=>?_;refine wp_seq (ab (Ls J C fun a C=>?_));refine wpList_nil (aa (wp_seq (ab (Lm J C fun a C=>?_))));refine lin J (aC func111 J J (C.evs J) C J (c_SClone0 F.inv.nil hs) ?_);rintro e w ⟨rfl,G⟩;refine⟨_,rfl,fun a C=>?_⟩;have F:=F.call G;refine Ls J C fun a C=>?_;refine wpList_nil (aa (wp_ret (ret1 J C J ?_)));refine⟨congrArg _ ?_,F.plain.drop_all⟩;rfl
theorem eU {w0: World} {H: PHeap} (hI: Inv w0 H []) {x: Wd}: Calls prog 70 #[(.agg (wA x))] w0 (Rs w0 H (.bool (refB x))):=by
 have F:=Step.refl hI;refine enter [(.agg (wA x))] func70 J ntmps70 J fun a C=>?_;refine wp_seq (ab (lin J (aG (cs:=(wA x)) F C J J J fun M a w F C=>?_)));refine Ls J C fun a C=>?_;refine wpList_nil (aa (wp_seq (bH (D:= []) (N:=16) (E:= [(1,(pB M)),(2,(.bool (((decide (x.tag=4))||(decide (x.tag=5)))||(decide (x.tag=6)))))]) (fun a C=>?_) ?_)));rotate_left
 ·refine lin J (ac (f:=0) (o2:=0) T35 T3 J J J J C J J fun a C=>?_);refine lin J (ae (v:=(iV x.tag)) T3 J C J (F.blkL 0 J) J J fun a C=>?_);refine lin J (aJ (i:=x.tag) (j:=4) C J J J fun a C=>?_);refine Lm J C fun a C=>?_;refine ai (t:=6) C J (fun G C=>?_) (fun G C=>?_)
  ·refine Lf J C J J fun a C=>?_;refine Lf J C J J fun a C=>?_;refine Lf J C J J fun a C=>?_;refine lin J (an C J J J fun a C=>?_);refine Lm J C fun a C=>?_;refine Lf J C J J fun a C=>?_;refine Lf J C J J fun a C=>?_;refine Lf J C J J fun a C=>?_;refine lin J (an C J J J fun a C=>?_);refine Ls J C fun a C=>?_;exact wpList_nil ⟨rfl,rfl,Has.cons C J (Has.cons C (by simp [lk,Nat.beq,G]) (C.nil))⟩
  ·refine ad J C J J J (ac (f:=0) (o2:=0) T35 T3 J J J J C J J fun a C=>?_);refine ad J C J J J (ae (v:=(iV x.tag)) T3 J C J (F.blkL 0 J) J J fun a C=>?_);refine ad J C J J J (aJ (i:=x.tag) (j:=5) C J J J fun a C=>?_);refine lin J (ak C J J J fun a C=>?_);refine Lm J C fun a C=>?_;refine ai (t:=11) C J (fun I C=>?_) (fun I C=>?_)
   ·refine Lf J C J J fun a C=>?_;refine Lf J C J J fun a C=>?_;refine Lf J C J J fun a C=>?_;refine lin J (an C J J J fun a C=>?_);refine Ls J C fun a C=>?_;exact wpList_nil ⟨rfl,rfl,Has.cons C J (Has.cons C (by simp [lk,Nat.beq,G,I]) (C.nil))⟩
   ·refine ad J C J J J (ac (f:=0) (o2:=0) T35 T3 J J J J C J J fun a C=>?_);refine ad J C J J J (ae (v:=(iV x.tag)) T3 J C J (F.blkL 0 J) J J fun a C=>?_);refine ad J C J J J (aJ (i:=x.tag) (j:=6) C J J J fun a C=>?_);refine lin J (ak C J J J fun a C=>?_);refine Ls J C fun a C=>?_;exact wpList_nil ⟨rfl,rfl,Has.cons C J (Has.cons C (by simp [lk,Nat.beq,G,I]) (C.nil))⟩
 refine aa (wp_ret (ret1 J C J ?_));refine⟨congrArg _ ?_,F.plain.drop_all⟩;unfold refB;rfl
theorem c_hname {w0: World} {H: PHeap} (hI: Inv w0 H []) {s: ByteArray}: Calls prog 59 #[(.string s)] w0 (Rs w0 H (.bool (nmB s))):=by
 have F:=Step.refl hI;refine enter [(.string s)] func59 J ntmps59 J fun a C=>?_;refine wp_seq (ab (Ls J C fun a C=>?_));refine wpList_nil (aa (wp_seq (ab (Lm J C fun a C=>?_))));refine lin J (aA (vs:= [(0,(iV 3)),(2,(.string s))]) (cells:= [(iV 3),(iV 0),(.string s),(.slice none 0 0)]) T41 PL41 C (C.evp J) J J fun a C=>?_);refine lin J (aC func109 J J (C.evs J) C J (eR (t:=(Tm.mk 3 0 s [])) F.inv.nil (RowT.nil _)) ?_);rintro e w ⟨rfl,G⟩;refine⟨_,rfl,fun a C=>?_⟩;have F:=F.call G;refine lin J (aJ (i:=(if isTm (Tm.mk 3 0 s []) then (0: Int) else 3)) (j:=0) C J J J fun a C=>?_);refine Ls J C fun a C=>?_;refine wpList_nil (aa (wp_ret (ret1 J C J ?_)));refine⟨congrArg _ ?_,F.plain.drop_all⟩;unfold nmB
 cases isTm (Tm.mk 3 0 s []) <;> rfl
theorem dp {w0: World} {H: PHeap} (hI: Inv w0 H []) {t n: Int}: Calls prog 60 #[(iV t),(iV n)] w0 (Rs w0 H (.tuple #[wv (refW t n).1,.int .i64 (refW t n).2])):=by
 have F:=Step.refl hI;refine enter [(iV t),(iV n)] func60 J ntmps60 J fun a C=>?_;refine wp_seq (ab (lin J (aB (cs:= #[(iV 0),(iV 0),(.string (⟨#[]⟩)),(.bool false)]) T35 F C J J fun I a w F C=>?_)));refine Ls J C fun a C=>?_;refine wpList_nil (aa (wp_seq (wp_seq (ab (Lm J C fun a C=>?_)))));refine lin J (aQ (i:=n) (j:=0) C J J J fun a C=>?_);refine wpList_nil (aa (ai (t:=7) C J (fun G C=>?_) (fun G C=>?_)))
 ·refine ao C J (wp_seq (ab (lin J (aA (vs:= []) (cells:= [(iV 0),(iV 0),(.string (⟨#[]⟩)),(.bool false)]) T35 PL35 C (C.evp J) J J fun a C=>?_))));refine lin J (al (cs':= #[(iV 0),(iV 0),(.string (⟨#[]⟩)),(.bool false)]) T35 F (i:=0) J C J J J J J J fun a w F C=>?_);refine Ls J C fun a C=>?_;refine wpList_nil (aa (wp_ret (af (retA1 (i:=0) (cs:= #[(iV 0),(iV 0),(.string (⟨#[]⟩)),(.bool false)]) J T35 J F J C J J J ?_))));refine⟨?_,F.plain.drop_all⟩;unfold refW;rw [if_pos G]
  try rfl
 ·refine ag C J (wp_skip (aa (wp_seq (ab (Lm J C fun a C=>?_)))));refine Lm J C fun a C=>?_;refine lin J (aA (vs:= [(0,(iV t)),(1,(iV n)),(3,(.bool true))]) (cells:= [(iV t),(iV n),(.string (⟨#[]⟩)),(.bool true)]) T35 PL35 C (C.evp J) J J fun a C=>?_);refine lin J (al (cs':= #[(iV t),(iV n),(.string (⟨#[]⟩)),(.bool true)]) T35 F (i:=0) J C J J J J J J fun a w F C=>?_);refine Ls J C fun a C=>?_;refine wpList_nil (aa (wp_ret (retA1 (i:=0) (cs:= #[(iV t),(iV n),(.string (⟨#[]⟩)),(.bool true)]) J T35 J F J C J J J ?_)));refine⟨?_,F.plain.drop_all⟩;unfold refW;rw [if_neg G]
  try rfl
def RW (w: World) (H: PHeap) (xs: List Wd) (e: Ending) (w': World): Prop:= ∃ A c en,e=.returned (.slice A xs.length c)/\Row (.slice A xs.length c) en 35 4 xs.length (gfl Wd.cells xs)/\Step w H [] w' H [en]
def RN (w: World) (H: PHeap) (xs: List Int) (e: Ending) (w': World): Prop:= ∃ A c en,e=.returned (.slice A xs.length c)/\Row (.slice A xs.length c) en 3 1 xs.length (ints xs)/\Step w H [] w' H [en]
theorem cC {w0: World} {H: PHeap} (hI: Inv w0 H []) {A: Option Addr} {c: Nat} {xs: List Wd} (hr: RdG 4 Wd.cells w0 [] A c xs): Calls prog 63 #[(.slice A xs.length c)] w0 (RW w0 H xs):=by
 have F:=Step.refl hI;have a5:=hr.hm;refine enter [(.slice A xs.length c)] func63 J ntmps63 J fun a C=>?_;refine wp_seq (ab (Ls J C fun a C=>?_));refine wpList_nil (aa (wp_seq (ab (Lm J C fun a C=>?_))));have F:=F.cons_none (en:=noEnt) J;obtain⟨T,a1,X,V,Y,M,Z⟩:=hr.rd;refine lin J (aS (news:=(gfl Wd.cells xs)) (xs:= []) T37.und T35 J J F (Row.nil 35 4) C J J (aN Wd.len _) (fun O=>⟨T,a1,X,V,Y,(M (fun G=>O (by rw [G];rfl))).1,F.keepN (M (fun G=>O (by rw [G];rfl))).2.1 (M (fun G=>O (by rw [G];rfl))).2.2,fun j u a0=>fV Wd.len j2 Z a0⟩) (cO Wd.one' _) j0 J J fun a6 a4 a w I F C=>?_);rw [List.nil_append] at I;obtain⟨a2,a3,rfl⟩:=I.slice;refine Ls J C fun a C=>?_;refine wpList_nil (aa (wp_ret (ret1 J C J ?_)));rw [Nat.zero_add] at I;exact⟨_,_,_,by rw [Nat.zero_add],I,F⟩
theorem cS {w0: World} {H: PHeap} (hI: Inv w0 H []) {A: Option Addr} {c: Nat} {xs: List Int} (hr: RdI w0 A c xs): Calls prog 68 #[(.slice A xs.length c)] w0 (RN w0 H xs):=by
 have F:=Step.refl hI;have Z:=hr.len;refine enter [(.slice A xs.length c)] func68 J ntmps68 J fun a C=>?_;refine wp_seq (ab (Ls J C fun a C=>?_));refine wpList_nil (aa (wp_seq (ab (Lm J C fun a C=>?_))));have F:=F.cons_none (en:=noEnt) J;refine lin J (aS (news:=(ints xs)) (xs:= []) T26.und T3 J J F (Row.nil 3 1) C J J j1 (fun M=>by obtain⟨_,_,b,o,e,O,T,h1,h2⟩:=hr;exact⟨b,o,e,O,T,(h1 (fun I=>M (by rw [I];rfl))).1,F.keep0 _ _ (h1 (fun I=>M (by rw [I];rfl))).2,h2⟩) (ints_one _) j0 J J fun a0 Y a w G F C=>?_);rw [List.nil_append] at G;obtain⟨V,X,rfl⟩:=G.slice;refine Ls J C fun a C=>?_;refine wpList_nil (aa (wp_ret (ret1 J C J ?_)));rw [Nat.zero_add] at G;exact⟨_,_,_,by rw [Nat.zero_add],G,F⟩
theorem c_varsize {w0: World} {H: PHeap} (hI: Inv w0 H []) {q c c': Nat} {A A': Option Addr} {to: List Wd} {hk: List Int} (hq: w0.heap[q]? =some (.cells #[(.slice A to.length c),(.slice A' hk.length c')] 116 (0,0))) (hl: to.length<=64): Calls prog 200 #[(pB q)] w0 (Rs w0 H (iV 1)):=by
 have F:=Step.refl hI;refine enter [(pB q)] func200 J ntmps200 J fun a C=>?_;refine wp_seq (ab (Ls J C fun a C=>?_));refine wpList_nil (aa (wp_seq (ab (Ls J C fun a C=>?_))));refine wpList_nil (aa (wp_ret (ret1 J C J ?_)));refine⟨congrArg _ ?_,F.plain.drop_all⟩;rfl
theorem c_varwords {w0: World} {H: PHeap} (hI: Inv w0 H []) {q c c': Nat} {A A': Option Addr} {to: List Wd} {hk: List Int} (hq: w0.heap[q]? =some (.cells #[(.slice A to.length c),(.slice A' hk.length c')] 116 (0,0))): Calls prog 201 #[(pB q)] w0 (Rs w0 H (.slice A to.length c)):=by
 have F:=Step.refl hI;refine enter [(pB q)] func201 J ntmps201 J fun a C=>?_;refine wp_seq (ab (Ls J C fun a C=>?_));refine wpList_nil (aa (wp_seq (ab (Lm J C fun a C=>?_))));refine lin J (aE C J J fun a C=>?_);refine lin J (ac (f:=0) (o2:=(0+0)) T116 T37 J J J J C J J fun a C=>?_);refine lin J (ae (v:=(.slice A to.length c)) T37 J C J (F.keep0 _ _ hq) J J fun a C=>?_);refine Ls J C fun a C=>?_;refine wpList_nil (aa (wp_ret (ret1 J C J ?_)));refine⟨congrArg _ ?_,F.plain.drop_all⟩;rfl
theorem c_fnsize {w0: World} {H: PHeap} (hI: Inv w0 H []) {q c: Nat} {A: Option Addr} {s: ByteArray} {l: List Wd} (hq: w0.heap[q]? =some (.cells #[(.string s),(.slice A l.length c)] 113 (0,0))) (hl: l.length<=64): Calls prog 198 #[(pB q)] w0 (Rs w0 H (iV ((l.length+1: Nat): Int))):=by
 have F:=Step.refl hI;refine enter [(pB q)] func198 J ntmps198 J fun a C=>?_;refine wp_seq (ab (Ls J C fun a C=>?_));refine wpList_nil (aa (wp_seq (ab (Lm J C fun a C=>?_))));refine lin J (aE C J J fun a C=>?_);refine lin J (ac (f:=1) (o2:=(0+1)) T113 T37 J J J J C J J fun a C=>?_);refine lin J (ae (v:=(.slice A l.length c)) T37 J C J (F.keep0 _ _ hq) J J fun a C=>?_);refine lin J (aI T37.und C J J fun a C=>?_);refine lin J (aF (i:=((l.length: Nat): Int)) (j:=1) C J J J j0 fun a C=>?_);refine Ls J C fun a C=>?_;refine wpList_nil (aa (wp_ret (ret1 J C J ?_)));refine⟨congrArg _ ?_,F.plain.drop_all⟩;rfl
theorem c_fnwords {w0: World} {H: PHeap} (hI: Inv w0 H []) {q c: Nat} {A: Option Addr} {s: ByteArray} {l: List Wd} (hq: w0.heap[q]? =some (.cells #[(.string s),(.slice A l.length c)] 113 (0,0))): Calls prog 199 #[(pB q)] w0 (Rs w0 H (.slice A l.length c)):=by
 have F:=Step.refl hI;refine enter [(pB q)] func199 J ntmps199 J fun a C=>?_;refine wp_seq (ab (Ls J C fun a C=>?_));refine wpList_nil (aa (wp_seq (ab (Lm J C fun a C=>?_))));refine lin J (aE C J J fun a C=>?_);refine lin J (ac (f:=1) (o2:=(0+1)) T113 T37 J J J J C J J fun a C=>?_);refine lin J (ae (v:=(.slice A l.length c)) T37 J C J (F.keep0 _ _ hq) J J fun a C=>?_);refine Ls J C fun a C=>?_;refine wpList_nil (aa (wp_ret (ret1 J C J ?_)));refine⟨congrArg _ ?_,F.plain.drop_all⟩;rfl
theorem c_vecsize {w0: World} {H: PHeap} (hI: Inv w0 H []) {q c: Nat} {A: Option Addr} {l: List Wd} (hq: w0.heap[q]? =some (.cells #[(.slice A l.length c)] 119 (0,0))) (hl: l.length<=64): Calls prog 202 #[(pB q)] w0 (Rs w0 H (iV ((l.length+1: Nat): Int))):=by
 have F:=Step.refl hI;refine enter [(pB q)] func202 J ntmps202 J fun a C=>?_;refine wp_seq (ab (Ls J C fun a C=>?_));refine wpList_nil (aa (wp_seq (ab (Lm J C fun a C=>?_))));refine lin J (aE C J J fun a C=>?_);refine lin J (ac (f:=0) (o2:=(0+0)) T119 T37 J J J J C J J fun a C=>?_);refine lin J (ae (v:=(.slice A l.length c)) T37 J C J (F.keep0 _ _ hq) J J fun a C=>?_);refine lin J (aI T37.und C J J fun a C=>?_);refine lin J (aF (i:=((l.length: Nat): Int)) (j:=1) C J J J j0 fun a C=>?_);refine Ls J C fun a C=>?_;refine wpList_nil (aa (wp_ret (ret1 J C J ?_)));refine⟨congrArg _ ?_,F.plain.drop_all⟩;rfl
theorem c_vecwords {w0: World} {H: PHeap} (hI: Inv w0 H []) {q c: Nat} {A: Option Addr} {l: List Wd} (hq: w0.heap[q]? =some (.cells #[(.slice A l.length c)] 119 (0,0))): Calls prog 203 #[(pB q)] w0 (Rs w0 H (.slice A l.length c)):=by
 have F:=Step.refl hI;refine enter [(pB q)] func203 J ntmps203 J fun a C=>?_;refine wp_seq (ab (Ls J C fun a C=>?_));refine wpList_nil (aa (wp_seq (ab (Lm J C fun a C=>?_))));refine lin J (aE C J J fun a C=>?_);refine lin J (ac (f:=0) (o2:=(0+0)) T119 T37 J J J J C J J fun a C=>?_);refine lin J (ae (v:=(.slice A l.length c)) T37 J C J (F.keep0 _ _ hq) J J fun a C=>?_);refine Ls J C fun a C=>?_;refine wpList_nil (aa (wp_ret (ret1 J C J ?_)));refine⟨congrArg _ ?_,F.plain.drop_all⟩;rfl
theorem fP {K: Act→World→Prop} {Q: Exit→Act→World→Prop} {D: List Deferred} {a: Act} {w0 w: World} {H0 H: PHeap} {L0 L: List Ent} {N: Nat} {m: Env} {d: Nat} {ty: TypeId} {pos: String} {aft: Array Edge} {g: Option (Nat × Bool)} {x: Operand} {ts: Array TypeId} {b: BK} {t: Ent × Ent × Ent} (hS: Step w0 H0 L0 w H L) (hm1: t.1 ∈ L) (hB: Bk3 (some b) t) (hok: b.2.ok) (ha: Has D a N m) (hx: ev m x=some (bkv (some b))) (hd: Nat.blt d N=true) (k: ∀ a' w',Step w0 H0 L0 w' H L→Has D a' N ((d,.int .i64 ((b.2.size: Nat): Int))::m)→K a' w') :
  Oper.wp prog ⟨some d,.call { callee:=.invoke x "riparian/heap.size",args:= #[],argTypes:=ts },ty,pos,aft,g⟩ a w K Q:=by
 obtain⟨q,⟨to,hk⟩ |⟨s,l⟩ |⟨l⟩⟩:=b
 ·obtain⟨A,c,M,c',G,I, -⟩:=hB;rw [G] at hm1;refine cp J T114.und j3 func200 J J hx (ha.evs (xs:= []) J) ha hd (c_varsize hS.inv.nil (hS.inv.own _ hm1 q J) (show _≤64 from by have O: to.length≤1:=hok.1;omega)) ?_;rintro e w' ⟨rfl,F⟩;exact⟨_,rfl,fun a' C=>k  a' w' (hS.call F) C⟩
 ·obtain⟨A,c,G,I, -⟩:=hB;rw [G] at hm1;refine cp J T110.und j3 func198 J J hx (ha.evs (xs:= []) J) ha hd (c_fnsize hS.inv.nil (hS.inv.own _ hm1 q J) (show _≤64 from hok)) ?_;rintro e w' ⟨rfl,F⟩;exact⟨_,rfl,fun a' C=>k  a' w' (hS.call F) C⟩
 ·obtain⟨A,c,G,I, -⟩:=hB;rw [G] at hm1;refine cp J T117.und j3 func202 J J hx (ha.evs (xs:= []) J) ha hd (c_vecsize hS.inv.nil (hS.inv.own _ hm1 q J) (show _≤64 from hok)) ?_;rintro e w' ⟨rfl,F⟩;exact⟨_,rfl,fun a' C=>k  a' w' (hS.call F) C⟩
theorem dv {K: Act→World→Prop} {Q: Exit→Act→World→Prop} {D: List Deferred} {a: Act} {w0 w: World} {H0 H: PHeap} {L0 L: List Ent} {N: Nat} {m: Env} {d: Nat} {ty: TypeId} {pos: String} {aft: Array Edge} {g: Option (Nat × Bool)} {x: Operand} {ts: Array TypeId} {b: BK} {t: Ent × Ent × Ent} (hS: Step w0 H0 L0 w H L) (hm1: t.1 ∈ L) (hB: Bk3 (some b) t) (hok: b.2.ok) (ha: Has D a N m) (hx: ev m x=some (bkv (some b))) (hd: Nat.blt d N=true) (k: ∀(A: Option Addr) (c: Nat),Row (.slice A b.2.words.length c) t.2.1 35 4 b.2.words.length (gfl Wd.cells b.2.words)→∀ a' w',Step w0 H0 L0 w' H L→Has D a' N ((d,.slice A b.2.words.length c)::m)→K a' w') :
  Oper.wp prog ⟨some d,.call { callee:=.invoke x "riparian/heap.words",args:= #[],argTypes:=ts },ty,pos,aft,g⟩ a w K Q:=by
 obtain⟨q,⟨to,hk⟩ |⟨s,l⟩ |⟨l⟩⟩:=b
 ·obtain⟨A,c,M,c',I,C, -⟩:=hB;rw [I] at hm1;refine cp J T114.und j3 func201 J J hx (ha.evs (xs:= []) J) ha hd (c_varwords hS.inv.nil (hS.inv.own _ hm1 q J)) ?_;rintro e w' ⟨rfl,G⟩;exact⟨_,rfl,fun a' F=>k A c C a' w' (hS.call G) F⟩
 ·obtain⟨A,c,I,C, -⟩:=hB;rw [I] at hm1;refine cp J T110.und j3 func199 J J hx (ha.evs (xs:= []) J) ha hd (c_fnwords hS.inv.nil (hS.inv.own _ hm1 q J)) ?_;rintro e w' ⟨rfl,G⟩;exact⟨_,rfl,fun a' F=>k A c C a' w' (hS.call G) F⟩
 ·obtain⟨A,c,I,C, -⟩:=hB;rw [I] at hm1;refine cp J T117.und j3 func203 J J hx (ha.evs (xs:= []) J) ha hd (c_vecwords hS.inv.nil (hS.inv.own _ hm1 q J)) ?_;rintro e w' ⟨rfl,G⟩;exact⟨_,rfl,fun a' F=>k A c C a' w' (hS.call G) F⟩
end Go.Vk.Tryz
namespace Go.Vk.Tryz
open Go.RowKit
theorem c_find {w0: World} {H: PHeap} {L: List Ent} {p: Nat} {bs: BS} {tk: List Bool} {u: Int} (hI: Inv w0 H L) (hP: HP p bs tk u L) {size: Nat} (hz: 1<=size/\size<=1000): Calls prog 110 #[(pB p),(iV ((size: Nat): Int))] w0 (fun e w'=>e=.returned (iV (findS tk size))/\Step w0 H L w' H L):=by
 obtain⟨T,V,I,M,X,Y,fs,rfl,ay,b1,b3,ah,b2,ax⟩:=hP.open_;have G:=Step.refl hI;refine enter [(pB p),(iV ((size: Nat): Int))] func110 J ntmps110 J fun a C=>?_;refine wp_seq (ab (Ls J C fun a C=>?_));refine wpList_nil (aa (wp_scope_straight (wp_seq (ab (Ls J C fun a C=>?_)))));refine wpList_nil (aa (wp_seq (wp_label ?_)));refine aa (wp_seq (wp_block (aL (fun a6 a w=> ∃(F: Nat),∃(k: Nat),a6=k/\Has [] a 35 [(0,(pB p)),(1,(iV ((size: Nat): Int))),(5,(iV ((F: Nat): Int)))]/\Step w0 H ((eO p 103 #[.slice T bs.length V,.slice I bs.length M,.int .i64 u])::X::Y::fl3 fs) w H ((eO p 103 #[(.slice T bs.length V),(.slice I bs.length M),(iV u)])::X::Y::(fl3 fs))/\(findP tk size k F=findS tk size)/\(tk.length < F+k)/\(F<=tk.length)) _ ⟨0,(tk.length+1),rfl,C.pk J,G,rfl,j0,j0⟩ ?_)));intro b8 a w a3;obtain⟨F,k,b6,C,G,a2,hk,b4⟩:=a3;refine wp_seq (wp_seq (ab (Lm J C fun a C=>?_)));refine Lm J C fun a C=>?_;refine lin J (aF (i:=((F: Nat): Int)) (j:=((size: Nat): Int)) C J J J j0 fun a C=>?_);refine Lm J C fun a C=>?_;refine lin J (aE C J J fun a C=>?_);refine lin J (ac (f:=1) (o2:=1) T103 T101 J J J J C J J fun a C=>?_);refine lin J (ae (v:=(.slice I bs.length M)) T101 J C J (G.blkL 0 J) J J fun a C=>?_);refine lin J (aI T101.und C J J fun a C=>?_);refine lin J (cY (i:=(((F: Nat): Int)+((size: Nat): Int))) (j:=((bs.length: Nat): Int)) C J J J fun a C=>?_);refine wpList_nil (aa (ai (t:=15) C J (fun h2 C=>?_) (fun h2 C=>?_)))
 ·refine ao C J (wp_skip (aa (wp_block (wp_seq (wp_seq (ab (Lm J C fun a C=>?_)))))));refine Lm J C fun a C=>?_;refine wpList_nil (aa (wp_block (aL (fun a6 a w=> ∃(i: Nat),a6=size - i/\Has [] a 35 [(0,(pB p)),(1,(iV ((size: Nat): Int))),(5,(iV ((F: Nat): Int))),(16,(iV ((size: Nat): Int))),(17,(iV ((i: Nat): Int)))]/\Step w0 H ((eO p 103 #[.slice T bs.length V,.slice I bs.length M,.int .i64 u])::X::Y::fl3 fs) w H ((eO p 103 #[(.slice T bs.length V),(.slice I bs.length M),(iV u)])::X::Y::(fl3 fs))/\(i<=size)/\(∀ j,j < i->tk[F+j]? =some false)) _ ⟨0,rfl,C.pk J,G,j0,(fun j h=>by omega)⟩ ?_)));intro b9 a w a3;obtain⟨i,b7,C,G,b5,a4⟩:=a3;refine wp_seq (ab (lin J (aQ (i:=((i: Nat): Int)) (j:=((size: Nat): Int)) C J J J fun a C=>?_)));refine wpList_nil (aa (wp_seq (ai (t:=18) C J (fun a9 C=>?_) (fun a9 C=>?_))))
  ·refine ao C J (wp_skip (aa (wp_seq (wp_block (wp_seq (ab (Lm J C fun a C=>?_)))))));refine Ls J C fun a C=>?_;refine wpList_nil (aa (wp_seq (ab (Lm J C fun a C=>?_))));refine lin J (aE C J J fun a C=>?_);refine lin J (ac (f:=1) (o2:=1) T103 T101 J J J J C J J fun a C=>?_);refine lin J (ae (v:=(.slice I bs.length M)) T101 J C J (G.blkL 0 J) J J fun a C=>?_);refine Lm J C fun a C=>?_;refine Lm J C fun a C=>?_;refine lin J (aF (i:=((F: Nat): Int)) (j:=((i: Nat): Int)) C J J J j0 fun a C=>?_);obtain⟨Z,ap,a8,an,aj,a1, -⟩:=ah.at_ (j:=(F+i)) j0;have ad:(I: Option Addr)=some ⟨Z,0,none⟩:=by injection an
   obtain⟨a7,a5⟩: ∃ x,tk[(F+i)]? =some x:=⟨_,List.getElem?_eq_getElem j4⟩;have a1:=a1 0 (.bool a7) j0 (cu a5);refine lin J (az (b:=Z) (o:=0) (j:=(F+i)) T101.und T4 ad C J J j0 j0 J fun a C=>?_);refine lin J (ae (v:=(.bool a7)) T4 J C J (G.blkL 2 (b:=Z) (o:=.cells a8 4 (0,0)) (by rw [<- aj];rfl)) a1 J fun a C=>?_);refine wpList_nil (aa (au (t:=28) C J (fun a0 C=>?_) (fun a0 C=>?_)))
   ·refine ao C J (wp_seq (ab (Lm J C fun a C=>?_)));refine Lm J C fun a C=>?_;refine lin J (aF (i:=((i: Nat): Int)) (j:=1) C J J J j0 fun a C=>?_);refine lin J (aF (i:=((F: Nat): Int)) (j:=(((i: Nat): Int)+1)) C J J J j0 fun a C=>?_);refine Ls J C fun a C=>?_;refine wpList_nil (aa (wp_exit (blk_miss J (aw (aw (blk_miss J (aw (aH (aa (?_))))))))));obtain⟨k',rfl⟩: ∃ k',k=k'+1:=⟨k - 1,by omega⟩;have am:=findP_hit (k:=k') (tk:=tk) (size:=size) (a:=F) (i:=i) j0 j0 a4 (by rw [a5,a0]);exact⟨k',by omega,(F+(i+1)),k',rfl,C.pk J,G,(by rw [<- a2,am,Nat.add_assoc]),j0,j0⟩
   ·refine ag C J (wp_skip (ar (aa (ab (lin J (aF (i:=((i: Nat): Int)) (j:=1) C J J J j0 fun a C=>?_))))));refine Lm J C fun a C=>?_;refine wpList_nil (aa (?_));exact⟨size - (i+1),by omega,(i+1),rfl,C.pk J,G,j0,(fun j ak=>by
      by_cases al: j=i
      ·subst al;rw [a5,a0]
      ·exact a4 j j0)⟩
  ·refine ag C J (wp_exit (aw (aw (aH (aa (wp_seq (ab (Lm J C fun a C=>?_))))))));refine Ls J C fun a C=>?_;refine wpList_nil (aa (wp_ret (av (af (av (af (ng_ret (ret1 J C J ?_))))))));obtain⟨k',rfl⟩: ∃ k',k=k'+1:=⟨k - 1,by omega⟩;have O:=findP_free (k:=k') (tk:=tk) (size:=size) (a:=F) j0 (fun j ak=>a4 j j0);rw [a2] at O;exact⟨by rw [O],G⟩
 ·refine ag C J (wp_exit (aw (aw (aH (aa (wp_seq (ab (Ls J C fun a C=>?_))))))));refine wpList_nil (aa (wp_ret (ng_ret (ret1 J C J ?_))));have O:=findP_out (tk:=tk) (size:=size) (k:=k) (a:=F) (by have aq:=h2;omega);rw [a2] at O;exact⟨by rw [O],G⟩
theorem c_fill {w0: World} {H: PHeap} {L: List Ent} {p: Nat} {bs: BS} {tk: List Bool} {u: Int} (hI: Inv w0 H L) (hP: HP p bs tk u L) {a_ size: Nat} {v: Bool} (hz: size<=1000) (hfit: a_+size<=bs.length) (hu: -1000000000000<=u/\u<=1000000000000): Calls prog 108 #[(pB p),(iV ((a_: Nat): Int)),(iV ((size: Nat): Int)),(.bool v)] w0 (fun e w'=> ∃ L',e=.returned (.tuple #[])/\HP p bs (fillP tk a_ size v) (if v then u+size else u - size) L'/\Step w0 H L w' H L'):=by
 obtain⟨V,X,G,I,a4,a5,fs,rfl,a8,a1,af,ak,a9,a7⟩:=hP.open_;have F:=Step.refl hI;refine enter [(pB p),(iV ((a_: Nat): Int)),(iV ((size: Nat): Int)),(.bool v)] func108 J ntmps108 J fun a C=>?_;refine wp_seq (wp_seq (ab (Lm J C fun a C=>?_)));refine Lm J C fun a C=>?_;refine wpList_nil (aa (wp_block (aL (fun aq a w=> ∃(k: Nat),∃(O: List Bool),∃(Z: Ent),aq=size - k/\Has [] a 40 [(0,(pB p)),(1,(iV ((a_: Nat): Int))),(2,(iV ((size: Nat): Int))),(3,(.bool v)),(9,(iV ((size: Nat): Int))),(10,(iV ((k: Nat): Int)))]/\Step w0 H ((eO p 103 #[.slice V bs.length X,.slice G bs.length I,.int .i64 u])::a4::a5::fl3 fs) w H ((eO p 103 #[(.slice V bs.length X),(.slice G bs.length I),(iV u)])::a4::Z::(fl3 fs))/\(Row (.slice G bs.length I) Z 4 1 bs.length (bls O))/\(O=fillP tk a_ k v)/\(k<=size)) _ ⟨0,tk,a5,rfl,C.pk J,F,ak,(fillP_zero _ _ _).symm,j0⟩ ?_)));intro b5 a w am;obtain⟨k,O,Z,b3,C,F,M,Y,hk⟩:=am;have b4: O.length=bs.length:=by rw [Y,cE j0];exact a1
 refine wp_seq (ab (lin J (aQ (i:=((k: Nat): Int)) (j:=((size: Nat): Int)) C J J J fun a C=>?_)));refine wpList_nil (aa (wp_seq (ai (t:=11) C J (fun h2 C=>?_) (fun h2 C=>?_))))
 ·refine ao C J (wp_skip (aa (wp_seq (wp_block (wp_seq (ab (Lm J C fun a C=>?_)))))));refine Ls J C fun a C=>?_;refine wpList_nil (aa (ab (Lm J C fun a C=>?_)));refine lin J (aE C J J fun a C=>?_);refine lin J (ac (f:=1) (o2:=1) T103 T101 J J J J C J J fun a C=>?_);refine lin J (ae (v:=(.slice G bs.length I)) T101 J C J (F.blkL 0 J) J J fun a C=>?_);refine Lm J C fun a C=>?_;refine Lm J C fun a C=>?_;refine lin J (aF (i:=((a_: Nat): Int)) (j:=((k: Nat): Int)) C J J J j0 fun a C=>?_);refine Lm J C fun a C=>?_;obtain⟨a3,ax,ay,an,b1,ah, -⟩:=M.at_ (j:=(a_+k)) j0;have a6:(G: Option Addr)=some ⟨a3,0,none⟩:=by injection an
  obtain⟨av,ap⟩: ∃ x,O[(a_+k)]? =some x:=⟨_,List.getElem?_eq_getElem j4⟩;have ah:=ah 0 (.bool av) j0 (cu ap);refine lin J (az (b:=a3) (o:=0) (j:=(a_+k)) T101.und T4 a6 C J J j0 j0 J fun a C=>?_);refine lin J (fi (j:=(a_+k)) T4 F (i:=2) J M J a6 j0 J C J J J J fun aj a w ad b2 F C=>?_);rw [show (Value.cells _).toList= [.bool v] from rfl,dk j4] at ad;refine wpList_nil (ar (aa (ab (lin J (aF (i:=((k: Nat): Int)) (j:=1) C J J J j0 fun a C=>?_)))));refine Lm J C fun a C=>?_;refine wpList_nil (aa (?_));exact⟨size - (k+1),by omega,(k+1),(O.set (a_+k) v),aj,rfl,C.pk J,F,ad,(by rw [Y];exact fillP_step j0),j0⟩
 ·refine ag C J (wp_exit (aw (aw (aH (aa (wp_seq (ab (Lm J C fun a C=>?_))))))));refine wpList_nil (aa (au (t:=23) C J (fun a0 C=>?_) (fun a0 C=>?_)))
  ·refine ao C J (ab (Lm J C fun a C=>?_));refine lin J (aE C J J fun a C=>?_);refine lin J (ac (f:=2) (o2:=2) T103 T3 J J J J C J J fun a C=>?_);refine lin J (ae (v:=(iV u)) T3 J C J (F.blkL 0 J) J J fun a C=>?_);refine Lm J C fun a C=>?_;refine lin J (aF (i:=u) (j:=((size: Nat): Int)) C J J J j0 fun a C=>?_);refine lin J (aE C J J fun a C=>?_);refine lin J (ac (f:=2) (o2:=2) T103 T3 J J J J C J J fun a C=>?_);refine lin J (al (cs':= #[(.slice V bs.length X),(.slice G bs.length I),(iV (u+((size: Nat): Int)))]) T3 F (i:=0) J C J J J J J J fun a w F C=>?_);refine wpList_nil (ret0 J C ?_);have a2: k=size:=by omega
   subst a2 Y;have T:(fillP tk a_ k v).length=bs.length:=by rw [cE j0];exact a1
   rw [a0] at M T ⊢;exact⟨_,rfl,HP.mk' a8 T af M a9 a7,F⟩
  ·refine ag C J (ab (Lm J C fun a C=>?_));refine lin J (aE C J J fun a C=>?_);refine lin J (ac (f:=2) (o2:=2) T103 T3 J J J J C J J fun a C=>?_);refine lin J (ae (v:=(iV u)) T3 J C J (F.blkL 0 J) J J fun a C=>?_);refine Lm J C fun a C=>?_;refine lin J (cK (i:=u) (j:=((size: Nat): Int)) C J J J j0 fun a C=>?_);refine lin J (aE C J J fun a C=>?_);refine lin J (ac (f:=2) (o2:=2) T103 T3 J J J J C J J fun a C=>?_);refine lin J (al (cs':= #[(.slice V bs.length X),(.slice G bs.length I),(iV (u - ((size: Nat): Int)))]) T3 F (i:=0) J C J J J J J J fun a w F C=>?_);refine wpList_nil (ret0 J C ?_);have a2: k=size:=by omega
   subst a2 Y;have T:(fillP tk a_ k v).length=bs.length:=by rw [cE j0];exact a1
   rw [a0] at M T ⊢;exact⟨_,rfl,HP.mk' a8 T af M a9 a7,F⟩
theorem ge {w0: World} {H: PHeap} {L: List Ent} {p: Nat} {bs: BS} {tk: List Bool} {u: Int} (hI: Inv w0 H L) (hP: HP p bs tk u L) {x: Wd}: Calls prog 67 #[(pB p),(.agg (wA x))] w0 (fun e w'=>e=.returned (bkv (atB bs x))/\Step w0 H L w' H L):=by
 obtain⟨a0,a2,bc,bk,bl,bm,fs,rfl,bo,bp,aw,bt,bq,bn⟩:=hP.open_;have F:=Step.refl hI;refine enter [(pB p),(.agg (wA x))] func67 J ntmps67 J fun a C=>?_;refine wp_seq (ab (lin J (aG (cs:=(wA x)) F C J J J fun Y a w F C=>?_)));refine Ls J C fun a C=>?_;refine wpList_nil (aa (wp_seq (wp_seq ?_)))
 let a4:List (Nat×Value):=[(0,(pB p)),(3,(pB Y))];by_cases O: x.n < 0
 ·have a9:=F;refine bD ba [fun _ v=>v=(.pointer (some ⟨Y,1,none⟩)),fun _ v=>v=(iV x.n),fun _ v=>v=(.bool true),fun _ v=>v=(.bool true),fun _ v=>v=undef,fun _ v=>v=undef,fun _ v=>v=undef,fun _ v=>v=undef,fun _ v=>v=undef,fun _ v=>v=undef,fun _ v=>v=undef,fun _ v=>v=undef,fun _ v=>v=(.bool true),fun _ v=>v=(.bool true),fun _ v=>v=undef,fun _ v=>v=undef,fun _ v=>v=undef,fun _ v=>v=(.bool true)] (N:=58) (E:= a4) mixed J (Monos.cons (fun _ _ _ _ h=>h) (Monos.cons (fun _ _ _ _ h=>h) (Monos.cons (fun _ _ _ _ h=>h) (Monos.cons (fun _ _ _ _ h=>h) (Monos.cons (fun _ _ _ _ h=>h) (Monos.cons (fun _ _ _ _ h=>h) (Monos.cons (fun _ _ _ _ h=>h) (Monos.cons (fun _ _ _ _ h=>h) (Monos.cons (fun _ _ _ _ h=>h) (Monos.cons (fun _ _ _ _ h=>h) (Monos.cons (fun _ _ _ _ h=>h) (Monos.cons (fun _ _ _ _ h=>h) (Monos.cons (fun _ _ _ _ h=>h) (Monos.cons (fun _ _ _ _ h=>h) (Monos.cons (fun _ _ _ _ h=>h) (Monos.cons (fun _ _ _ _ h=>h) (Monos.cons (fun _ _ _ _ h=>h) (Monos.cons (fun _ _ _ _ h=>h) (Monos.nil))))))))))))))))))) F (C.pk J) (.cons ?_ (.cons ?_ (.cons ?_ (.cons ?_ (.cons ?_ (.cons ?_ (.cons ?_ (.cons ?_ (.cons ?_ (.cons ?_ (.cons ?_ (.cons ?_ (.cons ?_ (.cons ?_ (.cons ?_ (.cons ?_ (.cons ?_ (.cons ?_ (.nil))))))))))))))))))) (fun a w bg b4 F C a1=>?_)
  ·refine Qz J fun a w F C G=>?_;refine id (ac (f:=1) (o2:=1) T35 T3 J J J J C J J fun a C=>?_);exact qdone J C F J
  ·refine Qz J fun a w F C G=>?_;obtain⟨_,C,rfl⟩:=G.g C 0 J;refine id (ae (v:=(iV x.n)) T3 J C J (F.blkL 0 J) J J fun a C=>?_);exact qdone J C F J
  ·refine Qz J fun a w F C G=>?_;obtain⟨_,C,rfl⟩:=G.g C 1 J;refine id (aQ (i:=x.n) (j:=0) C J J J fun a C=>?_);exact qdone J C F (by first |(rw [decide_eq_true O] <;> rfl) |(rw [decide_eq_false O] <;> rfl) |(rw [O] <;> rfl) | simp [O])
  ·refine Qz J fun a w F C G=>?_;obtain⟨_,C,rfl⟩:=G.g C 2 J;refine id (aq C J J fun a C=>?_);exact qdone J C F (by first |(rw [decide_eq_true O] <;> rfl) |(rw [decide_eq_false O] <;> rfl) |(rw [O] <;> rfl) | simp [O])
  ·intro a w M I F C G;subst I;obtain⟨_,C,rfl⟩:=G.g C 3 J;rw [if_neg (ap J J C J J J)];intro d V;rfl
  ·intro a w M I F C G;subst I;obtain⟨_,C,rfl⟩:=G.g C 4 J;obtain⟨_,C,rfl⟩:=G.g C 3 J;rw [if_neg (ap J J C J J J)];intro d V;rfl
  ·intro a w M I F C G;subst I;obtain⟨_,C,rfl⟩:=G.g C 3 J;rw [if_neg (ap J J C J J J)];intro d V;rfl
  ·intro a w M I F C G;subst I;obtain⟨_,C,rfl⟩:=G.g C 6 J;obtain⟨_,C,rfl⟩:=G.g C 3 J;rw [if_neg (ap J J C J J J)];intro d V;rfl
  ·intro a w M I F C G;subst I;obtain⟨_,C,rfl⟩:=G.g C 7 J;obtain⟨_,C,rfl⟩:=G.g C 3 J;rw [if_neg (ap J J C J J J)];intro d V;rfl
  ·intro a w M I F C G;subst I;obtain⟨_,C,rfl⟩:=G.g C 8 J;obtain⟨_,C,rfl⟩:=G.g C 3 J;rw [if_neg (ap J J C J J J)];intro d V;rfl
  ·intro a w M I F C G;subst I;obtain⟨_,C,rfl⟩:=G.g C 9 J;obtain⟨_,C,rfl⟩:=G.g C 3 J;rw [if_neg (ap J J C J J J)];intro d V;rfl
  ·intro a w M I F C G;subst I;obtain⟨_,C,rfl⟩:=G.g C 5 J;obtain⟨_,C,rfl⟩:=G.g C 10 J;obtain⟨_,C,rfl⟩:=G.g C 3 J;rw [if_neg (ap J J C J J J)];intro d V;rfl
  ·refine Qz J fun a w F C G=>?_;obtain⟨_,C,rfl⟩:=G.g C 3 J;obtain⟨_,C,rfl⟩:=G.g C 11 J;refine id (an C J J J fun a C=>?_);exact qdone J C F J
  ·refine Qz J fun a w F C G=>?_;obtain⟨_,C,rfl⟩:=G.g C 12 J;refine id (aq C J J fun a C=>?_);exact qdone J C F J
  ·intro a w M I F C G;subst I;obtain⟨_,C,rfl⟩:=G.g C 13 J;rw [if_neg (ap J J C J J J)];intro d V;rfl
  ·intro a w M I F C G;subst I;obtain⟨_,C,rfl⟩:=G.g C 14 J;obtain⟨_,C,rfl⟩:=G.g C 13 J;rw [if_neg (ap J J C J J J)];intro d V;rfl
  ·intro a w M I F C G;subst I;obtain⟨_,C,rfl⟩:=G.g C 15 J;obtain⟨_,C,rfl⟩:=G.g C 13 J;rw [if_neg (ap J J C J J J)];intro d V;rfl
  ·refine Qz J fun a w F C G=>?_;obtain⟨_,C,rfl⟩:=G.g C 13 J;obtain⟨_,C,rfl⟩:=G.g C 16 J;refine id (an C J J J fun a C=>?_);exact qdone J C F J
  subst b4;obtain⟨_,C,rfl⟩:=Dd C a1 17 J;refine aa (ao C J (wp_seq (ab (Ls J C fun a C=>?_))));refine wpList_nil (aa (wp_ret (af (ret1 J C J ?_))));have F:=F.drop;rw [show atB bs x=none from ck (.inl O)];exact⟨rfl,F⟩
 ·by_cases T:((bs.length: Nat): Int)<=x.n
  ·have a9:=F;refine bD ba [fun _ v=>v=(.pointer (some ⟨Y,1,none⟩)),fun _ v=>v=(iV x.n),fun _ v=>v=(.bool false),fun _ v=>v=(.bool false),fun _ v=>v=(.pointer (some ⟨Y,1,none⟩)),fun _ v=>v=(iV x.n),fun _ v=>v=(pB p),fun _ v=>v=(pB p),fun _ v=>v=(pB p),fun _ v=>v=(.slice a0 bs.length a2),fun _ v=>v=(iV ((bs.length: Nat): Int)),fun _ v=>v=(.bool true),fun _ v=>v=(.bool true),fun _ v=>v=(.bool true),fun _ v=>v=undef,fun _ v=>v=undef,fun _ v=>v=undef,fun _ v=>v=(.bool true)] (N:=58) (E:= a4) mixed J (Monos.cons (fun _ _ _ _ h=>h) (Monos.cons (fun _ _ _ _ h=>h) (Monos.cons (fun _ _ _ _ h=>h) (Monos.cons (fun _ _ _ _ h=>h) (Monos.cons (fun _ _ _ _ h=>h) (Monos.cons (fun _ _ _ _ h=>h) (Monos.cons (fun _ _ _ _ h=>h) (Monos.cons (fun _ _ _ _ h=>h) (Monos.cons (fun _ _ _ _ h=>h) (Monos.cons (fun _ _ _ _ h=>h) (Monos.cons (fun _ _ _ _ h=>h) (Monos.cons (fun _ _ _ _ h=>h) (Monos.cons (fun _ _ _ _ h=>h) (Monos.cons (fun _ _ _ _ h=>h) (Monos.cons (fun _ _ _ _ h=>h) (Monos.cons (fun _ _ _ _ h=>h) (Monos.cons (fun _ _ _ _ h=>h) (Monos.cons (fun _ _ _ _ h=>h) (Monos.nil))))))))))))))))))) F (C.pk J) (.cons ?_ (.cons ?_ (.cons ?_ (.cons ?_ (.cons ?_ (.cons ?_ (.cons ?_ (.cons ?_ (.cons ?_ (.cons ?_ (.cons ?_ (.cons ?_ (.cons ?_ (.cons ?_ (.cons ?_ (.cons ?_ (.cons ?_ (.cons ?_ (.nil))))))))))))))))))) (fun a w bh b5 F C a1=>?_)
   ·refine Qz J fun a w F C G=>?_;refine id (ac (f:=1) (o2:=1) T35 T3 J J J J C J J fun a C=>?_);exact qdone J C F J
   ·refine Qz J fun a w F C G=>?_;obtain⟨_,C,rfl⟩:=G.g C 0 J;refine id (ae (v:=(iV x.n)) T3 J C J (F.blkL 0 J) J J fun a C=>?_);exact qdone J C F J
   ·refine Qz J fun a w F C G=>?_;obtain⟨_,C,rfl⟩:=G.g C 1 J;refine id (aQ (i:=x.n) (j:=0) C J J J fun a C=>?_);exact qdone J C F (by first |(rw [decide_eq_true O] <;> rfl) |(rw [decide_eq_false O] <;> rfl) |(rw [O] <;> rfl) | simp [O])
   ·refine Qz J fun a w F C G=>?_;obtain⟨_,C,rfl⟩:=G.g C 2 J;refine id (aq C J J fun a C=>?_);exact qdone J C F (by first |(rw [decide_eq_true O] <;> rfl) |(rw [decide_eq_false O] <;> rfl) |(rw [O] <;> rfl) | simp [O])
   ·intro a w M I F C G;subst I;obtain⟨_,C,rfl⟩:=G.g C 3 J;rw [if_pos (ay J C J J J)];refine id (ac (f:=1) (o2:=1) T35 T3 J J J J C J J fun a C=>?_);exact qdone J C F J
   ·intro a w M I F C G;subst I;obtain⟨_,C,rfl⟩:=G.g C 4 J;obtain⟨_,C,rfl⟩:=G.g C 3 J;rw [if_pos (ay J C J J J)];refine id (ae (v:=(iV x.n)) T3 J C J (F.blkL 0 J) J J fun a C=>?_);exact qdone J C F J
   ·intro a w M I F C G;subst I;obtain⟨_,C,rfl⟩:=G.g C 3 J;rw [if_pos (ay J C J J J)];refine id (aq C J J fun a C=>?_);exact qdone J C F J
   ·intro a w M I F C G;subst I;obtain⟨_,C,rfl⟩:=G.g C 6 J;obtain⟨_,C,rfl⟩:=G.g C 3 J;rw [if_pos (ay J C J J J)];refine id (aE C J J fun a C=>?_);exact qdone J C F J
   ·intro a w M I F C G;subst I;obtain⟨_,C,rfl⟩:=G.g C 7 J;obtain⟨_,C,rfl⟩:=G.g C 3 J;rw [if_pos (ay J C J J J)];refine id (ac (f:=0) (o2:=0) T103 T100 J J J J C J J fun a C=>?_);exact qdone J C F J
   ·intro a w M I F C G;subst I;obtain⟨_,C,rfl⟩:=G.g C 8 J;obtain⟨_,C,rfl⟩:=G.g C 3 J;rw [if_pos (ay J C J J J)];refine id (ae (v:=(.slice a0 bs.length a2)) T100 J C J (F.blkL 1 J) J J fun a C=>?_);exact qdone J C F J
   ·intro a w M I F C G;subst I;obtain⟨_,C,rfl⟩:=G.g C 9 J;obtain⟨_,C,rfl⟩:=G.g C 3 J;rw [if_pos (ay J C J J J)];refine id (aI T100.und C J J fun a C=>?_);exact qdone J C F J
   ·intro a w M I F C G;subst I;obtain⟨_,C,rfl⟩:=G.g C 5 J;obtain⟨_,C,rfl⟩:=G.g C 10 J;obtain⟨_,C,rfl⟩:=G.g C 3 J;rw [if_pos (ay J C J J J)];refine id (co (i:=x.n) (j:=((bs.length: Nat): Int)) C J J J fun a C=>?_);exact qdone J C F (by first |(rw [decide_eq_true T] <;> rfl) |(rw [decide_eq_false T] <;> rfl) |(rw [T] <;> rfl) | simp [T])
   ·refine Qz J fun a w F C G=>?_;obtain⟨_,C,rfl⟩:=G.g C 3 J;obtain⟨_,C,rfl⟩:=G.g C 11 J;refine id (ak C J J J fun a C=>?_);exact qdone J C F (by first |(rw [decide_eq_true T] <;> rfl) |(rw [decide_eq_false T] <;> rfl) |(rw [T] <;> rfl) | simp [T])
   ·refine Qz J fun a w F C G=>?_;obtain⟨_,C,rfl⟩:=G.g C 12 J;refine id (aq C J J fun a C=>?_);exact qdone J C F (by first |(rw [decide_eq_true T] <;> rfl) |(rw [decide_eq_false T] <;> rfl) |(rw [T] <;> rfl) | simp [T])
   ·intro a w M I F C G;subst I;obtain⟨_,C,rfl⟩:=G.g C 13 J;rw [if_neg (ap J J C J J J)];intro d V;rfl
   ·intro a w M I F C G;subst I;obtain⟨_,C,rfl⟩:=G.g C 14 J;obtain⟨_,C,rfl⟩:=G.g C 13 J;rw [if_neg (ap J J C J J J)];intro d V;rfl
   ·intro a w M I F C G;subst I;obtain⟨_,C,rfl⟩:=G.g C 15 J;obtain⟨_,C,rfl⟩:=G.g C 13 J;rw [if_neg (ap J J C J J J)];intro d V;rfl
   ·refine Qz J fun a w F C G=>?_;obtain⟨_,C,rfl⟩:=G.g C 13 J;obtain⟨_,C,rfl⟩:=G.g C 16 J;refine id (an C J J J fun a C=>?_);exact qdone J C F J
   subst b5;obtain⟨_,C,rfl⟩:=Dd C a1 17 J;refine aa (ao C J (wp_seq (ab (Ls J C fun a C=>?_))));refine wpList_nil (aa (wp_ret (af (ret1 J C J ?_))));have F:=F.drop;rw [show atB bs x=none from ck (.inr (.inl T))];exact⟨rfl,F⟩
  ·have a9:=F;refine bD ba [fun _ v=>v=(.pointer (some ⟨Y,1,none⟩)),fun _ v=>v=(iV x.n),fun _ v=>v=(.bool false),fun _ v=>v=(.bool false),fun _ v=>v=(.pointer (some ⟨Y,1,none⟩)),fun _ v=>v=(iV x.n),fun _ v=>v=(pB p),fun _ v=>v=(pB p),fun _ v=>v=(pB p),fun _ v=>v=(.slice a0 bs.length a2),fun _ v=>v=(iV ((bs.length: Nat): Int)),fun _ v=>v=(.bool false),fun _ v=>v=(.bool false),fun _ v=>v=(.bool false),fun _ v=>v=(.pointer (some ⟨Y,2,none⟩)),fun _ v=>v=(.string x.s),fun _ v=>v=(.bool (!decide (x.s=⟨#[]⟩))),fun _ v=>v=(.bool (!decide (x.s=⟨#[]⟩)))] (N:=58) (E:= a4) mixed J (Monos.cons (fun _ _ _ _ h=>h) (Monos.cons (fun _ _ _ _ h=>h) (Monos.cons (fun _ _ _ _ h=>h) (Monos.cons (fun _ _ _ _ h=>h) (Monos.cons (fun _ _ _ _ h=>h) (Monos.cons (fun _ _ _ _ h=>h) (Monos.cons (fun _ _ _ _ h=>h) (Monos.cons (fun _ _ _ _ h=>h) (Monos.cons (fun _ _ _ _ h=>h) (Monos.cons (fun _ _ _ _ h=>h) (Monos.cons (fun _ _ _ _ h=>h) (Monos.cons (fun _ _ _ _ h=>h) (Monos.cons (fun _ _ _ _ h=>h) (Monos.cons (fun _ _ _ _ h=>h) (Monos.cons (fun _ _ _ _ h=>h) (Monos.cons (fun _ _ _ _ h=>h) (Monos.cons (fun _ _ _ _ h=>h) (Monos.cons (fun _ _ _ _ h=>h) (Monos.nil))))))))))))))))))) F (C.pk J) (.cons ?_ (.cons ?_ (.cons ?_ (.cons ?_ (.cons ?_ (.cons ?_ (.cons ?_ (.cons ?_ (.cons ?_ (.cons ?_ (.cons ?_ (.cons ?_ (.cons ?_ (.cons ?_ (.cons ?_ (.cons ?_ (.cons ?_ (.cons ?_ (.nil))))))))))))))))))) (fun a w bi b6 F C a1=>?_)
   ·refine Qz J fun a w F C G=>?_;refine id (ac (f:=1) (o2:=1) T35 T3 J J J J C J J fun a C=>?_);exact qdone J C F J
   ·refine Qz J fun a w F C G=>?_;obtain⟨_,C,rfl⟩:=G.g C 0 J;refine id (ae (v:=(iV x.n)) T3 J C J (F.blkL 0 J) J J fun a C=>?_);exact qdone J C F J
   ·refine Qz J fun a w F C G=>?_;obtain⟨_,C,rfl⟩:=G.g C 1 J;refine id (aQ (i:=x.n) (j:=0) C J J J fun a C=>?_);exact qdone J C F (by first |(rw [decide_eq_true O] <;> rfl) |(rw [decide_eq_false O] <;> rfl) |(rw [O] <;> rfl) | simp [O])
   ·refine Qz J fun a w F C G=>?_;obtain⟨_,C,rfl⟩:=G.g C 2 J;refine id (aq C J J fun a C=>?_);exact qdone J C F (by first |(rw [decide_eq_true O] <;> rfl) |(rw [decide_eq_false O] <;> rfl) |(rw [O] <;> rfl) | simp [O])
   ·intro a w M I F C G;subst I;obtain⟨_,C,rfl⟩:=G.g C 3 J;rw [if_pos (ay J C J J J)];refine id (ac (f:=1) (o2:=1) T35 T3 J J J J C J J fun a C=>?_);exact qdone J C F J
   ·intro a w M I F C G;subst I;obtain⟨_,C,rfl⟩:=G.g C 4 J;obtain⟨_,C,rfl⟩:=G.g C 3 J;rw [if_pos (ay J C J J J)];refine id (ae (v:=(iV x.n)) T3 J C J (F.blkL 0 J) J J fun a C=>?_);exact qdone J C F J
   ·intro a w M I F C G;subst I;obtain⟨_,C,rfl⟩:=G.g C 3 J;rw [if_pos (ay J C J J J)];refine id (aq C J J fun a C=>?_);exact qdone J C F J
   ·intro a w M I F C G;subst I;obtain⟨_,C,rfl⟩:=G.g C 6 J;obtain⟨_,C,rfl⟩:=G.g C 3 J;rw [if_pos (ay J C J J J)];refine id (aE C J J fun a C=>?_);exact qdone J C F J
   ·intro a w M I F C G;subst I;obtain⟨_,C,rfl⟩:=G.g C 7 J;obtain⟨_,C,rfl⟩:=G.g C 3 J;rw [if_pos (ay J C J J J)];refine id (ac (f:=0) (o2:=0) T103 T100 J J J J C J J fun a C=>?_);exact qdone J C F J
   ·intro a w M I F C G;subst I;obtain⟨_,C,rfl⟩:=G.g C 8 J;obtain⟨_,C,rfl⟩:=G.g C 3 J;rw [if_pos (ay J C J J J)];refine id (ae (v:=(.slice a0 bs.length a2)) T100 J C J (F.blkL 1 J) J J fun a C=>?_);exact qdone J C F J
   ·intro a w M I F C G;subst I;obtain⟨_,C,rfl⟩:=G.g C 9 J;obtain⟨_,C,rfl⟩:=G.g C 3 J;rw [if_pos (ay J C J J J)];refine id (aI T100.und C J J fun a C=>?_);exact qdone J C F J
   ·intro a w M I F C G;subst I;obtain⟨_,C,rfl⟩:=G.g C 5 J;obtain⟨_,C,rfl⟩:=G.g C 10 J;obtain⟨_,C,rfl⟩:=G.g C 3 J;rw [if_pos (ay J C J J J)];refine id (co (i:=x.n) (j:=((bs.length: Nat): Int)) C J J J fun a C=>?_);exact qdone J C F (by first |(rw [decide_eq_true T] <;> rfl) |(rw [decide_eq_false T] <;> rfl) |(rw [T] <;> rfl) | simp [T])
   ·refine Qz J fun a w F C G=>?_;obtain⟨_,C,rfl⟩:=G.g C 3 J;obtain⟨_,C,rfl⟩:=G.g C 11 J;refine id (ak C J J J fun a C=>?_);exact qdone J C F (by first |(rw [decide_eq_true T] <;> rfl) |(rw [decide_eq_false T] <;> rfl) |(rw [T] <;> rfl) | simp [T])
   ·refine Qz J fun a w F C G=>?_;obtain⟨_,C,rfl⟩:=G.g C 12 J;refine id (aq C J J fun a C=>?_);exact qdone J C F (by first |(rw [decide_eq_true T] <;> rfl) |(rw [decide_eq_false T] <;> rfl) |(rw [T] <;> rfl) | simp [T])
   ·intro a w M I F C G;subst I;obtain⟨_,C,rfl⟩:=G.g C 13 J;rw [if_pos (ay J C J J J)];refine id (ac (f:=2) (o2:=2) T35 T9 J J J J C J J fun a C=>?_);exact qdone J C F J
   ·intro a w M I F C G;subst I;obtain⟨_,C,rfl⟩:=G.g C 14 J;obtain⟨_,C,rfl⟩:=G.g C 13 J;rw [if_pos (ay J C J J J)];refine id (ae (v:=(.string x.s)) T9 J C J (F.blkL 0 J) J J fun a C=>?_);exact qdone J C F J
   ·intro a w M I F C G;subst I;obtain⟨_,C,rfl⟩:=G.g C 15 J;obtain⟨_,C,rfl⟩:=G.g C 13 J;rw [if_pos (ay J C J J J)];refine id (o_nes C J J J fun a C=>?_);exact qdone J C F J
   ·refine Qz J fun a w F C G=>?_;obtain⟨_,C,rfl⟩:=G.g C 13 J;obtain⟨_,C,rfl⟩:=G.g C 16 J;refine id (ak C J J J fun a C=>?_);exact qdone J C F J
   subst b6;obtain⟨_,C,rfl⟩:=Dd C a1 17 J;refine aa (aP (t:=25) C J (fun Z C=>?_) (fun Z C=>?_))
   ·refine ao C J (wp_seq (ab (Ls J C fun a C=>?_)));refine wpList_nil (aa (wp_ret (af (ret1 J C J ?_))));have F:=F.drop;rw [show atB bs x=none from ck (.inr (.inr (.inl Z)))];exact⟨rfl,F⟩
   ·refine ag C J (wp_skip (aa (wp_seq (wp_seq ?_))));have a9:=F;obtain⟨aj,a5,bj,am,X,b7,b1,ax⟩:=Row.getG cz j2 aw (j:=(Int.toNat x.n)) j0;have au:(a0: Option Addr)=some ⟨a5,0,none⟩:=by injection b7
    refine bD ba [fun _ v=>v=(pB p),fun _ v=>v=(pB p),fun _ v=>v=(pB p),fun _ v=>v=(.slice a0 bs.length a2),fun _ v=>v=(.pointer (some ⟨Y,1,none⟩)),fun _ v=>v=(iV x.n),fun _ v=>v=(.pointer (some ⟨a5,0+(Int.toNat x.n) * 1,none⟩)),fun _ v=>v=(bkv aj)] (N:=58) (E:= a4) mixed J (Monos.cons (fun _ _ _ _ h=>h) (Monos.cons (fun _ _ _ _ h=>h) (Monos.cons (fun _ _ _ _ h=>h) (Monos.cons (fun _ _ _ _ h=>h) (Monos.cons (fun _ _ _ _ h=>h) (Monos.cons (fun _ _ _ _ h=>h) (Monos.cons (fun _ _ _ _ h=>h) (Monos.cons (fun _ _ _ _ h=>h) (Monos.nil))))))))) F (C.pk J) (.cons ?_ (.cons ?_ (.cons ?_ (.cons ?_ (.cons ?_ (.cons ?_ (.cons ?_ (.cons ?_ (.nil))))))))) (fun a w bf b3 F C a1=>?_)
    ·refine Qz J fun a w F C G=>?_;refine id (aq C J J fun a C=>?_);exact qdone J C F J
    ·refine Qz J fun a w F C G=>?_;obtain⟨_,C,rfl⟩:=G.g C 0 J;refine id (aE C J J fun a C=>?_);exact qdone J C F J
    ·refine Qz J fun a w F C G=>?_;obtain⟨_,C,rfl⟩:=G.g C 1 J;refine id (ac (f:=0) (o2:=0) T103 T100 J J J J C J J fun a C=>?_);exact qdone J C F J
    ·refine Qz J fun a w F C G=>?_;obtain⟨_,C,rfl⟩:=G.g C 2 J;refine id (ae (v:=(.slice a0 bs.length a2)) T100 J C J (F.blkL 1 J) J J fun a C=>?_);exact qdone J C F J
    ·refine Qz J fun a w F C G=>?_;refine id (ac (f:=1) (o2:=1) T35 T3 J J J J C J J fun a C=>?_);exact qdone J C F J
    ·refine Qz J fun a w F C G=>?_;obtain⟨_,C,rfl⟩:=G.g C 4 J;refine id (ae (v:=(iV x.n)) T3 J C J (F.blkL 0 J) J J fun a C=>?_);exact qdone J C F J
    ·refine Qz J fun a w F C G=>?_;obtain⟨_,C,rfl⟩:=G.g C 3 J;obtain⟨_,C,rfl⟩:=G.g C 5 J;refine id (az (b:=a5) (o:=0) (j:=(Int.toNat x.n)) T100.und T105 au C J J j0 j0 J fun a C=>?_);exact qdone J C F J
    ·refine Qz J fun a w F C G=>?_;obtain⟨_,C,rfl⟩:=G.g C 6 J;refine id (ae (v:=(bkv aj)) T105 J C J (F.blkL 2 (b:=a5) (o:=.cells am 105 (0,0)) (by rw [<- b1];rfl)) (ax 0 _ J) J fun a C=>?_);exact qdone J C F J
    subst b3;obtain⟨_,C,rfl⟩:=Dd C a1 7 J;refine aa (wp_block (wp_seq (ab ?_)))
    rcases aj with _ |⟨a3,⟨b9,b2⟩ |⟨b8,ad⟩ |⟨ad⟩⟩
    ·refine lin J (bM T114 C J J fun a C=>?_);refine lin J (ah (v:=(.bool false)) C J J J fun a C=>?_);refine lin J (ah (v:=(.pointer none)) C J J J fun a C=>?_);refine wpList_nil (aa (ag C J (wp_seq (ab (lin J (bM T110 C J J fun a C=>?_))))));refine lin J (ah (v:=(.bool false)) C J J J fun a C=>?_);refine lin J (ah (v:=(.pointer none)) C J J J fun a C=>?_);refine wpList_nil (aa (ag C J (wp_seq (ab (lin J (bM T117 C J J fun a C=>?_))))));refine lin J (ah (v:=(.bool false)) C J J J fun a C=>?_);refine lin J (ah (v:=(.pointer none)) C J J J fun a C=>?_);refine wpList_nil (aa (ag C J (wp_skip (ar (aa (wp_seq (ab (Ls J C fun a C=>?_))))))));refine wpList_nil (aa (wp_ret (ret1 J C J ?_)));have F:=F.drop;rw [show atB bs x=none from ck (.inr (.inr (.inr X)))];exact⟨rfl,F⟩
    ·have al:=X;refine lin J (br T114.und C J J fun a C=>?_);refine lin J (ah (v:=(.bool true)) C J J J fun a C=>?_);refine lin J (ah (v:=(pB a3)) C J J J fun a C=>?_);refine wpList_nil (aa (ao C J (wp_seq (ab (Ls J C fun a C=>?_)))));refine wpList_nil (aa (wp_seq (ab (lin J (ac (f:=0) (o2:=0) T35 T3 J J J J C J J fun a C=>?_)))));refine lin J (ae (v:=(iV x.tag)) T3 J C J (F.blkL 0 J) J J fun a C=>?_);refine lin J (aJ (i:=x.tag) (j:=4) C J J J fun a C=>?_);refine wpList_nil (aa (ai (t:=39) C J (fun a6 C=>?_) (fun a6 C=>?_)))
     ·refine ao C J (wp_seq (ab (Lm J C fun a C=>?_)));refine lin J (bU T114.und C J J fun a C=>?_);refine Ls J C fun a C=>?_;refine wpList_nil (aa (wp_ret (av (af (ret1 J C J ?_)))));have F:=F.drop;rw [show atB bs x=(some (a3,PB.var b9 b2)) from (dm j0 j0 Z X).trans (if_pos a6)];exact⟨rfl,F⟩
     ·refine ag C J (wp_skip (ar (aa (wp_seq (ab (Ls J C fun a C=>?_))))));refine wpList_nil (aa (wp_ret (ret1 J C J ?_)));have F:=F.drop;rw [show atB bs x=none from (dm j0 j0 Z X).trans (if_neg a6)];exact⟨rfl,F⟩
    ·have al:=X;refine lin J (aW T114 C J J J fun a C=>?_);refine lin J (ah (v:=(.bool false)) C J J J fun a C=>?_);refine lin J (ah (v:=(.pointer none)) C J J J fun a C=>?_);refine wpList_nil (aa (ag C J (wp_seq (ab (lin J (br T110.und C J J fun a C=>?_))))));refine lin J (ah (v:=(.bool true)) C J J J fun a C=>?_);refine lin J (ah (v:=(pB a3)) C J J J fun a C=>?_);refine wpList_nil (aa (ao C J (wp_seq (ab (Ls J C fun a C=>?_)))));refine wpList_nil (aa (wp_seq (ab (lin J (ac (f:=0) (o2:=0) T35 T3 J J J J C J J fun a C=>?_)))));refine lin J (ae (v:=(iV x.tag)) T3 J C J (F.blkL 0 J) J J fun a C=>?_);refine lin J (aJ (i:=x.tag) (j:=5) C J J J fun a C=>?_);refine wpList_nil (aa (ai (t:=47) C J (fun a7 C=>?_) (fun a7 C=>?_)))
     ·refine ao C J (wp_seq (ab (Lm J C fun a C=>?_)));refine lin J (bU T110.und C J J fun a C=>?_);refine Ls J C fun a C=>?_;refine wpList_nil (aa (wp_ret (av (af (ret1 J C J ?_)))));have F:=F.drop;rw [show atB bs x=(some (a3,PB.fn b8 ad)) from (dm j0 j0 Z X).trans (if_pos a7)];exact⟨rfl,F⟩
     ·refine ag C J (wp_skip (ar (aa (wp_seq (ab (Ls J C fun a C=>?_))))));refine wpList_nil (aa (wp_ret (ret1 J C J ?_)));have F:=F.drop;rw [show atB bs x=none from (dm j0 j0 Z X).trans (if_neg a7)];exact⟨rfl,F⟩
    ·have al:=X;refine lin J (aW T114 C J J J fun a C=>?_);refine lin J (ah (v:=(.bool false)) C J J J fun a C=>?_);refine lin J (ah (v:=(.pointer none)) C J J J fun a C=>?_);refine wpList_nil (aa (ag C J (wp_seq (ab (lin J (aW T110 C J J J fun a C=>?_))))));refine lin J (ah (v:=(.bool false)) C J J J fun a C=>?_);refine lin J (ah (v:=(.pointer none)) C J J J fun a C=>?_);refine wpList_nil (aa (ag C J (wp_seq (ab (lin J (br T117.und C J J fun a C=>?_))))));refine lin J (ah (v:=(.bool true)) C J J J fun a C=>?_);refine lin J (ah (v:=(pB a3)) C J J J fun a C=>?_);refine wpList_nil (aa (ao C J (wp_seq (ab (Ls J C fun a C=>?_)))));refine wpList_nil (aa (wp_seq (ab (lin J (ac (f:=0) (o2:=0) T35 T3 J J J J C J J fun a C=>?_)))));refine lin J (ae (v:=(iV x.tag)) T3 J C J (F.blkL 0 J) J J fun a C=>?_);refine lin J (aJ (i:=x.tag) (j:=6) C J J J fun a C=>?_);refine wpList_nil (aa (ai (t:=55) C J (fun a8 C=>?_) (fun a8 C=>?_)))
     ·refine ao C J (wp_seq (ab (Lm J C fun a C=>?_)));refine lin J (bU T117.und C J J fun a C=>?_);refine Ls J C fun a C=>?_;refine wpList_nil (aa (wp_ret (av (af (ret1 J C J ?_)))));have F:=F.drop;rw [show atB bs x=(some (a3,PB.vec ad)) from (dm j0 j0 Z X).trans (if_pos a8)];exact⟨rfl,F⟩
     ·refine ag C J (wp_skip (ar (aa (wp_seq (ab (Ls J C fun a C=>?_))))));refine wpList_nil (aa (wp_ret (ret1 J C J ?_)));have F:=F.drop;rw [show atB bs x=none from (dm j0 j0 Z X).trans (if_neg a8)];exact⟨rfl,F⟩
end Go.Vk.Tryz
namespace Go.Vk.Tryz
open Go.RowKit
theorem aR {bs: BS} {x: Wd} {o: Option BK} (h: atB bs x=o): atS (er bs) x=o.map (·.2):=by rw [<- eM,h]
theorem eW {w0: World} {H: PHeap} {L: List Ent} {p: Nat} {bs: BS} {tk: List Bool} {u: Int} (hI: Inv w0 H L) (hP: HP p bs tk u L) {x: Wd}: Calls prog 53 #[(pB p),(.agg (wA x))] w0 (fun e w'=>e=.returned (.bool (wordS (er bs) x))/\Step w0 H L w' H L):=by
 have F:=Step.refl hI;refine enter [(pB p),(.agg (wA x))] func53 J ntmps53 J fun a C=>?_;refine wp_seq (ab (lin J (aG (cs:=(wA x)) F C J J J fun T a w F C=>?_)));refine Ls J C fun a C=>?_;refine wpList_nil (aa (wp_seq (wp_seq (ab (lin J (ac (f:=0) (o2:=0) T35 T3 J J J J C J J fun a C=>?_))))));refine lin J (ae (v:=(iV x.tag)) T3 J C J (F.blkL 0 J) J J fun a C=>?_);refine wpList_nil (aa (wp_block (wp_seq (ab (lin J (aJ (i:=x.tag) (j:=1) C J J J fun a C=>?_))))));refine Ls J C fun a C=>?_;refine wpList_nil (aa (ai (t:=7) C J (fun G C=>?_) (fun G C=>?_)))
 ·refine ao C J (wp_seq (bH (D:= []) (N:=66) (E:= [(3,(pB T)),(4,(.bool ((((decide (x.s=⟨#[]⟩))&&(!x.one))&&(decide ((-2147483647)<=x.n)))&&(decide (x.n<=2147483647)))))]) (fun a C=>?_) ?_));rotate_left
  ·refine lin J (ac (f:=2) (o2:=2) T35 T9 J J J J C J J fun a C=>?_);refine lin J (ae (v:=(.string x.s)) T9 J C J (F.blkL 0 J) J J fun a C=>?_);refine lin J (dG C J J J fun a C=>?_);refine Lm J C fun a C=>?_;refine ai (t:=12) C J (fun X C=>?_) (fun X C=>?_)
   ·refine ad J C J J J (ac (f:=3) (o2:=3) T35 T4 J J J J C J J fun a C=>?_);refine ad J C J J J (ae (v:=(.bool x.one)) T4 J C J (F.blkL 0 J) J J fun a C=>?_);refine ad J C J J J (aK C J J fun a C=>?_);refine lin J (an C J J J fun a C=>?_);refine Lm J C fun a C=>?_;refine au (t:=17) C J (fun a0 C=>?_) (fun a0 C=>?_)
    ·refine ad J C J J J (ac (f:=1) (o2:=1) T35 T3 J J J J C J J fun a C=>?_);refine ad J C J J J (ae (v:=(iV x.n)) T3 J C J (F.blkL 0 J) J J fun a C=>?_);refine ad J C J J J (co (i:=x.n) (j:=(-2147483647)) C J J J fun a C=>?_);refine lin J (an C J J J fun a C=>?_);refine Lm J C fun a C=>?_;refine ai (t:=22) C J (fun a3 C=>?_) (fun a3 C=>?_)
     ·refine ad J C J J J (ac (f:=1) (o2:=1) T35 T3 J J J J C J J fun a C=>?_);refine ad J C J J J (ae (v:=(iV x.n)) T3 J C J (F.blkL 0 J) J J fun a C=>?_);refine ad J C J J J (cY (i:=x.n) (j:=2147483647) C J J J fun a C=>?_);refine lin J (an C J J J fun a C=>?_);refine Ls J C fun a C=>?_;exact wpList_nil ⟨rfl,rfl,Has.cons C J (Has.cons C (by simp [lk,Nat.beq,G,X,a0,a3]) (C.nil))⟩
     ·refine Lf J C J J fun a C=>?_;refine Lf J C J J fun a C=>?_;refine Lf J C J J fun a C=>?_;refine lin J (ak C J J J fun a C=>?_);refine Ls J C fun a C=>?_;exact wpList_nil ⟨rfl,rfl,Has.cons C J (Has.cons C (by simp [lk,Nat.beq,G,X,a0,a3]) (C.nil))⟩
    ·refine Lf J C J J fun a C=>?_;refine Lf J C J J fun a C=>?_;refine Lf J C J J fun a C=>?_;refine lin J (ak C J J J fun a C=>?_);refine Lm J C fun a C=>?_;refine Lf J C J J fun a C=>?_;refine Lf J C J J fun a C=>?_;refine Lf J C J J fun a C=>?_;refine lin J (ak C J J J fun a C=>?_);refine Ls J C fun a C=>?_;exact wpList_nil ⟨rfl,rfl,Has.cons C J (Has.cons C (by simp [lk,Nat.beq,G,X,a0]) (C.nil))⟩
   ·refine Lf J C J J fun a C=>?_;refine Lf J C J J fun a C=>?_;refine Lf J C J J fun a C=>?_;refine lin J (ak C J J J fun a C=>?_);refine Lm J C fun a C=>?_;refine Lf J C J J fun a C=>?_;refine Lf J C J J fun a C=>?_;refine Lf J C J J fun a C=>?_;refine lin J (ak C J J J fun a C=>?_);refine Lm J C fun a C=>?_;refine Lf J C J J fun a C=>?_;refine Lf J C J J fun a C=>?_;refine Lf J C J J fun a C=>?_;refine lin J (ak C J J J fun a C=>?_);refine Ls J C fun a C=>?_;exact wpList_nil ⟨rfl,rfl,Has.cons C J (Has.cons C (by simp [lk,Nat.beq,G,X]) (C.nil))⟩
  refine aa (wp_ret (av (af (ret1 J C J ?_))));have F:=F.drop;refine⟨congrArg _ (congrArg _ ?_),F⟩;unfold wordS;rw [if_pos G]
  try rfl
 ·refine ag C J (wp_seq (ab (lin J (aJ (i:=x.tag) (j:=2) C J J J fun a C=>?_))));refine Ls J C fun a C=>?_;refine wpList_nil (aa (ai (t:=27) C J (fun I C=>?_) (fun I C=>?_)))
  ·refine ao C J (wp_seq (eC (w0:=w0) (H0:=H) (L0:=L) (H:=H) (L:=((eO T 35 (wA x))::L)) (D:= []) (N:=66) (E:= [(3,(pB T)),(4,(.bool (((decide (x.n=0))&&(!x.one))&&(nmB x.s))))]) (fun a w F C=>?_) ?_));rotate_left
   ·refine lin J (ac (f:=1) (o2:=1) T35 T3 J J J J C J J fun a C=>?_);refine lin J (ae (v:=(iV x.n)) T3 J C J (F.blkL 0 J) J J fun a C=>?_);refine lin J (aJ (i:=x.n) (j:=0) C J J J fun a C=>?_);refine Lm J C fun a C=>?_;refine ai (t:=32) C J (fun a1 C=>?_) (fun a1 C=>?_)
    ·refine ad J C J J J (ac (f:=3) (o2:=3) T35 T4 J J J J C J J fun a C=>?_);refine ad J C J J J (ae (v:=(.bool x.one)) T4 J C J (F.blkL 0 J) J J fun a C=>?_);refine ad J C J J J (aK C J J fun a C=>?_);refine lin J (an C J J J fun a C=>?_);refine Lm J C fun a C=>?_;refine au (t:=37) C J (fun a4 C=>?_) (fun a4 C=>?_)
     ·refine ad J C J J J (ac (f:=2) (o2:=2) T35 T9 J J J J C J J fun a C=>?_);refine ad J C J J J (ae (v:=(.string x.s)) T9 J C J (F.blkL 0 J) J J fun a C=>?_);refine ad J C J J J (aC func59 J J (C.evs J) C J (c_hname (s:=x.s) F.inv.nil) ?_);rintro e w ⟨rfl,Y⟩;refine⟨_,rfl,fun a C=>?_⟩;have F:=F.call Y;refine lin J (an C J J J fun a C=>?_);refine Ls J C fun a C=>?_;exact wpList_nil ⟨rfl,F,Has.cons C J (Has.cons C (by simp [lk,Nat.beq,G,I,a1,a4]) (C.nil))⟩
     ·refine Lf J C J J fun a C=>?_;refine Lf J C J J fun a C=>?_;refine Lf J C J J fun a C=>?_;refine lin J (ak C J J J fun a C=>?_);refine Ls J C fun a C=>?_;exact wpList_nil ⟨rfl,F,Has.cons C J (Has.cons C (by simp [lk,Nat.beq,G,I,a1,a4]) (C.nil))⟩
    ·refine Lf J C J J fun a C=>?_;refine Lf J C J J fun a C=>?_;refine Lf J C J J fun a C=>?_;refine lin J (ak C J J J fun a C=>?_);refine Lm J C fun a C=>?_;refine Lf J C J J fun a C=>?_;refine Lf J C J J fun a C=>?_;refine Lf J C J J fun a C=>?_;refine lin J (ak C J J J fun a C=>?_);refine Ls J C fun a C=>?_;exact wpList_nil ⟨rfl,F,Has.cons C J (Has.cons C (by simp [lk,Nat.beq,G,I,a1]) (C.nil))⟩
   refine aa (wp_ret (av (af (ret1 J C J ?_))));have F:=F.drop;refine⟨congrArg _ (congrArg _ ?_),F⟩;unfold wordS;rw [if_neg G,if_pos I]
   try rfl
  ·refine ag C J (wp_seq (ab (lin J (aJ (i:=x.tag) (j:=3) C J J J fun a C=>?_))));refine Ls J C fun a C=>?_;refine wpList_nil (aa (ai (t:=42) C J (fun M C=>?_) (fun M C=>?_)))
   ·refine ao C J (wp_seq (bH (D:= []) (N:=66) (E:= [(3,(pB T)),(4,(.bool (((decide (x.n=0))&&(!x.one))&&(decide ((((x.s).size: Nat): Int)<=255)))))]) (fun a C=>?_) ?_));rotate_left
    ·refine lin J (ac (f:=1) (o2:=1) T35 T3 J J J J C J J fun a C=>?_);refine lin J (ae (v:=(iV x.n)) T3 J C J (F.blkL 0 J) J J fun a C=>?_);refine lin J (aJ (i:=x.n) (j:=0) C J J J fun a C=>?_);refine Lm J C fun a C=>?_;refine ai (t:=47) C J (fun Z C=>?_) (fun Z C=>?_)
     ·refine ad J C J J J (ac (f:=3) (o2:=3) T35 T4 J J J J C J J fun a C=>?_);refine ad J C J J J (ae (v:=(.bool x.one)) T4 J C J (F.blkL 0 J) J J fun a C=>?_);refine ad J C J J J (aK C J J fun a C=>?_);refine lin J (an C J J J fun a C=>?_);refine Lm J C fun a C=>?_;refine au (t:=52) C J (fun a2 C=>?_) (fun a2 C=>?_)
      ·refine ad J C J J J (ac (f:=2) (o2:=2) T35 T9 J J J J C J J fun a C=>?_);refine ad J C J J J (ae (v:=(.string x.s)) T9 J C J (F.blkL 0 J) J J fun a C=>?_);refine ad J C J J J (cy T9.und C J J fun a C=>?_);refine ad J C J J J (cY (i:=(((x.s).size: Nat): Int)) (j:=255) C J J J fun a C=>?_);refine lin J (an C J J J fun a C=>?_);refine Ls J C fun a C=>?_;exact wpList_nil ⟨rfl,rfl,Has.cons C J (Has.cons C (by simp [lk,Nat.beq,G,I,M,Z,a2]) (C.nil))⟩
      ·refine Lf J C J J fun a C=>?_;refine Lf J C J J fun a C=>?_;refine Lf J C J J fun a C=>?_;refine Lf J C J J fun a C=>?_;refine lin J (ak C J J J fun a C=>?_);refine Ls J C fun a C=>?_;exact wpList_nil ⟨rfl,rfl,Has.cons C J (Has.cons C (by simp [lk,Nat.beq,G,I,M,Z,a2]) (C.nil))⟩
     ·refine Lf J C J J fun a C=>?_;refine Lf J C J J fun a C=>?_;refine Lf J C J J fun a C=>?_;refine lin J (ak C J J J fun a C=>?_);refine Lm J C fun a C=>?_;refine Lf J C J J fun a C=>?_;refine Lf J C J J fun a C=>?_;refine Lf J C J J fun a C=>?_;refine Lf J C J J fun a C=>?_;refine lin J (ak C J J J fun a C=>?_);refine Ls J C fun a C=>?_;exact wpList_nil ⟨rfl,rfl,Has.cons C J (Has.cons C (by simp [lk,Nat.beq,G,I,M,Z]) (C.nil))⟩
    refine aa (wp_ret (av (af (ret1 J C J ?_))));have F:=F.drop;refine⟨congrArg _ (congrArg _ ?_),F⟩;unfold wordS;rw [if_neg G,if_neg I,if_pos M]
    try rfl
   ·refine ag C J (wp_skip (ar (aa (wp_seq (ab (lin J (am (vs:=(wL x)) T35 J C J (F.blkL 0 J) J (aj J) J fun a C=>?_)))))));refine lin J (aC func70 J J (C.evs J) C J (eU (x:=x) F.inv.nil) ?_);rintro e w ⟨rfl,Y⟩;refine⟨_,rfl,fun a C=>?_⟩;have F:=F.call Y;refine Lm J C fun a C=>?_;refine au (t:=60) C J (fun V C=>?_) (fun V C=>?_)
    ·refine ad J C J J J (aq C J J fun a C=>?_);refine ad J C J J J (am (vs:=(wL x)) T35 J C J (F.blkL 0 J) J (aj J) J fun a C=>?_);have a6:=ge (x:=x) (F.tail [(eO T 35 (wA x))]) hP;refine ad J C J J J (aC func67 J J (C.evs J) C J (a6) ?_);rintro e w ⟨rfl,Y⟩;obtain⟨a8,O⟩: ∃ o_,atB bs x=o_:=⟨_,rfl⟩;rw [O];refine⟨_,rfl,fun a C=>?_⟩;have F:=F.frameR [(eO T 35 (wA x))] Y
     rcases a8 with _ |⟨al,⟨ap,a9⟩ |⟨ah,a7⟩ |⟨a7⟩⟩
     ·refine ad J C J J J (o_ifne0 T105.und C J J fun a C=>?_);refine lin J (an C J J J fun a C=>?_);refine Ls J C fun a C=>?_;refine wpList_nil (aa (wp_ret (ret1 J C J ?_)));have F:=F.drop;refine⟨congrArg _ (congrArg _ ?_),F⟩;unfold wordS;rw [if_neg G,if_neg I,if_neg M];rw [V,aR O];rfl
     ·have a5:=(aD O).2.2.2.1;refine ad J C J J J (gn T105.und C J J fun a C=>?_);refine lin J (an C J J J fun a C=>?_);refine Ls J C fun a C=>?_;refine wpList_nil (aa (wp_ret (ret1 J C J ?_)));have F:=F.drop;refine⟨congrArg _ (congrArg _ ?_),F⟩;unfold wordS;rw [if_neg G,if_neg I,if_neg M];rw [V,aR O];rfl
     ·have a5:=(aD O).2.2.2.1;refine ad J C J J J (gn T105.und C J J fun a C=>?_);refine lin J (an C J J J fun a C=>?_);refine Ls J C fun a C=>?_;refine wpList_nil (aa (wp_ret (ret1 J C J ?_)));have F:=F.drop;refine⟨congrArg _ (congrArg _ ?_),F⟩;unfold wordS;rw [if_neg G,if_neg I,if_neg M];rw [V,aR O];rfl
     ·have a5:=(aD O).2.2.2.1;refine ad J C J J J (gn T105.und C J J fun a C=>?_);refine lin J (an C J J J fun a C=>?_);refine Ls J C fun a C=>?_;refine wpList_nil (aa (wp_ret (ret1 J C J ?_)));have F:=F.drop;refine⟨congrArg _ (congrArg _ ?_),F⟩;unfold wordS;rw [if_neg G,if_neg I,if_neg M];rw [V,aR O];rfl
    ·refine Lf J C J J fun a C=>?_;refine Lf J C J J fun a C=>?_;refine Lf J C J J fun a C=>?_;refine Lf J C J J fun a C=>?_;refine lin J (ak C J J J fun a C=>?_);refine Ls J C fun a C=>?_;refine wpList_nil (aa (wp_ret (ret1 J C J ?_)));have F:=F.drop;refine⟨congrArg _ (congrArg _ ?_),F⟩;unfold wordS;rw [if_neg G,if_neg I,if_neg M];rw [V];rfl
theorem c_all1 {w0: World} {H: PHeap} {L: List Ent} {p: Nat} {bs: BS} {tk: List Bool} {u: Int} (hI: Inv w0 H L) (hP: HP p bs tk u L) {x: Wd} {bh: Nat} (hbh: w0.heap[bh]? =some (.cells #[.pointer (some ⟨p,0,none⟩)] 44 (0,0))/\¬ dom L bh): Calls prog 105 #[(.agg (wA x)),(pB bh)] w0 (fun e w'=>e=.returned (.bool (!wordS (er bs) x))/\Step w0 H L w' H L):=by
 have F:=Step.refl hI;refine enter [(.agg (wA x)),(pB bh)] func105 J ntmps105 J fun a C=>?_;refine wp_seq (ab (lin J (aG (cs:=(wA x)) F C J J J fun G a w F C=>?_)));refine Ls J C fun a C=>?_;refine wpList_nil (aa (wp_seq (ab (lin J (ae (v:=(pB p)) T44 J C J (F.keepN hbh.1 hbh.2) J J fun a C=>?_)))));refine lin J (am (vs:=(wL x)) T35 J C J (F.blkL 0 J) J (aj J) J fun a C=>?_);have M:=eW (x:=x) (F.tail [(eO G 35 (wA x))]) hP;refine lin J (aC func53 J J (C.evs J) C J (M) ?_);rintro e w ⟨rfl,I⟩;refine⟨_,rfl,fun a C=>?_⟩;have F:=F.frameR [(eO G 35 (wA x))] I;refine lin J (aK C J J fun a C=>?_);refine Ls J C fun a C=>?_;refine wpList_nil (aa (wp_ret (ret1 J C J ?_)));have F:=F.drop;exact⟨rfl,F⟩
theorem dom_back {w0 w: World} {H0 H: PHeap} {L0 L: List Ent} (h: Step w0 H0 L0 w H L) {b: Nat} {o: Obj} (hd: dom L b) (hb: w0.heap[b]? =some o/\¬ dom L0 b): dom L0 b:=by
 rcases h.newL b hd with h1 | h1
 ·have:=(Array.getElem?_eq_some_iff.1 hb.1).1;omega
 ·exact h1
def IxW (w: World) (H: PHeap) (L: List Ent) (b: Bool) (e: Ending) (w': World): Prop:= ∃ r: Int,e=.returned (iV r)/\(0<=r↔b=true)/\Step w H L w' H L
theorem fg {α: Type} {f: α->Bool} {xs: List α} {k: Nat} (h: ∀(j: Nat) (x: α),j < k->xs[j]? =some x->f x=false) (hk: xs.length<=k): xs.any f=false:=by
 rw [List.any_eq_false];intro x hx;obtain⟨j,hj⟩:=List.getElem?_of_mem hx;rw [h j x (by have:=(List.getElem?_eq_some_iff.1 hj).1;omega) hj];simp
theorem fq {α: Type} {f: α->Bool} {xs: List α} {k: Nat} {x: α} (hx: xs[k]? =some x) (h: f x=true): xs.any f=true:=List.any_eq_true.2 ⟨x,List.mem_of_getElem? hx,h⟩
theorem fO {α: Type} {f: α->Bool} {xs: List α} {k: Nat} {x: α} (h: ∀(j: Nat) (x: α),j < k->xs[j]? =some x->f x=false) (hx: xs[k]? =some x) (hf: f x=false): ∀(j: Nat) (x: α),j < k+1->xs[j]? =some x->f x=false:=by
 intro j y hj hy
 by_cases e: j=k
 ·subst e;rw [hx] at hy;obtain rfl:=Option.some.inj hy;exact hf
 ·exact h j y j0 hy
theorem all_of_any (S: PS) (xs: List Wd):(!xs.any (fun x=>!wordS S x))=allS S xs:=by
 unfold allS
 induction xs with
 | nil=>rfl
 | cons x xs ih=>rw [List.any_cons,List.all_cons,<- ih];cases wordS S x <;> simp
theorem c_IndexFuncW {w0: World} {H: PHeap} {L: List Ent} {p: Nat} {bs: BS} {tk: List Bool} {u: Int} (hI: Inv w0 H L) (hP: HP p bs tk u L) {A: Option Addr} {c: Nat} {xs: List Wd} (hr: RdG 4 Wd.cells w0 L A c xs) {bh: Nat} (hbh: w0.heap[bh]? =some (.cells #[.pointer (some ⟨p,0,none⟩)] 44 (0,0))/\¬ dom L bh): Calls prog 73 #[(.slice A xs.length c),(.func (.func 105) #[] #[.pointer (some ⟨bh,0,none⟩)])] w0 (IxW w0 H L (xs.any (fun x=>!wordS (er bs) x))):=by
 have F:=Step.refl hI;have a9:=hr.hm;refine enter [(.slice A xs.length c),(.func (.func 105) #[] #[.pointer (some ⟨bh,0,none⟩)])] func73 J ntmps73 J fun a C=>?_;refine wp_seq (ab (Ls J C fun a C=>?_));refine wpList_nil (aa (wp_seq (wp_seq (ab (Lm J C fun a C=>?_)))));refine lin J (aI T37.und C J J fun a C=>?_);refine Lm J C fun a C=>?_;refine wpList_nil (aa (wp_block ?_));refine aL (fun a3 a w=> ∃(k: Nat),a3=xs.length - k/\Has [] a 19 [(0,(.slice A xs.length c)),(1,(.func (.func 105) #[] #[.pointer (some ⟨bh,0,none⟩)])),(7,(iV ((xs.length: Nat): Int))),(8,(iV ((k: Nat): Int)))]/\Step w0 H L w H (L)/\(k<=xs.length)/\(∀(j: Nat) (x: Wd),j < k->xs[j]? =some x->(!wordS (er bs) x)=false)) _ ⟨0,rfl,C.pk J,F,by omega,fun j x h=>by omega⟩ ?_;intro ad a w a1;obtain⟨k,ac,C,F,hk,M⟩:=a1;refine wp_seq (ab (lin J (aQ (i:=((k: Nat): Int)) (j:=((xs.length: Nat): Int)) C J J J fun a C=>?_)));refine wpList_nil (aa (wp_seq (ai (t:=9) C J (fun h2 C=>?_) (fun h2 C=>?_))))
 ·refine ao C J (wp_skip (aa (wp_seq (wp_block (wp_seq (ab (Lm J C fun a C=>?_)))))));refine Ls J C fun a C=>?_;refine wpList_nil (aa (wp_seq (ab (Lm J C fun a C=>?_))));refine Lm J C fun a C=>?_;refine Lm J C fun a C=>?_;obtain⟨T,V,a4,a6,a5,a7,O,X,I,a0⟩:=hr.get (j:=k) j4;refine lin J (az (b:=V) (o:=a4) (j:=k) T37.und T35 X C J J j0 j0 J fun a C=>?_);refine lin J (am (vs:=(wL T)) T35 J C J (F.keepN I.1 I.2) J a0 J fun a C=>?_);have a2:=c_all1 (x:=T) (F.tail []) hP ⟨F.keepN hbh.1 hbh.2,fun Y=>hbh.2 (dom_back F Y hbh)⟩;refine lin J (a8 func105 J J (C.evs J) C J J (a2) ?_);rintro e w ⟨rfl,Z⟩;refine⟨_,rfl,fun a C=>?_⟩;have F:=F.frameR [] Z;refine wpList_nil (aa (au (t:=16) C J (fun G C=>?_) (fun G C=>?_)))
  ·refine ao C J (wp_seq (ab (Lm J C fun a C=>?_)));refine Ls J C fun a C=>?_;refine wpList_nil (aa (wp_ret (av (af (af (av (af (ret1 J C J ?_))))))));exact⟨(k: Int),rfl,⟨fun _=>fq O G,fun _=>by omega⟩,F⟩
  ·refine ag C J (wp_skip (ar (aa (ab (lin J (aF (i:=((k: Nat): Int)) (j:=1) C J J J j0 fun a C=>?_))))));refine Lm J C fun a C=>?_;refine wpList_nil (aa (?_));exact⟨xs.length - (k+1),by omega,(k+1),rfl,C.pk J,F,j0,(fO M O G)⟩
 ·refine ag C J (wp_exit (aw (aw (aH (aa (wp_seq (ab (Ls J C fun a C=>?_))))))));refine wpList_nil (aa (wp_ret (ret1 J C J ?_)));exact⟨-1,rfl,⟨fun h=>by omega,fun h=>by rw [fg M j0] at h;cases h⟩,F⟩
theorem c_ContainsFuncW {w0: World} {H: PHeap} {L: List Ent} {p: Nat} {bs: BS} {tk: List Bool} {u: Int} (hI: Inv w0 H L) (hP: HP p bs tk u L) {A: Option Addr} {c: Nat} {xs: List Wd} (hr: RdG 4 Wd.cells w0 L A c xs) {bh: Nat} (hbh: w0.heap[bh]? =some (.cells #[.pointer (some ⟨p,0,none⟩)] 44 (0,0))/\¬ dom L bh): Calls prog 35 #[(.slice A xs.length c),(.func (.func 105) #[] #[.pointer (some ⟨bh,0,none⟩)])] w0 (fun e w'=>e=.returned (.bool (xs.any (fun x=>!wordS (er bs) x)))/\Step w0 H L w' H L):=by
 have F:=Step.refl hI;refine enter [(.slice A xs.length c),(.func (.func 105) #[] #[.pointer (some ⟨bh,0,none⟩)])] func35 J ntmps35 J fun a C=>?_;refine wp_seq (ab (Ls J C fun a C=>?_));refine wpList_nil (aa (wp_seq (ab (Lm J C fun a C=>?_))));refine Lm J C fun a C=>?_;have O:=c_IndexFuncW (F.tail []) hP (hr.at_ (H':=H) F (fun _ G=>G)) ⟨F.keepN hbh.1 hbh.2,fun G=>hbh.2 (dom_back F G hbh)⟩;refine lin J (aC func73 J J (C.evs J) C J (O) ?_);rintro e w ⟨T,rfl,M,I⟩;refine⟨_,rfl,fun a C=>?_⟩;have F:=F.frameR [] I;refine lin J (co (i:=T) (j:=0) C J J J fun a C=>?_);refine Ls J C fun a C=>?_;refine wpList_nil (aa (wp_ret (ret1 J C J ?_)));refine⟨congrArg _ (congrArg _ ?_),F⟩;rw [Bool.eq_iff_iff,decide_eq_true_eq];exact M
theorem not_both {w: World} {H: PHeap} (R: List Ent) {Lc: List Ent} (hI: Inv w H (R++Lc)) {b: Nat} {o: Obj} (h0: R[0]? =some (some b,o)) (hd: dom Lc b): False:=by
 obtain⟨y,hy,hyb⟩:=hd;exact(List.pairwise_append.1 hI.pw).2.2 _ (List.mem_of_getElem? h0) y hy b J hyb
theorem fB {w0: World} {H: PHeap} {L: List Ent} {p: Nat} {bs: BS} {tk: List Bool} {u: Int} (hI: Inv w0 H L) (hP: HP p bs tk u L) {A: Option Addr} {c: Nat} {xs: List Wd} (hr: RdG 4 Wd.cells w0 L A c xs): Calls prog 55 #[(pB p),(.slice A xs.length c)] w0 (fun e w'=>e=.returned (.bool (allS (er bs) xs))/\Step w0 H L w' H L):=by
 have F:=Step.refl hI;refine enter [(pB p),(.slice A xs.length c)] func55 J ntmps55 J fun a C=>?_;refine wp_seq (ab (lin J (aG (cs:= #[(pB p)]) F C J J J fun G a w F C=>?_)));refine Ls J C fun a C=>?_;refine wpList_nil (aa (wp_seq (ab (Lm J C fun a C=>?_))));refine lin J (ce (fs:= #[]) (cs:= #[(pB G)]) C (C.evs (xs:= []) J) (C.evs J) J fun a C=>?_);have O:=c_ContainsFuncW (bh:=G) (F.tail [(eO G 44 #[(pB p)])]) hP (hr.at_ (H':=H) F (bP [(eO G 44 #[(pB p)])])) ⟨F.blkL 0 J,fun I=>not_both [(eO G 44 #[(pB p)])] F.inv J I⟩;refine lin J (aC func35 J J (C.evs J) C J (O) ?_);rintro e w ⟨rfl,M⟩;refine⟨_,rfl,fun a C=>?_⟩;have F:=F.frameR [(eO G 44 #[(pB p)])] M;refine lin J (aK C J J fun a C=>?_);refine Ls J C fun a C=>?_;refine wpList_nil (aa (wp_ret (ret1 J C J ?_)));have F:=F.drop;exact⟨by rw [<- all_of_any],F⟩
end Go.Vk.Tryz
namespace Go.Vk.Tryz
open Go.RowKit
theorem dV {w0: World} {H: PHeap} {L: List Ent} {p: Nat} {bs: BS} {tk: List Bool} {u: Int} {b: BK} {t: Ent × Ent × Ent} (hI: Inv w0 H (t.1::t.2.1::t.2.2::L)) (hP: HP p bs tk u L) (hl: bs.length<=65536/\tk.length=bs.length) (hu: -100000000000<=u/\u<=100000000000) (hB: Bk3 (some b) t) (hok: b.2.ok): Calls prog 61 #[(pB p),(bkv (some b))] w0 (fun e w'=> ∃ L',e=.returned (iV (findS tk b.2.size))/\HP p (plB bs tk b) (plT tk b) (plU tk u b) L'/\Step w0 H (t.1::t.2.1::t.2.2::L) w' H L'):=by
 have F:=Step.refl hI;have b3:=hok.size;refine enter [(pB p),(bkv (some b))] func61 J ntmps61 J fun a C=>?_;refine wp_seq (ab (Ls J C fun a C=>?_));refine wpList_nil (aa (wp_seq (ab (Lm J C fun a C=>?_))));refine Lm J C fun a C=>?_;refine lin J (fP F (List.mem_of_getElem? (i:=0) J) hB hok C J J fun a w F C=>?_);have ak:=c_find (size:=b.2.size) (F.tail [t.1,t.2.1,t.2.2]) hP j0;refine lin J (aC func110 J J (C.evs J) C J (ak) ?_);rintro e w ⟨rfl,X⟩;refine⟨_,rfl,fun a C=>?_⟩;have F:=F.frameR [t.1,t.2.1,t.2.2] X;refine Ls J C fun a C=>?_;refine wpList_nil (aa (wp_seq (wp_seq (ab (Lm J C fun a C=>?_)))));refine lin J (co (i:=(findS tk b.2.size)) (j:=0) C J J J fun a C=>?_);refine wpList_nil (aa (ai (t:=11) C J (fun h2 C=>?_) (fun h2 C=>?_)))
 ·obtain⟨G,a8,b1,b2⟩: ∃ p: Nat,findS tk b.2.size=p/\p+b.2.size<=tk.length/\∀ k,p<=k->k < p+b.2.size->tk[k]? =some false:=by
   rcases bJ tk b.2.size with a7 | a7
   ·omega
   ·exact a7
  rw [a8] at C;refine ao C J (wp_seq (ab (Lm J C fun a C=>?_)));refine lin J (aE C J J fun a C=>?_);obtain⟨I,O,Y,a0,av,a2,a3,a9,T,V,a6,aj,ad,M⟩:=(hP).open_;have F:=Step.castR [t.1,t.2.1,t.2.2] a9 F;refine lin J (ac (f:=0) (o2:=0) T103 T100 J J J J C J J fun a C=>?_);refine lin J (ae (v:=(.slice I bs.length O)) T100 J C J (F.blkL 3 J) J J fun a C=>?_);refine Lm J C fun a C=>?_;refine Lm J C fun a C=>?_;obtain⟨b5,Z,ar,au,b4,an,ax,aw⟩:=Row.getG cz j2 a6 (j:=G) j0;have a4:(I: Option Addr)=some ⟨Z,0,none⟩:=by injection an
  refine lin J (az (b:=Z) (o:=0) (j:=G) T100.und T105 a4 C J J j0 j0 J fun a C=>?_);refine lin J (fi (j:=G) T105 F (i:=4) J a6 J a4 j0 J C J J (bkv_sz _) (bkv_one _) fun a1 a w a5 ay F C=>?_);rw [show (Value.cells _).toList=bkc (some b) from bkv_cells _,splice_gfl cz j4] at a5;refine wpList_nil (aa (ab (Lm J C fun a C=>?_)));refine Lm J C fun a C=>?_;refine Lm J C fun a C=>?_;refine lin J (fP F (List.mem_of_getElem? (i:=0) J) hB hok C J J fun a w F C=>?_);obtain⟨told,am⟩: ∃ t',a3[G]? =some t':=⟨_,List.getElem?_eq_getElem (by rw [M.len];omega)⟩;have F:=Step.blkPut (t:=t) [(eO p 103 #[(.slice I bs.length O),(.slice Y bs.length a0),(iV u)]),a1,a2] am F;have M:=M.set (j:=G) (t:=t) hB (fun aq e=>by obtain rfl:=Option.some.inj e;exact hok);have af: HP p (bs.set G (some b)) tk u ((eO p 103 #[(.slice I bs.length O),(.slice Y bs.length a0),(iV u)])::a1::a2::(fl3 (a3.set G t))):=HP.mk' (by first | exact T | exact List.length_set.trans T |(simp only [List.length_set];done) |(simp only [List.length_set];exact T)) (by first | exact V | exact List.length_set.trans V |(simp only [List.length_set];done) |(simp only [List.length_set];exact V)) a5 aj ad M;have al:=c_fill (a_:=G) (size:=b.2.size) (v:=true) (F.tail []) af j0 (by rw [List.length_set];omega) j0;refine lin J (aC func108 J J (C.evs J) C J (al) ?_);rintro e w ⟨ap,rfl,ah,X⟩;refine⟨_,rfl,fun a C=>?_⟩;have F:=F.frameR [] X;refine wpList_nil (aa (wp_seq (ab (Lm J C fun a C=>?_))));refine Ls J C fun a C=>?_;refine wpList_nil (aa (wp_ret (ret1 J C J ?_)));unfold plB plT plU;rw [a8,if_neg j0,if_neg j0,if_neg j0,Int.toNat_natCast];exact⟨_,rfl,ah,F⟩
 ·refine ag C J (wp_skip (aa (wp_seq (ab (Lm J C fun a C=>?_)))));refine Ls J C fun a C=>?_;refine wpList_nil (aa (wp_ret (ret1 J C J ?_)));have F:=F.fd [0,0,0] J;unfold plB plT plU;rw [if_pos j0,if_pos j0,if_pos j0];exact⟨_,rfl,hP,F⟩
theorem eB {w0: World} {H: PHeap} {L: List Ent} {p: Nat} {bs: BS} {tk: List Bool} {u: Int} (hI: Inv w0 H L) (hP: HP p bs tk u L) {a_: Nat} {i: Int} {b: BK} (hi: i=((a_: Nat): Int)) (hx: bs[a_]? =some (some b)) (hfit: a_+b.2.size<=bs.length) (hu: -100000000000<=u/\u<=100000000000): Calls prog 58 #[.pointer (some ⟨p,0,none⟩),.int .i64 i] w0 (fun e w'=> ∃ L' t,e=.returned (.tuple #[])/\Bk3 (some b) t/\HP p (bs.set a_ none) (fillP tk a_ b.2.size false) (u - ((b.2.size: Nat): Int)) L'/\Step w0 H L w' H (t.1::t.2.1::t.2.2::L')):=by
 obtain⟨G,O,Y,a1,a2,a3,fs,rfl,V,X,a8,ax,ar,T⟩:=hP.open_;have F:=Step.refl hI;subst hi;obtain⟨t,ht,an⟩:=T.get hx;have ad:=T.ok _ _ hx;have bn:=ad.size;have bj: a_ < bs.length:=(List.getElem?_eq_some_iff.1 hx).1;refine enter [(pB p),(iV ((a_: Nat): Int))] func58 J ntmps58 J fun a C=>?_;refine wp_seq (ab (Lm J C fun a C=>?_));refine Lm J C fun a C=>?_;refine Lm J C fun a C=>?_;refine lin J (aE C J J fun a C=>?_);refine lin J (ac (f:=0) (o2:=0) T103 T100 J J J J C J J fun a C=>?_);refine lin J (ae (v:=(.slice G bs.length O)) T100 J C J (F.blkL 0 J) J J fun a C=>?_);refine Lm J C fun a C=>?_;obtain⟨ag,M,ba,aj,af,b6,b3,b2⟩:=Row.getG cz j2 a8 (j:=a_) j0;have am:(G: Option Addr)=some ⟨M,0,none⟩:=by injection b6
 refine lin J (az (b:=M) (o:=0) (j:=a_) T100.und T105 am C J J j0 j0 J fun a C=>?_);refine lin J (ae (v:=(bkv ag)) T105 J C J (F.blkL 1 (b:=M) (o:=.cells aj 105 (0,0)) (by rw [<- b3];rfl)) (b2 0 _ J) J fun a C=>?_);obtain rfl: ag=some b:=by rw [hx] at af;exact(Option.some.inj af).symm
 refine lin J (fP F (cJ [(eO p 103 #[(.slice G bs.length O),(.slice Y bs.length a1),(iV u)]),a2,a3] (bg ht)) an ad C J J fun a w F C=>?_);have av: HP p bs tk u ((eO p 103 #[(.slice G bs.length O),(.slice Y bs.length a1),(iV u)])::a2::a3::(fl3 fs)):=HP.mk' (by first | exact V | exact List.length_set.trans V |(simp only [List.length_set];done) |(simp only [List.length_set];exact V)) (by first | exact X | exact List.length_set.trans X |(simp only [List.length_set];done) |(simp only [List.length_set];exact X)) a8 ax ar T;have b4:=c_fill (a_:=a_) (size:=b.2.size) (v:=false) (F.tail []) av j0 j0 j0;refine lin J (aC func108 J J (C.evs J) C J (b4) ?_);rintro e w ⟨b9,rfl,aw,b1⟩;refine⟨_,rfl,fun a C=>?_⟩;have F:=F.frameR [] b1;refine wpList_nil (aa (ab (Lm J C fun a C=>?_)));refine lin J (aE C J J fun a C=>?_);obtain⟨I,a0,ah,ai,bh,al,bi,ap,a6,aq,a9,ay,au,a5⟩:=(aw).open_;have F:=Step.castR [] ap F;refine lin J (ac (f:=0) (o2:=0) T103 T100 J J J J C J J fun a C=>?_);refine lin J (ae (v:=(.slice I bs.length a0)) T100 J C J (F.blkL 0 J) J J fun a C=>?_);refine Lm J C fun a C=>?_;obtain⟨bp,Z,bc,bf,bo,b7,bl,bk⟩:=Row.getG cz j2 a9 (j:=a_) j0;have a4:(I: Option Addr)=some ⟨Z,0,none⟩:=by injection b7
 refine lin J (az (b:=Z) (o:=0) (j:=a_) T100.und T105 a4 C J J j0 j0 J fun a C=>?_);refine lin J (fi (j:=a_) T105 F (i:=1) J a9 J a4 j0 J C J J J J fun ak a w a7 bm F C=>?_);rw [show (Value.cells _).toList=bkc none from rfl,splice_gfl cz j4] at a7;refine wpList_nil (ret0 J C ?_);obtain⟨b8,b5,ao⟩:=a5.get hx;have F:=Step.blkOut [(eO p 103 #[(.slice I bs.length a0),(.slice ah bs.length ai),(iV (u - ((b.2.size: Nat): Int)))]),ak,al] b5 F;exact⟨_,b8,rfl,ao,HP.mk' (by first | exact a6 | exact List.length_set.trans a6) aq a7 ay au (a5.set (o:=none) (t:=(noEnt,noEnt,noEnt)) ⟨rfl,rfl,rfl⟩ (fun b e=>by cases e)),F⟩
theorem d5 {S: PS} {w x: Wd} {to: List Wd} {hk: List Int} {k: Nat} (h: atS S w=some (.var to hk)) (hx: to[0]? =some x): folS S (k+1) w=folS S k (nxtW w x):=by
 match to,hx with
 | y::to,hx =>
  obtain rfl: y=x:=by simpa using hx
  conv=>lhs;unfold folS
  rw [h]
theorem dD {S: PS} {w: Wd} {k: Nat} (h: ∀ to hk,atS S w=some (.var to hk)->to= []): folS S (k+1) w=(w,true):=by
 unfold folS
 split
 ·rename_i x to hk h1
  have:=h _ _ h1
  cases this
 ·rfl
theorem c_follow {w0: World} {H: PHeap} {L: List Ent} {p: Nat} {bs: BS} {tk: List Bool} {u: Int} (hI: Inv w0 H L) (hP: HP p bs tk u L) {x: Wd}: Calls prog 104 #[(pB p),(.agg (wA x))] w0 (fun e w'=>e=.returned (.tuple #[wv (followS (er bs) x).1,.bool (followS (er bs) x).2])/\Step w0 H L w' H L):=by
 obtain⟨a0,a1,a5,a8,X,Y,fs,rfl,ax,ay,bj,bk,bh,ap⟩:=hP.open_;have F:=Step.refl hI;refine enter [(pB p),(.agg (wA x))] func104 J ntmps104 J fun a C=>?_;refine wp_seq (ab (lin J (aG (cs:=(wA x)) F C J J J fun a7 a w F C=>?_)));refine lin J (aB (cs:= #[(iV 0),(iV 0),(.string (⟨#[]⟩)),(.bool false)]) T35 F C J J fun O a w F C=>?_);refine Ls J C fun a C=>?_;refine wpList_nil (aa (wp_seq (wp_seq (ab (Lm J C fun a C=>?_)))));refine lin J (aE C J J fun a C=>?_);refine lin J (ac (f:=0) (o2:=0) T103 T100 J J J J C J J fun a C=>?_);refine lin J (ae (v:=(.slice a0 bs.length a1)) T100 J C J (F.blkL 2 J) J J fun a C=>?_);refine lin J (aI T100.und C J J fun a C=>?_);refine lin J (aF (i:=((bs.length: Nat): Int)) (j:=1) C J J J j0 fun a C=>?_);refine Lm J C fun a C=>?_;refine wpList_nil (aa (wp_block (aL (fun bw a w=> ∃(k: Nat),∃(y: Wd),bw=bs.length+1 - k/\Has [] a 53 [(0,(pB p)),(3,(pB a7)),(4,(pB O)),(14,(iV (((bs.length: Nat): Int)+1))),(15,(iV ((k: Nat): Int)))]/\Step w0 H ((eO p 103 #[.slice a0 bs.length a1,.slice a5 bs.length a8,.int .i64 u])::X::Y::fl3 fs) w H ((eO O 35 #[(iV 0),(iV 0),(.string (⟨#[]⟩)),(.bool false)])::(eO a7 35 (wA y))::(eO p 103 #[(.slice a0 bs.length a1),(.slice a5 bs.length a8),(iV u)])::X::Y::(fl3 fs))/\(folS (er bs) (bs.length+1 - k) y=followS (er bs) x)/\(k<=bs.length+1)) _ ⟨0,x,rfl,C.pk J,F,(by unfold followS;rw [bO];rfl),j0⟩ ?_)));intro cb a w bn;obtain⟨k,y,ca,C,F,I,hk⟩:=bn;refine wp_seq (ab (lin J (aQ (i:=((k: Nat): Int)) (j:=(((bs.length: Nat): Int)+1)) C J J J fun a C=>?_)));let V:=(eO a7 35 (wA y));refine wpList_nil (aa (wp_seq (ai (t:=16) C J (fun ba C=>?_) (fun ba C=>?_))))
 ·refine ao C J (wp_skip (aa (wp_seq (wp_block (wp_seq (ab (Lm J C fun a C=>?_)))))));refine lin J (am (vs:=(wL y)) T35 J C J (F.blkL 1 J) J (aj J) J fun a C=>?_);have bo:=ge (x:=y) (F.tail [(eO O 35 #[(iV 0),(iV 0),(.string (⟨#[]⟩)),(.bool false)]),V]) (HP.mk' (by first | exact ax | exact List.length_set.trans ax |(simp only [List.length_set];done) |(simp only [List.length_set];exact ax)) (by first | exact ay | exact List.length_set.trans ay |(simp only [List.length_set];done) |(simp only [List.length_set];exact ay)) bj bk bh ap);refine lin J (aC func67 J J (C.evs J) C J (bo) ?_);rintro e w ⟨rfl,b1⟩;obtain⟨c0,M⟩: ∃ o_,atB bs y=o_:=⟨_,rfl⟩;rw [M];refine⟨_,rfl,fun a C=>?_⟩;have F:=F.frameR [(eO O 35 #[(iV 0),(iV 0),(.string (⟨#[]⟩)),(.bool false)]),V] b1
  let a6:=(eO p 103 #[(.slice a0 bs.length a1),(.slice a5 bs.length a8),(iV u)]);rcases c0 with _ |⟨bx,⟨Z,bq⟩ |⟨cc,bz⟩ |⟨bz⟩⟩
  ·refine lin J (bM T114 C J J fun a C=>?_);refine Lm J C fun a C=>?_;refine lin J (ah (v:=(.pointer none)) C J J J fun a C=>?_);refine lin J (ah (v:=(.bool false)) C J J J fun a C=>?_);refine Ls J C fun a C=>?_;refine Ls J C fun a C=>?_;refine wpList_nil (aa (wp_seq (wp_seq (ab (Lm J C fun a C=>?_)))));refine lin J (aK C J J fun a C=>?_);refine Lm J C fun a C=>?_;refine Lf J C J J fun a C=>?_;refine Lf J C J J fun a C=>?_;refine Lf J C J J fun a C=>?_;refine Lf J C J J fun a C=>?_;refine Lf J C J J fun a C=>?_;refine Lf J C J J fun a C=>?_;refine lin J (an C J J J fun a C=>?_);refine wpList_nil (aa (ao C J (wp_seq (ab (lin J (am (vs:=(wL y)) T35 J C J (F.blkL 1 J) J (aj J) J fun a C=>?_))))));refine lin J (al (cs':=(wA y)) T35 F (i:=0) J C J J J J J J fun a w F C=>?_);refine Ls J C fun a C=>?_;refine wpList_nil (aa (wp_ret (af (av (af (af (av (af (retA1 (i:=0) (cs:=(wA y)) J T35 J F J C J J J ?_)))))))));have F:=F.fd [0,0] J;have T:=dD (S:=er bs) (w:=y) (k:=bs.length - k) (fun to hk h1=>by
    rw [aR M] at h1
    cases h1)
   rw [show bs.length+1 - k=bs.length - k+1 by omega,T] at I;rw [<- I];exact⟨rfl,F⟩
  ·have a3:=(aD M).2.2.2.1;refine lin J (br T114.und C J J fun a C=>?_);refine Lm J C fun a C=>?_;refine lin J (ah (v:=(pB bx)) C J J J fun a C=>?_);refine lin J (ah (v:=(.bool true)) C J J J fun a C=>?_);refine Ls J C fun a C=>?_;refine Ls J C fun a C=>?_;refine wpList_nil (aa (wp_seq (wp_seq (ab (Lm J C fun a C=>?_)))));refine lin J (aK C J J fun a C=>?_);refine Lm J C fun a C=>?_;refine ad J C J J J (aq C J J fun a C=>?_);refine ad J C J J J (aE C J J fun a C=>?_);obtain⟨cd,b3,bf⟩:=ap.get a3;obtain⟨a4,b6,c1,c3,bu,bi,c6⟩:=bf;have b2:=bg b3;have bt:=bp b3;have c9:=bK b3;rw [bu] at b2;have b8:=ap.ok _ _ a3;have c7: Z.length<=1:=b8.1;have c8: bq.length<=4000:=b8.2;refine ad J C J J J (ac (f:=0) (o2:=0) T116 T37 J J J J C J J fun a C=>?_);refine ad J C J J J (ae (v:=(.slice a4 Z.length b6)) T37 J C J (F.at_mem [(eO O 35 #[(iV 0),(iV 0),(.string (⟨#[]⟩)),(.bool false)]),V,a6,X,Y] b2) J J fun a C=>?_);refine ad J C J J J (aI T37.und C J J fun a C=>?_);refine ad J C J J J (aJ (i:=((Z.length: Nat): Int)) (j:=0) C J J J fun a C=>?_);refine lin J (ak C J J J fun a C=>?_);refine wpList_nil (aa (ai (t:=33) C J (fun b9 C=>?_) (fun b9 C=>?_)))
   ·refine ao C J (wp_seq (ab (lin J (am (vs:=(wL y)) T35 J C J (F.blkL 1 J) J (aj J) J fun a C=>?_))));refine lin J (al (cs':=(wA y)) T35 F (i:=0) J C J J J J J J fun a w F C=>?_);refine Ls J C fun a C=>?_;refine wpList_nil (aa (wp_ret (af (av (af (af (av (af (retA1 (i:=0) (cs:=(wA y)) J T35 J F J C J J J ?_)))))))));have F:=F.fd [0,0] J;have T:=dD (S:=er bs) (w:=y) (k:=bs.length - k) (fun to hk h1=>by
     obtain rfl:=List.eq_nil_of_length_eq_zero (show Z.length=0 by omega);rw [aR M] at h1;injection h1 with h1
     injection h1 with h1
     exact h1.symm)
    rw [show bs.length+1 - k=bs.length - k+1 by omega,T] at I;rw [<- I];exact⟨rfl,F⟩
   ·refine ag C J (wp_skip (aa (wp_seq (ab (Lm J C fun a C=>?_)))));refine lin J (aE C J J fun a C=>?_);refine lin J (ac (f:=0) (o2:=0) T116 T37 J J J J C J J fun a C=>?_);refine lin J (ae (v:=(.slice a4 Z.length b6)) T37 J C J (F.at_mem [(eO O 35 #[(iV 0),(iV 0),(.string (⟨#[]⟩)),(.bool false)]),V,a6,X,Y] b2) J J fun a C=>?_);obtain⟨G,b5,c4,c5,b4,bv,bm,bl⟩:=Row.getG Wd.len j2 bi (j:=0) j0;have bc:(a4: Option Addr)=some ⟨b5,0,none⟩:=by injection bv
    have b7:=bt;rw [bm] at b7;refine lin J (az (b:=b5) (o:=0) (j:=0) T37.und T35 bc C J J j0 j0 J fun a C=>?_);refine lin J (am (vs:=(wL G)) T35 J C J (F.at_mem [(eO O 35 #[(iV 0),(iV 0),(.string (⟨#[]⟩)),(.bool false)]),V,a6,X,Y] b7) J bl J fun a C=>?_);refine lin J (aB (cs:= #[(iV 0),(iV 0),(.string (⟨#[]⟩)),(.bool false)]) T35 F C J J fun c2 a w F C=>?_);refine lin J (al (cs':=(wA G)) T35 F (i:=0) J C J J J J J J fun a w F C=>?_);refine wpList_nil (aa (wp_seq (wp_seq (ab (lin J (am (vs:=(wL G)) T35 J C J (F.blkL 0 J) J (aj J) J fun a C=>?_))))));refine lin J (aC func70 J J (C.evs J) C J (eU (x:=G) F.inv.nil) ?_);rintro e w ⟨rfl,b1⟩;refine⟨_,rfl,fun a C=>?_⟩;have F:=F.call b1;refine wpList_nil (aa (au (t:=42) C J (fun a2 C=>?_) (fun a2 C=>?_)))
    ·refine ao C J (ab (lin J (ac (f:=3) (o2:=3) T35 T4 J J J J C J J fun a C=>?_)));refine lin J (ae (v:=(.bool G.one)) T4 J C J (F.blkL 0 J) J J fun a C=>?_);refine Lm J C fun a C=>?_;refine au (t:=45) C J (fun a9 C=>?_) (fun a9 C=>?_)
     ·refine ad J C J J J (ac (f:=3) (o2:=3) T35 T4 J J J J C J J fun a C=>?_);refine ad J C J J J (ae (v:=(.bool y.one)) T4 J C J (F.blkL 2 J) J J fun a C=>?_);refine lin J (an C J J J fun a C=>?_);refine lin J (ac (f:=3) (o2:=3) T35 T4 J J J J C J J fun a C=>?_);refine lin J (al (cs':= #[(iV G.tag),(iV G.n),(.string G.s),(.bool y.one)]) T4 F (i:=0) J C J J J J J J fun a w F C=>?_);refine wpList_nil (aa (ab (lin J (am (vs:= [(iV G.tag),(iV G.n),(.string G.s),(.bool y.one)]) T35 J C J (F.blkL 0 J) J (aj J) J fun a C=>?_))));refine lin J (al (cs':= #[(iV G.tag),(iV G.n),(.string G.s),(.bool y.one)]) T35 F (i:=2) J C J J J J J J fun a w F C=>?_);refine wpList_nil (ar (aa (ab (lin J (aF (i:=((k: Nat): Int)) (j:=1) C J J J j0 fun a C=>?_)))));refine Lm J C fun a C=>?_;refine wpList_nil (aa (?_));have F:=F.drop;exact⟨bs.length+1 - (k+1),by omega,(k+1),(Wd.mk G.tag G.n G.s y.one),rfl,C.pk J,F,(by rw [<- I,show bs.length+1 - k=(bs.length+1 - (k+1))+1 by omega,d5 (aR M) b4];unfold nxtW;simp [a2,a9]),j0⟩
     ·refine Lf J C J J fun a C=>?_;refine Lf J C J J fun a C=>?_;refine lin J (ak C J J J fun a C=>?_);refine lin J (ac (f:=3) (o2:=3) T35 T4 J J J J C J J fun a C=>?_);refine lin J (al (cs':= #[(iV G.tag),(iV G.n),(.string G.s),(.bool false)]) T4 F (i:=0) J C J J J J J J fun a w F C=>?_);refine wpList_nil (aa (ab (lin J (am (vs:= [(iV G.tag),(iV G.n),(.string G.s),(.bool false)]) T35 J C J (F.blkL 0 J) J (aj J) J fun a C=>?_))));refine lin J (al (cs':= #[(iV G.tag),(iV G.n),(.string G.s),(.bool false)]) T35 F (i:=2) J C J J J J J J fun a w F C=>?_);refine wpList_nil (ar (aa (ab (lin J (aF (i:=((k: Nat): Int)) (j:=1) C J J J j0 fun a C=>?_)))));refine Lm J C fun a C=>?_;refine wpList_nil (aa (?_));have F:=F.drop;exact⟨bs.length+1 - (k+1),by omega,(k+1),(Wd.mk G.tag G.n G.s false),rfl,C.pk J,F,(by rw [<- I,show bs.length+1 - k=(bs.length+1 - (k+1))+1 by omega,d5 (aR M) b4];unfold nxtW;simp [a2,a9]),j0⟩
    ·refine ag C J (wp_skip (aa (ab (lin J (am (vs:=(wL G)) T35 J C J (F.blkL 0 J) J (aj J) J fun a C=>?_)))));refine lin J (al (cs':=(wA G)) T35 F (i:=2) J C J J J J J J fun a w F C=>?_);refine wpList_nil (ar (aa (ab (lin J (aF (i:=((k: Nat): Int)) (j:=1) C J J J j0 fun a C=>?_)))));refine Lm J C fun a C=>?_;refine wpList_nil (aa (?_));have F:=F.drop;exact⟨bs.length+1 - (k+1),by omega,(k+1),G,rfl,C.pk J,F,(by rw [<- I,show bs.length+1 - k=(bs.length+1 - (k+1))+1 by omega,d5 (aR M) b4];unfold nxtW;simp [a2]),j0⟩
  ·have a3:=(aD M).2.2.2.1;refine lin J (aW T114 C J J J fun a C=>?_);refine Lm J C fun a C=>?_;refine lin J (ah (v:=(.pointer none)) C J J J fun a C=>?_);refine lin J (ah (v:=(.bool false)) C J J J fun a C=>?_);refine Ls J C fun a C=>?_;refine Ls J C fun a C=>?_;refine wpList_nil (aa (wp_seq (wp_seq (ab (Lm J C fun a C=>?_)))));refine lin J (aK C J J fun a C=>?_);refine Lm J C fun a C=>?_;refine Lf J C J J fun a C=>?_;refine Lf J C J J fun a C=>?_;refine Lf J C J J fun a C=>?_;refine Lf J C J J fun a C=>?_;refine Lf J C J J fun a C=>?_;refine Lf J C J J fun a C=>?_;refine lin J (an C J J J fun a C=>?_);refine wpList_nil (aa (ao C J (wp_seq (ab (lin J (am (vs:=(wL y)) T35 J C J (F.blkL 1 J) J (aj J) J fun a C=>?_))))));refine lin J (al (cs':=(wA y)) T35 F (i:=0) J C J J J J J J fun a w F C=>?_);refine Ls J C fun a C=>?_;refine wpList_nil (aa (wp_ret (af (av (af (af (av (af (retA1 (i:=0) (cs:=(wA y)) J T35 J F J C J J J ?_)))))))));have F:=F.fd [0,0] J;have T:=dD (S:=er bs) (w:=y) (k:=bs.length - k) (fun to hk h1=>by
    rw [aR M] at h1
    cases h1)
   rw [show bs.length+1 - k=bs.length - k+1 by omega,T] at I;rw [<- I];exact⟨rfl,F⟩
  ·have a3:=(aD M).2.2.2.1;refine lin J (aW T114 C J J J fun a C=>?_);refine Lm J C fun a C=>?_;refine lin J (ah (v:=(.pointer none)) C J J J fun a C=>?_);refine lin J (ah (v:=(.bool false)) C J J J fun a C=>?_);refine Ls J C fun a C=>?_;refine Ls J C fun a C=>?_;refine wpList_nil (aa (wp_seq (wp_seq (ab (Lm J C fun a C=>?_)))));refine lin J (aK C J J fun a C=>?_);refine Lm J C fun a C=>?_;refine Lf J C J J fun a C=>?_;refine Lf J C J J fun a C=>?_;refine Lf J C J J fun a C=>?_;refine Lf J C J J fun a C=>?_;refine Lf J C J J fun a C=>?_;refine Lf J C J J fun a C=>?_;refine lin J (an C J J J fun a C=>?_);refine wpList_nil (aa (ao C J (wp_seq (ab (lin J (am (vs:=(wL y)) T35 J C J (F.blkL 1 J) J (aj J) J fun a C=>?_))))));refine lin J (al (cs':=(wA y)) T35 F (i:=0) J C J J J J J J fun a w F C=>?_);refine Ls J C fun a C=>?_;refine wpList_nil (aa (wp_ret (af (av (af (af (av (af (retA1 (i:=0) (cs:=(wA y)) J T35 J F J C J J J ?_)))))))));have F:=F.fd [0,0] J;have T:=dD (S:=er bs) (w:=y) (k:=bs.length - k) (fun to hk h1=>by
    rw [aR M] at h1
    cases h1)
   rw [show bs.length+1 - k=bs.length - k+1 by omega,T] at I;rw [<- I];exact⟨rfl,F⟩
 ·refine ag C J (wp_exit (aw (aw (aH (aa (wp_seq (ab (lin J (aA (vs:= []) (cells:= [(iV 0),(iV 0),(.string (⟨#[]⟩)),(.bool false)]) T35 PL35 C (C.evp J) J J fun a C=>?_)))))))));refine lin J (al (cs':= #[(iV 0),(iV 0),(.string (⟨#[]⟩)),(.bool false)]) T35 F (i:=0) J C J J J J J J fun a w F C=>?_);refine Ls J C fun a C=>?_;refine wpList_nil (aa (wp_ret (retA1 (i:=0) (cs:= #[(iV 0),(iV 0),(.string (⟨#[]⟩)),(.bool false)]) J T35 J F J C J J J ?_)));have F:=F.fd [0,0] J;rw [show bs.length+1 - k=0 by omega] at I;unfold folS at I;rw [<- I];exact⟨rfl,F⟩
end Go.Vk.Tryz
namespace Go.Vk.Tryz
open Go.RowKit
theorem eS {w0: World} {H: PHeap} {L: List Ent} {p: Nat} {bs: BS} {tk: List Bool} {u: Int} (hI: Inv w0 H L) (hP: HP p bs tk u L) {x: Wd}: Calls prog 66 #[(pB p),(.agg (wA x))] w0 (fun e w'=>e=.returned (.tuple #[wv (valueS (er bs) x).1,.int .i64 (valueS (er bs) x).2])/\Step w0 H L w' H L):=by
 have F:=Step.refl hI;refine enter [(pB p),(.agg (wA x))] func66 J ntmps66 J fun a C=>?_;refine wp_seq (ab (lin J (aG (cs:=(wA x)) F C J J J fun Z a w F C=>?_)));refine lin J (aB (cs:= #[(iV 0),(iV 0),(.string (⟨#[]⟩)),(.bool false)]) T35 F C J J fun M a w F C=>?_);refine Ls J C fun a C=>?_;refine wpList_nil (aa (wp_seq (wp_seq (ab (Lm J C fun a C=>?_)))));refine lin J (aT T44.und T103 C J J J fun a C=>?_);refine Lm J C fun a C=>?_;refine ad J C J J J (aq C J J fun a C=>?_);refine ad J C J J J (am (vs:=(wL x)) T35 J C J (F.blkL 1 J) J (aj J) J fun a C=>?_);have a3:=eW (x:=x) (F.tail [(eO M 35 #[(iV 0),(iV 0),(.string (⟨#[]⟩)),(.bool false)]),(eO Z 35 (wA x))]) hP;refine ad J C J J J (aC func53 J J (C.evs J) C J (a3) ?_);rintro e w ⟨rfl,T⟩;refine⟨_,rfl,fun a C=>?_⟩;have F:=F.frameR [(eO M 35 #[(iV 0),(iV 0),(.string (⟨#[]⟩)),(.bool false)]),(eO Z 35 (wA x))] T;refine ad J C J J J (aK C J J fun a C=>?_);refine lin J (ak C J J J fun a C=>?_);let X:=(eO Z 35 (wA x));refine wpList_nil (aa (au (t:=15) C J (fun O C=>?_) (fun O C=>?_)))
 ·refine ao C J (wp_seq (ab (lin J (aA (vs:= []) (cells:= [(iV 0),(iV 0),(.string (⟨#[]⟩)),(.bool false)]) T35 PL35 C (C.evp J) J J fun a C=>?_))));refine lin J (al (cs':= #[(iV 0),(iV 0),(.string (⟨#[]⟩)),(.bool false)]) T35 F (i:=0) J C J J J J J J fun a w F C=>?_);refine Ls J C fun a C=>?_;refine wpList_nil (aa (wp_ret (af (retA1 (i:=0) (cs:= #[(iV 0),(iV 0),(.string (⟨#[]⟩)),(.bool false)]) J T35 J F J C J J J ?_))));have F:=F.fd [0,0] J;refine⟨?_,F⟩;have G:=O
  try simp only [Bool.not_eq_true',Bool.not_eq_false',Bool.not_true,Bool.not_false,Bool.or_eq_true,Bool.and_eq_true,Bool.or_eq_false_iff,Bool.not_eq_true,Bool.not_eq_false] at G
  simp [valueS,Wd.zero,G]
 ·refine ag C J (wp_skip (aa (wp_seq (ab (Lm J C fun a C=>?_)))));refine lin J (am (vs:=(wL x)) T35 J C J (F.blkL 1 J) J (aj J) J fun a C=>?_);have a4:=c_follow (x:=x) (F.tail [(eO M 35 #[(iV 0),(iV 0),(.string (⟨#[]⟩)),(.bool false)]),X]) hP;refine lin J (aC func104 J J (C.evs J) C J (a4) ?_);rintro e w ⟨rfl,T⟩;refine⟨_,rfl,fun a C=>?_⟩;have F:=F.frameR [(eO M 35 #[(iV 0),(iV 0),(.string (⟨#[]⟩)),(.bool false)]),X] T;refine Lm J C fun a C=>?_;refine lin J (ah (v:=(.agg (wA ((followS (er bs) x).1)))) C J J J fun a C=>?_);refine lin J (ah (v:=(.bool ((followS (er bs) x).2))) C J J J fun a C=>?_);refine lin J (aB (cs:= #[(iV 0),(iV 0),(.string (⟨#[]⟩)),(.bool false)]) T35 F C J J fun a1 a w F C=>?_);refine lin J (al (cs':=(wA ((followS (er bs) x).1))) T35 F (i:=0) J C J J J J J J fun a w F C=>?_);refine Ls J C fun a C=>?_;refine wpList_nil (aa (wp_seq (wp_block (wp_seq (ab (Lm J C fun a C=>?_))))));refine lin J (aK C J J fun a C=>?_);refine Ls J C fun a C=>?_;refine wpList_nil (aa (au (t:=23) C J (fun Y C=>?_) (fun Y C=>?_)))
  ·refine ao C J (wp_seq (ab (lin J (aA (vs:= []) (cells:= [(iV 0),(iV 0),(.string (⟨#[]⟩)),(.bool false)]) T35 PL35 C (C.evp J) J J fun a C=>?_))));refine lin J (al (cs':= #[(iV 0),(iV 0),(.string (⟨#[]⟩)),(.bool false)]) T35 F (i:=1) J C J J J J J J fun a w F C=>?_);refine Ls J C fun a C=>?_;refine wpList_nil (aa (wp_ret (av (af (retA1 (i:=1) (cs:= #[(iV 0),(iV 0),(.string (⟨#[]⟩)),(.bool false)]) J T35 J F J C J J J ?_)))));have F:=F.fd [0,0,0] J;refine⟨?_,F⟩;have G:=O
   try simp only [Bool.not_eq_true',Bool.not_eq_false',Bool.not_true,Bool.not_false,Bool.or_eq_true,Bool.and_eq_true,Bool.or_eq_false_iff,Bool.not_eq_true,Bool.not_eq_false] at G
   have I:=Y
   try simp only [Bool.not_eq_true',Bool.not_eq_false',Bool.not_true,Bool.not_false,Bool.or_eq_true,Bool.and_eq_true,Bool.or_eq_false_iff,Bool.not_eq_true,Bool.not_eq_false] at I
   simp [valueS,Wd.zero,G,I]
  ·refine ag C J (wp_seq (ab (Lm J C fun a C=>?_)));refine lin J (am (vs:=(wL ((followS (er bs) x).1))) T35 J C J (F.blkL 0 J) J (aj J) J fun a C=>?_);have a2:=eW (x:=(followS (er bs) x).1) (F.tail [(eO a1 35 (wA ((followS (er bs) x).1))),(eO M 35 #[(iV 0),(iV 0),(.string (⟨#[]⟩)),(.bool false)]),X]) hP;refine lin J (aC func53 J J (C.evs J) C J (a2) ?_);rintro e w ⟨rfl,T⟩;refine⟨_,rfl,fun a C=>?_⟩;have F:=F.frameR [(eO a1 35 (wA ((followS (er bs) x).1))),(eO M 35 #[(iV 0),(iV 0),(.string (⟨#[]⟩)),(.bool false)]),X] T;refine lin J (aK C J J fun a C=>?_);refine Ls J C fun a C=>?_;refine wpList_nil (aa (au (t:=27) C J (fun a0 C=>?_) (fun a0 C=>?_)))
   ·refine ao C J (wp_seq (ab (lin J (aA (vs:= []) (cells:= [(iV 0),(iV 0),(.string (⟨#[]⟩)),(.bool false)]) T35 PL35 C (C.evp J) J J fun a C=>?_))));refine lin J (al (cs':= #[(iV 0),(iV 0),(.string (⟨#[]⟩)),(.bool false)]) T35 F (i:=1) J C J J J J J J fun a w F C=>?_);refine Ls J C fun a C=>?_;refine wpList_nil (aa (wp_ret (av (af (retA1 (i:=1) (cs:= #[(iV 0),(iV 0),(.string (⟨#[]⟩)),(.bool false)]) J T35 J F J C J J J ?_)))));have F:=F.fd [0,0,0] J;refine⟨?_,F⟩;have G:=O
    try simp only [Bool.not_eq_true',Bool.not_eq_false',Bool.not_true,Bool.not_false,Bool.or_eq_true,Bool.and_eq_true,Bool.or_eq_false_iff,Bool.not_eq_true,Bool.not_eq_false] at G
    have I:=Y
    try simp only [Bool.not_eq_true',Bool.not_eq_false',Bool.not_true,Bool.not_false,Bool.or_eq_true,Bool.and_eq_true,Bool.or_eq_false_iff,Bool.not_eq_true,Bool.not_eq_false] at I
    have V:=a0
    try simp only [Bool.not_eq_true',Bool.not_eq_false',Bool.not_true,Bool.not_false,Bool.or_eq_true,Bool.and_eq_true,Bool.or_eq_false_iff,Bool.not_eq_true,Bool.not_eq_false] at V
    simp [valueS,Wd.zero,G,I,V]
   ·refine ag C J (wp_skip (ar (aa (wp_seq (ab (lin J (am (vs:=(wL ((followS (er bs) x).1))) T35 J C J (F.blkL 0 J) J (aj J) J fun a C=>?_)))))));refine lin J (al (cs':=(wA ((followS (er bs) x).1))) T35 F (i:=1) J C J J J J J J fun a w F C=>?_);refine Ls J C fun a C=>?_;refine wpList_nil (aa (wp_ret (retA1 (i:=1) (cs:=(wA ((followS (er bs) x).1))) J T35 J F J C J J J ?_)));have F:=F.fd [0,0,0] J;refine⟨?_,F⟩;have G:=O
    try simp only [Bool.not_eq_true',Bool.not_eq_false',Bool.not_true,Bool.not_false,Bool.or_eq_true,Bool.and_eq_true,Bool.or_eq_false_iff,Bool.not_eq_true,Bool.not_eq_false] at G
    have I:=Y
    try simp only [Bool.not_eq_true',Bool.not_eq_false',Bool.not_true,Bool.not_false,Bool.or_eq_true,Bool.and_eq_true,Bool.or_eq_false_iff,Bool.not_eq_true,Bool.not_eq_false] at I
    have V:=a0
    try simp only [Bool.not_eq_true',Bool.not_eq_false',Bool.not_true,Bool.not_false,Bool.or_eq_true,Bool.and_eq_true,Bool.or_eq_false_iff,Bool.not_eq_true,Bool.not_eq_false] at V
    simp [valueS,Wd.zero,G,I,V]
theorem c_hopen {w0: World} {H: PHeap} {L: List Ent} {p: Nat} {bs: BS} {tk: List Bool} {u: Int} (hI: Inv w0 H L) (hP: HP p bs tk u L) {x: Wd}: Calls prog 64 #[(pB p),(.agg (wA x))] w0 (fun e w'=>e=.returned (.tuple #[ptB (openB bs x).1,.int .i64 (openB bs x).2])/\Step w0 H L w' H L):=by
 have F:=Step.refl hI;refine enter [(pB p),(.agg (wA x))] func64 J ntmps64 J fun a C=>?_;refine wp_seq (ab (lin J (aG (cs:=(wA x)) F C J J J fun M a w F C=>?_)));refine Ls J C fun a C=>?_;refine Ls J C fun a C=>?_;refine wpList_nil (aa (wp_seq (ab (Lm J C fun a C=>?_))));refine lin J (am (vs:=(wL x)) T35 J C J (F.blkL 0 J) J (aj J) J fun a C=>?_);have Y:=eS (x:=x) (F.tail [(eO M 35 (wA x))]) hP;refine lin J (aC func66 J J (C.evs J) C J (Y) ?_);rintro e w ⟨rfl,O⟩;refine⟨_,rfl,fun a C=>?_⟩;have F:=F.frameR [(eO M 35 (wA x))] O;refine Lm J C fun a C=>?_;refine lin J (ah (v:=(.agg (wA ((valueS (er bs) x).1)))) C J J J fun a C=>?_);refine lin J (ah (v:=(iV ((valueS (er bs) x).2))) C J J J fun a C=>?_);refine lin J (aB (cs:= #[(iV 0),(iV 0),(.string (⟨#[]⟩)),(.bool false)]) T35 F C J J fun X a w F C=>?_);refine lin J (al (cs':=(wA ((valueS (er bs) x).1))) T35 F (i:=0) J C J J J J J J fun a w F C=>?_);refine Ls J C fun a C=>?_;refine wpList_nil (aa (wp_seq (wp_seq (ab (Lm J C fun a C=>?_)))));refine lin J (bA (i:=((valueS (er bs) x).2)) (j:=0) C J J J fun a C=>?_);let T:List Ent:=[(eO X 35 (wA ((valueS (er bs) x).1))),(eO M 35 (wA x))];refine wpList_nil (aa (aP (t:=17) C J (fun I C=>?_) (fun I C=>?_)))
 ·refine ao C J (wp_seq (ab (Lm J C fun a C=>?_)));refine Ls J C fun a C=>?_;refine Ls J C fun a C=>?_;refine wpList_nil (aa (wp_ret (af (ret2 J C J J ?_))));have F:=F.fd [0,0] J;refine⟨?_,F⟩;unfold openB;rw [if_neg I];rfl
 ·refine ag C J (wp_skip (aa (wp_seq (ab (Lm J C fun a C=>?_)))));refine lin J (am (vs:=(wL ((valueS (er bs) x).1))) T35 J C J (F.blkL 0 J) J (aj J) J fun a C=>?_);have Z:=ge (x:=(valueS (er bs) x).1) (F.tail T) hP;refine lin J (aC func67 J J (C.evs J) C J (Z) ?_);rintro e w ⟨rfl,O⟩;obtain⟨a2,G⟩: ∃ o_,atB bs ((valueS (er bs) x).1)=o_:=⟨_,rfl⟩;rw [G];refine⟨_,rfl,fun a C=>?_⟩;have F:=F.frameR T O
  rcases a2 with _ |⟨a0,⟨a5,a3⟩ |⟨a4,a1⟩ |⟨a1⟩⟩
  ·refine lin J (bM T114 C J J fun a C=>?_);refine Lm J C fun a C=>?_;refine lin J (ah (v:=(.pointer none)) C J J J fun a C=>?_);refine lin J (ah (v:=(.bool false)) C J J J fun a C=>?_);refine Ls J C fun a C=>?_;refine Ls J C fun a C=>?_;refine wpList_nil (aa (wp_seq (wp_seq (ab (Lm J C fun a C=>?_)))));refine lin J (aK C J J fun a C=>?_);refine wpList_nil (aa (ao C J (wp_seq (ab (Ls J C fun a C=>?_)))));refine Ls J C fun a C=>?_;refine wpList_nil (aa (wp_ret (af (ret2 J C J J ?_))));have F:=F.fd [0,0] J;refine⟨?_,F⟩;unfold openB;rw [if_pos I,G];rfl
  ·have V:=(aD G).2.2.2.1;refine lin J (br T114.und C J J fun a C=>?_);refine Lm J C fun a C=>?_;refine lin J (ah (v:=(pB a0)) C J J J fun a C=>?_);refine lin J (ah (v:=(.bool true)) C J J J fun a C=>?_);refine Ls J C fun a C=>?_;refine Ls J C fun a C=>?_;refine wpList_nil (aa (wp_seq (wp_seq (ab (Lm J C fun a C=>?_)))));refine lin J (aK C J J fun a C=>?_);refine wpList_nil (aa (ag C J (wp_skip (aa (wp_seq (ab (Lm J C fun a C=>?_)))))));refine Ls J C fun a C=>?_;refine Ls J C fun a C=>?_;refine wpList_nil (aa (wp_ret (ret2 J C J J ?_)));have F:=F.fd [0,0] J;refine⟨?_,F⟩;unfold openB;rw [if_pos I,G];rfl
  ·have V:=(aD G).2.2.2.1;refine lin J (aW T114 C J J J fun a C=>?_);refine Lm J C fun a C=>?_;refine lin J (ah (v:=(.pointer none)) C J J J fun a C=>?_);refine lin J (ah (v:=(.bool false)) C J J J fun a C=>?_);refine Ls J C fun a C=>?_;refine Ls J C fun a C=>?_;refine wpList_nil (aa (wp_seq (wp_seq (ab (Lm J C fun a C=>?_)))));refine lin J (aK C J J fun a C=>?_);refine wpList_nil (aa (ao C J (wp_seq (ab (Ls J C fun a C=>?_)))));refine Ls J C fun a C=>?_;refine wpList_nil (aa (wp_ret (af (ret2 J C J J ?_))));have F:=F.fd [0,0] J;refine⟨?_,F⟩;unfold openB;rw [if_pos I,G];rfl
  ·have V:=(aD G).2.2.2.1;refine lin J (aW T114 C J J J fun a C=>?_);refine Lm J C fun a C=>?_;refine lin J (ah (v:=(.pointer none)) C J J J fun a C=>?_);refine lin J (ah (v:=(.bool false)) C J J J fun a C=>?_);refine Ls J C fun a C=>?_;refine Ls J C fun a C=>?_;refine wpList_nil (aa (wp_seq (wp_seq (ab (Lm J C fun a C=>?_)))));refine lin J (aK C J J fun a C=>?_);refine wpList_nil (aa (ao C J (wp_seq (ab (Ls J C fun a C=>?_)))));refine Ls J C fun a C=>?_;refine wpList_nil (aa (wp_ret (af (ret2 J C J J ?_))));have F:=F.fd [0,0] J;refine⟨?_,F⟩;unfold openB;rw [if_pos I,G];rfl
def NewR (w: World) (H: PHeap) (n: Int) (e: Ending) (w': World): Prop:=(16<=n/\n<=65536/\∃ p L',e=.returned (.tuple #[.pointer (some ⟨p,0,none⟩),.int .i64 0])/\HK p (HS.new n.toNat) L'/\Step w H [] w' H L')\/(¬(16<=n/\n<=65536)/\e=.returned (.tuple #[.pointer none,.int .i64 1])/\Step w H [] w' H [])
theorem gg {w0: World} {H: PHeap} {n: Int} (hI: Inv w0 H []): Calls prog 22 #[(iV n)] w0 (NewR w0 H n):=by
 have F:=Step.refl hI;refine enter [(iV n)] func22 J ntmps22 J fun a C=>?_;refine wp_seq (ab (Ls J C fun a C=>?_));refine Ls J C fun a C=>?_;refine wpList_nil (aa (wp_seq (wp_seq (bH (D:= []) (N:=16) (E:= [(0,(iV n)),(9,(.bool ((decide (n < 16))||(decide (65536 < n)))))]) (fun a C=>?_) ?_))));rotate_left
 ·refine Lm J C fun a C=>?_;refine lin J (aQ (i:=n) (j:=16) C J J J fun a C=>?_);refine Lm J C fun a C=>?_;refine ai (t:=6) C J (fun h1 C=>?_) (fun h1 C=>?_)
  ·have a2:=h1
   try simp at a2
   refine Lf J C J J fun a C=>?_;refine Lf J C J J fun a C=>?_;refine lin J (an C J J J fun a C=>?_);exact wpList_nil ⟨rfl,rfl,Has.cons C J (Has.cons C (by simp [lk,Nat.beq,h1]) (C.nil))⟩
  ·have a2:=h1
   try simp at a2
   refine ad J C J J J (aq C J J fun a C=>?_);refine ad J C J J J (cx (i:=n) (j:=65536) C J J J fun a C=>?_);refine lin J (ak C J J J fun a C=>?_);exact wpList_nil ⟨rfl,rfl,Has.cons C J (Has.cons C (by simp [lk,Nat.beq,h1]) (C.nil))⟩
 refine aa (au (t:=9) C J (fun h2 C=>?_) (fun h2 C=>?_))
 ·have a3:=h2
  try simp at a3
  refine ao C J (wp_seq (ab (Ls J C fun a C=>?_)));refine Ls J C fun a C=>?_;refine wpList_nil (aa (wp_ret (af (ret2 J C J J ?_))));exact .inr ⟨by have V:=h2;simp at V;omega,rfl,F⟩
 ·have a3:=h2
  try simp at a3
  refine ag C J (wp_skip (aa (wp_seq ?_)));have al:=F;refine As.c_draw_head (ini:=(As.il [])) (sup:=(As.sl [])) (als:= [1,3]) (s0:=⟨H,fun _=>none⟩) (L:= []) (N:=16) (E:= [(0,(iV n))]) 4 [fun _ v=>v=(iV n),fun s v=> ∃ b,s.ax 1=some [(eO b 105 (gfl bkc (List.replicate (Int.toNat n) (none: Option BK))).toArray)]/\v=(.slice (some ⟨b,0,none⟩) (Int.toNat n) (Int.toNat n))/\Row (.slice (some ⟨b,0,none⟩) (Int.toNat n) (Int.toNat n)) (eO b 105 (gfl bkc (List.replicate (Int.toNat n) (none: Option BK))).toArray) 105 1 (Int.toNat n) (gfl bkc (List.replicate (Int.toNat n) (none: Option BK))),fun _ v=>v=(iV n),fun s v=> ∃ b,s.ax 3=some [(eO b 4 (bls (List.replicate (Int.toNat n) false)).toArray)]/\v=(.slice (some ⟨b,0,none⟩) (Int.toNat n) (Int.toNat n))/\Row (.slice (some ⟨b,0,none⟩) (Int.toNat n) (Int.toNat n)) (eO b 4 (bls (List.replicate (Int.toNat n) false)).toArray) 4 1 (Int.toNat n) (bls (List.replicate (Int.toNat n) false))] mixed J J J (As.Monos.cons (fun _ _ _ _ h=>h) (As.Monos.cons (fun _ _ _ hl ⟨b,h,e⟩=>⟨b,hl.get h,e⟩) (As.Monos.cons (fun _ _ _ _ h=>h) (As.Monos.cons (fun _ _ _ hl ⟨b,h,e⟩=>⟨b,hl.get h,e⟩) (As.Monos.nil))))) (fun _=>rfl) F (C.pk J) (As.QuietsI.cons ?_ (As.QuietsI.cons ?_ (As.QuietsI.cons ?_ (As.QuietsI.cons ?_ (As.QuietsI.nil))))) (fun aj a w ah Y F C a4=>?_)
  ·refine As.Qx J fun a w I G a5 T F C X Y=>?_;have a1:=F;refine id (aq C J J fun a C=>?_);exact As.qdone (s:=⟨I,G⟩) (Le.refl _) C a1 J
  ·refine As.Qx J fun a w I G a5 T F C X Y=>?_;obtain⟨_,C,rfl⟩:=X.g C 0 J;have F: Step w0 H [] w I ((As.aents (As.il []) (As.sl []) [] G++As.aents (As.il []) (As.sl []) [3] G++ [])):=As.opn (s:=⟨I,G⟩) [] [1] [3] [] J (As.con0 T J) F;refine id (fh (k:=(Int.toNat n)) T100.und T105 J J F C J J j0 j0 j0 J J fun M a w Z F C=>?_);rw [zcells_gfl (x0:=(none: Option BK)) cz j2 J] at Z F;exact As.qown (i:=1) (dst:=some 11) (s:=⟨I,G⟩) (E:= [(eO M 105 (gfl bkc (List.replicate (Int.toNat n) (none: Option BK))).toArray)]) [] [1] [3] J J T (Le.refl _) C.dfr (As.has_at C) F As.con1 ⟨_,rfl,rfl,Z⟩
  ·refine As.Qx J fun a w I G a5 T F C X Y=>?_;have a1:=F;refine id (aq C J J fun a C=>?_);exact As.qdone (s:=⟨I,G⟩) (Le.refl _) C a1 J
  ·refine As.Qx J fun a w I G a5 T F C X Y=>?_;obtain⟨_,C,rfl⟩:=X.g C 2 J;have F: Step w0 H [] w I ((As.aents (As.il []) (As.sl []) [1] G++As.aents (As.il []) (As.sl []) [] G++ [])):=As.opn (s:=⟨I,G⟩) [1] [3] [] [] J (As.con0 T J) F;refine id (fh (k:=(Int.toNat n)) T101.und T4 J J F C J J j0 j0 j0 J J fun O a w a0 F C=>?_);rw [dx] at a0 F;exact As.qown (i:=3) (dst:=some 13) (s:=⟨I,G⟩) (E:= [(eO O 4 (bls (List.replicate (Int.toNat n) false)).toArray)]) [1] [3] [] J J T (Le.refl _) C.dfr (As.has_at C) F As.con1 ⟨_,rfl,rfl,a0⟩
  obtain⟨a9,G⟩:=ah;have am: Le H a9:=Y.le;dsimp only at a4 F;obtain⟨_,a6,M,a7,rfl,Z⟩:=a4 1 _ _ J J;have C:=C.add (a6 _ J);have a7: G 1=some [(eO M 105 (gfl bkc (List.replicate (Int.toNat n) (none: Option BK))).toArray)]:=a7;obtain⟨_,a6,O,a8,rfl,a0⟩:=a4 3 _ _ J J;have C:=C.add (a6 _ J);have a8: G 3=some [(eO O 4 (bls (List.replicate (Int.toNat n) false)).toArray)]:=a8;have F: Step w0 H [] w a9 [(eO M 105 (gfl bkc (List.replicate (Int.toNat n) (none: Option BK))).toArray),(eO O 4 (bls (List.replicate (Int.toNat n) false)).toArray)]:=by
   have V:=F;unfold As.aents at V;simp only [List.flatMap_cons,List.flatMap_nil,As.conE,show (As.sl []) 1=none from rfl,show (As.sl []) 3=none from rfl,a7,a8,Option.isSome_some,Option.getD_some,cond_true,cond_false,List.cons_append,List.nil_append,List.append_nil] at V;exact V
  refine any1 (i:=4) j3 J J (aA (vs:= [(0,(.slice (some ⟨M,0,none⟩) (Int.toNat n) (Int.toNat n))),(1,(.slice (some ⟨O,0,none⟩) (Int.toNat n) (Int.toNat n)))]) (cells:= [(.slice (some ⟨M,0,none⟩) (Int.toNat n) (Int.toNat n)),(.slice (some ⟨O,0,none⟩) (Int.toNat n) (Int.toNat n)),(iV 0)]) T103 PL103 C (C.evp J) J J fun a C=>?_);refine any1 (i:=5) j3 J J (aG (cs:= #[(.slice (some ⟨M,0,none⟩) (Int.toNat n) (Int.toNat n)),(.slice (some ⟨O,0,none⟩) (Int.toNat n) (Int.toNat n)),(iV 0)]) F C J J J fun ac a w F C=>?_);refine any1 (i:=6) j3 J J (bu C J J fun a C=>?_);refine any1 (i:=7) j3 J J (bu C J J fun a C=>?_);refine any0 j3 ?_;refine aa (wp_ret (ret2 J C J J ?_));have ae:=h2;simp at ae;exact .inl ⟨by omega,by omega,_,_,rfl,⟨List.replicate (Int.toNat n) none,by simp [er,HS.new],HP.mk' (n:=Int.toNat n) j1 (by simp [HS.new]) Z a0 j0 (Fs.none _)⟩,(Step.fl30 (Es:= [(eO ac 103 #[(.slice (some ⟨M,0,none⟩) (Int.toNat n) (Int.toNat n)),(.slice (some ⟨O,0,none⟩) (Int.toNat n) (Int.toNat n)),(iV 0)]),(eO M 105 (gfl bkc (List.replicate (Int.toNat n) (none: Option BK))).toArray),(eO O 4 (bls (List.replicate (Int.toNat n) false)).toArray)]) F (Int.toNat n)).plain⟩
theorem fA {w0: World} {H: PHeap} {L: List Ent} {p: Nat} {h: HS} (hI: Inv w0 H L) (hK: HK p h L): Calls prog 18 #[(pB p)] w0 (fun e w'=>e=.returned (iV h.u)/\Step w0 H L w' H L):=by
 obtain⟨bs,a6,I⟩:=hK;have F:=Step.refl hI;refine enter [(pB p)] func18 J ntmps18 J fun a C=>?_;refine wp_seq (ab (Ls J C fun a C=>?_));refine wpList_nil (aa (wp_seq (wp_seq (ab (Lm J C fun a C=>?_)))));refine lin J (aT T44.und T103 C J J J fun a C=>?_);refine wpList_nil (aa (ag C J (wp_skip (aa (wp_seq (ab (Lm J C fun a C=>?_)))))));refine lin J (aE C J J fun a C=>?_);obtain⟨M,T,O,V,X,Y,Z,G,a1,a2,a4,a5,a3,a0⟩:=(I).open_;have F:=Step.castR [] G F;refine lin J (ac (f:=2) (o2:=2) T103 T3 J J J J C J J fun a C=>?_);refine lin J (ae (v:=(iV h.u)) T3 J C J (F.blkL 0 J) J J fun a C=>?_);refine Ls J C fun a C=>?_;refine wpList_nil (aa (wp_ret (ret1 J C J ?_)));exact⟨rfl,F.castB [] G⟩
theorem c_hVar {w0: World} {H: PHeap} {L: List Ent} {p: Nat} {h: HS} (hI: Inv w0 H L) (hK: HK p h L) (hO: h.Ok): Calls prog 24 #[(pB p)] w0 (fun e w'=> ∃ L',e=.returned (.tuple #[wv (h.var).2.1,.int .i64 (h.var).2.2])/\HK p (h.var).1 L'/\Step w0 H L w' H L'):=by
 obtain⟨bs,O,T⟩:=hK;have F:=Step.refl hI;have hl:=HK.len hO O;have hu:=hO.u;have hu: -100000000000<=h.u/\h.u<=100000000000:=by omega
 refine enter [(pB p)] func24 J ntmps24 J fun a C=>?_;refine wp_seq (ab (lin J (aB (cs:= #[(iV 0),(iV 0),(.string (⟨#[]⟩)),(.bool false)]) T35 F C J J fun M a w F C=>?_)));refine Ls J C fun a C=>?_;refine wpList_nil (aa (wp_seq (wp_seq (ab (Lm J C fun a C=>?_)))));refine lin J (aT T44.und T103 C J J J fun a C=>?_);refine wpList_nil (aa (ag C J (wp_skip (aa (wp_seq (ab (Lm J C fun a C=>?_)))))));refine lin J (aA (vs:= []) (cells:= [(.slice none 0 0),(.slice none 0 0)]) T116 PL116 C (C.evp J) J J fun a C=>?_);refine lin J (aG (cs:= #[(.slice none 0 0),(.slice none 0 0)]) F C J J J fun G a w F C=>?_);refine lin J (bU T114.und C J J fun a C=>?_);have F:=F.cons_none (en:=noEnt) J;have F:=F.cons_none (en:=noEnt) J;have F:=F.fd [2,3,4] J;have X:=dV (b:=(G,(PB.var [] []))) (t:=((eO G 116 #[(.slice none 0 0),(.slice none 0 0)]),noEnt,noEnt)) (F.tail [(eO M 35 #[(iV 0),(iV 0),(.string (⟨#[]⟩)),(.bool false)])]) T hl hu ⟨none,0,none,0,rfl,Row.nil _ _,Row.nil _ _⟩ ⟨Nat.zero_le _,Nat.zero_le _⟩;refine lin J (aC func61 J J (C.evs J) C J (X) ?_);rintro e w ⟨Y,rfl,V,I⟩;refine⟨_,rfl,fun a C=>?_⟩;have F:=F.frameR [(eO M 35 #[(iV 0),(iV 0),(.string (⟨#[]⟩)),(.bool false)])] I;refine lin J (aC func60 J J (C.evs J) C J (dp (t:=4) (n:=(findS h.tk (PB.size (PB.var [] [])))) F.inv.nil) ?_);rintro e w ⟨rfl,I⟩;refine⟨_,rfl,fun a C=>?_⟩;have F:=F.call I;refine lin J (ah (v:=(.agg (wA ((refW 4 (findS h.tk (PB.size (PB.var [] [])))).1)))) C J J J fun a C=>?_);refine lin J (ah (v:=(iV ((refW 4 (findS h.tk (PB.size (PB.var [] [])))).2))) C J J J fun a C=>?_);refine lin J (al (cs':=(wA ((refW 4 (findS h.tk (PB.size (PB.var [] [])))).1))) T35 F (i:=0) J C J J J J J J fun a w F C=>?_);refine Ls J C fun a C=>?_;refine wpList_nil (aa (wp_ret (retA1 (i:=0) (cs:=(wA ((refW 4 (findS h.tk (PB.size (PB.var [] [])))).1))) J T35 J F J C J J J ?_)));have F:=F.drop;rw [show h.var=((h.place (G,(PB.var [] [])).2).1,refW 4 (h.place (G,(PB.var [] [])).2).2) from rfl,bX];exact⟨_,rfl,HK.place (b:=(G,(PB.var [] []))) O V,F⟩
end Go.Vk.Tryz
