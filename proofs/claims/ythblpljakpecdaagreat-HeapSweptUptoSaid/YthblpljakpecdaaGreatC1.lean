/- Part 1 of the proof of heapSwept_holds. Conditions: none. -/
import Derived.Test.YthblpljakpecdaaGreatC0
set_option linter.unusedVariables false
set_option linter.unusedSimpArgs false
set_option linter.unusedSectionVars false
set_option maxRecDepth 100000
open Go.Proofs.Tryz
namespace Go.Vk.Tryz
open Go.RowKit
theorem c_indexFunc {w0: World} {H: PHeap} (hI: Inv w0 H []) {s: ByteArray}: Calls prog 182 #[(.string s),(.func (.func 179) #[] #[]),(.bool true)] w0 (IdxR w0 H s):=by
 have C:=Step.refl hI;refine enter [(.string s),(.func (.func 179) #[] #[]),(.bool true)] func182 J ntmps182 J fun a q=>?_;refine wp_seq (ab (Ls J q fun a q=>?_));refine wpList_nil (aa (wp_seq (wp_seq (ab (Lm J q fun a q=>?_)))));refine lin J (o_rangeS T9.und C q J J fun V a w C q=>?_);refine wpList_nil (aa (wp_block ?_));refine a6 (fun a8 a w=> ∃(p: Nat),a8=s.size - p/\Has [] a 21 [(1,(.func (.func 179) #[] #[])),(2,(.bool true)),(10,(pB V))]/\Step w0 H [] w H [(some V,.stringIter s p)]/\(p<=s.size)/\(∀(j: Nat) (u: UInt8),j < p->s.data[j]? =some u->nby u=true)) _ ⟨0,rfl,q.pk J,C,by omega,fun j u h=>by omega⟩ ?_;intro ag a w a5;obtain⟨p,ae,q,C,af,Y⟩:=a5;refine wp_seq ?_
 by_cases G: p < s.size
 ·rcases nby_step G Y with ⟨ac,F,a1,a2,a3⟩ |⟨a4,Z⟩
  ·generalize a9:(s[p]'G).toNat=I at F a1 a2
   obtain⟨a7,a0⟩: ∃ n,n=1:=⟨1,rfl⟩;rw [<- a0] at F;refine ab (lin J (o_nextS (i:=0) C J G F q J J fun a w C q=>?_));refine lin J (ad (v:=(.bool true)) q J J J fun a q=>?_);refine wpList_nil (aa (wp_seq (ap q J (wp_skip (aa (wp_block (wp_seq (ab (lin J (ad (v:=(iV ((p: Nat): Int))) q J J J fun a q=>?_))))))))));refine lin J (ad (v:=(.int .i32 ((I: Nat): Int))) q J J J fun a q=>?_);refine Ls J q fun a q=>?_;refine Ls J q fun a q=>?_;refine wpList_nil (aa (wp_seq (ab (Lm J q fun a q=>?_))));refine Lm J q fun a q=>?_;refine lin J (br func179 J J (q.evs J) q J J (c_rune C.inv.nil) ?_);rintro e w ⟨rfl,T⟩;refine⟨_,rfl,fun a q=>?_⟩;have C:=C.call T;refine Lm J q fun a q=>?_;refine lin J (o_eqb T4.und q J J J fun a q=>?_);refine wpList_nil (aa (au (t:=19) q J (fun X q=>?_) (fun X q=>?_)))
   ·refine ap q J (wp_seq (ab (Lm J q fun a q=>?_)));refine Ls J q fun a q=>?_;refine wpList_nil (aa (wp_ret (aA (ai (aA (ai (ret1 J q J ?_)))))))
    exfalso
    simp [a1,a2] at X
   ·refine ah q J (wp_skip (ao (aa (?_))));subst a0;exact⟨s.size - (p+1),by omega,(p+1),rfl,q.pk J,C,by omega,a3⟩
  ·obtain⟨I,a7,F⟩: ∃ c n,Utf8.decode s p=(c,n):=⟨_,_,rfl⟩;rw [F] at Z;refine ab (lin J (o_nextS (i:=0) C J G F q J J fun a w C q=>?_));refine lin J (ad (v:=(.bool true)) q J J J fun a q=>?_);refine wpList_nil (aa (wp_seq (ap q J (wp_skip (aa (wp_block (wp_seq (ab (lin J (ad (v:=(iV ((p: Nat): Int))) q J J J fun a q=>?_))))))))));refine lin J (ad (v:=(.int .i32 ((I: Nat): Int))) q J J J fun a q=>?_);refine Ls J q fun a q=>?_;refine Ls J q fun a q=>?_;refine wpList_nil (aa (wp_seq (ab (Lm J q fun a q=>?_))));refine Lm J q fun a q=>?_;refine lin J (br func179 J J (q.evs J) q J J (c_rune C.inv.nil) ?_);rintro e w ⟨rfl,T⟩;refine⟨_,rfl,fun a q=>?_⟩;have C:=C.call T;refine Lm J q fun a q=>?_;refine lin J (o_eqb T4.und q J J J fun a q=>?_);refine wpList_nil (aa (au (t:=19) q J (fun O q=>?_) (fun O q=>?_)))
   ·refine ap q J (wp_seq (ab (Lm J q fun a q=>?_)));refine Ls J q fun a q=>?_;refine wpList_nil (aa (wp_ret (aA (ai (aA (ai (ret1 J q J ?_)))))));exact⟨(p: Int),rfl,⟨fun h=>by omega,fun h=>by rw [a4] at h;cases h⟩,by omega,C.drop_all⟩
   ·refine ah q J (wp_skip (ao (aa (?_))))
    exfalso
    simp only [beq_iff_eq,Bool.or_eq_true,decide_eq_true_eq,Bool.not_eq_true,beq_eq_false_iff_ne,ne_eq] at O;exact O Z
 ·refine ab (lin J (o_nextE (i:=0) C J G q J J fun a q=>?_));refine lin J (ad (v:=(.bool false)) q J J J fun a q=>?_);refine wpList_nil (aa (wp_seq (ah q J (wp_exit (az (az (aN (aa (wp_seq (ab (Ls J q fun a q=>?_)))))))))));refine wpList_nil (aa (wp_ret (ret1 J q J ?_)));exact⟨-1,rfl,⟨fun _=>nby_all G Y,fun _=>by omega⟩,by omega,C.drop_all⟩
theorem c_IndexFunc {w0: World} {H: PHeap} (hI: Inv w0 H []) {s: ByteArray}: Calls prog 180 #[(.string s),(.func (.func 179) #[] #[])] w0 (IdxR w0 H s):=by
 have C:=Step.refl hI;refine enter [(.string s),(.func (.func 179) #[] #[])] func180 J ntmps180 J fun a q=>?_;refine wp_seq (ab (Ls J q fun a q=>?_));refine wpList_nil (aa (wp_seq (ab (Lm J q fun a q=>?_))));refine Lm J q fun a q=>?_;refine lin J (Co func182 q J (c_indexFunc C.inv.nil) ?_);rintro e w ⟨O,rfl,G,I,F⟩;refine⟨_,rfl,fun a q=>?_⟩;have C:=C.call F;refine Ls J q fun a q=>?_;refine wpList_nil (aa (wp_ret (ret1 J q J ?_)));exact⟨O,rfl,G,I,C.drop_all⟩
theorem c_name {w0: World} {H: PHeap} (hI: Inv w0 H []) {s: ByteArray}: Calls prog 173 #[(.string s)] w0 (Rs w0 H (.bool (nameB s))):=by
 have C:=Step.refl hI;refine enter [(.string s)] func173 J ntmps173 J fun a q=>?_;refine wp_seq (ab (Ls J q fun a q=>?_));refine wpList_nil (aa (wp_seq (ab (Ls J q fun a q=>?_))));refine wpList_nil (aa (wp_seq (ab (Lm J q fun a q=>?_))));refine lin J (gh T9.und q J J fun a q=>?_);refine lin J (eQ (i:=(((s).size: Nat): Int)) (j:=1) q J J J fun a q=>?_);refine Lm J q fun a q=>?_;refine an (t:=7) q J (fun h1 q=>?_) (fun h1 q=>?_)
 ·refine ae J q J J J (aj q J J fun a q=>?_);refine ae J q J J J (gh T9.und q J J fun a q=>?_);refine ae J q J J J (gg (i:=(((s).size: Nat): Int)) (j:=32) q J J J fun a q=>?_);refine lin J (aq q J J J fun a q=>?_);refine Lm J q fun a q=>?_;refine an (t:=12) q J (fun h2 q=>?_) (fun h2 q=>?_)
  ·refine ae J q J J J (aj q J J fun a q=>?_);refine ae J q J J J (aj q J J fun a q=>?_);refine ae J q J J J (Co func180 q J (c_IndexFunc C.inv.nil) ?_);rintro e w ⟨F,rfl,I,O,G⟩;refine⟨_,rfl,fun a q=>?_⟩;have C:=C.call G;refine ae J q J J J (bl (i:=F) (j:=0) q J J J fun a q=>?_);refine lin J (aq q J J J fun a q=>?_);refine Ls J q fun a q=>?_;refine wpList_nil (aa (wp_ret (ret1 J q J ?_)));refine⟨congrArg _ (congrArg _ ?_),C.plain.drop_all⟩;unfold nameB;rw [show s.data.toList.all nby=decide (F < 0) from by rw [Bool.eq_iff_iff,decide_eq_true_eq];exact I.symm,decide_eq_true (show 1<=s.size by omega),decide_eq_true (show s.size<=32 by omega)];rfl
  ·refine Lf J q J J fun a q=>?_;refine Lf J q J J fun a q=>?_;refine Lf J q J J fun a q=>?_;refine Lf J q J J fun a q=>?_;refine lin J (am q J J J fun a q=>?_);refine Ls J q fun a q=>?_;refine wpList_nil (aa (wp_ret (ret1 J q J ?_)));refine⟨congrArg _ (congrArg _ ?_),C.plain.drop_all⟩;unfold nameB
   first | rw [decide_eq_false (show ¬ 1<=s.size by omega)];rfl |(rw [decide_eq_false (show ¬ s.size<=32 by omega)];simp)
 ·refine Lf J q J J fun a q=>?_;refine Lf J q J J fun a q=>?_;refine Lf J q J J fun a q=>?_;refine lin J (am q J J J fun a q=>?_);refine Lm J q fun a q=>?_;refine Lf J q J J fun a q=>?_;refine Lf J q J J fun a q=>?_;refine Lf J q J J fun a q=>?_;refine Lf J q J J fun a q=>?_;refine lin J (am q J J J fun a q=>?_);refine Ls J q fun a q=>?_;refine wpList_nil (aa (wp_ret (ret1 J q J ?_)));refine⟨congrArg _ (congrArg _ ?_),C.plain.drop_all⟩;unfold nameB
  first | rw [decide_eq_false (show ¬ 1<=s.size by omega)];rfl |(rw [decide_eq_false (show ¬ s.size<=32 by omega)];simp)
theorem c_form1 {w0: World} {H: PHeap} (hI: Inv w0 H []) {t: Tm} {A: Option Addr} {c: Nat} {bb: Nat} (hbb: H bb=some (.cells #[.func (.func 169) #[] #[]] 211 (0,0))) (hr: RowT H A c t.l): Calls prog 170 #[(tv t A c),(pB bb)] w0 (Rs w0 H (.bool (form1 t))):=by
 have C:=Step.refl hI;refine enter [(tv t A c),(pB bb)] func170 J ntmps170 J fun a q=>?_;refine wp_seq (ab (lin J (aV (cs:=(tA t A c)) C q J J J fun O a w C q=>?_)));refine Ls J q fun a q=>?_;refine wpList_nil (aa (wp_seq (ab (lin J (af (v:=(.func (.func 169) #[] #[])) T211 J q J (C.blkH hbb) J J fun a q=>?_)))));refine lin J (al (vs:=(tL t A c)) T41 J q J (C.blkL 0 J) J (ag J) J fun a q=>?_);refine lin J (br func169 J J (q.evs J) q J J (eG C.inv.nil hr) ?_);rintro e w ⟨rfl,I⟩;refine⟨_,rfl,fun a q=>?_⟩;have C:=C.call I;refine Lm J q fun a q=>?_;refine au (t:=7) q J (fun F q=>?_) (fun F q=>?_)
 ·refine ae J q J J J (ac (f:=1) (o2:=1) T41 T3 J J J J q J J fun a q=>?_);refine ae J q J J J (af (v:=(iV t.n)) T3 J q J (C.blkL 0 J) J J fun a q=>?_);refine ae J q J J J (eQ (i:=t.n) (j:=0) q J J J fun a q=>?_);refine lin J (aq q J J J fun a q=>?_);refine Lm J q fun a q=>?_;refine an (t:=12) q J (fun G q=>?_) (fun G q=>?_)
  ·refine ae J q J J J (ac (f:=1) (o2:=1) T41 T3 J J J J q J J fun a q=>?_);refine ae J q J J J (af (v:=(iV t.n)) T3 J q J (C.blkL 0 J) J J fun a q=>?_);refine ae J q J J J (bl (i:=t.n) (j:=100000) q J J J fun a q=>?_);refine lin J (aq q J J J fun a q=>?_);refine Ls J q fun a q=>?_;refine wpList_nil (aa (wp_ret (ret1 J q J ?_)));refine⟨congrArg _ ?_,C.plain.drop_all⟩
   first | rfl |(simp only [form1];rfl) |(simp [form1,F,G])
  ·refine Lf J q J J fun a q=>?_;refine Lf J q J J fun a q=>?_;refine Lf J q J J fun a q=>?_;refine lin J (am q J J J fun a q=>?_);refine Ls J q fun a q=>?_;refine wpList_nil (aa (wp_ret (ret1 J q J ?_)));refine⟨congrArg _ ?_,C.plain.drop_all⟩
   first | rfl |(simp only [form1];rfl) |(simp [form1,F,G])
 ·refine Lf J q J J fun a q=>?_;refine Lf J q J J fun a q=>?_;refine Lf J q J J fun a q=>?_;refine lin J (am q J J J fun a q=>?_);refine Lm J q fun a q=>?_;refine Lf J q J J fun a q=>?_;refine Lf J q J J fun a q=>?_;refine Lf J q J J fun a q=>?_;refine lin J (am q J J J fun a q=>?_);refine Ls J q fun a q=>?_;refine wpList_nil (aa (wp_ret (ret1 J q J ?_)));refine⟨congrArg _ ?_,C.plain.drop_all⟩
  first | rfl |(simp only [form1];rfl) |(simp [form1,F])
theorem c_form2 {w0: World} {H: PHeap} (hI: Inv w0 H []) {t: Tm} {A: Option Addr} {c: Nat} {bb: Nat} (hbb: H bb=some (.cells #[.func (.func 169) #[] #[]] 211 (0,0))) (hr: RowT H A c t.l): Calls prog 171 #[(tv t A c),(pB bb)] w0 (Rs w0 H (.bool (form2 t))):=by
 have C:=Step.refl hI;refine enter [(tv t A c),(pB bb)] func171 J ntmps171 J fun a q=>?_;refine wp_seq (ab (lin J (aV (cs:=(tA t A c)) C q J J J fun O a w C q=>?_)));refine Ls J q fun a q=>?_;refine wpList_nil (aa (wp_seq (ab (lin J (af (v:=(.func (.func 169) #[] #[])) T211 J q J (C.blkH hbb) J J fun a q=>?_)))));refine lin J (al (vs:=(tL t A c)) T41 J q J (C.blkL 0 J) J (ag J) J fun a q=>?_);refine lin J (br func169 J J (q.evs J) q J J (eG C.inv.nil hr) ?_);rintro e w ⟨rfl,I⟩;refine⟨_,rfl,fun a q=>?_⟩;have C:=C.call I;refine Lm J q fun a q=>?_;refine au (t:=7) q J (fun F q=>?_) (fun F q=>?_)
 ·refine ae J q J J J (ac (f:=1) (o2:=1) T41 T3 J J J J q J J fun a q=>?_);refine ae J q J J J (af (v:=(iV t.n)) T3 J q J (C.blkL 0 J) J J fun a q=>?_);refine ae J q J J J (eQ (i:=t.n) (j:=(-2147483647)) q J J J fun a q=>?_);refine lin J (aq q J J J fun a q=>?_);refine Lm J q fun a q=>?_;refine an (t:=12) q J (fun G q=>?_) (fun G q=>?_)
  ·refine ae J q J J J (ac (f:=1) (o2:=1) T41 T3 J J J J q J J fun a q=>?_);refine ae J q J J J (af (v:=(iV t.n)) T3 J q J (C.blkL 0 J) J J fun a q=>?_);refine ae J q J J J (gg (i:=t.n) (j:=2147483647) q J J J fun a q=>?_);refine lin J (aq q J J J fun a q=>?_);refine Ls J q fun a q=>?_;refine wpList_nil (aa (wp_ret (ret1 J q J ?_)));refine⟨congrArg _ ?_,C.plain.drop_all⟩
   first | rfl |(simp only [form2];rfl) |(simp [form2,F,G])
  ·refine Lf J q J J fun a q=>?_;refine Lf J q J J fun a q=>?_;refine Lf J q J J fun a q=>?_;refine lin J (am q J J J fun a q=>?_);refine Ls J q fun a q=>?_;refine wpList_nil (aa (wp_ret (ret1 J q J ?_)));refine⟨congrArg _ ?_,C.plain.drop_all⟩
   first | rfl |(simp only [form2];rfl) |(simp [form2,F,G])
 ·refine Lf J q J J fun a q=>?_;refine Lf J q J J fun a q=>?_;refine Lf J q J J fun a q=>?_;refine lin J (am q J J J fun a q=>?_);refine Lm J q fun a q=>?_;refine Lf J q J J fun a q=>?_;refine Lf J q J J fun a q=>?_;refine Lf J q J J fun a q=>?_;refine lin J (am q J J J fun a q=>?_);refine Ls J q fun a q=>?_;refine wpList_nil (aa (wp_ret (ret1 J q J ?_)));refine⟨congrArg _ ?_,C.plain.drop_all⟩
  first | rfl |(simp only [form2];rfl) |(simp [form2,F])
theorem c_form3 {w0: World} {H: PHeap} (hI: Inv w0 H []) {t: Tm} {A: Option Addr} {c: Nat} {bb: Nat} (hbb: H bb=some (.cells #[.func (.func 169) #[] #[]] 211 (0,0))) (hr: RowT H A c t.l): Calls prog 172 #[(tv t A c),(pB bb)] w0 (Rs w0 H (.bool (form3 t))):=by
 have C:=Step.refl hI;refine enter [(tv t A c),(pB bb)] func172 J ntmps172 J fun a q=>?_;refine wp_seq (ab (lin J (aV (cs:=(tA t A c)) C q J J J fun I a w C q=>?_)));refine Ls J q fun a q=>?_;refine wpList_nil (aa (wp_seq (ab (lin J (af (v:=(.func (.func 169) #[] #[])) T211 J q J (C.blkH hbb) J J fun a q=>?_)))));refine lin J (al (vs:=(tL t A c)) T41 J q J (C.blkL 0 J) J (ag J) J fun a q=>?_);refine lin J (br func169 J J (q.evs J) q J J (eG C.inv.nil hr) ?_);rintro e w ⟨rfl,G⟩;refine⟨_,rfl,fun a q=>?_⟩;have C:=C.call G;refine Lm J q fun a q=>?_;refine au (t:=7) q J (fun F q=>?_) (fun F q=>?_)
 ·refine ae J q J J J (ac (f:=2) (o2:=2) T41 T9 J J J J q J J fun a q=>?_);refine ae J q J J J (af (v:=(.string t.s)) T9 J q J (C.blkL 0 J) J J fun a q=>?_);refine ae J q J J J (Co func173 q J (c_name C.inv.nil) ?_);rintro e w ⟨rfl,G⟩;refine⟨_,rfl,fun a q=>?_⟩;have C:=C.call G;refine lin J (aq q J J J fun a q=>?_);refine Ls J q fun a q=>?_;refine wpList_nil (aa (wp_ret (ret1 J q J ?_)));refine⟨congrArg _ ?_,C.plain.drop_all⟩
  first | rfl |(simp only [form3];rfl) |(simp [form3,F])
 ·refine Lf J q J J fun a q=>?_;refine Lf J q J J fun a q=>?_;refine Lf J q J J fun a q=>?_;refine lin J (am q J J J fun a q=>?_);refine Ls J q fun a q=>?_;refine wpList_nil (aa (wp_ret (ret1 J q J ?_)));refine⟨congrArg _ ?_,C.plain.drop_all⟩
  first | rfl |(simp only [form3];rfl) |(simp [form3,F])
theorem c_form4 {w0: World} {H: PHeap} (hI: Inv w0 H []) {t: Tm} {A: Option Addr} {c: Nat} {bb: Nat} (hbb: H bb=some (.cells #[.func (.func 169) #[] #[]] 211 (0,0))) (hr: RowT H A c t.l): Calls prog 174 #[(tv t A c),(pB bb)] w0 (Rs w0 H (.bool (form4 t))):=by
 have C:=Step.refl hI;refine enter [(tv t A c),(pB bb)] func174 J ntmps174 J fun a q=>?_;refine wp_seq (ab (lin J (aV (cs:=(tA t A c)) C q J J J fun I a w C q=>?_)));refine Ls J q fun a q=>?_;refine wpList_nil (aa (wp_seq (ab (lin J (af (v:=(.func (.func 169) #[] #[])) T211 J q J (C.blkH hbb) J J fun a q=>?_)))));refine lin J (al (vs:=(tL t A c)) T41 J q J (C.blkL 0 J) J (ag J) J fun a q=>?_);refine lin J (br func169 J J (q.evs J) q J J (eG C.inv.nil hr) ?_);rintro e w ⟨rfl,G⟩;refine⟨_,rfl,fun a q=>?_⟩;have C:=C.call G;refine Lm J q fun a q=>?_;refine au (t:=7) q J (fun F q=>?_) (fun F q=>?_)
 ·refine ae J q J J J (ac (f:=2) (o2:=2) T41 T9 J J J J q J J fun a q=>?_);refine ae J q J J J (af (v:=(.string t.s)) T9 J q J (C.blkL 0 J) J J fun a q=>?_);refine ae J q J J J (gh T9.und q J J fun a q=>?_);refine ae J q J J J (gg (i:=(((t.s).size: Nat): Int)) (j:=255) q J J J fun a q=>?_);refine lin J (aq q J J J fun a q=>?_);refine Ls J q fun a q=>?_;refine wpList_nil (aa (wp_ret (ret1 J q J ?_)));refine⟨congrArg _ ?_,C.plain.drop_all⟩
  first | rfl |(simp only [form4];rfl) |(simp [form4,F])
 ·refine Lf J q J J fun a q=>?_;refine Lf J q J J fun a q=>?_;refine Lf J q J J fun a q=>?_;refine Lf J q J J fun a q=>?_;refine lin J (am q J J J fun a q=>?_);refine Ls J q fun a q=>?_;refine wpList_nil (aa (wp_ret (ret1 J q J ?_)));refine⟨congrArg _ ?_,C.plain.drop_all⟩
  first | rfl |(simp only [form4];rfl) |(simp [form4,F])
theorem c_form5 {w0: World} {H: PHeap} (hI: Inv w0 H []) {t: Tm} {A: Option Addr} {c: Nat} {bb: Nat} (hbb: H bb=some (.cells #[.func (.func 169) #[] #[]] 211 (0,0))) (hr: RowT H A c t.l): Calls prog 175 #[(tv t A c),(pB bb)] w0 (Rs w0 H (.bool (form5 t))):=by
 have C:=Step.refl hI;refine enter [(tv t A c),(pB bb)] func175 J ntmps175 J fun a q=>?_;refine wp_seq (ab (lin J (aV (cs:=(tA t A c)) C q J J J fun T a w C q=>?_)));refine Ls J q fun a q=>?_;refine wpList_nil (aa (wp_seq (ab (lin J (af (v:=(.func (.func 169) #[] #[])) T211 J q J (C.blkH hbb) J J fun a q=>?_)))));refine lin J (al (vs:=(tL t A c)) T41 J q J (C.blkL 0 J) J (ag J) J fun a q=>?_);refine lin J (br func169 J J (q.evs J) q J J (eG C.inv.nil hr) ?_);rintro e w ⟨rfl,O⟩;refine⟨_,rfl,fun a q=>?_⟩;have C:=C.call O;refine Lm J q fun a q=>?_;refine au (t:=7) q J (fun F q=>?_) (fun F q=>?_)
 ·refine ae J q J J J (ac (f:=2) (o2:=2) T41 T9 J J J J q J J fun a q=>?_);refine ae J q J J J (af (v:=(.string t.s)) T9 J q J (C.blkL 0 J) J J fun a q=>?_);refine ae J q J J J (Co func173 q J (c_name C.inv.nil) ?_);rintro e w ⟨rfl,O⟩;refine⟨_,rfl,fun a q=>?_⟩;have C:=C.call O;refine lin J (aq q J J J fun a q=>?_);refine Lm J q fun a q=>?_;refine au (t:=12) q J (fun G q=>?_) (fun G q=>?_)
  ·refine ae J q J J J (ac (f:=3) (o2:=3) T41 T39 J J J J q J J fun a q=>?_);refine ae J q J J J (af (v:=(.slice A t.l.length c)) T39 J q J (C.blkL 0 J) J J fun a q=>?_);refine ae J q J J J (aI T39.und q J J fun a q=>?_);refine ae J q J J J (eQ (i:=((t.l.length: Nat): Int)) (j:=1) q J J J fun a q=>?_);refine lin J (aq q J J J fun a q=>?_);refine Lm J q fun a q=>?_;refine an (t:=18) q J (fun I q=>?_) (fun I q=>?_)
   ·refine ae J q J J J (ac (f:=3) (o2:=3) T41 T39 J J J J q J J fun a q=>?_);refine ae J q J J J (af (v:=(.slice A t.l.length c)) T39 J q J (C.blkL 0 J) J J fun a q=>?_);refine ae J q J J J (aI T39.und q J J fun a q=>?_);refine ae J q J J J (gg (i:=((t.l.length: Nat): Int)) (j:=16) q J J J fun a q=>?_);refine lin J (aq q J J J fun a q=>?_);refine Ls J q fun a q=>?_;refine wpList_nil (aa (wp_ret (ret1 J q J ?_)));refine⟨congrArg _ ?_,C.plain.drop_all⟩
    first | rfl |(simp only [form5];rfl) |(simp [form5,F,G,I])
   ·refine Lf J q J J fun a q=>?_;refine Lf J q J J fun a q=>?_;refine Lf J q J J fun a q=>?_;refine Lf J q J J fun a q=>?_;refine lin J (am q J J J fun a q=>?_);refine Ls J q fun a q=>?_;refine wpList_nil (aa (wp_ret (ret1 J q J ?_)));refine⟨congrArg _ ?_,C.plain.drop_all⟩
    first | rfl |(simp only [form5];rfl) |(simp [form5,F,G,I])
  ·refine Lf J q J J fun a q=>?_;refine Lf J q J J fun a q=>?_;refine Lf J q J J fun a q=>?_;refine Lf J q J J fun a q=>?_;refine lin J (am q J J J fun a q=>?_);refine Lm J q fun a q=>?_;refine Lf J q J J fun a q=>?_;refine Lf J q J J fun a q=>?_;refine Lf J q J J fun a q=>?_;refine Lf J q J J fun a q=>?_;refine lin J (am q J J J fun a q=>?_);refine Ls J q fun a q=>?_;refine wpList_nil (aa (wp_ret (ret1 J q J ?_)));refine⟨congrArg _ ?_,C.plain.drop_all⟩
   first | rfl |(simp only [form5];rfl) |(simp [form5,F,G])
 ·refine Lf J q J J fun a q=>?_;refine Lf J q J J fun a q=>?_;refine Lf J q J J fun a q=>?_;refine lin J (am q J J J fun a q=>?_);refine Lm J q fun a q=>?_;refine Lf J q J J fun a q=>?_;refine Lf J q J J fun a q=>?_;refine Lf J q J J fun a q=>?_;refine Lf J q J J fun a q=>?_;refine lin J (am q J J J fun a q=>?_);refine Lm J q fun a q=>?_;refine Lf J q J J fun a q=>?_;refine Lf J q J J fun a q=>?_;refine Lf J q J J fun a q=>?_;refine Lf J q J J fun a q=>?_;refine lin J (am q J J J fun a q=>?_);refine Ls J q fun a q=>?_;refine wpList_nil (aa (wp_ret (ret1 J q J ?_)));refine⟨congrArg _ ?_,C.plain.drop_all⟩
  first | rfl |(simp only [form5];rfl) |(simp [form5,F])
theorem c_form6 {w0: World} {H: PHeap} (hI: Inv w0 H []) {t: Tm} {A: Option Addr} {c: Nat} {bb: Nat} (hbb: H bb=some (.cells #[.func (.func 169) #[] #[]] 211 (0,0))) (hr: RowT H A c t.l): Calls prog 176 #[(tv t A c),(pB bb)] w0 (Rs w0 H (.bool (form6 t))):=by
 have C:=Step.refl hI;refine enter [(tv t A c),(pB bb)] func176 J ntmps176 J fun a q=>?_;refine wp_seq (ab (lin J (aV (cs:=(tA t A c)) C q J J J fun I a w C q=>?_)));refine Ls J q fun a q=>?_;refine wpList_nil (aa (wp_seq (ab (lin J (af (v:=(.func (.func 169) #[] #[])) T211 J q J (C.blkH hbb) J J fun a q=>?_)))));refine lin J (al (vs:=(tL t A c)) T41 J q J (C.blkL 0 J) J (ag J) J fun a q=>?_);refine lin J (br func169 J J (q.evs J) q J J (eG C.inv.nil hr) ?_);rintro e w ⟨rfl,G⟩;refine⟨_,rfl,fun a q=>?_⟩;have C:=C.call G;refine Lm J q fun a q=>?_;refine au (t:=7) q J (fun F q=>?_) (fun F q=>?_)
 ·refine ae J q J J J (ac (f:=3) (o2:=3) T41 T39 J J J J q J J fun a q=>?_);refine ae J q J J J (af (v:=(.slice A t.l.length c)) T39 J q J (C.blkL 0 J) J J fun a q=>?_);refine ae J q J J J (aI T39.und q J J fun a q=>?_);refine ae J q J J J (gg (i:=((t.l.length: Nat): Int)) (j:=64) q J J J fun a q=>?_);refine lin J (aq q J J J fun a q=>?_);refine Ls J q fun a q=>?_;refine wpList_nil (aa (wp_ret (ret1 J q J ?_)));refine⟨congrArg _ ?_,C.plain.drop_all⟩
  first | rfl |(simp only [form6];rfl) |(simp [form6,F])
 ·refine Lf J q J J fun a q=>?_;refine Lf J q J J fun a q=>?_;refine Lf J q J J fun a q=>?_;refine Lf J q J J fun a q=>?_;refine lin J (am q J J J fun a q=>?_);refine Ls J q fun a q=>?_;refine wpList_nil (aa (wp_ret (ret1 J q J ?_)));refine⟨congrArg _ ?_,C.plain.drop_all⟩
  first | rfl |(simp only [form6];rfl) |(simp [form6,F])
def fvals (b: Nat): Array Value:= #[.nilFunc,.func (.func 170) #[] #[.pointer (some ⟨b,0,none⟩)],.func (.func 171) #[] #[.pointer (some ⟨b,0,none⟩)],.func (.func 172) #[] #[.pointer (some ⟨b,0,none⟩)],.func (.func 174) #[] #[.pointer (some ⟨b,0,none⟩)],.func (.func 175) #[] #[.pointer (some ⟨b,0,none⟩)],.func (.func 176) #[] #[.pointer (some ⟨b,0,none⟩)]]
def fnum (k: Int): Nat:=if k=1 then 170 else if k=2 then 171 else if k=3 then 172 else if k=4 then 174 else if k=5 then 175 else 176
def RF (w: World) (H: PHeap) (e: Ending) (w': World): Prop:= ∃ H' b,e=.returned (.agg (fvals b))/\H' b=some (.cells #[.func (.func 169) #[] #[]] 211 (0,0))/\Step w H [] w' H' []
theorem c_forms {w0: World} {H: PHeap} (hI: Inv w0 H []): Calls prog 157 #[] w0 (RF w0 H):=by
 have F:=Step.refl hI;refine enter [] func157 J ntmps157 J fun a q=>?_;refine wp_seq (ab (lin J (aE (cs:= #[.nilFunc,.nilFunc,.nilFunc,.nilFunc,.nilFunc,.nilFunc,.nilFunc]) T200 F q J J fun O a w F q=>?_)));refine wpList_nil (aa (wp_seq (ab (lin J (aE (cs:= #[.nilFunc]) T211 F q J J fun C a w F q=>?_)))));refine lin J (ak (cs':= #[(.func (.func 169) #[] #[])]) T211 F (i:=0) J q J J J J J J fun a w F q=>?_);refine wpList_nil (aa (wp_seq (ab (lin J (cP (fs:= #[]) (cs:= #[(pB C)]) q (q.evs (xs:= []) J) (q.evs J) J fun a q=>?_)))));refine lin J (cP (fs:= #[]) (cs:= #[(pB C)]) q (q.evs (xs:= []) J) (q.evs J) J fun a q=>?_);refine lin J (cP (fs:= #[]) (cs:= #[(pB C)]) q (q.evs (xs:= []) J) (q.evs J) J fun a q=>?_);refine lin J (cP (fs:= #[]) (cs:= #[(pB C)]) q (q.evs (xs:= []) J) (q.evs J) J fun a q=>?_);refine lin J (cP (fs:= #[]) (cs:= #[(pB C)]) q (q.evs (xs:= []) J) (q.evs J) J fun a q=>?_);refine lin J (cP (fs:= #[]) (cs:= #[(pB C)]) q (q.evs (xs:= []) J) (q.evs J) J fun a q=>?_);refine lin J (o_buildArr (vs:= [(1,(.func (.func 170) #[] #[(pB C)])),(2,(.func (.func 171) #[] #[(pB C)])),(3,(.func (.func 172) #[] #[(pB C)])),(4,(.func (.func 174) #[] #[(pB C)])),(5,(.func (.func 175) #[] #[(pB C)])),(6,(.func (.func 176) #[] #[(pB C)]))]) (cells:= [.nilFunc,(.func (.func 170) #[] #[(pB C)]),(.func (.func 171) #[] #[(pB C)]),(.func (.func 172) #[] #[(pB C)]),(.func (.func 174) #[] #[(pB C)]),(.func (.func 175) #[] #[(pB C)]),(.func (.func 176) #[] #[(pB C)])]) T200 T199 q (q.evp J) J J fun a q=>?_);refine lin J (ak (cs':= #[.nilFunc,(.func (.func 170) #[] #[(pB C)]),(.func (.func 171) #[] #[(pB C)]),(.func (.func 172) #[] #[(pB C)]),(.func (.func 174) #[] #[(pB C)]),(.func (.func 175) #[] #[(pB C)]),(.func (.func 176) #[] #[(pB C)])]) T200 F (i:=1) J q J J J J J J fun a w F q=>?_);refine wpList_nil (aa (wp_ret (retA (i:=1) (cs:= #[.nilFunc,(.func (.func 170) #[] #[(pB C)]),(.func (.func 171) #[] #[(pB C)]),(.func (.func 172) #[] #[(pB C)]),(.func (.func 174) #[] #[(pB C)]),(.func (.func 175) #[] #[(pB C)]),(.func (.func 176) #[] #[(pB C)])]) J T200 J F J q J J ?_)));obtain⟨G,F,T,I⟩:=(F.front 0 J).give;exact⟨G,_,rfl,I,F.drop_all⟩
theorem fcell {b: Nat} {k: Int} (h1: ¬ k < 1) (h6: ¬ 6 < k):(fvals b)[0+k.toNat * 1]? =some (.func (.func (fnum k)) #[] #[.pointer (some ⟨b,0,none⟩)]):=by
 have: k=1\/k=2\/k=3\/k=4\/k=5\/k=6:=by omega
 rcases this with rfl | rfl | rfl | rfl | rfl | rfl <;> rfl
theorem ffunc {k: Int}: ∃ f c,Go.Proofs.Tryz.prog.funcs[fnum k]? =some f∧f.body=some c∧(f.name == "runtime.NumGoroutine")=false:=by
 unfold fnum
 repeat' split
 ·exact⟨_,_,func170,rfl,rfl⟩
 ·exact⟨_,_,func171,rfl,rfl⟩
 ·exact⟨_,_,func172,rfl,rfl⟩
 ·exact⟨_,_,func174,rfl,rfl⟩
 ·exact⟨_,_,func175,rfl,rfl⟩
 ·exact⟨_,_,func176,rfl,rfl⟩
theorem c_form {w0: World} {H: PHeap} (hI: Inv w0 H []) {t: Tm} {A: Option Addr} {c: Nat} {bb: Nat} (hbb: H bb=some (.cells #[.func (.func 169) #[] #[]] 211 (0,0))) (hr: RowT H A c t.l) (k: Int): Calls prog (fnum k) #[tv t A c,.pointer (some ⟨bb,0,none⟩)] w0 (Rs w0 H (.bool (formB k t))):=by
 unfold fnum formB
 by_cases h1: k=1
 ·rw [if_pos h1,if_pos h1];exact c_form1 hI hbb hr
 rw [if_neg h1,if_neg h1]
 by_cases h2: k=2
 ·rw [if_pos h2,if_pos h2];exact c_form2 hI hbb hr
 rw [if_neg h2,if_neg h2]
 by_cases q: k=3
 ·rw [if_pos q,if_pos q];exact c_form3 hI hbb hr
 rw [if_neg q,if_neg q]
 by_cases C: k=4
 ·rw [if_pos C,if_pos C];exact c_form4 hI hbb hr
 rw [if_neg C,if_neg C]
 by_cases F: k=5
 ·rw [if_pos F,if_pos F];exact c_form5 hI hbb hr
 rw [if_neg F,if_neg F];exact c_form6 hI hbb hr
theorem cS: ∀(t: Tm) (left deep: Int),0<=left->0<=cnt left deep t/\cnt left deep t<=left+1:=by
 refine Tm.ind fun t ih=>?_;intro left deep G;rw [cO]
 split
 ·omega
 ·rename_i hb
  have h1: 1<=left:=by
   simp only [badB,Bool.not_eq_true,Bool.or_eq_false_iff,decide_eq_false_iff_not] at hb;omega
  have F: ∀(l: List Tm) (n: Int),(∀(j: Nat) (u: Tm),l[j]? =some u->∀(left deep: Int),0<=left->0<=cnt left deep u/\cnt left deep u<=left+1)->0<=n->n<=left->0<=cntL left deep n l/\cntL left deep n l<=left+1:=by
   intro l
   induction l with
   | nil=>intro n _ h2 q;rw [cntL];omega
   | cons u l ihl =>
    intro n hl h2 q;rw [cntL];have:=hl 0 u J (left - n) (deep - 1) j0
    split
    ·omega
    ·exact ihl _ (fun j v C=>hl (j+1) v C) j0 j0
  exact F t.l 1 ih j0 h1
theorem cd {left deep n: Int} {l: List Tm} {k: Nat} {u: Tm} (h: l[k]? =some u): cntL left deep n (l.drop k)=if left < n+cnt (left - n) (deep - 1) u then left+1 else cntL left deep (n+cnt (left - n) (deep - 1) u) (l.drop (k+1)):=by
 have hk: k < l.length:=(List.getElem?_eq_some_iff.1 h).1;rw [List.drop_eq_getElem_cons hk,cntL,(List.getElem?_eq_some_iff.1 h).2]
theorem c_count: ∀(t: Tm) (left deep: Int) (A: Option Addr) (c: Nat) (bb: Nat) (w0: World) (H: PHeap),H bb=some (.cells #[.func (.func 169) #[] #[]] 211 (0,0))->0<=left/\left<=4000->0<=deep/\deep<=600->RowT H A c t.l->Inv w0 H []->Calls prog 158 #[(tv t A c),(iV left),(iV deep),(.agg #[.nilFunc,(.func (.func 170) #[] #[.pointer (some ⟨bb,0,none⟩)]),(.func (.func 171) #[] #[.pointer (some ⟨bb,0,none⟩)]),(.func (.func 172) #[] #[.pointer (some ⟨bb,0,none⟩)]),(.func (.func 174) #[] #[.pointer (some ⟨bb,0,none⟩)]),(.func (.func 175) #[] #[.pointer (some ⟨bb,0,none⟩)]),(.func (.func 176) #[] #[.pointer (some ⟨bb,0,none⟩)])])] w0 (Rs w0 H (iV (cnt left deep t))):=by
 refine Tm.ind fun t ih=>?_;intro left deep A c bb w0 H aw c2 c0 hr b2;have F:=Step.refl b2;have c3:=hr.len;refine enter [(tv t A c),(iV left),(iV deep),(.agg #[.nilFunc,(.func (.func 170) #[] #[.pointer (some ⟨bb,0,none⟩)]),(.func (.func 171) #[] #[.pointer (some ⟨bb,0,none⟩)]),(.func (.func 172) #[] #[.pointer (some ⟨bb,0,none⟩)]),(.func (.func 174) #[] #[.pointer (some ⟨bb,0,none⟩)]),(.func (.func 175) #[] #[.pointer (some ⟨bb,0,none⟩)]),(.func (.func 176) #[] #[.pointer (some ⟨bb,0,none⟩)])])] func158 J ntmps158 J fun a q=>?_;refine wp_seq (ab (lin J (aV (cs:=(tA t A c)) F q J J J fun a2 a w F q=>?_)));refine lin J (aV (cs:= #[.nilFunc,(.func (.func 170) #[] #[.pointer (some ⟨bb,0,none⟩)]),(.func (.func 171) #[] #[.pointer (some ⟨bb,0,none⟩)]),(.func (.func 172) #[] #[.pointer (some ⟨bb,0,none⟩)]),(.func (.func 174) #[] #[.pointer (some ⟨bb,0,none⟩)]),(.func (.func 175) #[] #[.pointer (some ⟨bb,0,none⟩)]),(.func (.func 176) #[] #[.pointer (some ⟨bb,0,none⟩)])]) F q J J J fun a4 a w F q=>?_);refine Ls J q fun a q=>?_;refine wpList_nil (aa (wp_seq (wp_seq ?_)))
 let a3:List (Nat×Value):=[(1,(iV left)),(2,(iV deep)),(4,(pB a2)),(7,(pB a4))];by_cases T: deep < 1
 ·have a7:=F;refine b0 bI [FcV (iV deep),FcV (.bool true),FcV (.bool true),FcV undef,FcV undef,FcV (.bool true),FcV (.bool true),FcV undef,FcV undef,FcV undef,FcV (.bool true),FcV (.bool true),FcV undef,FcV undef,FcV undef,FcV (.bool true),FcV (.bool true),FcV undef,FcV undef,FcV undef,FcV undef,FcV undef,FcV undef,FcV undef,FcV (.bool true)] (N:=63) (E:= a3) mixed J Mq F (q.pk J) (.c4 ?_ ?_ ?_ ?_ (.c4 ?_ ?_ ?_ ?_ (.c4 ?_ ?_ ?_ ?_ (.c4 ?_ ?_ ?_ ?_ (.c4 ?_ ?_ ?_ ?_ (.c4 ?_ ?_ ?_ ?_ (.cons ?_ (.nil)))))))) (fun a w bp bg F q a0=>?_)
  ·refine Qz J fun a w F q C=>?_;exact aj q J J fun a q=>qe q F
  ·refine Qz1 0 J fun a w F q C=>?_;refine id (bl (i:=deep) (j:=1) q J J J fun a q=>?_);exact qdone J q F (by first |(rw [decide_eq_true T] <;> rfl) |(rw [decide_eq_false T] <;> rfl) |(rw [T] <;> rfl) | simp [T])
  ·refine Qz1 1 J fun a w F q C=>?_;refine id (aj q J J fun a q=>?_);exact qdone J q F (by first |(rw [decide_eq_true T] <;> rfl) |(rw [decide_eq_false T] <;> rfl) |(rw [T] <;> rfl) | simp [T])
  ·intro a w I G F q C;subst G;obtain⟨_,q,rfl⟩:=C.g q 2 J;rw [if_neg (ay J J q J J J)];intro d V;rfl
  ·intro a w I G F q C;subst G;obtain⟨_,q,rfl⟩:=C.g q 3 J;obtain⟨_,q,rfl⟩:=C.g q 2 J;rw [if_neg (ay J J q J J J)];intro d V;rfl
  ·refine Qz1 2 J fun a w F q C=>?_;obtain⟨_,q,rfl⟩:=C.g q 4 J;exact aq q J J J fun a q=>qe q F
  ·refine Qz1 5 J fun a w F q C=>?_;exact aj q J J fun a q=>qe q F
  ·intro a w I G F q C;subst G;obtain⟨_,q,rfl⟩:=C.g q 6 J;rw [if_neg (ay J J q J J J)];intro d V;rfl
  ·intro a w I G F q C;subst G;obtain⟨_,q,rfl⟩:=C.g q 7 J;obtain⟨_,q,rfl⟩:=C.g q 6 J;rw [if_neg (ay J J q J J J)];intro d V;rfl
  ·intro a w I G F q C;subst G;obtain⟨_,q,rfl⟩:=C.g q 8 J;obtain⟨_,q,rfl⟩:=C.g q 6 J;rw [if_neg (ay J J q J J J)];intro d V;rfl
  ·refine Qz1 6 J fun a w F q C=>?_;obtain⟨_,q,rfl⟩:=C.g q 9 J;exact aq q J J J fun a q=>qe q F
  ·refine Qz1 10 J fun a w F q C=>?_;exact aj q J J fun a q=>qe q F
  ·intro a w I G F q C;subst G;obtain⟨_,q,rfl⟩:=C.g q 11 J;rw [if_neg (ay J J q J J J)];intro d V;rfl
  ·intro a w I G F q C;subst G;obtain⟨_,q,rfl⟩:=C.g q 12 J;obtain⟨_,q,rfl⟩:=C.g q 11 J;rw [if_neg (ay J J q J J J)];intro d V;rfl
  ·intro a w I G F q C;subst G;obtain⟨_,q,rfl⟩:=C.g q 13 J;obtain⟨_,q,rfl⟩:=C.g q 11 J;rw [if_neg (ay J J q J J J)];intro d V;rfl
  ·refine Qz1 11 J fun a w F q C=>?_;obtain⟨_,q,rfl⟩:=C.g q 14 J;exact aq q J J J fun a q=>qe q F
  ·refine Qz1 15 J fun a w F q C=>?_;exact aj q J J fun a q=>qe q F
  ·intro a w I G F q C;subst G;obtain⟨_,q,rfl⟩:=C.g q 16 J;rw [if_neg (ay J J q J J J)];intro d V;rfl
  ·intro a w I G F q C;subst G;obtain⟨_,q,rfl⟩:=C.g q 17 J;obtain⟨_,q,rfl⟩:=C.g q 16 J;rw [if_neg (ay J J q J J J)];intro d V;rfl
  ·intro a w I G F q C;subst G;obtain⟨_,q,rfl⟩:=C.g q 18 J;obtain⟨_,q,rfl⟩:=C.g q 16 J;rw [if_neg (ay J J q J J J)];intro d V;rfl
  ·intro a w I G F q C;subst G;obtain⟨_,q,rfl⟩:=C.g q 19 J;obtain⟨_,q,rfl⟩:=C.g q 16 J;rw [if_neg (ay J J q J J J)];intro d V;rfl
  ·intro a w I G F q C;subst G;obtain⟨_,q,rfl⟩:=C.g q 16 J;rw [if_neg (ay J J q J J J)];intro d V;rfl
  ·intro a w I G F q C;subst G;obtain⟨_,q,rfl⟩:=C.g q 20 J;obtain⟨_,q,rfl⟩:=C.g q 21 J;obtain⟨_,q,rfl⟩:=C.g q 16 J;rw [if_neg (ay J J q J J J)];intro d V;rfl
  ·intro a w I G F q C;subst G;obtain⟨_,q,rfl⟩:=C.g q 22 J;obtain⟨_,q,rfl⟩:=C.g q 16 J;rw [if_neg (ay J J q J J J)];intro d V;rfl
  ·refine Qz1 16 J fun a w F q C=>?_;obtain⟨_,q,rfl⟩:=C.g q 23 J;exact aq q J J J fun a q=>qe q F
  subst bg;obtain⟨_,q,rfl⟩:=Dd q a0 24 J;refine aa (ap q J (wp_seq (ab (Lm J q fun a q=>?_))));refine lin J (aL (i:=left) (j:=1) q J J J j0 fun a q=>?_);refine Ls J q fun a q=>?_;refine wpList_nil (aa (wp_ret (ai (ret1 J q J ?_))));refine⟨congrArg _ (congrArg _ ?_),F.plain.drop_all⟩
  first |(rw [<- a1,cd ht0,if_pos (by assumption)]) |(rw [cO,if_pos (by simp [badB,T])])
 ·by_cases O: left < 1
  ·have a7:=F;refine b0 bI [FcV (iV deep),FcV (.bool false),FcV (.bool false),FcV (iV left),FcV (.bool true),FcV (.bool true),FcV (.bool true),FcV undef,FcV undef,FcV undef,FcV (.bool true),FcV (.bool true),FcV undef,FcV undef,FcV undef,FcV (.bool true),FcV (.bool true),FcV undef,FcV undef,FcV undef,FcV undef,FcV undef,FcV undef,FcV undef,FcV (.bool true)] (N:=63) (E:= a3) mixed J Mq F (q.pk J) (.c4 ?_ ?_ ?_ ?_ (.c4 ?_ ?_ ?_ ?_ (.c4 ?_ ?_ ?_ ?_ (.c4 ?_ ?_ ?_ ?_ (.c4 ?_ ?_ ?_ ?_ (.c4 ?_ ?_ ?_ ?_ (.cons ?_ (.nil)))))))) (fun a w bq bh F q a0=>?_)
   ·refine Qz J fun a w F q C=>?_;exact aj q J J fun a q=>qe q F
   ·refine Qz1 0 J fun a w F q C=>?_;refine id (bl (i:=deep) (j:=1) q J J J fun a q=>?_);exact qdone J q F (by first |(rw [decide_eq_true T] <;> rfl) |(rw [decide_eq_false T] <;> rfl) |(rw [T] <;> rfl) | simp [T])
   ·refine Qz1 1 J fun a w F q C=>?_;refine id (aj q J J fun a q=>?_);exact qdone J q F (by first |(rw [decide_eq_true T] <;> rfl) |(rw [decide_eq_false T] <;> rfl) |(rw [T] <;> rfl) | simp [T])
   ·intro a w I G F q C;subst G;obtain⟨_,q,rfl⟩:=C.g q 2 J;rw [if_pos (aB J q J J J)];exact aj q J J fun a q=>qe q F
   ·intro a w I G F q C;subst G;obtain⟨_,q,rfl⟩:=C.g q 3 J;obtain⟨_,q,rfl⟩:=C.g q 2 J;rw [if_pos (aB J q J J J)];refine id (bl (i:=left) (j:=1) q J J J fun a q=>?_);exact qdone J q F (by first |(rw [decide_eq_true O] <;> rfl) |(rw [decide_eq_false O] <;> rfl) |(rw [O] <;> rfl) | simp [O])
   ·refine Qz1 2 J fun a w F q C=>?_;obtain⟨_,q,rfl⟩:=C.g q 4 J;refine id (am q J J J fun a q=>?_);exact qdone J q F (by first |(rw [decide_eq_true O] <;> rfl) |(rw [decide_eq_false O] <;> rfl) |(rw [O] <;> rfl) | simp [O])
   ·refine Qz1 5 J fun a w F q C=>?_;refine id (aj q J J fun a q=>?_);exact qdone J q F (by first |(rw [decide_eq_true O] <;> rfl) |(rw [decide_eq_false O] <;> rfl) |(rw [O] <;> rfl) | simp [O])
   ·intro a w I G F q C;subst G;obtain⟨_,q,rfl⟩:=C.g q 6 J;rw [if_neg (ay J J q J J J)];intro d V;rfl
   ·intro a w I G F q C;subst G;obtain⟨_,q,rfl⟩:=C.g q 7 J;obtain⟨_,q,rfl⟩:=C.g q 6 J;rw [if_neg (ay J J q J J J)];intro d V;rfl
   ·intro a w I G F q C;subst G;obtain⟨_,q,rfl⟩:=C.g q 8 J;obtain⟨_,q,rfl⟩:=C.g q 6 J;rw [if_neg (ay J J q J J J)];intro d V;rfl
   ·refine Qz1 6 J fun a w F q C=>?_;obtain⟨_,q,rfl⟩:=C.g q 9 J;exact aq q J J J fun a q=>qe q F
   ·refine Qz1 10 J fun a w F q C=>?_;exact aj q J J fun a q=>qe q F
   ·intro a w I G F q C;subst G;obtain⟨_,q,rfl⟩:=C.g q 11 J;rw [if_neg (ay J J q J J J)];intro d V;rfl
   ·intro a w I G F q C;subst G;obtain⟨_,q,rfl⟩:=C.g q 12 J;obtain⟨_,q,rfl⟩:=C.g q 11 J;rw [if_neg (ay J J q J J J)];intro d V;rfl
   ·intro a w I G F q C;subst G;obtain⟨_,q,rfl⟩:=C.g q 13 J;obtain⟨_,q,rfl⟩:=C.g q 11 J;rw [if_neg (ay J J q J J J)];intro d V;rfl
   ·refine Qz1 11 J fun a w F q C=>?_;obtain⟨_,q,rfl⟩:=C.g q 14 J;exact aq q J J J fun a q=>qe q F
   ·refine Qz1 15 J fun a w F q C=>?_;exact aj q J J fun a q=>qe q F
   ·intro a w I G F q C;subst G;obtain⟨_,q,rfl⟩:=C.g q 16 J;rw [if_neg (ay J J q J J J)];intro d V;rfl
   ·intro a w I G F q C;subst G;obtain⟨_,q,rfl⟩:=C.g q 17 J;obtain⟨_,q,rfl⟩:=C.g q 16 J;rw [if_neg (ay J J q J J J)];intro d V;rfl
   ·intro a w I G F q C;subst G;obtain⟨_,q,rfl⟩:=C.g q 18 J;obtain⟨_,q,rfl⟩:=C.g q 16 J;rw [if_neg (ay J J q J J J)];intro d V;rfl
   ·intro a w I G F q C;subst G;obtain⟨_,q,rfl⟩:=C.g q 19 J;obtain⟨_,q,rfl⟩:=C.g q 16 J;rw [if_neg (ay J J q J J J)];intro d V;rfl
   ·intro a w I G F q C;subst G;obtain⟨_,q,rfl⟩:=C.g q 16 J;rw [if_neg (ay J J q J J J)];intro d V;rfl
   ·intro a w I G F q C;subst G;obtain⟨_,q,rfl⟩:=C.g q 20 J;obtain⟨_,q,rfl⟩:=C.g q 21 J;obtain⟨_,q,rfl⟩:=C.g q 16 J;rw [if_neg (ay J J q J J J)];intro d V;rfl
   ·intro a w I G F q C;subst G;obtain⟨_,q,rfl⟩:=C.g q 22 J;obtain⟨_,q,rfl⟩:=C.g q 16 J;rw [if_neg (ay J J q J J J)];intro d V;rfl
   ·refine Qz1 16 J fun a w F q C=>?_;obtain⟨_,q,rfl⟩:=C.g q 23 J;exact aq q J J J fun a q=>qe q F
   subst bh;obtain⟨_,q,rfl⟩:=Dd q a0 24 J;refine aa (ap q J (wp_seq (ab (Lm J q fun a q=>?_))));refine lin J (aL (i:=left) (j:=1) q J J J j0 fun a q=>?_);refine Ls J q fun a q=>?_;refine wpList_nil (aa (wp_ret (ai (ret1 J q J ?_))));refine⟨congrArg _ (congrArg _ ?_),F.plain.drop_all⟩
   first |(rw [<- a1,cd ht0,if_pos (by assumption)]) |(rw [cO,if_pos (by simp [badB,T,O])])
  ·by_cases X: t.kind < 1
   ·have a7:=F;refine b0 bI [FcV (iV deep),FcV (.bool false),FcV (.bool false),FcV (iV left),FcV (.bool false),FcV (.bool false),FcV (.bool false),FcV (pB a2),FcV (iV t.kind),FcV (.bool true),FcV (.bool true),FcV (.bool true),FcV undef,FcV undef,FcV undef,FcV (.bool true),FcV (.bool true),FcV undef,FcV undef,FcV undef,FcV undef,FcV undef,FcV undef,FcV undef,FcV (.bool true)] (N:=63) (E:= a3) mixed J Mq F (q.pk J) (.c4 ?_ ?_ ?_ ?_ (.c4 ?_ ?_ ?_ ?_ (.c4 ?_ ?_ ?_ ?_ (.c4 ?_ ?_ ?_ ?_ (.c4 ?_ ?_ ?_ ?_ (.c4 ?_ ?_ ?_ ?_ (.cons ?_ (.nil)))))))) (fun a w bm ba F q a0=>?_)
    ·refine Qz J fun a w F q C=>?_;exact aj q J J fun a q=>qe q F
    ·refine Qz1 0 J fun a w F q C=>?_;refine id (bl (i:=deep) (j:=1) q J J J fun a q=>?_);exact qdone J q F (by first |(rw [decide_eq_true T] <;> rfl) |(rw [decide_eq_false T] <;> rfl) |(rw [T] <;> rfl) | simp [T])
    ·refine Qz1 1 J fun a w F q C=>?_;refine id (aj q J J fun a q=>?_);exact qdone J q F (by first |(rw [decide_eq_true T] <;> rfl) |(rw [decide_eq_false T] <;> rfl) |(rw [T] <;> rfl) | simp [T])
    ·intro a w I G F q C;subst G;obtain⟨_,q,rfl⟩:=C.g q 2 J;rw [if_pos (aB J q J J J)];exact aj q J J fun a q=>qe q F
    ·intro a w I G F q C;subst G;obtain⟨_,q,rfl⟩:=C.g q 3 J;obtain⟨_,q,rfl⟩:=C.g q 2 J;rw [if_pos (aB J q J J J)];refine id (bl (i:=left) (j:=1) q J J J fun a q=>?_);exact qdone J q F (by first |(rw [decide_eq_true O] <;> rfl) |(rw [decide_eq_false O] <;> rfl) |(rw [O] <;> rfl) | simp [O])
    ·refine Qz1 2 J fun a w F q C=>?_;obtain⟨_,q,rfl⟩:=C.g q 4 J;refine id (am q J J J fun a q=>?_);exact qdone J q F (by first |(rw [decide_eq_true O] <;> rfl) |(rw [decide_eq_false O] <;> rfl) |(rw [O] <;> rfl) | simp [O])
    ·refine Qz1 5 J fun a w F q C=>?_;refine id (aj q J J fun a q=>?_);exact qdone J q F (by first |(rw [decide_eq_true O] <;> rfl) |(rw [decide_eq_false O] <;> rfl) |(rw [O] <;> rfl) | simp [O])
    ·intro a w I G F q C;subst G;obtain⟨_,q,rfl⟩:=C.g q 6 J;rw [if_pos (aB J q J J J)];exact ac (f:=0) (o2:=0) T41 T3 J J J J q J J fun a q=>qe q F
    ·intro a w I G F q C;subst G;obtain⟨_,q,rfl⟩:=C.g q 7 J;obtain⟨_,q,rfl⟩:=C.g q 6 J;rw [if_pos (aB J q J J J)];exact af (v:=(iV t.kind)) T3 J q J (F.blkL 1 J) J J fun a q=>qe q F
    ·intro a w I G F q C;subst G;obtain⟨_,q,rfl⟩:=C.g q 8 J;obtain⟨_,q,rfl⟩:=C.g q 6 J;rw [if_pos (aB J q J J J)];refine id (bl (i:=t.kind) (j:=1) q J J J fun a q=>?_);exact qdone J q F (by first |(rw [decide_eq_true X] <;> rfl) |(rw [decide_eq_false X] <;> rfl) |(rw [X] <;> rfl) | simp [X])
    ·refine Qz1 6 J fun a w F q C=>?_;obtain⟨_,q,rfl⟩:=C.g q 9 J;refine id (am q J J J fun a q=>?_);exact qdone J q F (by first |(rw [decide_eq_true X] <;> rfl) |(rw [decide_eq_false X] <;> rfl) |(rw [X] <;> rfl) | simp [X])
    ·refine Qz1 10 J fun a w F q C=>?_;refine id (aj q J J fun a q=>?_);exact qdone J q F (by first |(rw [decide_eq_true X] <;> rfl) |(rw [decide_eq_false X] <;> rfl) |(rw [X] <;> rfl) | simp [X])
    ·intro a w I G F q C;subst G;obtain⟨_,q,rfl⟩:=C.g q 11 J;rw [if_neg (ay J J q J J J)];intro d V;rfl
    ·intro a w I G F q C;subst G;obtain⟨_,q,rfl⟩:=C.g q 12 J;obtain⟨_,q,rfl⟩:=C.g q 11 J;rw [if_neg (ay J J q J J J)];intro d V;rfl
    ·intro a w I G F q C;subst G;obtain⟨_,q,rfl⟩:=C.g q 13 J;obtain⟨_,q,rfl⟩:=C.g q 11 J;rw [if_neg (ay J J q J J J)];intro d V;rfl
    ·refine Qz1 11 J fun a w F q C=>?_;obtain⟨_,q,rfl⟩:=C.g q 14 J;exact aq q J J J fun a q=>qe q F
    ·refine Qz1 15 J fun a w F q C=>?_;exact aj q J J fun a q=>qe q F
    ·intro a w I G F q C;subst G;obtain⟨_,q,rfl⟩:=C.g q 16 J;rw [if_neg (ay J J q J J J)];intro d V;rfl
    ·intro a w I G F q C;subst G;obtain⟨_,q,rfl⟩:=C.g q 17 J;obtain⟨_,q,rfl⟩:=C.g q 16 J;rw [if_neg (ay J J q J J J)];intro d V;rfl
    ·intro a w I G F q C;subst G;obtain⟨_,q,rfl⟩:=C.g q 18 J;obtain⟨_,q,rfl⟩:=C.g q 16 J;rw [if_neg (ay J J q J J J)];intro d V;rfl
    ·intro a w I G F q C;subst G;obtain⟨_,q,rfl⟩:=C.g q 19 J;obtain⟨_,q,rfl⟩:=C.g q 16 J;rw [if_neg (ay J J q J J J)];intro d V;rfl
    ·intro a w I G F q C;subst G;obtain⟨_,q,rfl⟩:=C.g q 16 J;rw [if_neg (ay J J q J J J)];intro d V;rfl
    ·intro a w I G F q C;subst G;obtain⟨_,q,rfl⟩:=C.g q 20 J;obtain⟨_,q,rfl⟩:=C.g q 21 J;obtain⟨_,q,rfl⟩:=C.g q 16 J;rw [if_neg (ay J J q J J J)];intro d V;rfl
    ·intro a w I G F q C;subst G;obtain⟨_,q,rfl⟩:=C.g q 22 J;obtain⟨_,q,rfl⟩:=C.g q 16 J;rw [if_neg (ay J J q J J J)];intro d V;rfl
    ·refine Qz1 16 J fun a w F q C=>?_;obtain⟨_,q,rfl⟩:=C.g q 23 J;exact aq q J J J fun a q=>qe q F
    subst ba;obtain⟨_,q,rfl⟩:=Dd q a0 24 J;refine aa (ap q J (wp_seq (ab (Lm J q fun a q=>?_))));refine lin J (aL (i:=left) (j:=1) q J J J j0 fun a q=>?_);refine Ls J q fun a q=>?_;refine wpList_nil (aa (wp_ret (ai (ret1 J q J ?_))));refine⟨congrArg _ (congrArg _ ?_),F.plain.drop_all⟩
    first |(rw [<- a1,cd ht0,if_pos (by assumption)]) |(rw [cO,if_pos (by simp [badB,T,O,X])])
   ·by_cases Y: 6 < t.kind
    ·have a7:=F;refine b0 bI [FcV (iV deep),FcV (.bool false),FcV (.bool false),FcV (iV left),FcV (.bool false),FcV (.bool false),FcV (.bool false),FcV (pB a2),FcV (iV t.kind),FcV (.bool false),FcV (.bool false),FcV (.bool false),FcV (pB a2),FcV (iV t.kind),FcV (.bool true),FcV (.bool true),FcV (.bool true),FcV undef,FcV undef,FcV undef,FcV undef,FcV undef,FcV undef,FcV undef,FcV (.bool true)] (N:=63) (E:= a3) mixed J Mq F (q.pk J) (.c4 ?_ ?_ ?_ ?_ (.c4 ?_ ?_ ?_ ?_ (.c4 ?_ ?_ ?_ ?_ (.c4 ?_ ?_ ?_ ?_ (.c4 ?_ ?_ ?_ ?_ (.c4 ?_ ?_ ?_ ?_ (.cons ?_ (.nil)))))))) (fun a w bn bc F q a0=>?_)
     ·refine Qz J fun a w F q C=>?_;exact aj q J J fun a q=>qe q F
     ·refine Qz1 0 J fun a w F q C=>?_;refine id (bl (i:=deep) (j:=1) q J J J fun a q=>?_);exact qdone J q F (by first |(rw [decide_eq_true T] <;> rfl) |(rw [decide_eq_false T] <;> rfl) |(rw [T] <;> rfl) | simp [T])
     ·refine Qz1 1 J fun a w F q C=>?_;refine id (aj q J J fun a q=>?_);exact qdone J q F (by first |(rw [decide_eq_true T] <;> rfl) |(rw [decide_eq_false T] <;> rfl) |(rw [T] <;> rfl) | simp [T])
     ·intro a w I G F q C;subst G;obtain⟨_,q,rfl⟩:=C.g q 2 J;rw [if_pos (aB J q J J J)];exact aj q J J fun a q=>qe q F
     ·intro a w I G F q C;subst G;obtain⟨_,q,rfl⟩:=C.g q 3 J;obtain⟨_,q,rfl⟩:=C.g q 2 J;rw [if_pos (aB J q J J J)];refine id (bl (i:=left) (j:=1) q J J J fun a q=>?_);exact qdone J q F (by first |(rw [decide_eq_true O] <;> rfl) |(rw [decide_eq_false O] <;> rfl) |(rw [O] <;> rfl) | simp [O])
     ·refine Qz1 2 J fun a w F q C=>?_;obtain⟨_,q,rfl⟩:=C.g q 4 J;refine id (am q J J J fun a q=>?_);exact qdone J q F (by first |(rw [decide_eq_true O] <;> rfl) |(rw [decide_eq_false O] <;> rfl) |(rw [O] <;> rfl) | simp [O])
     ·refine Qz1 5 J fun a w F q C=>?_;refine id (aj q J J fun a q=>?_);exact qdone J q F (by first |(rw [decide_eq_true O] <;> rfl) |(rw [decide_eq_false O] <;> rfl) |(rw [O] <;> rfl) | simp [O])
     ·intro a w I G F q C;subst G;obtain⟨_,q,rfl⟩:=C.g q 6 J;rw [if_pos (aB J q J J J)];exact ac (f:=0) (o2:=0) T41 T3 J J J J q J J fun a q=>qe q F
     ·intro a w I G F q C;subst G;obtain⟨_,q,rfl⟩:=C.g q 7 J;obtain⟨_,q,rfl⟩:=C.g q 6 J;rw [if_pos (aB J q J J J)];exact af (v:=(iV t.kind)) T3 J q J (F.blkL 1 J) J J fun a q=>qe q F
     ·intro a w I G F q C;subst G;obtain⟨_,q,rfl⟩:=C.g q 8 J;obtain⟨_,q,rfl⟩:=C.g q 6 J;rw [if_pos (aB J q J J J)];refine id (bl (i:=t.kind) (j:=1) q J J J fun a q=>?_);exact qdone J q F (by first |(rw [decide_eq_true X] <;> rfl) |(rw [decide_eq_false X] <;> rfl) |(rw [X] <;> rfl) | simp [X])
     ·refine Qz1 6 J fun a w F q C=>?_;obtain⟨_,q,rfl⟩:=C.g q 9 J;refine id (am q J J J fun a q=>?_);exact qdone J q F (by first |(rw [decide_eq_true X] <;> rfl) |(rw [decide_eq_false X] <;> rfl) |(rw [X] <;> rfl) | simp [X])
     ·refine Qz1 10 J fun a w F q C=>?_;refine id (aj q J J fun a q=>?_);exact qdone J q F (by first |(rw [decide_eq_true X] <;> rfl) |(rw [decide_eq_false X] <;> rfl) |(rw [X] <;> rfl) | simp [X])
     ·intro a w I G F q C;subst G;obtain⟨_,q,rfl⟩:=C.g q 11 J;rw [if_pos (aB J q J J J)];exact ac (f:=0) (o2:=0) T41 T3 J J J J q J J fun a q=>qe q F
     ·intro a w I G F q C;subst G;obtain⟨_,q,rfl⟩:=C.g q 12 J;obtain⟨_,q,rfl⟩:=C.g q 11 J;rw [if_pos (aB J q J J J)];exact af (v:=(iV t.kind)) T3 J q J (F.blkL 1 J) J J fun a q=>qe q F
     ·intro a w I G F q C;subst G;obtain⟨_,q,rfl⟩:=C.g q 13 J;obtain⟨_,q,rfl⟩:=C.g q 11 J;rw [if_pos (aB J q J J J)];refine id (cT (i:=t.kind) (j:=6) q J J J fun a q=>?_);exact qdone J q F (by first |(rw [decide_eq_true Y] <;> rfl) |(rw [decide_eq_false Y] <;> rfl) |(rw [Y] <;> rfl) | simp [Y])
     ·refine Qz1 11 J fun a w F q C=>?_;obtain⟨_,q,rfl⟩:=C.g q 14 J;refine id (am q J J J fun a q=>?_);exact qdone J q F (by first |(rw [decide_eq_true Y] <;> rfl) |(rw [decide_eq_false Y] <;> rfl) |(rw [Y] <;> rfl) | simp [Y])
     ·refine Qz1 15 J fun a w F q C=>?_;refine id (aj q J J fun a q=>?_);exact qdone J q F (by first |(rw [decide_eq_true Y] <;> rfl) |(rw [decide_eq_false Y] <;> rfl) |(rw [Y] <;> rfl) | simp [Y])
     ·intro a w I G F q C;subst G;obtain⟨_,q,rfl⟩:=C.g q 16 J;rw [if_neg (ay J J q J J J)];intro d V;rfl
     ·intro a w I G F q C;subst G;obtain⟨_,q,rfl⟩:=C.g q 17 J;obtain⟨_,q,rfl⟩:=C.g q 16 J;rw [if_neg (ay J J q J J J)];intro d V;rfl
     ·intro a w I G F q C;subst G;obtain⟨_,q,rfl⟩:=C.g q 18 J;obtain⟨_,q,rfl⟩:=C.g q 16 J;rw [if_neg (ay J J q J J J)];intro d V;rfl
     ·intro a w I G F q C;subst G;obtain⟨_,q,rfl⟩:=C.g q 19 J;obtain⟨_,q,rfl⟩:=C.g q 16 J;rw [if_neg (ay J J q J J J)];intro d V;rfl
     ·intro a w I G F q C;subst G;obtain⟨_,q,rfl⟩:=C.g q 16 J;rw [if_neg (ay J J q J J J)];intro d V;rfl
     ·intro a w I G F q C;subst G;obtain⟨_,q,rfl⟩:=C.g q 20 J;obtain⟨_,q,rfl⟩:=C.g q 21 J;obtain⟨_,q,rfl⟩:=C.g q 16 J;rw [if_neg (ay J J q J J J)];intro d V;rfl
     ·intro a w I G F q C;subst G;obtain⟨_,q,rfl⟩:=C.g q 22 J;obtain⟨_,q,rfl⟩:=C.g q 16 J;rw [if_neg (ay J J q J J J)];intro d V;rfl
     ·refine Qz1 16 J fun a w F q C=>?_;obtain⟨_,q,rfl⟩:=C.g q 23 J;exact aq q J J J fun a q=>qe q F
     subst bc;obtain⟨_,q,rfl⟩:=Dd q a0 24 J;refine aa (ap q J (wp_seq (ab (Lm J q fun a q=>?_))));refine lin J (aL (i:=left) (j:=1) q J J J j0 fun a q=>?_);refine Ls J q fun a q=>?_;refine wpList_nil (aa (wp_ret (ai (ret1 J q J ?_))));refine⟨congrArg _ (congrArg _ ?_),F.plain.drop_all⟩
     first |(rw [<- a1,cd ht0,if_pos (by assumption)]) |(rw [cO,if_pos (by simp [badB,T,O,X,Y])])
    ·have a7:=F;refine b0 bI [FcV (iV deep),FcV (.bool false),FcV (.bool false),FcV (iV left),FcV (.bool false),FcV (.bool false),FcV (.bool false),FcV (pB a2),FcV (iV t.kind),FcV (.bool false),FcV (.bool false),FcV (.bool false),FcV (pB a2),FcV (iV t.kind),FcV (.bool false),FcV (.bool false),FcV (.bool false),FcV (pB a2),FcV (iV t.kind),FcV (.pointer (some ⟨a4,0+(Int.toNat t.kind) * 1,none⟩)),FcV (.func (.func (fnum t.kind)) #[] #[.pointer (some ⟨bb,0,none⟩)]),FcV (tv t A c),FcV (.bool (formB t.kind t)),FcV (.bool (!(formB t.kind t))),FcV (.bool (!(formB t.kind t)))] (N:=63) (E:= a3) mixed J Mq F (q.pk J) (.c4 ?_ ?_ ?_ ?_ (.c4 ?_ ?_ ?_ ?_ (.c4 ?_ ?_ ?_ ?_ (.c4 ?_ ?_ ?_ ?_ (.c4 ?_ ?_ ?_ ?_ (.c4 ?_ ?_ ?_ ?_ (.cons ?_ (.nil)))))))) (fun a w bo bf F q a0=>?_)
     ·refine Qz J fun a w F q C=>?_;exact aj q J J fun a q=>qe q F
     ·refine Qz1 0 J fun a w F q C=>?_;refine id (bl (i:=deep) (j:=1) q J J J fun a q=>?_);exact qdone J q F (by first |(rw [decide_eq_true T] <;> rfl) |(rw [decide_eq_false T] <;> rfl) |(rw [T] <;> rfl) | simp [T])
     ·refine Qz1 1 J fun a w F q C=>?_;refine id (aj q J J fun a q=>?_);exact qdone J q F (by first |(rw [decide_eq_true T] <;> rfl) |(rw [decide_eq_false T] <;> rfl) |(rw [T] <;> rfl) | simp [T])
     ·intro a w I G F q C;subst G;obtain⟨_,q,rfl⟩:=C.g q 2 J;rw [if_pos (aB J q J J J)];exact aj q J J fun a q=>qe q F
     ·intro a w I G F q C;subst G;obtain⟨_,q,rfl⟩:=C.g q 3 J;obtain⟨_,q,rfl⟩:=C.g q 2 J;rw [if_pos (aB J q J J J)];refine id (bl (i:=left) (j:=1) q J J J fun a q=>?_);exact qdone J q F (by first |(rw [decide_eq_true O] <;> rfl) |(rw [decide_eq_false O] <;> rfl) |(rw [O] <;> rfl) | simp [O])
     ·refine Qz1 2 J fun a w F q C=>?_;obtain⟨_,q,rfl⟩:=C.g q 4 J;refine id (am q J J J fun a q=>?_);exact qdone J q F (by first |(rw [decide_eq_true O] <;> rfl) |(rw [decide_eq_false O] <;> rfl) |(rw [O] <;> rfl) | simp [O])
     ·refine Qz1 5 J fun a w F q C=>?_;refine id (aj q J J fun a q=>?_);exact qdone J q F (by first |(rw [decide_eq_true O] <;> rfl) |(rw [decide_eq_false O] <;> rfl) |(rw [O] <;> rfl) | simp [O])
     ·intro a w I G F q C;subst G;obtain⟨_,q,rfl⟩:=C.g q 6 J;rw [if_pos (aB J q J J J)];exact ac (f:=0) (o2:=0) T41 T3 J J J J q J J fun a q=>qe q F
     ·intro a w I G F q C;subst G;obtain⟨_,q,rfl⟩:=C.g q 7 J;obtain⟨_,q,rfl⟩:=C.g q 6 J;rw [if_pos (aB J q J J J)];exact af (v:=(iV t.kind)) T3 J q J (F.blkL 1 J) J J fun a q=>qe q F
     ·intro a w I G F q C;subst G;obtain⟨_,q,rfl⟩:=C.g q 8 J;obtain⟨_,q,rfl⟩:=C.g q 6 J;rw [if_pos (aB J q J J J)];refine id (bl (i:=t.kind) (j:=1) q J J J fun a q=>?_);exact qdone J q F (by first |(rw [decide_eq_true X] <;> rfl) |(rw [decide_eq_false X] <;> rfl) |(rw [X] <;> rfl) | simp [X])
     ·refine Qz1 6 J fun a w F q C=>?_;obtain⟨_,q,rfl⟩:=C.g q 9 J;refine id (am q J J J fun a q=>?_);exact qdone J q F (by first |(rw [decide_eq_true X] <;> rfl) |(rw [decide_eq_false X] <;> rfl) |(rw [X] <;> rfl) | simp [X])
     ·refine Qz1 10 J fun a w F q C=>?_;refine id (aj q J J fun a q=>?_);exact qdone J q F (by first |(rw [decide_eq_true X] <;> rfl) |(rw [decide_eq_false X] <;> rfl) |(rw [X] <;> rfl) | simp [X])
     ·intro a w I G F q C;subst G;obtain⟨_,q,rfl⟩:=C.g q 11 J;rw [if_pos (aB J q J J J)];exact ac (f:=0) (o2:=0) T41 T3 J J J J q J J fun a q=>qe q F
     ·intro a w I G F q C;subst G;obtain⟨_,q,rfl⟩:=C.g q 12 J;obtain⟨_,q,rfl⟩:=C.g q 11 J;rw [if_pos (aB J q J J J)];exact af (v:=(iV t.kind)) T3 J q J (F.blkL 1 J) J J fun a q=>qe q F
     ·intro a w I G F q C;subst G;obtain⟨_,q,rfl⟩:=C.g q 13 J;obtain⟨_,q,rfl⟩:=C.g q 11 J;rw [if_pos (aB J q J J J)];refine id (cT (i:=t.kind) (j:=6) q J J J fun a q=>?_);exact qdone J q F (by first |(rw [decide_eq_true Y] <;> rfl) |(rw [decide_eq_false Y] <;> rfl) |(rw [Y] <;> rfl) | simp [Y])
     ·refine Qz1 11 J fun a w F q C=>?_;obtain⟨_,q,rfl⟩:=C.g q 14 J;refine id (am q J J J fun a q=>?_);exact qdone J q F (by first |(rw [decide_eq_true Y] <;> rfl) |(rw [decide_eq_false Y] <;> rfl) |(rw [Y] <;> rfl) | simp [Y])
     ·refine Qz1 15 J fun a w F q C=>?_;refine id (aj q J J fun a q=>?_);exact qdone J q F (by first |(rw [decide_eq_true Y] <;> rfl) |(rw [decide_eq_false Y] <;> rfl) |(rw [Y] <;> rfl) | simp [Y])
     ·intro a w I G F q C;subst G;obtain⟨_,q,rfl⟩:=C.g q 16 J;rw [if_pos (aB J q J J J)];exact ac (f:=0) (o2:=0) T41 T3 J J J J q J J fun a q=>qe q F
     ·intro a w I G F q C;subst G;obtain⟨_,q,rfl⟩:=C.g q 17 J;obtain⟨_,q,rfl⟩:=C.g q 16 J;rw [if_pos (aB J q J J J)];exact af (v:=(iV t.kind)) T3 J q J (F.blkL 1 J) J J fun a q=>qe q F
     ·intro a w I G F q C;subst G;obtain⟨_,q,rfl⟩:=C.g q 18 J;obtain⟨_,q,rfl⟩:=C.g q 16 J;rw [if_pos (aB J q J J J)];exact o_indexArr (j:=(Int.toNat t.kind)) T200.und T199 q J J j0 j0 J fun a q=>qe q F
     ·intro a w I G F q C;subst G;obtain⟨_,q,rfl⟩:=C.g q 19 J;obtain⟨_,q,rfl⟩:=C.g q 16 J;rw [if_pos (aB J q J J J)];exact af (v:=(.func (.func (fnum t.kind)) #[] #[.pointer (some ⟨bb,0,none⟩)])) T199 J q J (F.blkL 0 J) (fcell j0 j0) J fun a q=>qe q F
     ·intro a w I G F q C;subst G;obtain⟨_,q,rfl⟩:=C.g q 16 J;rw [if_pos (aB J q J J J)];exact al (vs:=(tL t A c)) T41 J q J (F.blkL 1 J) J (ag J) J fun a q=>qe q F
     ·intro a w I G F q C;subst G;obtain⟨_,q,rfl⟩:=C.g q 20 J;obtain⟨_,q,rfl⟩:=C.g q 21 J;obtain⟨_,q,rfl⟩:=C.g q 16 J;rw [if_pos (aB J q J J J)];obtain⟨bx,bw,b7,b6,b8⟩:=ffunc (k:=t.kind);refine id (br b7 b6 b8 (q.evs J) q J J (c_form F.inv.nil aw hr t.kind) ?_);rintro e w ⟨rfl,b4⟩;refine⟨_,rfl,fun a q=>?_⟩;have F:=F.call b4;exact qe q F
     ·intro a w I G F q C;subst G;obtain⟨_,q,rfl⟩:=C.g q 22 J;obtain⟨_,q,rfl⟩:=C.g q 16 J;rw [if_pos (aB J q J J J)];exact aS q J J fun a q=>qe q F
     ·refine Qz1 16 J fun a w F q C=>?_;obtain⟨_,q,rfl⟩:=C.g q 23 J;exact am q J J J fun a q=>qe q F
     subst bf;obtain⟨_,q,rfl⟩:=Dd q a0 24 J;refine aa (au (t:=36) q J (fun a5 q=>?_) (fun a5 q=>?_))
     ·refine ap q J (wp_seq (ab (Lm J q fun a q=>?_)));refine lin J (aL (i:=left) (j:=1) q J J J j0 fun a q=>?_);refine Ls J q fun a q=>?_;refine wpList_nil (aa (wp_ret (ai (ret1 J q J ?_))));refine⟨congrArg _ (congrArg _ ?_),F.plain.drop_all⟩
      first |(rw [<- a1,cd ht0,if_pos (by assumption)]) |(rw [cO,if_pos (by simp [badB,T,O,X,Y,a5])])
     ·refine ah q J (wp_skip (aa (wp_seq (ab (Ls J q fun a q=>?_)))));refine wpList_nil (aa (wp_seq (wp_seq (ab (lin J (ac (f:=3) (o2:=3) T41 T39 J J J J q J J fun a q=>?_))))));refine lin J (af (v:=(.slice A t.l.length c)) T39 J q J (F.blkL 1 J) J J fun a q=>?_);refine lin J (aI T39.und q J J fun a q=>?_);refine Lm J q fun a q=>?_;refine wpList_nil (aa (wp_block (a6 (fun bj a w=> ∃(k: Nat),∃(n: Int),bj=t.l.length - k/\Has [] a 63 [(1,(iV left)),(2,(iV deep)),(7,(pB a4)),(9,(iV n)),(40,(.slice A t.l.length c)),(41,(iV ((t.l.length: Nat): Int))),(42,(iV ((k: Nat): Int)))]/\Step w0 H [] w H [(some a4,(.cells #[.nilFunc,(.func (.func 170) #[] #[.pointer (some ⟨bb,0,none⟩)]),(.func (.func 171) #[] #[.pointer (some ⟨bb,0,none⟩)]),(.func (.func 172) #[] #[.pointer (some ⟨bb,0,none⟩)]),(.func (.func 174) #[] #[.pointer (some ⟨bb,0,none⟩)]),(.func (.func 175) #[] #[.pointer (some ⟨bb,0,none⟩)]),(.func (.func 176) #[] #[.pointer (some ⟨bb,0,none⟩)])] 200 (0,0))),(some a2,(.cells (tA t A c) 41 (0,0)))]/\(k<=t.l.length)/\(0<=n/\n<=left)/\(cntL left deep n (t.l.drop k)=cnt left deep t)) _ ⟨0,1,rfl,q.pk J,F,j0,j0,(by rw [cO,if_neg (by simp [badB,T,O,X,Y,a5])];rfl)⟩ ?_)));intro c7 a w b9;obtain⟨k,n,c6,q,F,c1,c5,a1⟩:=b9;refine wp_seq (ab (lin J (bl (i:=((k: Nat): Int)) (j:=((t.l.length: Nat): Int)) q J J J fun a q=>?_)));refine wpList_nil (aa (wp_seq (an (t:=43) q J (fun ar q=>?_) (fun ar q=>?_))))
      ·refine ap q J (wp_skip (aa (wp_seq (wp_block (wp_seq (ab ?_))))));obtain⟨Z,ax,bk,bv,bu,bz,a8,a9,ae,b1,b3,b5,bi⟩:=hr.get (j:=k) j0;refine lin J (aC (b:=ax) (o:=bk) (j:=k) T39.und T41 b1 q J J j0 j0 J fun a q=>?_);refine lin J (al (vs:=(tL Z a8 a9)) T41 J q J (F.blkH b3) J b5 J fun a q=>?_);refine lin J (aE (cs:=aZ) T41 F q J J fun bt a w F q=>?_);refine lin J (ak (cs':=(tA Z a8 a9)) T41 F (i:=0) J q J J J J J J fun a w F q=>?_);refine wpList_nil (aa (wp_seq (ab (Lm J q fun a q=>?_))));refine lin J (al (vs:=(tL Z a8 a9)) T41 J q J (F.blkL 0 J) J (ag J) J fun a q=>?_);refine Lm J q fun a q=>?_;refine Lm J q fun a q=>?_;refine lin J (cx (i:=left) (j:=n) q J J J j0 fun a q=>?_);refine Lm J q fun a q=>?_;refine lin J (cx (i:=deep) (j:=1) q J J J j0 fun a q=>?_);refine lin J (al (vs:= [.nilFunc,(.func (.func 170) #[] #[.pointer (some ⟨bb,0,none⟩)]),(.func (.func 171) #[] #[.pointer (some ⟨bb,0,none⟩)]),(.func (.func 172) #[] #[.pointer (some ⟨bb,0,none⟩)]),(.func (.func 174) #[] #[.pointer (some ⟨bb,0,none⟩)]),(.func (.func 175) #[] #[.pointer (some ⟨bb,0,none⟩)]),(.func (.func 176) #[] #[.pointer (some ⟨bb,0,none⟩)])]) T200 J q J (F.blkL 1 J) J (ag J) J fun a q=>?_);refine lin J (Cs func158 q J (ih _ _ ae _ _ _ _ _ _ _ aw j0 j0 bi F.inv.nil) F fun a w q F=>?_);have ad:=cS Z (left - n) (deep - 1) j0;refine lin J (aL (i:=n) (j:=(cnt (left - n) (deep - 1) Z)) q J J J j0 fun a q=>?_);refine Ls J q fun a q=>?_;refine wpList_nil (aa (wp_seq (ab (Lm J q fun a q=>?_))));refine Lm J q fun a q=>?_;refine lin J (cT (i:=(n+(cnt (left - n) (deep - 1) Z))) (j:=left) q J J J fun a q=>?_);refine wpList_nil (aa (an (t:=58) q J (fun av q=>?_) (fun av q=>?_)))
       ·refine ap q J (wp_seq (ab (Lm J q fun a q=>?_)));have ad:=cS Z (left - n) (deep - 1) j0;refine lin J (aL (i:=left) (j:=1) q J J J j0 fun a q=>?_);refine Ls J q fun a q=>?_;refine wpList_nil (aa (wp_ret (aA (ai (ai (aA (ai (ret1 J q J ?_))))))));refine⟨congrArg _ (congrArg _ ?_),F.plain.drop_all⟩
        first |(rw [<- a1,cd ae,if_pos (by assumption)]) |(rw [cO,if_pos (by simp [badB,T,O,X,Y,a5,ar,av])])
       ·refine ah q J (wp_skip (ao (aa (ab ?_))));have ad:=cS Z (left - n) (deep - 1) j0;refine lin J (aL (i:=((k: Nat): Int)) (j:=1) q J J J j0 fun a q=>?_);refine Lm J q fun a q=>?_;refine wpList_nil (aa (?_));have ad:=cS Z (left - n) (deep - 1) j0;rw [cd ae,if_neg (by assumption)] at a1;have F:=F.drop;exact⟨t.l.length - (k+1),by omega,(k+1),(n+cnt (left - n) (deep - 1) Z),rfl,q.pk J,F,j0,j0,a1⟩
      ·refine ah q J (wp_exit (az (az (aN (aa (wp_seq (ab (Lm J q fun a q=>?_))))))));refine Ls J q fun a q=>?_;refine wpList_nil (aa (wp_ret (ret1 J q J ?_)));refine⟨congrArg _ (congrArg _ ?_),F.plain.drop_all⟩;rw [<- a1,List.drop_of_length_le j0,cntL]
end Go.Vk.Tryz
namespace Go.Vk.Tryz
open Go.RowKit
theorem chkAll_drop {left: Int} {l: List Tm} {k: Nat} {u: Tm} (h: l[k]? =some u): chkAll left (l.drop k)=if left < cnt left 600 u then false else chkAll (left - cnt left 600 u) (l.drop (k+1)):=by
 have hk: k < l.length:=(List.getElem?_eq_some_iff.1 h).1;rw [List.drop_eq_getElem_cons hk,chkAll,(List.getElem?_eq_some_iff.1 h).2]
theorem c_CheckAll {w0: World} {H: PHeap} (hI: Inv w0 H []) {A: Option Addr} {c: Nat} {ts: List Tm} (hr: RowT H A c ts): Calls prog 139 #[(.slice A ts.length c)] w0 (Rs w0 H (iV (if chkAll 4000 ts then 0 else 3))):=by
 have C:=Step.refl hI;have av:=hr.len;refine enter [(.slice A ts.length c)] func139 J ntmps139 J fun a q=>?_;refine wp_seq (ab (Ls J q fun a q=>?_));refine wpList_nil (aa (wp_seq (ab (lin J (Co func157 q J (c_forms C.inv.nil) ?_)))));rintro e w ⟨Z,F,rfl,a5,X⟩;refine⟨_,rfl,fun a q=>?_⟩;have C:=C.call X;have hr:=hr.mono X.le;refine lin J (aE (cs:= #[.nilFunc,.nilFunc,.nilFunc,.nilFunc,.nilFunc,.nilFunc,.nilFunc]) T200 C q J J fun V a w C q=>?_);refine Ls J q fun a q=>?_;refine lin J (ak (cs':= #[.nilFunc,(.func (.func 170) #[] #[.pointer (some ⟨F,0,none⟩)]),(.func (.func 171) #[] #[.pointer (some ⟨F,0,none⟩)]),(.func (.func 172) #[] #[.pointer (some ⟨F,0,none⟩)]),(.func (.func 174) #[] #[.pointer (some ⟨F,0,none⟩)]),(.func (.func 175) #[] #[.pointer (some ⟨F,0,none⟩)]),(.func (.func 176) #[] #[.pointer (some ⟨F,0,none⟩)])]) T200 C (i:=0) J q J J J J J J fun a w C q=>?_);refine wpList_nil (aa (wp_seq (wp_seq (ab (Lm J q fun a q=>?_)))));refine lin J (aI T39.und q J J fun a q=>?_);refine Lm J q fun a q=>?_;refine wpList_nil (aa (wp_block ?_));refine a6 (fun ac a w=> ∃(k: Nat),∃(left: Int),ac=ts.length - k/\Has [] a 26 [(3,(iV left)),(4,(pB V)),(9,(.slice A ts.length c)),(10,(iV ((ts.length: Nat): Int))),(11,(iV ((k: Nat): Int)))]/\Step w0 H [] w Z [(some V,(.cells #[.nilFunc,(.func (.func 170) #[] #[.pointer (some ⟨F,0,none⟩)]),(.func (.func 171) #[] #[.pointer (some ⟨F,0,none⟩)]),(.func (.func 172) #[] #[.pointer (some ⟨F,0,none⟩)]),(.func (.func 174) #[] #[.pointer (some ⟨F,0,none⟩)]),(.func (.func 175) #[] #[.pointer (some ⟨F,0,none⟩)]),(.func (.func 176) #[] #[.pointer (some ⟨F,0,none⟩)])] 200 (0,0)))]/\(k<=ts.length)/\(0<=left/\left<=4000)/\(chkAll left (ts.drop k)=chkAll 4000 ts)) _ ⟨0,4000,rfl,q.pk J,C,by omega,by omega,rfl⟩ ?_;intro ax a w a8;obtain⟨k,left,aw,q,C,ar,au,I⟩:=a8;refine wp_seq (ab (lin J (bl (i:=((k: Nat): Int)) (j:=((ts.length: Nat): Int)) q J J J fun a q=>?_)));refine wpList_nil (aa (wp_seq (an (t:=12) q J (fun a1 q=>?_) (fun a1 q=>?_))))
 ·refine ap q J (wp_skip (aa (wp_seq (wp_block (wp_seq (ab ?_))))));obtain⟨G,a0,ad,aj,af,am,O,T,Y,a3,a4,a7,a9⟩:=hr.get (j:=k) j0;refine lin J (aC (b:=a0) (o:=ad) (j:=k) T39.und T41 a3 q J J j0 j0 J fun a q=>?_);refine lin J (al (vs:=(tL G O T)) T41 J q J (C.blkH a4) J a7 J fun a q=>?_);refine lin J (aE (cs:=aZ) T41 C q J J fun ae a w C q=>?_);refine lin J (ak (cs':=(tA G O T)) T41 C (i:=0) J q J J J J J J fun a w C q=>?_);refine wpList_nil (aa (wp_seq (ab (lin J (al (vs:=(tL G O T)) T41 J q J (C.blkL 0 J) J (ag J) J fun a q=>?_)))));refine Lm J q fun a q=>?_;refine lin J (al (vs:= [.nilFunc,(.func (.func 170) #[] #[.pointer (some ⟨F,0,none⟩)]),(.func (.func 171) #[] #[.pointer (some ⟨F,0,none⟩)]),(.func (.func 172) #[] #[.pointer (some ⟨F,0,none⟩)]),(.func (.func 174) #[] #[.pointer (some ⟨F,0,none⟩)]),(.func (.func 175) #[] #[.pointer (some ⟨F,0,none⟩)]),(.func (.func 176) #[] #[.pointer (some ⟨F,0,none⟩)])]) T200 J q J (C.blkL 1 J) J (ag J) J fun a q=>?_);refine lin J (Cs func158 q J (c_count _ _ _ _ _ _ _ _ a5 j0 j0 a9 C.inv.nil) C fun a w q C=>?_);have aq:=cS G left 600 j0;refine Ls J q fun a q=>?_;refine wpList_nil (aa (wp_seq (wp_seq (ab (Lm J q fun a q=>?_)))));refine Lm J q fun a q=>?_;refine lin J (cT (i:=(cnt left 600 G)) (j:=left) q J J J fun a q=>?_);refine wpList_nil (aa (an (t:=21) q J (fun a2 q=>?_) (fun a2 q=>?_)))
  ·refine ap q J (wp_seq (ab (Ls J q fun a q=>?_)));refine wpList_nil (aa (wp_ret (ai (aA (ai (ai (aA (ai (ret1 J q J ?_)))))))));refine⟨congrArg _ (congrArg _ ?_),C.plain.drop_all⟩;rw [show chkAll 4000 ts=false from by rw [<- I,chkAll_drop Y,if_pos (by assumption)]];rfl
  ·refine ah q J (wp_skip (aa (ab (Lm J q fun a q=>?_))));refine Lm J q fun a q=>?_;refine lin J (cx (i:=left) (j:=(cnt left 600 G)) q J J J j0 fun a q=>?_);refine Ls J q fun a q=>?_;refine wpList_nil (ao (aa (ab (lin J (aL (i:=((k: Nat): Int)) (j:=1) q J J J j0 fun a q=>?_)))));refine Lm J q fun a q=>?_;refine wpList_nil (aa (?_));rw [chkAll_drop Y,if_neg (by assumption)] at I;have C:=C.drop;exact⟨ts.length - (k+1),by omega,(k+1),(left - cnt left 600 G),rfl,q.pk J,C,j0,j0,I⟩
 ·refine ah q J (wp_exit (az (az (aN (aa (wp_seq (ab (Ls J q fun a q=>?_))))))));refine wpList_nil (aa (wp_ret (ret1 J q J ?_)));refine⟨congrArg _ (congrArg _ ?_),C.plain.drop_all⟩;rw [show chkAll 4000 ts=true from by rw [<- I,List.drop_of_length_le j0,chkAll]];rfl
theorem c_TCheck {w0: World} {H: PHeap} (hI: Inv w0 H []) {t: Tm} {A: Option Addr} {c: Nat} (hr: RowT H A c t.l): Calls prog 109 #[(tv t A c)] w0 (Rs w0 H (iV (if isTm t then 0 else 3))):=by
 have C:=Step.refl hI;refine enter [(tv t A c)] func109 J ntmps109 J fun a q=>?_;refine wp_seq (ab (lin J (aV (cs:=(tA t A c)) C q J J J fun X a w C q=>?_)));refine Ls J q fun a q=>?_;refine wpList_nil (aa (wp_seq (ab (lin J (al (vs:=(tL t A c)) T41 J q J (C.blkL 0 J) J (ag J) J fun a q=>?_)))));refine lin J (aY (vs:= [(0,(tv t A c))]) (cells:=(tL t A c)) T39.und T41 C q (q.evp J) J J J J fun G a w C q=>?_);obtain⟨F,C,T,I⟩:=C.give;have hr:=hr.mono T;have V: RowT F (some ⟨G,0,none⟩) 1 [t]:=RowT.of_lit ([⟨t,A,c⟩]: List TV) I (AllR.cons hr (AllR.nil _)) j3 J;have O:=c_CheckAll C.inv.nil V;refine lin J (Cs func139 q J (O) C fun a w q C=>?_);refine Ls J q fun a q=>?_;refine wpList_nil (aa (wp_ret (ret1 J q J ?_)));refine⟨congrArg _ ?_,C.plain.drop_all⟩;unfold isTm;rfl
end Go.Vk.Tryz
namespace Go.Vk.Tryz
open Go.RowKit
def IxI (w: World) (H: PHeap) (b: Bool) (e: Ending) (w': World): Prop:= ∃ r: Int,e=.returned (iV r)/\(0<=r↔b=true)/\Step w H [] w' H []
theorem c_Index {w0: World} {H: PHeap} (hI: Inv w0 H []) {A: Option Addr} {c: Nat} {xs: List Int} {n: Int} (hr: RdI w0 A c xs): Calls prog 112 #[(.slice A xs.length c),(iV n)] w0 (IxI w0 H (xs.contains n)):=by
 have C:=Step.refl hI;have a7:=hr.len;refine enter [(.slice A xs.length c),(iV n)] func112 J ntmps112 J fun a q=>?_;refine wp_seq (ab (Ls J q fun a q=>?_));refine wpList_nil (aa (wp_seq (wp_seq (ab (Lm J q fun a q=>?_)))));refine lin J (aI T26.und q J J fun a q=>?_);refine Lm J q fun a q=>?_;refine wpList_nil (aa (wp_block ?_));refine a6 (fun a0 a w=> ∃(k: Nat),a0=xs.length - k/\Has [] a 19 [(0,(.slice A xs.length c)),(1,(iV n)),(7,(iV ((xs.length: Nat): Int))),(8,(iV ((k: Nat): Int)))]/\Step w0 H [] w H []/\(k<=xs.length)/\(∀(j: Nat) (u: Int),j < k->xs[j]? =some u->decide (u=n)=false)) _ ⟨0,rfl,q.pk J,C,by omega,fun j u h=>by omega⟩ ?_;intro a9 a w Z;obtain⟨k,a8,q,C,a5,G⟩:=Z;refine wp_seq (ab (lin J (bl (i:=((k: Nat): Int)) (j:=((xs.length: Nat): Int)) q J J J fun a q=>?_)));refine wpList_nil (aa (wp_seq (an (t:=9) q J (fun h2 q=>?_) (fun h2 q=>?_))))
 ·refine ap q J (wp_skip (aa (wp_seq (wp_block (wp_seq (ab (Lm J q fun a q=>?_)))))));refine Ls J q fun a q=>?_;refine wpList_nil (aa (wp_seq (ab (Lm J q fun a q=>?_))));refine Lm J q fun a q=>?_;refine Lm J q fun a q=>?_;obtain⟨O,T,a1,a3,a2,a4,I,V,X,Y⟩:=hr.get (j:=k) j0;refine lin J (aC (b:=T) (o:=a1) (j:=k) T26.und T3 V q J J j0 j0 J fun a q=>?_);refine lin J (af (v:=(iV O)) T3 J q J (C.keep0 _ _ X) (by rw [Nat.mul_one];exact Y) J fun a q=>?_);refine lin J (bn (i:=n) (j:=O) q J J J fun a q=>?_);refine wpList_nil (aa (an (t:=16) q J (fun F q=>?_) (fun F q=>?_)))
  ·refine ap q J (wp_seq (ab (Lm J q fun a q=>?_)));refine Ls J q fun a q=>?_;refine wpList_nil (aa (wp_ret (aA (ai (ai (aA (ai (ret1 J q J ?_))))))));exact⟨(k: Int),rfl,⟨fun _=>by rw [<- any_contains];exact any_at I (decide_eq_true (Eq.symm (by simpa using F))),fun _=>by omega⟩,C.drop_all⟩
  ·refine ah q J (wp_skip (ao (aa (ab (lin J (aL (i:=((k: Nat): Int)) (j:=1) q J J J j0 fun a q=>?_))))));refine Lm J q fun a q=>?_;refine wpList_nil (aa (?_));exact⟨xs.length - (k+1),by omega,(k+1),rfl,q.pk J,C,j0,none_step G I (decide_eq_false (fun e=>by simp [e] at F))⟩
 ·refine ah q J (wp_exit (az (az (aN (aa (wp_seq (ab (Ls J q fun a q=>?_))))))));refine wpList_nil (aa (wp_ret (ret1 J q J ?_)));exact⟨-1,rfl,⟨fun h=>by omega,fun h=>by rw [<- any_contains,any_none G j0] at h;cases h⟩,C.drop_all⟩
theorem c_Contains {w0: World} {H: PHeap} (hI: Inv w0 H []) {A: Option Addr} {c: Nat} {xs: List Int} {n: Int} (hr: RdI w0 A c xs): Calls prog 65 #[(.slice A xs.length c),(iV n)] w0 (Rs w0 H (.bool (xs.contains n))):=by
 have C:=Step.refl hI;refine enter [(.slice A xs.length c),(iV n)] func65 J ntmps65 J fun a q=>?_;refine wp_seq (ab (Ls J q fun a q=>?_));refine wpList_nil (aa (wp_seq (ab (Lm J q fun a q=>?_))));refine Lm J q fun a q=>?_;refine lin J (Co func112 q J (c_Index C.inv.nil (hr.keep C.keep0)) ?_);rintro e w ⟨I,rfl,G,F⟩;refine⟨_,rfl,fun a q=>?_⟩;have C:=C.call F;refine lin J (eQ (i:=I) (j:=0) q J J J fun a q=>?_);refine Ls J q fun a q=>?_;refine wpList_nil (aa (wp_ret (ret1 J q J ?_)));refine⟨congrArg _ (congrArg _ ?_),C.plain.drop_all⟩;rw [Bool.eq_iff_iff,decide_eq_true_eq];exact G
theorem ints_eq {xs ys: List Int} {k: Nat} (hl: xs.length=ys.length) (h: ∀(j: Nat) (u v: Int),j < k->xs[j]? =some u->ys[j]? =some v->u=v) (hk: xs.length<=k): xs=ys:=by
 apply List.ext_getElem?
 intro j
 by_cases q: j < xs.length
 ·have h1:=List.getElem?_eq_getElem q;have h2:=List.getElem?_eq_getElem (show j < ys.length by omega);rw [h1,h2,h j _ _ j0 h1 h2]
 ·rw [List.getElem?_eq_none j0,List.getElem?_eq_none j0]
theorem ints_step {xs ys: List Int} {k: Nat} {x y: Int} (h: ∀(j: Nat) (u v: Int),j < k->xs[j]? =some u->ys[j]? =some v->u=v) (hx: xs[k]? =some x) (hy: ys[k]? =some y) (e: x=y): ∀(j: Nat) (u v: Int),j < k+1->xs[j]? =some u->ys[j]? =some v->u=v:=by
 intro j u v C hu q
 rcases Nat.lt_succ_iff_lt_or_eq.1 C with h1 | h1
 ·exact h j u v h1 hu q
 ·subst h1;rw [hx] at hu;rw [hy] at q;rw [<- Option.some.inj hu,<- Option.some.inj q,e]
theorem c_EqualI {w0: World} {H: PHeap} (hI: Inv w0 H []) {A A': Option Addr} {c c': Nat} {xs ys: List Int} (hr: RdI w0 A c xs) (hr': RdI w0 A' c' ys): Calls prog 21 #[(.slice A xs.length c),(.slice A' ys.length c')] w0 (Rs w0 H (.bool (decide (xs=ys)))):=by
 have C:=Step.refl hI;have ay:=hr.len;have b1:=hr'.len;refine enter [(.slice A xs.length c),(.slice A' ys.length c')] func21 J ntmps21 J fun a q=>?_;refine wp_seq (ab (Ls J q fun a q=>?_));refine wpList_nil (aa (wp_seq (wp_seq (ab (Lm J q fun a q=>?_)))));refine lin J (aI T26.und q J J fun a q=>?_);refine Lm J q fun a q=>?_;refine lin J (aI T26.und q J J fun a q=>?_);refine lin J (bE (i:=((xs.length: Nat): Int)) (j:=((ys.length: Nat): Int)) q J J J fun a q=>?_);refine wpList_nil (aa (aQ (t:=10) q J (fun h1 q=>?_) (fun h1 q=>?_)))
 ·refine ap q J (wp_seq (ab (Ls J q fun a q=>?_)));refine wpList_nil (aa (wp_ret (ai (ret1 J q J ?_))));refine⟨congrArg _ (congrArg _ ?_),C.plain.drop_all⟩;exact(decide_eq_false (fun e=>by subst e;simp at h1)).symm
 ·refine ah q J (wp_skip (aa (wp_seq (wp_seq (ab (Lm J q fun a q=>?_))))));refine lin J (aI T26.und q J J fun a q=>?_);refine Lm J q fun a q=>?_;refine wpList_nil (aa (wp_block ?_));refine a6 (fun ag a w=> ∃(k: Nat),ag=xs.length - k/\Has [] a 26 [(0,(.slice A xs.length c)),(1,(.slice A' ys.length c')),(12,(iV ((xs.length: Nat): Int))),(13,(iV ((k: Nat): Int)))]/\Step w0 H [] w H []/\(k<=xs.length)/\(∀(j: Nat) (u v: Int),j < k->xs[j]? =some u->ys[j]? =some v->u=v)) _ ⟨0,rfl,q.pk J,C,by omega,fun j u v h=>by omega⟩ ?_;intro b3 a w ad;obtain⟨k,b2,q,C,ax,X⟩:=ad;refine wp_seq (ab (lin J (bl (i:=((k: Nat): Int)) (j:=((xs.length: Nat): Int)) q J J J fun a q=>?_)));refine wpList_nil (aa (wp_seq (an (t:=14) q J (fun a2 q=>?_) (fun a2 q=>?_))))
  ·refine ap q J (wp_skip (aa (wp_seq (wp_block (wp_seq (ab (Lm J q fun a q=>?_)))))));refine Ls J q fun a q=>?_;refine wpList_nil (aa (wp_seq ?_));have aw:=C;obtain⟨G,O,a0,aq,al,au,Y,a3,a5,a8⟩:=hr.get (j:=k) j0;obtain⟨I,T,a1,ar,am,av,Z,a4,a7,a9⟩:=hr'.get (j:=k) j0;refine b0 bI [FcV (.slice A xs.length c),FcV (iV ((k: Nat): Int)),FcV (.pointer (some ⟨O,a0+k * 1,none⟩)),FcV (iV G),FcV (.slice A' ys.length c'),FcV (iV ((k: Nat): Int)),FcV (.pointer (some ⟨T,a1+k * 1,none⟩)),FcV (iV I),FcV (.bool (!decide (G=I)))] (N:=26) (E:= [(0,(.slice A xs.length c)),(1,(.slice A' ys.length c')),(5,(iV ((k: Nat): Int))),(12,(iV ((xs.length: Nat): Int))),(13,(iV ((k: Nat): Int)))]) mixed J Mq C (q.pk J) (.c4 ?_ ?_ ?_ ?_ (.c4 ?_ ?_ ?_ ?_ (.cons ?_ (.nil)))) (fun a w ak ae C q ac=>?_)
   ·refine Qz J fun a w C q F=>?_;refine id (aj q J J fun a q=>?_);exact qdone J q C (by first |(rw [decide_eq_true hr] <;> rfl) |(rw [decide_eq_false hr] <;> rfl) |(rw [hr] <;> rfl) | simp [hr])
   ·refine Qz J fun a w C q F=>?_;exact aj q J J fun a q=>qe q C
   ·refine Qz1 0 J fun a w C q F=>?_;obtain⟨_,q,rfl⟩:=F.g q 1 J;exact aC (b:=O) (o:=a0) (j:=k) T26.und T3 a3 q J J j0 j0 J fun a q=>qe q C
   ·refine Qz1 2 J fun a w C q F=>?_;exact af (v:=(iV G)) T3 J q J (C.keep0 _ _ a5) (by rw [Nat.mul_one];exact a8) J fun a q=>qe q C
   ·refine Qz J fun a w C q F=>?_;refine id (aj q J J fun a q=>?_);exact qdone J q C (by first |(rw [decide_eq_true hr'] <;> rfl) |(rw [decide_eq_false hr'] <;> rfl) |(rw [hr'] <;> rfl) | simp [hr'])
   ·refine Qz J fun a w C q F=>?_;exact aj q J J fun a q=>qe q C
   ·refine Qz1 4 J fun a w C q F=>?_;obtain⟨_,q,rfl⟩:=F.g q 5 J;exact aC (b:=T) (o:=a1) (j:=k) T26.und T3 a4 q J J j0 j0 J fun a q=>qe q C
   ·refine Qz1 6 J fun a w C q F=>?_;exact af (v:=(iV I)) T3 J q J (C.keep0 _ _ a7) (by rw [Nat.mul_one];exact a9) J fun a q=>qe q C
   ·refine Qz1 3 J fun a w C q F=>?_;obtain⟨_,q,rfl⟩:=F.g q 7 J;exact bE (i:=G) (j:=I) q J J J fun a q=>qe q C
   subst ae;obtain⟨_,q,rfl⟩:=Dd q ac 8 J;refine aa (aQ (t:=24) q J (fun V q=>?_) (fun V q=>?_))
   ·refine ap q J (wp_seq (ab (Ls J q fun a q=>?_)));refine wpList_nil (aa (wp_ret (aA (ai (ai (aA (ai (ret1 J q J ?_))))))));refine⟨congrArg _ (congrArg _ ?_),C.plain.drop_all⟩;exact(decide_eq_false (fun e=>by subst e;rw [Y] at Z;simp_all)).symm
   ·refine ah q J (wp_skip (ao (aa (ab (lin J (aL (i:=((k: Nat): Int)) (j:=1) q J J J j0 fun a q=>?_))))));refine Lm J q fun a q=>?_;refine wpList_nil (aa (?_));exact⟨xs.length - (k+1),by omega,(k+1),rfl,q.pk J,C,j0,ints_step X Y Z (by simpa using V)⟩
  ·refine ah q J (wp_exit (az (az (aN (aa (wp_seq (ab (Ls J q fun a q=>?_))))))));refine wpList_nil (aa (wp_ret (ret1 J q J ?_)));refine⟨congrArg _ (congrArg _ ?_),C.plain.drop_all⟩;exact(decide_eq_true (ints_eq j0 X j0)).symm
theorem c_Same: ∀(ta tb: Tm) (A: Option Addr) (c: Nat) (A': Option Addr) (c': Nat) (w0: World) (H: PHeap),RowT H A c ta.l->RowT H A' c' tb.l->Inv w0 H []->Calls prog 26 #[(tv ta A c),(tv tb A' c')] w0 (Rs w0 H (.bool (eqT ta tb))):=by
 refine Tm.ind fun ta ih=>?_;intro tb A c A' c' w0 H hr G b1;have C:=Step.refl b1;have bq:=hr.len;have br:=G.len;refine enter [(tv ta A c),(tv tb A' c')] func26 J ntmps26 J fun a q=>?_;refine wp_seq (ab (lin J (aV (cs:=(tA ta A c)) C q J J J fun T a w C q=>?_)));refine lin J (aV (cs:=(tA tb A' c')) C q J J J fun V a w C q=>?_);refine Ls J q fun a q=>?_;refine wpList_nil (aa (wp_seq (wp_seq (cN (D:= []) (N:=55) (E:= [(2,(pB T)),(3,(pB V)),(34,(.bool ((((!decide (ta.kind=tb.kind))||(!decide (ta.n=tb.n)))||(!decide (ta.s=tb.s)))||(!decide (((ta.l.length: Nat): Int)=((tb.l.length: Nat): Int))))))]) (fun a q=>?_) ?_))));rotate_left
 ·refine lin J (ac (f:=0) (o2:=0) T41 T3 J J J J q J J fun a q=>?_);refine lin J (af (v:=(iV ta.kind)) T3 J q J (C.blkL 1 J) J J fun a q=>?_);refine lin J (ac (f:=0) (o2:=0) T41 T3 J J J J q J J fun a q=>?_);refine lin J (af (v:=(iV tb.kind)) T3 J q J (C.blkL 0 J) J J fun a q=>?_);refine lin J (bE (i:=ta.kind) (j:=tb.kind) q J J J fun a q=>?_);refine Lm J q fun a q=>?_;refine aQ (t:=12) q J (fun X q=>?_) (fun X q=>?_)
  ·refine Lf J q J J fun a q=>?_;refine Lf J q J J fun a q=>?_;refine Lf J q J J fun a q=>?_;refine Lf J q J J fun a q=>?_;refine Lf J q J J fun a q=>?_;refine lin J (aq q J J J fun a q=>?_);refine Lm J q fun a q=>?_;refine Lf J q J J fun a q=>?_;refine Lf J q J J fun a q=>?_;refine Lf J q J J fun a q=>?_;refine Lf J q J J fun a q=>?_;refine Lf J q J J fun a q=>?_;refine lin J (aq q J J J fun a q=>?_);refine Lm J q fun a q=>?_;refine Lf J q J J fun a q=>?_;refine Lf J q J J fun a q=>?_;refine Lf J q J J fun a q=>?_;refine Lf J q J J fun a q=>?_;refine Lf J q J J fun a q=>?_;refine Lf J q J J fun a q=>?_;refine Lf J q J J fun a q=>?_;refine lin J (aq q J J J fun a q=>?_);exact wpList_nil ⟨rfl,rfl,Has.cons q J (Has.cons q J (Has.cons q (by simp [lk,Nat.beq,X]) (q.nil)))⟩
  ·refine ae J q J J J (ac (f:=1) (o2:=1) T41 T3 J J J J q J J fun a q=>?_);refine ae J q J J J (af (v:=(iV ta.n)) T3 J q J (C.blkL 1 J) J J fun a q=>?_);refine ae J q J J J (ac (f:=1) (o2:=1) T41 T3 J J J J q J J fun a q=>?_);refine ae J q J J J (af (v:=(iV tb.n)) T3 J q J (C.blkL 0 J) J J fun a q=>?_);refine ae J q J J J (bE (i:=ta.n) (j:=tb.n) q J J J fun a q=>?_);refine lin J (am q J J J fun a q=>?_);refine Lm J q fun a q=>?_;refine aQ (t:=19) q J (fun Y q=>?_) (fun Y q=>?_)
   ·refine Lf J q J J fun a q=>?_;refine Lf J q J J fun a q=>?_;refine Lf J q J J fun a q=>?_;refine Lf J q J J fun a q=>?_;refine Lf J q J J fun a q=>?_;refine lin J (aq q J J J fun a q=>?_);refine Lm J q fun a q=>?_;refine Lf J q J J fun a q=>?_;refine Lf J q J J fun a q=>?_;refine Lf J q J J fun a q=>?_;refine Lf J q J J fun a q=>?_;refine Lf J q J J fun a q=>?_;refine Lf J q J J fun a q=>?_;refine Lf J q J J fun a q=>?_;refine lin J (aq q J J J fun a q=>?_);exact wpList_nil ⟨rfl,rfl,Has.cons q J (Has.cons q J (Has.cons q (by simp [lk,Nat.beq,X,Y]) (q.nil)))⟩
   ·refine ae J q J J J (ac (f:=2) (o2:=2) T41 T9 J J J J q J J fun a q=>?_);refine ae J q J J J (af (v:=(.string ta.s)) T9 J q J (C.blkL 1 J) J J fun a q=>?_);refine ae J q J J J (ac (f:=2) (o2:=2) T41 T9 J J J J q J J fun a q=>?_);refine ae J q J J J (af (v:=(.string tb.s)) T9 J q J (C.blkL 0 J) J J fun a q=>?_);refine ae J q J J J (o_nes q J J J fun a q=>?_);refine lin J (am q J J J fun a q=>?_);refine Lm J q fun a q=>?_;refine aQ (t:=26) q J (fun a3 q=>?_) (fun a3 q=>?_)
    ·refine Lf J q J J fun a q=>?_;refine Lf J q J J fun a q=>?_;refine Lf J q J J fun a q=>?_;refine Lf J q J J fun a q=>?_;refine Lf J q J J fun a q=>?_;refine Lf J q J J fun a q=>?_;refine Lf J q J J fun a q=>?_;refine lin J (aq q J J J fun a q=>?_);exact wpList_nil ⟨rfl,rfl,Has.cons q J (Has.cons q J (Has.cons q (by simp [lk,Nat.beq,X,Y,a3]) (q.nil)))⟩
    ·refine ae J q J J J (ac (f:=3) (o2:=3) T41 T39 J J J J q J J fun a q=>?_);refine ae J q J J J (af (v:=(.slice A ta.l.length c)) T39 J q J (C.blkL 1 J) J J fun a q=>?_);refine ae J q J J J (aI T39.und q J J fun a q=>?_);refine ae J q J J J (ac (f:=3) (o2:=3) T41 T39 J J J J q J J fun a q=>?_);refine ae J q J J J (af (v:=(.slice A' tb.l.length c')) T39 J q J (C.blkL 0 J) J J fun a q=>?_);refine ae J q J J J (aI T39.und q J J fun a q=>?_);refine ae J q J J J (bE (i:=((ta.l.length: Nat): Int)) (j:=((tb.l.length: Nat): Int)) q J J J fun a q=>?_);refine lin J (am q J J J fun a q=>?_);exact wpList_nil ⟨rfl,rfl,Has.cons q J (Has.cons q J (Has.cons q (by simp [lk,Nat.beq,X,Y,a3]) (q.nil)))⟩
 refine aa (au (t:=34) q J (fun Z q=>?_) (fun Z q=>?_))
 ·refine ap q J (wp_seq (ab (Ls J q fun a q=>?_)));refine wpList_nil (aa (wp_ret (ai (ret1 J q J ?_))));refine⟨congrArg _ (congrArg _ ?_),C.plain.drop_all⟩;rw [f7]
  symm
  rw [<- f7];exact eqT_false.2 (fun e=>by subst e;simp at Z)
 ·have bp: ta.l.length=tb.l.length:=by have a1:=Z;simp at a1;omega
  refine ah q J (wp_skip (aa (wp_seq (wp_seq (ab (Ls J q fun a q=>?_))))));refine wpList_nil (aa (wp_block ?_));refine a6 (fun bc a w=> ∃(k: Nat),bc=ta.l.length - k/\Has [] a 55 [(2,(pB T)),(3,(pB V)),(5,(iV ((k: Nat): Int)))]/\Step w0 H [] w H [(some V,(.cells (tA tb A' c') 41 (0,0))),(some T,(.cells (tA ta A c) 41 (0,0)))]/\(k<=ta.l.length)/\(eqL (ta.l.drop k) (tb.l.drop k)=eqL ta.l tb.l)) _ ⟨0,rfl,q.pk J,C,by omega,rfl⟩ ?_;intro bu a w b7;obtain⟨k,bt,q,C,bo,a0⟩:=b7;refine wp_seq (wp_seq (ab (Lm J q fun a q=>?_)));refine lin J (ac (f:=3) (o2:=3) T41 T39 J J J J q J J fun a q=>?_);refine lin J (af (v:=(.slice A ta.l.length c)) T39 J q J (C.blkL 1 J) J J fun a q=>?_);refine lin J (aI T39.und q J J fun a q=>?_);refine lin J (bl (i:=((k: Nat): Int)) (j:=((ta.l.length: Nat): Int)) q J J J fun a q=>?_);refine wpList_nil (aa (an (t:=39) q J (fun aw q=>?_) (fun aw q=>?_)))
  ·refine ap q J (wp_skip (aa (wp_seq (wp_block (wp_seq ?_)))));have bn:=C;obtain⟨I,a8,ar,bi,bg,bk,a5,ad,a4,ax,b2,b4,b9⟩:=hr.get (j:=k) j0;obtain⟨O,a9,av,bj,bh,bm,a7,ag,ak,ay,b3,b5,ba⟩:=G.get (j:=k) j0;refine b0 bI [FcV (.pointer (some ⟨T,3,none⟩)),FcV (.slice A ta.l.length c),FcV (iV ((k: Nat): Int)),FcV (.pointer (some ⟨a8,ar+k * 4,none⟩)),FcV (tv I a5 ad),FcV (.pointer (some ⟨V,3,none⟩)),FcV (.slice A' tb.l.length c'),FcV (iV ((k: Nat): Int)),FcV (.pointer (some ⟨a9,av+k * 4,none⟩)),FcV (tv O a7 ag),FcV (.bool (eqT I O)),FcV (.bool (eqT I O))] (N:=55) (E:= [(2,(pB T)),(3,(pB V)),(5,(iV ((k: Nat): Int)))]) mixed J Mq C (q.pk J) (.c4 ?_ ?_ ?_ ?_ (.c4 ?_ ?_ ?_ ?_ (.c4 ?_ ?_ ?_ ?_ (.nil)))) (fun a w bf b8 C q b6=>?_)
   ·refine Qz J fun a w C q F=>?_;exact ac (f:=3) (o2:=3) T41 T39 J J J J q J J fun a q=>qe q C
   ·refine Qz1 0 J fun a w C q F=>?_;refine id (af (v:=(.slice A ta.l.length c)) T39 J q J (C.blkL 1 J) J J fun a q=>?_);exact qdone J q C (by first |(rw [decide_eq_true hr] <;> rfl) |(rw [decide_eq_false hr] <;> rfl) |(rw [hr] <;> rfl) | simp [hr])
   ·refine Qz J fun a w C q F=>?_;exact aj q J J fun a q=>qe q C
   ·refine Qz1 1 J fun a w C q F=>?_;obtain⟨_,q,rfl⟩:=F.g q 2 J;exact aC (b:=a8) (o:=ar) (j:=k) T39.und T41 ax q J J j0 j0 J fun a q=>qe q C
   ·refine Qz1 3 J fun a w C q F=>?_;exact al (vs:=(tL I a5 ad)) T41 J q J (C.blkH b2) J b4 J fun a q=>qe q C
   ·refine Qz J fun a w C q F=>?_;exact ac (f:=3) (o2:=3) T41 T39 J J J J q J J fun a q=>qe q C
   ·refine Qz1 5 J fun a w C q F=>?_;refine id (af (v:=(.slice A' tb.l.length c')) T39 J q J (C.blkL 0 J) J J fun a q=>?_);exact qdone J q C (by first |(rw [decide_eq_true G] <;> rfl) |(rw [decide_eq_false G] <;> rfl) |(rw [G] <;> rfl) | simp [G])
   ·refine Qz J fun a w C q F=>?_;exact aj q J J fun a q=>qe q C
   ·refine Qz1 6 J fun a w C q F=>?_;obtain⟨_,q,rfl⟩:=F.g q 7 J;exact aC (b:=a9) (o:=av) (j:=k) T39.und T41 ay q J J j0 j0 J fun a q=>qe q C
   ·refine Qz1 8 J fun a w C q F=>?_;exact al (vs:=(tL O a7 ag)) T41 J q J (C.blkH b3) J b5 J fun a q=>qe q C
   ·refine Qz1 4 J fun a w C q F=>?_;obtain⟨_,q,rfl⟩:=F.g q 9 J;exact Cs func26 q J (ih _ _ a4 _ _ _ _ _ _ _ b9 ba C.inv.nil) C fun a w q C=>qe q C
   ·refine Qz1 10 J fun a w C q F=>?_;exact aH q J J fun a q=>qe q C
   subst b8;obtain⟨_,q,rfl⟩:=Dd q b6 11 J;refine aa (wp_seq (ab (Lm J q fun a q=>?_)));refine lin J (aS q J J fun a q=>?_);refine wpList_nil (aa (au (t:=54) q J (fun a2 q=>?_) (fun a2 q=>?_)))
   ·refine ap q J (wp_seq (ab (Ls J q fun a q=>?_)));refine wpList_nil (aa (wp_ret (aA (ai (ai (aA (ai (ret1 J q J ?_))))))));refine⟨congrArg _ (congrArg _ ?_),C.plain.drop_all⟩;rw [f7];rw [<- a0,eqL_drop a4 ak,show eqT I O=false from by simpa using a2];simp
   ·refine ah q J (wp_skip (ao (aa (ab (Lm J q fun a q=>?_)))));refine lin J (aL (i:=((k: Nat): Int)) (j:=1) q J J J j0 fun a q=>?_);refine Ls J q fun a q=>?_;refine wpList_nil (aa (?_));rw [eqL_drop a4 ak,show eqT I O=true from by simpa using a2,Bool.true_and] at a0;exact⟨ta.l.length - (k+1),by omega,(k+1),rfl,q.pk J,C,j0,a0⟩
  ·refine ah q J (wp_exit (az (az (aN (aa (wp_seq (ab (Ls J q fun a q=>?_))))))));refine wpList_nil (aa (wp_ret (ret1 J q J ?_)));refine⟨congrArg _ (congrArg _ ?_),C.plain.drop_all⟩;rw [f7];rw [<- a0,eqL_end j0 j0];have a1:=Z;simp at a1;simp [a1]
end Go.Vk.Tryz
namespace Go.Vk
open Go.RowKit
def RowG {α: Type} (sz: Nat) (f: α->List Value) (H: PHeap) (A: Option Addr) (c: Nat) (xs: List α): Prop:=
 xs.length<=c/\xs.length<=1048576/\∃(b off e: Nat) (cs: Array Value) (fz: Nat × Nat),(xs≠[]->A=some ⟨b,off,none⟩/\H b=some (.cells cs e fz))/\∀ j x,xs[j]? =some x->∀ i u,(f x)[i]? =some u->cs[off+j * sz+i]? =some u
theorem RowG.mono {α: Type} {sz: Nat} {f: α->List Value} {H H': PHeap} {A: Option Addr} {c: Nat} {xs: List α} (h: RowG sz f H A c xs) (hl: Le H H'): RowG sz f H' A c xs:=by
 obtain⟨h1,h2,b,off,e,cs,fz,h3,h4⟩:=h;exact⟨h1,h2,b,off,e,cs,fz,fun hn=>⟨(h3 hn).1,hl _ _ (h3 hn).2⟩,h4⟩
theorem RowG.len {α: Type} {sz: Nat} {f: α->List Value} {H: PHeap} {A: Option Addr} {c: Nat} {xs: List α} (h: RowG sz f H A c xs): xs.length<=c/\xs.length<=1048576:=⟨h.1,h.2.1⟩
theorem RowG.get {α: Type} {sz: Nat} {f: α->List Value} {H: PHeap} {A: Option Addr} {c: Nat} {xs: List α} (h: RowG sz f H A c xs) {j: Nat} (hj: j < xs.length) :
  ∃(x: α) (b off e: Nat) (cs: Array Value) (fz: Nat × Nat),xs[j]? =some x/\A=some ⟨b,off,none⟩/\H b=some (.cells cs e fz)/\∀ i u,(f x)[i]? =some u->cs[off+j * sz+i]? =some u:=by
 obtain⟨_,_,b,off,e,cs,fz,h3,h4⟩:=h;obtain⟨h5,h6⟩:=h3 (fun e=>by subst e;simp at hj);exact⟨xs[j],b,off,e,cs,fz,List.getElem?_eq_getElem hj,h5,h6,h4 j _ (List.getElem?_eq_getElem hj)⟩
end Go.Vk
namespace Go.Vk
def Pth (rk: Int->Nat) (st todo: List Int): Prop:= ∀ u: Int,0<=u->mrk st u=1->∃ pre post,todo=pre++u::post/\∀ x ∈ pre,rk x < rk u
theorem mrk_set {st: List Int} {v u c: Int} (hv: v.toNat < st.length) (h0: 0<=v) (h1: 0<=u): mrk (st.set v.toNat c) u=if u=v then c else mrk st u:=by
 unfold mrk;rw [List.getD_eq_getElem?_getD,List.getElem?_set,List.getD_eq_getElem?_getD]
 by_cases h: u=v
 ·subst h;rw [if_pos J,if_pos hv,if_pos J];rfl
 ·rw [if_neg j0,if_neg h]
theorem Pth.zero {rk: Int->Nat} {st: List Int} (h: Pth rk st []) (t: List Int): Pth rk st t:=fun u hu h1=>by
 obtain⟨pre,post,h2,_⟩:=h u hu h1
 cases pre <;> cases h2
def Eqs (σ: Int->Tm) (ps: List (Tm × Tm)): Prop:= ∀ p ∈ ps,app σ p.1=app σ p.2
theorem Eqs.cons {σ: Int->Tm} {a b: Tm} {ps: List (Tm × Tm)}: Eqs σ ((a,b)::ps)↔app σ a=app σ b/\Eqs σ ps:=by
 constructor
 ·intro h;exact⟨h _ List.mem_cons_self,fun p hp=>h p (List.mem_cons_of_mem _ hp)⟩
 ·rintro⟨h1,h2⟩ p hp
  rcases List.mem_cons.1 hp with rfl | hp
  ·exact h1
  ·exact h2 p hp
theorem Eqs.app {σ: Int->Tm} {ps qs: List (Tm × Tm)}: Eqs σ (ps++qs)↔Eqs σ ps/\Eqs σ qs:=by
 constructor
 ·intro h;exact⟨fun p hp=>h p (List.mem_append_left _ hp),fun p hp=>h p (List.mem_append_right _ hp)⟩
 ·rintro⟨h1,h2⟩ p hp
  rcases List.mem_append.1 hp with hp | hp
  ·exact h1 p hp
  ·exact h2 p hp
theorem Sol.step {n: Nat} {B: List Tm} (hG: Gst n B) {σ: Int->Tm} (hs: Sol B σ) {a: Tm} (ha: okT n a=true): app σ (Vk.follow B a)=app σ a:=hs.follow hG.vis (okT_vis hG ha)
end Go.Vk
namespace Go.Vk
def Can (B: List Tm) (σ: Int->Tm): Prop:=Sol B σ/\∀ i: Int,(i < 0\/¬ bound B i.toNat)->σ i=vr i
theorem opn_free {B: List Tm} {v: Int} (h: opn B v=true): ¬ bound B v.toNat:=by
 rintro⟨t,h1,h2⟩;unfold opn at h;rw [decide_eq_true_eq,getD_some h1] at h;exact h2 h
theorem Can.opn {B: List Tm} {σ: Int->Tm} (h: Can B σ) {v: Int} (ho: opn B v=true): σ v=vr v:=h.2 v (.inr (opn_free ho))
section
variable {n: Nat} {B: List Tm}
end
theorem Sol.ext {B: List Tm} {m: Int} {σ: Int->Tm}: Sol (extS B m) σ↔Sol B σ:=by
 unfold extS
 constructor
 ·intro h i t hi hk;refine h i t ?_ hk;rw [List.getElem?_append_left (List.getElem?_eq_some_iff.1 hi).1,hi]
 ·intro h i t hi hk;rw [List.getElem?_append] at hi
  split at hi
  ·exact h i t hi hk
  ·rw [List.getElem?_replicate] at hi
   split at hi
   ·obtain rfl:=Option.some.inj hi;exact absurd J hk
   ·cases hi
theorem Acyc.ext {B: List Tm} {m: Int} (h: Acyc B): Acyc (extS B m):=by
 obtain⟨rk,hr⟩:=h;refine⟨rk,fun i t hi hk j hj=>?_⟩;unfold extS at hi;rw [List.getElem?_append] at hi
 split at hi
 ·exact hr i t hi hk j hj
 ·rw [List.getElem?_replicate] at hi
  split at hi
  ·obtain rfl:=Option.some.inj hi;exact absurd J hk
  ·cases hi
end Go.Vk
namespace Go.Vk
theorem mem_occL {j: Int}: ∀ {ts: List Tm},j ∈ occL ts->∃ t,t ∈ ts/\j ∈ occ t
 | [],h=>by rw [occL] at h;cases h
 | t::ts,h=>by
  rw [occL] at h
  rcases List.mem_append.1 h with h | h
  ·exact⟨t,List.mem_cons_self,h⟩
  ·obtain⟨u,hu,hj⟩:=mem_occL h;exact⟨u,List.mem_cons_of_mem _ hu,hj⟩
theorem occL_mem {j: Int}: ∀ {ts: List Tm} {t: Tm},t ∈ ts->j ∈ occ t->j ∈ occL ts
 | u::ts,t,ht,hj=>by
  rw [occL]
  rcases List.mem_cons.1 ht with rfl | ht
  ·exact List.mem_append_left _ hj
  ·exact List.mem_append_right _ (occL_mem ht hj)
theorem vfree_out {B: List Tm} {stop: Int->Bool}: ∀(f: Nat) (todo: List Tm) (seen out: List Int) (b: Bool) (out': List Int),vfree B stop f todo seen out=(b,out')->∀ j ∈ out,j ∈ out':=by
 intro f
 induction f with
 | zero=>intro todo seen out b out' h j hj;simp only [vfree] at h;cases h;exact hj
 | succ f ih =>
  intro todo seen out b out' h j hj
  cases todo with
  | nil=>simp only [vfree] at h;cases h;exact hj
  | cons t ts =>
   simp only [vfree] at h
   repeat' split at h
   all_goals first | exact ih _ _ _ _ _ h j hj | exact ih _ _ _ _ _ h j (List.mem_append_left _ hj) |(cases h;exact List.mem_append_left _ hj)
theorem vfree_false {B: List Tm} (hB: AllV B.length B) (stop: Int->Bool): ∀(f: Nat) (todo: List Tm) (seen out out': List Int),AllV B.length todo->vmeas B todo seen < f->vfree B stop f todo seen out=(false,out')->
  ∃ S: Int->Prop,(∀ j ∈ seen,S j)/\(∀ t ∈ todo,∀ j ∈ occ t,S j)/\∀ j,S j->j ∈ seen\/((opn B j=true->stop j=false/\j ∈ out')/\(opn B j=false->∀ i ∈ occ (B.getD j.toNat default),S i)):=by
 intro f
 induction f with
 | zero=>intro todo seen out out' _ h;omega
 | succ f ih =>
  intro todo seen out out' hv hm h
  cases todo with
  | nil=>exact ⟨fun j=>j ∈ seen,fun j hj=>hj,fun t ht=>(by cases ht),fun j hj=>.inl hj⟩
  | cons t ts =>
   simp only [vfree] at h
   split at h
   ·rename_i hk
    have hr:=bY (hv t List.mem_cons_self) hk;have ho: ∀ j ∈ occ t,j=t.n:=fun j hj=>by rw [fG,if_pos hk] at hj;exact List.mem_singleton.1 hj
    split at h
    ·rename_i hs
     have:=vmeas_seen B t ts seen;obtain⟨S,h1,h2,h3⟩:=ih _ _ _ _ hv.tail j0 h;refine⟨S,h1,fun u hu j hj=>?_,h3⟩
     rcases List.mem_cons.1 hu with rfl | hu
     ·rw [ho j hj];exact h1 _ (by simpa using hs)
     ·exact h2 u hu j hj
    ·rename_i hs
     have hs': seen.contains t.n=false:=by simpa using hs
     split at h
     ·rename_i hop
      split at h
      ·cases h
      ·rename_i hst
       have:=d6 (B:=B) (t:=t) (ts:=ts) (seen:=seen);obtain⟨S,h1,h2,h3⟩:=ih _ _ _ _ hv.tail j0 h;refine⟨S,fun j hj=>h1 j (List.mem_cons_of_mem _ hj),fun u hu j hj=>?_,fun j hj=>?_⟩
       ·rcases List.mem_cons.1 hu with rfl | hu
        ·rw [ho j hj];exact h1 _ List.mem_cons_self
        ·exact h2 u hu j hj
       ·rcases h3 j hj with h4 | h4
        ·rcases List.mem_cons.1 h4 with rfl | h4
         ·refine .inr ⟨fun _=>⟨by simpa using hst,vfree_out _ _ _ _ _ _ h _ (List.mem_append_right _ (List.mem_singleton.2 J))⟩,fun h5=>?_⟩;rw [hop] at h5;cases h5
         ·exact .inl h4
        ·exact .inr h4
     ·rename_i hop
      have:=d5 (ts:=ts) hr hs';obtain⟨S,h1,h2,h3⟩:=ih _ _ _ _ (hB.bind hv hk) j0 h;refine⟨S,fun j hj=>h1 j (List.mem_cons_of_mem _ hj),fun u hu j hj=>?_,fun j hj=>?_⟩
      ·rcases List.mem_cons.1 hu with rfl | hu
       ·rw [ho j hj];exact h1 _ List.mem_cons_self
       ·exact h2 u (List.mem_cons_of_mem _ hu) j hj
      ·rcases h3 j hj with h4 | h4
       ·rcases List.mem_cons.1 h4 with rfl | h4
        ·exact .inr ⟨fun h5=>absurd h5 hop,fun _=>h2 _ List.mem_cons_self⟩
        ·exact .inl h4
       ·exact .inr h4
   ·rename_i hk
    have:=eW B t ts seen;obtain⟨S,h1,h2,h3⟩:=ih _ _ _ _ hv.sub j0 h;refine⟨S,h1,fun u hu j hj=>?_,h3⟩
    rcases List.mem_cons.1 hu with rfl | hu
    ·rw [fG,if_neg hk] at hj;obtain⟨x,hx,hj⟩:=mem_occL hj;exact h2 x (List.mem_append_left _ hx) j hj
    ·exact h2 u (List.mem_append_right _ hu) j hj
theorem dz (i: Int): occ (vr i)= [i]:=by rw [fG];rfl
theorem Reach.of_occ {B: List Tm} {t: Tm} {j v: Int} (hj: j ∈ Vk.occ t) (h: Reach B (vr j) v): Reach B t v:=by
 cases h with
 | occ h1=>rw [dz] at h1;rw [List.mem_singleton.1 h1];exact .occ hj
 | step h1 h2 h3 h4=>rw [dz] at h1;rw [List.mem_singleton.1 h1] at h2;exact .step hj h2 h3 h4
theorem Reach.split {B: List Tm} {t: Tm} {v: Int} (h: Reach B t v): ∃ j,j ∈ Vk.occ t/\Reach B (vr j) v:=by
 cases h with
 | occ h1=>exact ⟨v,h1,.occ (by rw [dz];exact List.mem_singleton.2 J)⟩
 | @step _ u j _ h1 h2 h3 h4=>exact ⟨j,h1,.step (by rw [dz];exact List.mem_singleton.2 J) h2 h3 h4⟩
theorem Reach.sub {B: List Tm} {t x: Tm} {v: Int} (hk: ¬ t.kind=1) (hx: x ∈ t.l) (h: Reach B x v): Reach B t v:=by
 obtain⟨j,h1,h2⟩:=h.split;exact .of_occ (by rw [fG,if_neg hk];exact occL_mem hx h1) h2
theorem VF_reach {B: List Tm} (hB: AllV B.length B) {stop: Int->Bool} {todo: List Tm} {out: List Int} (hv: AllV B.length todo) (h: VF B stop todo [] []=(false,out)) {t: Tm} (ht: t ∈ todo) {v: Int} (hr: Reach B t v) (ho: opn B v=true): stop v=false/\v ∈ out:=by
 obtain⟨S,_,h2,h3⟩:=vfree_false hB stop _ _ _ _ _ hv j0 h;have key: ∀ {u: Tm} {w: Int},Reach B u w->(∀ j ∈ occ u,S j)->S w:=by
  intro u w hr
  induction hr with
  | occ h'=>intro hh;exact hh _ h'
  | @step t u j v hj hu hb hr ih =>
   intro hh;refine ih fun i hi=>?_
   rcases h3 j (hh j hj) with h4 | h4
   ·cases h4
   ·refine h4.2 ?_ i (by rw [getD_some hu];exact hi);unfold opn;rw [getD_some hu];exact decide_eq_false hb
 rcases h3 v (key hr (h2 t ht)) with h4 | h4
 ·cases h4
 ·exact h4.1 ho
theorem occB_false {n: Nat} {B: List Tm} (hG: Gst n B) {v: Int} {t: Tm} (ht: okT n t=true) (ho: opn B v=true) (h: occB B v t=false): ¬ Reach B t v:=fun hr=>by
 unfold occB at h;have hv: AllV B.length [t]:=fun u hu=>by rw [List.mem_singleton.1 hu,hG.len];exact fU ht
 have:=(VF_reach hG.allV hv (Prod.ext h J) (List.mem_singleton.2 J) hr ho).1;simp at this
theorem rk_max (rk: Nat->Nat): ∀(l: List Int) (j: Int),j ∈ l->rk j.toNat<=l.foldr (fun i m=>max (rk i.toNat) m) 0
 | i::l,j,h=>by
  rw [List.foldr_cons]
  rcases List.mem_cons.1 h with rfl | h
  ·omega
  ·have:=rk_max rk l j h;omega
theorem Gst.occV {n: Nat} {B: List Tm} (hG: Gst n B) (i: Nat) (t: Tm) (hi: B[i]? =some t): OccV B.length t:=fun j hj=>hG.allV.occ (List.mem_of_getElem? hi) j hj
theorem okT_occ {n: Nat} {t: Tm} (h: okT n t=true): ∀ j ∈ occ t,0<=j/\j < n:=(show AllV n [t] from fun u hu=>by rw [List.mem_singleton.1 hu];exact fU h).occ (List.mem_singleton.2 J)
theorem Acyc.set {n: Nat} {B: List Tm} (hG: Gst n B) (hA: Acyc B) {v: Int} {t: Tm} (hb: BC n B v t) (hn: ¬ Reach B t v): Acyc (B.set v.toNat t):=by
 obtain⟨rk,hr⟩:=hA;have hv0:=hb.lo
 classical
 refine⟨fun i=>if Reach B (vr (i: Int)) v then rk i+((occ t).foldr (fun i m=>max (rk i.toNat) m) 0+1) else rk i,fun i u hi hk j hj=>?_⟩;rw [List.getElem?_set] at hi
 split at hi
 ·rename_i e
  split at hi
  ·obtain rfl:=Option.some.inj hi;have hj0:=okT_occ hb.ok j hj;have e1:((j.toNat: Nat): Int)=j:=by omega
   have e2:((i: Nat): Int)=v:=by omega
   simp only [e1,e2];rw [if_neg (fun h=>hn (.of_occ hj h)),if_pos (Reach.occ (by rw [dz];exact List.mem_singleton.2 J))];have:=rk_max rk (occ t) j hj;omega
  ·cases hi
 ·have h1:=hr i u hi hk j hj;have hj0:=hG.occV i u hi j hj;have e1:((j.toNat: Nat): Int)=j:=by omega
  simp only [e1]
  by_cases h2: Reach B (vr j) v
  ·have h3: Reach B (vr (i: Int)) v:=.step (j:=(i: Int)) (by rw [dz];exact List.mem_singleton.2 J) (by rw [show ((i: Nat): Int).toNat=i by omega];exact hi) hk (.of_occ hj h2);rw [if_pos h2,if_pos h3];omega
  ·rw [if_neg h2]
   split <;> omega
theorem fI {B: List Tm} {v: Int} {t: Tm} (ho: opn B v=true) (h: B[v.toNat]? =some t): t.kind=0:=by
 unfold opn at ho;rw [getD_some h] at ho;exact of_decide_eq_true ho
theorem Sol.set {n: Nat} {B: List Tm} (hG: Gst n B) {v: Int} {t: Tm} (hb: BC n B v t) {σ: Int->Tm}: Sol (B.set v.toNat t) σ↔Sol B σ/\σ v=app σ t:=by
 have h0:=hb.lo;have h1:=hb.hi;have hl:=hG.len;have hv: v.toNat < B.length:=by omega
 have e:((v.toNat: Nat): Int)=v:=by omega
 constructor
 ·intro h;refine⟨fun i u hi hk=>?_,?_⟩
  ·refine h i u ?_ hk;rw [List.getElem?_set]
   split
   ·rename_i e1
    rw [<- e1] at hi;exact absurd (fI hb.op hi) hk
   ·exact hi
  ·have h2:=h v.toNat t (by rw [List.getElem?_set,if_pos J,if_pos hv]) (by have:=okT_kind hb.ok;omega)
   rwa [e] at h2
 ·rintro⟨h2,h3⟩ i u hi hk;rw [List.getElem?_set] at hi
  split at hi
  ·rename_i e1
   obtain rfl:=Option.some.inj hi;rw [<- e1,e];exact h3
  ·exact h2 i u hi hk
theorem reach_open {B: List Tm} {w v: Int} (ho: opn B w=true) (h: Reach B (vr w) v): v=w:=by
 cases h with
 | occ h1=>rw [dz] at h1;exact List.mem_singleton.1 h1
 | step h1 h2 h3 h4=>rw [dz] at h1;rw [List.mem_singleton.1 h1] at h2;exact absurd (fI ho h2) h3
section
variable {τ: Type} {bb: τ->Int->τ} {n: Nat}
theorem bdJ_yes {s: List Tm × τ} {v: Int} {t: Tm} (hG: Gst n s.1) (hA: Acyc s.1) (hb: BC n s.1 v t) (ho: t.kind=1->opn s.1 t.n=true) (h:(bdJ bb s v t).1=true):(bdJ bb s v t).2.1=s.1.set v.toNat t/\Acyc (s.1.set v.toNat t):=by
 by_cases hc:(!decide (t.kind=1)&&occB s.1 v t)=true
 ·rw [bdJ_occ hc] at h;cases h
 ·have hc:(!decide (t.kind=1)&&occB s.1 v t)=false:=by simpa using hc
  refine⟨by rw [bdJ_set hc],hA.set hG hb ?_⟩
  by_cases hk: t.kind=1
  ·rw [okT_vr hb.ok hk];intro hr;have:=reach_open (ho hk) hr;have:=hb.dn hk;omega
  ·rw [decide_eq_false hk] at hc;exact occB_false hG hb.ok hb.op (by simpa using hc)
structure JW (n: Nat) (B: List Tm) (ps: List (Tm × Tm)) (r:(Bool × Int) ×(List Tm × τ)): Prop where
 g: Gst n r.2.1
 a: Acyc r.2.1
 keep: ∀(i: Nat) (t: Tm),B[i]? =some t->t.kind≠0->r.2.1[i]? =some t
 yes: r.1=(true,0)->∀ σ,Sol r.2.1 σ↔Sol B σ/\Eqs σ ps
 no: r.1=(false,0)->∀ σ,Sol B σ->¬ Eqs σ ps
theorem JW.fail {s: List Tm × τ} {ps: List (Tm × Tm)} (hG: Gst n s.1) (hA: Acyc s.1) {e: Int} (h: ∀ σ,Sol s.1 σ->¬ Eqs σ ps): JW n s.1 ps ((false,e),s):=
 ⟨hG,hA,fun i t h _=>h,fun h1=>(by cases h1),fun _=>h⟩
theorem JW.bind {s: List Tm × τ} {a b: Tm} {ps: List (Tm × Tm)} {v: Int} {t: Tm} {k: Nat} (hG: Gst n s.1) (hA: Acyc s.1) (hok: okP n ps) (hb: BC n s.1 v t) (ho: t.kind=1->opn s.1 t.n=true)
  (e: ∀ σ,Sol s.1 σ->(app σ a=app σ b↔σ v=app σ t)) (IH: ∀(s: List Tm × τ),Gst n s.1->Acyc s.1->JW n s.1 ps (wlk Prod.fst (bdJ bb) k ps s))
  (h:(bdJ bb s v t).1=true): JW n s.1 ((a,b)::ps) (wlk Prod.fst (bdJ bb) k ps (bdJ bb s v t).2):=by
 obtain⟨h1,h2⟩:=bdJ_yes (bb:=bb) hG hA hb ho h;have ih:=IH (bdJ bb s v t).2 (by rw [h1];exact hG.set hb) (by rw [h1];exact h2);refine⟨ih.g,ih.a,fun i u hi hk=>ih.keep i u ?_ hk,fun h3 σ=>?_,fun h3 σ hs he=>?_⟩
 ·rw [h1,List.getElem?_set]
  split
  ·rename_i e1
   rw [<- e1] at hi;exact absurd (fI hb.op hi) hk
  ·exact hi
 ·rw [ih.yes h3 σ,h1,Sol.set hG hb,Eqs.cons];exact⟨fun h4=>⟨h4.1.1,(e σ h4.1.1).2 h4.1.2,h4.2⟩,fun h4=>⟨⟨h4.1,(e σ h4.1).1 h4.2.1⟩,h4.2.2⟩⟩
 ·have h4:=Eqs.cons.1 he;exact ih.no h3 σ (by rw [h1];exact(Sol.set hG hb).2 ⟨hs,(e σ hs).1 h4.1⟩) h4.2
end
end Go.Vk
namespace Go.Vk
mutual
theorem varR_mem: ∀(t: Tm) (out: List Int) (j: Int),nodesR t=true->(j ∈ varR t out↔j ∈ out\/j ∈ occ t)
 | .mk k n s l,out,j,h=>by
  rw [nodesR,Bool.and_eq_true] at h;rw [varR,eV l _ j h.2,occ]
  by_cases hk: k=1
  ·have hl:=(eP h.1 hk).2.2.2;change l= [] at hl;subst hl;rw [if_pos hk,decide_eq_true hk,occL]
   by_cases hc: out.contains n=true
   ·rw [hc];have: n ∈ out:=by simpa using hc
    simp;intro e;rw [e];exact this
   ·have hc: out.contains n=false:=by simpa using hc
    rw [hc];simp
  ·rw [if_neg hk,decide_eq_false hk];simp
theorem eV: ∀(ts: List Tm) (out: List Int) (j: Int),nodesRL ts=true->(j ∈ varRL ts out↔j ∈ out\/j ∈ occL ts)
 | [],out,j,_=>by rw [varRL,occL];simp
 | t::ts,out,j,h=>by
  rw [nodesRL,Bool.and_eq_true] at h;rw [varRL,eV ts _ j h.2,varR_mem t out j h.1,occL,List.mem_append,or_assoc]
end
mutual
theorem varR_nodup: ∀(t: Tm) (out: List Int),out.Nodup->(varR t out).Nodup
 | .mk k n s l,out,h=>by
  rw [varR];refine dB l _ ?_
  split
  ·rename_i hc
   rw [List.nodup_append];refine⟨h,by simp,fun a ha b hb e=>?_⟩;rw [List.mem_singleton.1 hb] at e;subst e;simp at hc;exact hc.2 ha
  ·exact h
theorem dB: ∀(ts: List Tm) (out: List Int),out.Nodup->(varRL ts out).Nodup
 | [],out,h=>by rw [varRL];exact h
 | t::ts,out,h=>by rw [varRL];exact dB ts _ (varR_nodup t out h)
end
def dps (B: List Tm) (m: Nat): List Int:=if (B.getD m default).kind=0 then [] else varRL [B.getD m default] []
theorem dps_nodup (B: List Tm) (m: Nat):(dps B m).Nodup:=by
 unfold dps
 split
 ·exact List.nodup_nil
 ·exact dB _ _ List.nodup_nil
theorem fc {n: Nat} {B: List Tm} (hG: Gst n B) {m: Nat} {t: Tm} (h: B[m]? =some t) (hk: t.kind≠0) (j: Int): j ∈ dps B m↔j ∈ occ t:=by
 have h1:=(cA (fH (hG.bnd h hk).1)).2.2;unfold dps;rw [getD_some h,if_neg hk,eV _ _ _ (by rw [nodesRL,h1];rfl),occL,occL];simp
theorem dps_rng {n: Nat} {B: List Tm} (hG: Gst n B) {m: Nat} {j: Int} (h: j ∈ dps B m): 0<=j/\j < B.length:=by
 have hk:(B.getD m default).kind≠0:=fun hk=>by unfold dps at h;rw [if_pos hk] at h;cases h
 have hb:=cg hk;rw [fc hG hb hk] at h;exact hG.occV m _ hb j h
def usA (us: List (List Int)) (i: Int): List Int->List (List Int)
 | []=>us
 | x::xs=>usA (us.set x.toNat (us.getD x.toNat []++ [i])) i xs
theorem usA_len (i: Int): ∀(l: List Int) (us: List (List Int)),(usA us i l).length=us.length
 | [],us=>rfl
 | x::xs,us=>by rw [usA,usA_len i xs,List.length_set]
theorem fA {α: Type} {l: List α} {i j: Nat} {x d: α} (h: i < l.length):(l.set i x).getD j d=if i=j then x else l.getD j d:=by
 rw [List.getD_eq_getElem?_getD,List.getElem?_set,List.getD_eq_getElem?_getD]
 by_cases e: i=j
 ·rw [if_pos e,if_pos e,if_pos j0];rfl
 ·rw [if_neg e,if_neg e]
theorem usA_get (i: Int): ∀(l: List Int) (us: List (List Int)),l.Nodup->(∀ x ∈ l,0<=x/\x.toNat < us.length)->∀ j: Nat,(usA us i l).getD j []=us.getD j []++(if (j: Int) ∈ l then [i] else [])
 | [],us,_,_,j=>by rw [usA];simp
 | x::xs,us,hn,hr,j=>by
  have hx:=hr x List.mem_cons_self;have hn':=List.nodup_cons.1 hn;rw [usA,usA_get i xs _ hn'.2 (fun y hy=>by rw [List.length_set];exact hr y (List.mem_cons_of_mem _ hy)) j,fA hx.2]
  by_cases e: x.toNat=j
  ·have e':(j: Int)=x:=by omega
   rw [if_pos e,e',if_neg hn'.1,if_pos List.mem_cons_self,<- e];simp
  ·have e':(j: Int)≠x:=by omega
   rw [if_neg e]
   by_cases hj:(j: Int) ∈ xs
   ·rw [if_pos hj,if_pos (List.mem_cons_of_mem _ hj)]
   ·rw [if_neg hj,if_neg (by rw [List.mem_cons];exact fun h=>h.elim e' hj)]
structure K0 (B: List Tm) (k: Nat) (us: List (List Int)) (lf nx: List Int): Prop where
 ul: us.length=B.length
 ll: lf.length=B.length
 mem: ∀(j: Nat) (i: Int),i ∈ us.getD j []↔∃ m: Nat,m < k/\i=m/\(j: Int) ∈ dps B m
 nd: ∀ j: Nat,(us.getD j []).Nodup
 sz: ∀ j: Nat,(us.getD j []).length<=k
 lt: ∀ m: Nat,m < B.length->lf.getD m 0=if m < k then ((dps B m).length: Int) else 0
 nn: nx.Nodup
 nm: ∀ i: Int,i ∈ nx↔∃ m: Nat,m < k/\i=m/\dps B m= []
 nl: nx.length<=k
theorem K0.zero (B: List Tm): K0 B 0 (List.replicate B.length []) (List.replicate B.length 0) []:=by
 have hg: ∀ j: Nat,(List.replicate B.length ([]: List Int)).getD j []= []:=fun j=>by
  rw [List.getD_eq_getElem?_getD,List.getElem?_replicate];split <;> rfl
 refine⟨by simp,by simp,fun j i=>?_,fun j=>?_,fun j=>?_,fun m hm=>?_,List.nodup_nil,fun i=>?_,by simp⟩
 ·rw [hg];simp
 ·rw [hg];exact List.nodup_nil
 ·rw [hg];simp
 ·rw [if_neg j0,List.getD_eq_getElem?_getD,List.getElem?_replicate];split <;> rfl
 ·simp
theorem K0.step {n: Nat} {B: List Tm} (hG: Gst n B) {k: Nat} {us: List (List Int)} {lf nx: List Int} (h: K0 B k us lf nx) (hk: k < B.length) :
  K0 B (k+1) (usA us (k: Int) (dps B k)) (lf.set k ((dps B k).length: Int)) (if ((dps B k).length: Int)=0 then nx++ [(k: Int)] else nx):=by
 have hg:=usA_get (k: Int) (dps B k) us (dps_nodup B k) (fun x hx=>by have:=dps_rng hG hx;rw [h.ul];omega);have hnot: ∀ j: Nat,(k: Int) ∉ us.getD j []:=fun j hj=>by
  obtain⟨m,h1,h2,_⟩:=(h.mem j k).1 hj;omega
 have hnn:(k: Int) ∉ nx:=fun hj=>by
  obtain⟨m,h1,h2,_⟩:=(h.nm k).1 hj;omega
 refine⟨by rw [usA_len];exact h.ul,by rw [List.length_set];exact h.ll,fun j i=>?_,fun j=>?_,fun j=>?_,fun m hm=>?_,?_,fun i=>?_,?_⟩
 ·rw [hg,List.mem_append,h.mem]
  constructor
  ·rintro(⟨m,h1,h2,h3⟩ | h1)
   ·exact⟨m,by omega,h2,h3⟩
   ·split at h1
    ·exact⟨k,by omega,List.mem_singleton.1 h1,by assumption⟩
    ·cases h1
  ·rintro⟨m,h1,h2,h3⟩
   by_cases e: m=k
   ·subst e
    right
    rw [if_pos h3,h2];exact List.mem_singleton.2 J
   ·exact .inl ⟨m,by omega,h2,h3⟩
 ·rw [hg]
  split
  ·rw [List.nodup_append];refine⟨h.nd j,by simp,fun a ha b hb e=>?_⟩;rw [List.mem_singleton.1 hb] at e;subst e;exact hnot j ha
  ·rw [List.append_nil];exact h.nd j
 ·rw [hg,List.length_append];have:=h.sz j
  split <;> simp only [List.length_cons,List.length_nil] <;> omega
 ·rw [fA (by rw [h.ll];exact hk)]
  by_cases e: k=m
  ·subst e;rw [if_pos J,if_pos j0]
  ·rw [if_neg e,h.lt m hm]
   by_cases h1: m < k
   ·rw [if_pos h1,if_pos j0]
   ·rw [if_neg h1,if_neg j0]
 ·split
  ·rw [List.nodup_append];refine⟨h.nn,by simp,fun a ha b hb e=>?_⟩;rw [List.mem_singleton.1 hb] at e;subst e;exact hnn ha
  ·exact h.nn
 ·constructor
  ·intro hi
   split at hi
   ·rename_i hc
    rcases List.mem_append.1 hi with hi | hi
    ·obtain⟨m,h1,h2,h3⟩:=(h.nm i).1 hi;exact⟨m,by omega,h2,h3⟩
    ·exact⟨k,by omega,List.mem_singleton.1 hi,List.eq_nil_of_length_eq_zero j0⟩
   ·obtain⟨m,h1,h2,h3⟩:=(h.nm i).1 hi;exact⟨m,by omega,h2,h3⟩
  ·rintro⟨m,h1,h2,h3⟩
   by_cases e: m=k
   ·subst e;rw [h3];simp [h2]
   ·have:=(h.nm i).2 ⟨m,by omega,h2,h3⟩
    split
    ·exact List.mem_append_left _ this
    ·exact this
 ·have:=h.nl
  split <;> simp <;> omega
def khN: List Int->List Int->List Int->List Int × List Int
 | [],lf,nx=>(lf,nx)
 | x::xs,lf,nx=>khN xs (lf.set x.toNat (mrk lf x - 1)) (if mrk lf x - 1=0 then nx++ [x] else nx)
theorem khN_len: ∀(xs lf nx: List Int),(khN xs lf nx).1.length=lf.length
 | [],lf,nx=>rfl
 | x::xs,lf,nx=>by rw [khN,khN_len xs,List.length_set]
theorem khN_get: ∀(xs lf nx: List Int),xs.Nodup->(∀ x ∈ xs,0<=x/\x.toNat < lf.length)->(∀ m: Nat,(khN xs lf nx).1.getD m 0=lf.getD m 0 - (if (m: Int) ∈ xs then 1 else 0))/\(khN xs lf nx).2=nx++xs.filter (fun x=>decide (mrk lf x=1))
 | [],lf,nx,_,_=>by rw [khN];simp
 | x::xs,lf,nx,hn,hr=>by
  have hx:=hr x List.mem_cons_self;have hn':=List.nodup_cons.1 hn;obtain⟨h1,h2⟩:=khN_get xs (lf.set x.toNat (mrk lf x - 1)) (if mrk lf x - 1=0 then nx++ [x] else nx) hn'.2 (fun y hy=>by rw [List.length_set];exact hr y (List.mem_cons_of_mem _ hy));rw [khN]
  constructor
  ·intro m;rw [h1,fA hx.2]
   by_cases e: x.toNat=m
   ·have e':(m: Int)=x:=by omega
    rw [if_pos e,e',if_neg hn'.1,if_pos List.mem_cons_self];unfold mrk;rw [e];omega
   ·have e':(m: Int)≠x:=by omega
    rw [if_neg e]
    by_cases hj:(m: Int) ∈ xs
    ·rw [if_pos hj,if_pos (List.mem_cons_of_mem _ hj)]
    ·rw [if_neg hj,if_neg (by rw [List.mem_cons];exact fun h=>h.elim e' hj)]
  ·have hf: xs.filter (fun y=>decide (mrk (lf.set x.toNat (mrk lf x - 1)) y=1))=xs.filter (fun y=>decide (mrk lf y=1)):=by
    refine List.filter_congr fun y hy=>?_;have hy0:=hr y (List.mem_cons_of_mem _ hy);have hne: y≠x:=fun e=>hn'.1 (e ▸ hy);rw [mrk_set hx.2 hx.1 hy0.1,if_neg hne]
   rw [h2,hf,List.filter_cons]
   by_cases e: mrk lf x=1
   ·rw [if_pos j0,if_pos (decide_eq_true e)];simp
   ·rw [if_neg j0,if_neg (by simpa using e)]
structure KI (B: List Tm) (d: Nat) (us: List (List Int)) (lf nx: List Int): Prop where
 ul: us.length=B.length
 ll: lf.length=B.length
 mem: ∀(j: Nat) (i: Int),i ∈ us.getD j []↔∃ m: Nat,m < B.length/\i=m/\(j: Int) ∈ dps B m
 nd: ∀ j: Nat,(us.getD j []).Nodup
 sz: ∀ j: Nat,(us.getD j []).length<=B.length
 lt: ∀ m: Nat,m < B.length->lf.getD m 0=(((dps B m).filter (fun j=>!(nx.take d).contains j)).length: Int)
 nn: nx.Nodup
 rg: ∀ i ∈ nx,0<=i/\i < B.length
 zr: ∀ m: Nat,m < B.length->((m: Int) ∈ nx↔lf.getD m 0=0)
 od: ∀(p: Nat) (i: Int),nx[p]? =some i->∀ j ∈ dps B i.toNat,j ∈ nx.take p
 le: d<=nx.length
theorem K0.done {B: List Tm} {us: List (List Int)} {lf nx: List Int} (h: K0 B B.length us lf nx): KI B 0 us lf nx:=by
 have hl: ∀ m: Nat,m < B.length->lf.getD m 0=((dps B m).length: Int):=fun m hm=>by rw [h.lt m hm,if_pos hm]
 refine⟨h.ul,h.ll,h.mem,h.nd,h.sz,fun m hm=>?_,h.nn,fun i hi=>?_,fun m hm=>?_,fun p i hp j hj=>?_,Nat.zero_le _⟩
 ·rw [hl m hm,List.filter_eq_self.2 (fun j _=>by simp)]
 ·obtain⟨m,h1,h2,_⟩:=(h.nm i).1 hi;omega
 ·rw [h.nm,hl m hm]
  constructor
  ·rintro⟨m',h1,h2,h3⟩;obtain rfl: m=m':=by omega
   rw [h3];rfl
  ·intro h1;exact⟨m,hm,rfl,List.eq_nil_of_length_eq_zero j0⟩
 ·obtain⟨m,h1,h2,h3⟩:=(h.nm i).1 (List.mem_of_getElem? hp);rw [h2,show ((m: Nat): Int).toNat=m by omega,h3] at hj
  cases hj
theorem dT {l: List Int} {p q: Int->Bool} {v: Int} (hn: l.Nodup) (hv: v ∈ l) (hp: p v=true) (hq: q v=false) (h: ∀ x ∈ l,x≠v->p x=q x):(l.filter p).length=(l.filter q).length+1:=by
 induction l with
 | nil=>cases hv
 | cons x xs ih =>
  have hn':=List.nodup_cons.1 hn
  by_cases e: x=v
  ·subst e;have he: xs.filter p=xs.filter q:=List.filter_congr fun y hy=>h y (List.mem_cons_of_mem _ hy) (fun e=>hn'.1 (e ▸ hy));rw [List.filter_cons,if_pos hp,List.filter_cons,if_neg (by rw [hq];simp),he,List.length_cons]
  ·have hv': v ∈ xs:=by
    rcases List.mem_cons.1 hv with e' | hv'
    ·exact absurd e'.symm e
    ·exact hv'
   have:=ih hn'.2 hv' (fun y hy=>h y (List.mem_cons_of_mem _ hy));rw [List.filter_cons,List.filter_cons,h x List.mem_cons_self e]
   split
   ·rw [List.length_cons,List.length_cons,this]
   ·exact this
theorem eT {nx: List Int} {d: Nat} {v: Int} (h: nx[d]? =some v) (j: Int):(nx.take (d+1)).contains j=((nx.take d).contains j||decide (j=v)):=by
 rw [Bool.eq_iff_iff];simp only [List.contains_iff_mem,Bool.or_eq_true,decide_eq_true_eq];rw [List.take_add_one,h,List.mem_append];simp
theorem nodup_take_not {nx: List Int} {d: Nat} {v: Int} (hn: nx.Nodup) (h: nx[d]? =some v): v ∉ nx.take d:=by
 intro hm;obtain⟨i,hi⟩:=List.getElem?_of_mem hm;rw [List.getElem?_take] at hi
 split at hi
 ·rename_i hlt
  have hd:=(List.getElem?_eq_some_iff.1 h);have hi':=(List.getElem?_eq_some_iff.1 hi);have:=(List.getElem_inj (xs:=nx) hn (i:=i) (j:=d) (h₀:=hi'.1) (h₁:=hd.1)).1 (by rw [hd.2,hi'.2]);omega
 ·cases hi
theorem KI.step {n: Nat} {B: List Tm} (hG: Gst n B) {d: Nat} {us: List (List Int)} {lf nx: List Int} {v: Int} (h: KI B d us lf nx) (hv: nx[d]? =some v) :
  KI B (d+1) us (khN (us.getD v.toNat []) lf nx).1 (khN (us.getD v.toNat []) lf nx).2:=by
 have hd: d < nx.length:=(List.getElem?_eq_some_iff.1 hv).1;have hv0:=h.rg v (List.mem_of_getElem? hv);have ev:((v.toNat: Nat): Int)=v:=by omega
 have hrng: ∀ x ∈ us.getD v.toNat [],0<=x/\x.toNat < lf.length:=fun x hx=>by
  obtain⟨m,h1,h2,_⟩:=(h.mem v.toNat x).1 hx;rw [h.ll];omega
 obtain⟨hg,hx2⟩:=khN_get (us.getD v.toNat []) lf nx (h.nd _) hrng;have hmem: ∀ m: Nat,m < B.length->((m: Int) ∈ us.getD v.toNat []↔v ∈ dps B m):=fun m hm=>by
  rw [h.mem,ev]
  constructor
  ·rintro⟨m',h1,h2,h3⟩;obtain rfl: m=m':=by omega
   exact h3
  ·intro h1;exact⟨m,hm,rfl,h1⟩
 have htk: ∀ k,k<=nx.length->(khN (us.getD v.toNat []) lf nx).2.take k=nx.take k:=fun k hk=>by rw [hx2,List.take_append_of_le_length hk]
 have hlt: ∀ m: Nat,m < B.length->(khN (us.getD v.toNat []) lf nx).1.getD m 0=(((dps B m).filter (fun j=>!((khN (us.getD v.toNat []) lf nx).2.take (d+1)).contains j)).length: Int):=fun m hm=>by
  rw [hg,htk (d+1) j0,h.lt m hm]
  by_cases hvm: v ∈ dps B m
  ·rw [if_pos ((hmem m hm).2 hvm)];have:=dT (p:=fun j=>!(nx.take d).contains j) (q:=fun j=>!(nx.take (d+1)).contains j) (dps_nodup B m) hvm (by simpa using nodup_take_not h.nn hv) (by rw [eT hv];simp) (fun x _ hx=>by rw [eT hv,decide_eq_false hx];simp);omega
  ·rw [if_neg (fun hh=>hvm ((hmem m hm).1 hh)),Int.sub_zero]
   congr 2
   refine List.filter_congr fun x hx=>?_;rw [eT hv,decide_eq_false (show ¬ x=v from fun e=>hvm (e ▸ hx))];simp
 have hone: ∀ x ∈ us.getD v.toNat [],mrk lf x=1->x ∉ nx:=fun x hx h1 hn=>by
  have hr:=hrng x hx;rw [h.ll] at hr;have h2:=(h.zr x.toNat hr.2).1 (by rw [show ((x.toNat: Nat): Int)=x by omega];exact hn);unfold mrk at h1;omega
 refine⟨h.ul,by rw [khN_len];exact h.ll,h.mem,h.nd,h.sz,hlt,?_,fun i hi=>?_,fun m hm=>?_,fun p i hp j hj=>?_,?_⟩
 ·rw [hx2,List.nodup_append];refine⟨h.nn,(h.nd _).filter _,fun a ha b hb e=>?_⟩;subst e;rw [List.mem_filter,decide_eq_true_eq] at hb;exact hone a hb.1 hb.2 ha
 ·rw [hx2] at hi
  rcases List.mem_append.1 hi with hi | hi
  ·exact h.rg i hi
  ·have:=hrng i (List.mem_filter.1 hi).1;rw [h.ll] at this;omega
 ·rw [hg,hx2,List.mem_append,h.zr m hm,List.mem_filter,decide_eq_true_eq]
  by_cases hc:(m: Int) ∈ us.getD v.toNat []
  ·rw [if_pos hc];have h1: lf.getD m 0≠0:=fun h0=>by
    have h2:=h.lt m hm;rw [h0] at h2;have h3:(dps B m).filter (fun j=>!(nx.take d).contains j)= []:=List.eq_nil_of_length_eq_zero j0;have h4: v ∈(dps B m).filter (fun j=>!(nx.take d).contains j):=List.mem_filter.2 ⟨(hmem m hm).1 hc,by simpa using nodup_take_not h.nn hv⟩;rw [h3] at h4;cases h4
   have h2: mrk lf (m: Int)=lf.getD m 0:=rfl;rw [h2]
   constructor
   ·rintro(h3 | h3)
    ·exact absurd h3 h1
    ·omega
   ·intro h3;exact .inr ⟨hc,by omega⟩
  ·rw [if_neg hc]
   constructor
   ·rintro(h3 | h3)
    ·omega
    ·exact absurd h3.1 hc
   ·intro h3;exact .inl j0
 ·by_cases hpl: p < nx.length
  ·rw [hx2,List.getElem?_append_left hpl] at hp;rw [htk p j0];exact h.od p i hp j hj
  ·have hi: i ∈ us.getD v.toNat []/\mrk lf i=1:=by
    rw [hx2,List.getElem?_append_right j0] at hp;have:=List.mem_filter.1 (List.mem_of_getElem? hp);exact⟨this.1,by simpa using this.2⟩
   have hr:=hrng i hi.1;rw [h.ll] at hr;have h1:=hlt i.toNat hr.2;rw [hg,if_pos (by rw [show ((i.toNat: Nat): Int)=i by omega];exact hi.1)] at h1;have h2:=hi.2;unfold mrk at h2;rw [h2] at h1;have h3:(dps B i.toNat).filter (fun j=>!((khN (us.getD v.toNat []) lf nx).2.take (d+1)).contains j)= []:=List.eq_nil_of_length_eq_zero j0;rw [List.filter_eq_nil_iff] at h3;have h4:=h3 j hj;have h5: j ∈(khN (us.getD v.toNat []) lf nx).2.take (d+1):=by simpa using h4
   rw [htk _ j0] at h5;rw [hx2,List.take_append,List.mem_append]
   left
   rw [List.take_of_length_le j0];exact List.mem_of_mem_take h5
 ·rw [hx2,List.length_append];omega
theorem fE: ∀(n: Nat) (l: List Int),l.Nodup->(∀ x ∈ l,0<=x/\x < n)->l.length<=n
 | 0,l,_,h=>by
  cases l with
  | nil=>simp
  | cons x xs=>have:=h x List.mem_cons_self;omega
 | n+1,l,hn,h=>by
  have h1:=fE n (l.filter (fun x=>!decide (x=(n: Int)))) (hn.filter _) (fun x hx=>by
   rw [List.mem_filter] at hx;have:=h x hx.1;have h2: x≠(n: Int):=by simpa using hx.2
   omega)
  by_cases hm:(n: Int) ∈ l
  ·have:=dT (p:=fun _=>true) (q:=fun x=>!decide (x=(n: Int))) hn hm J j3 (fun x _ hx=>by simp [hx]);rw [List.filter_eq_self.2 (fun _ _=>rfl)] at this;omega
  ·rw [List.filter_eq_self.2 (fun x hx=>by have: x≠(n: Int):=(fun e=>hm (e ▸ hx));simpa using this)] at h1;omega
theorem KI.len {B: List Tm} {d: Nat} {us: List (List Int)} {lf nx: List Int} (h: KI B d us lf nx): nx.length<=B.length:=fE _ _ h.nn h.rg
theorem KI.yes {n: Nat} {B: List Tm} (hG: Gst n B) {d: Nat} {us: List (List Int)} {lf nx: List Int} (h: KI B d us lf nx) (hd: d=B.length): Acyc B:=by
 have hl: nx.length=B.length:=by have:=h.le;have:=h.len;omega
 have hall: ∀ m: Nat,m < B.length->(m: Int) ∈ nx:=fun m hm=>Classical.byContradiction fun hno=>by
  have:=fE B.length ((m: Int)::nx) (List.nodup_cons.2 ⟨hno,h.nn⟩) (fun x hx=>by
   rcases List.mem_cons.1 hx with rfl | hx
   ·omega
   ·exact h.rg x hx)
  rw [List.length_cons] at this;omega
 refine⟨fun m=>nx.idxOf (m: Int),fun i t hi hk j hj=>?_⟩;have hib: i < B.length:=(List.getElem?_eq_some_iff.1 hi).1;have h1: nx.idxOf (i: Int) < nx.length:=List.idxOf_lt_length_of_mem (hall i hib);have h2: nx[nx.idxOf (i: Int)]? =some (i: Int):=by
  rw [List.getElem?_eq_getElem h1,List.getElem_idxOf h1]
 have h3:=h.od _ _ h2 j (by rw [show ((i: Nat): Int).toNat=i by omega];exact(fc hG hi hk j).2 hj);have h4:=hG.occV i t hi j hj
 show nx.idxOf ((j.toNat: Nat): Int) < _
 rw [show ((j.toNat: Nat): Int)=j by omega];obtain⟨q,hq⟩:=List.getElem?_of_mem h3;rw [List.getElem?_take] at hq
 split at hq
 ·rename_i hlt
  have:=List.getElem?_eq_some_iff.1 hq;have hj: j ∈ nx:=List.mem_of_mem_take h3;have h6: nx.idxOf j < nx.length:=List.idxOf_lt_length_of_mem hj;have h5:=(List.getElem_inj (xs:=nx) h.nn (i:=nx.idxOf j) (j:=q) (h₀:=h6) (h₁:=this.1)).1 (by rw [List.getElem_idxOf h6,this.2]);rw [h5];exact hlt
 ·cases hq
theorem KI.no {n: Nat} {B: List Tm} (hG: Gst n B) {d: Nat} {us: List (List Int)} {lf nx: List Int} (h: KI B d us lf nx) (hd: d=nx.length) (hne: d≠B.length): ¬ Acyc B:=by
 rintro⟨rk,hr⟩;have hl:=h.len;have key: ∀ k m: Nat,m < B.length->rk m<=k->(m: Int) ∈ nx:=by
  intro k
  induction k with
  | zero =>
   intro m hm hk;refine(h.zr m hm).2 ?_;rw [h.lt m hm,List.filter_eq_nil_iff.2 ?_];rfl;intro j hj;have hkd:(B.getD m default).kind≠0:=fun hk=>by unfold dps at hj;rw [if_pos hk] at hj;cases hj
   have:=hr m _ (cg hkd) hkd j ((fc hG (cg hkd) hkd j).1 hj);omega
  | succ k ih =>
   intro m hm hk;refine(h.zr m hm).2 ?_;rw [h.lt m hm,List.filter_eq_nil_iff.2 ?_];rfl;intro j hj;have hkd:(B.getD m default).kind≠0:=fun hk=>by unfold dps at hj;rw [if_pos hk] at hj;cases hj
   have h1:=hr m _ (cg hkd) hkd j ((fc hG (cg hkd) hkd j).1 hj);have h2:=dps_rng hG hj;have h3:=ih j.toNat j0 j0;rw [show ((j.toNat: Nat): Int)=j by omega] at h3;rw [hd,List.take_length];simpa using h3
 have hsub: ∀ m: Nat,m < B.length->(m: Int) ∈ nx:=fun m hm=>key _ m hm (Nat.le_refl _);have hle: B.length<=nx.length:=by
  have hs: ∀(k: Nat),k<=B.length->k<=(nx.filter (fun x=>decide (x <(k: Int)))).length:=by
   intro k
   induction k with
   | zero=>intro _;omega
   | succ k ih =>
    intro hk;have:=ih j0;have:=dT (l:=nx) (p:=fun x=>decide (x <((k+1: Nat): Int))) (q:=fun x=>decide (x <(k: Int))) (v:=(k: Int)) h.nn (hsub k j0) (by simp;omega) j3 (fun x _ hx=>by rw [Bool.eq_iff_iff];simp;omega);omega
  have:=hs B.length (Nat.le_refl _);have:=List.length_filter_le (fun x=>decide (x <(B.length: Int))) nx;omega
 omega
open Classical in
noncomputable def acycB (B: List Tm): Bool:=decide (Acyc B)
theorem eB {B: List Tm}: acycB B=true↔Acyc B:=by unfold acycB;exact @decide_eq_true_iff (Acyc B) (Classical.propDecidable _)
theorem KI.acycB {n: Nat} {B: List Tm} (hG: Gst n B) {d: Nat} {us: List (List Int)} {lf nx: List Int} (h: KI B d us lf nx) (hd: nx.length<=d): Vk.acycB B=decide (((d: Nat): Int)=((B.length: Nat): Int)):=by
 have hd': d=nx.length:=by have:=h.le;omega
 by_cases e: d=B.length
 ·rw [eB.2 (h.yes hG e),decide_eq_true j0]
 ·have:=h.no hG hd' e;have h2: Vk.acycB B=false:=by
   cases hh: Vk.acycB B with
   | false=>rfl
   | true=>exact absurd (eB.1 hh) this
  rw [h2,decide_eq_false j0]
end Go.Vk
namespace Go.Vk
open Go.RowKit
structure SV where
 A: Option Addr
 c: Nat
 xs: List Int
def SV.cells (s: SV): List Value:= [.slice s.A s.xs.length s.c]
def SV.zero: SV:=⟨none,0, []⟩
theorem SV.len (s: SV): s.cells.length=1:=rfl
def Fam (ti: Nat) (sv: List SV) (fam: List Ent): Prop:=
 fam.length=sv.length/\∀(j: Nat) (s: SV) (e: Ent),sv[j]? =some s->fam[j]? =some e->Row (.slice s.A s.xs.length s.c) e ti 1 s.xs.length (ints s.xs)
theorem Fam.zero (ti n: Nat): Fam ti (List.replicate n SV.zero) (List.replicate n noEnt):=by
 refine⟨by simp,fun j s e hs he=>?_⟩;rw [List.getElem?_replicate] at hs he
 split at hs
 ·rename_i h
  rw [if_pos h] at he;obtain rfl:=Option.some.inj hs;obtain rfl:=Option.some.inj he;exact Row.nil ti 1
 ·cases hs
theorem Fam.get {ti: Nat} {sv: List SV} {fam: List Ent} (h: Fam ti sv fam) {j: Nat} (hj: j < sv.length): ∃ s e,sv[j]? =some s/\fam[j]? =some e/\Row (.slice s.A s.xs.length s.c) e ti 1 s.xs.length (ints s.xs):=
 ⟨sv[j],fam[j]'(by rw [h.1];exact hj),List.getElem?_eq_getElem hj,List.getElem?_eq_getElem _,h.2 _ _ _ (List.getElem?_eq_getElem hj) (List.getElem?_eq_getElem _)⟩
theorem Fam.set {ti: Nat} {sv: List SV} {fam: List Ent} (h: Fam ti sv fam) {j: Nat} {s: SV} {e: Ent} (hr: Row (.slice s.A s.xs.length s.c) e ti 1 s.xs.length (ints s.xs)): Fam ti (sv.set j s) (fam.set j e):=by
 refine⟨by simp [h.1],fun i s' e' hs he=>?_⟩;rw [List.getElem?_set] at hs he
 by_cases hij: j=i
 ·rw [if_pos hij] at hs he
  split at hs
  ·rename_i hl
   rw [if_pos (by rw [h.1];exact hl)] at he;obtain rfl:=Option.some.inj hs;obtain rfl:=Option.some.inj he;exact hr
  ·cases hs
 ·rw [if_neg hij] at hs he;exact h.2 i s' e' hs he
section
variable {w0 w: World} {H0 H: PHeap} {L0 Es fam: List Ent}
end
theorem set_same {α: Type} {l: List α} {j: Nat} {x: α} (h: l[j]? =some x): l.set j x=l:=by
 apply List.ext_getElem?
 intro i;rw [List.getElem?_set]
 split
 ·rename_i e
  subst e;rw [if_pos (List.getElem?_eq_some_iff.1 h).1,h]
 ·rfl
theorem K0.at_ {B: List Tm} {k: Nat} {us: List (List Int)} {lf nx: List Int} (h: K0 B k us lf nx) (hk: k < B.length): lf[k]? =some 0:=by
 have:=h.lt k hk;rw [if_neg j0,List.getD_eq_getElem?_getD,List.getElem?_eq_getElem (by rw [h.ll];exact hk)] at this;rw [List.getElem?_eq_getElem (by rw [h.ll];exact hk)];exact congrArg some this
theorem K0.free {n: Nat} {B: List Tm} (hG: Gst n B) {k: Nat} {us: List (List Int)} {lf nx: List Int} (h: K0 B k us lf nx) (hk: k < B.length) (h0: dps B k= []): K0 B (k+1) us lf (nx++ [(k: Int)]):=by
 have:=h.step hG hk;rw [h0] at this;change K0 B (k+1) us (lf.set k 0) (if (0: Int)=0 then nx++ [(k: Int)] else nx) at this
 rwa [set_same (h.at_ hk),if_pos J] at this
noncomputable def isB (B: List Tm): Bool:=(decide (((B.length: Nat): Int)<=100000)&&elsU B.length 0 B)&&acycB B
theorem isB_iff {B: List Tm}: isB B=true↔Gst B.length B/\Acyc B:=by
 unfold isB;simp only [Bool.and_eq_true,decide_eq_true_eq,eB]
 constructor
 ·rintro⟨⟨h1,h2⟩,h3⟩;exact⟨Gst.of j0 h2,h3⟩
 ·rintro⟨h1,h2⟩;refine⟨⟨by have:=h1.le;omega,elsU_mk fun j t hj=>?_⟩,h2⟩;rw [Nat.zero_add];exact elU_iff.2 (h1.el j t hj)
end Go.Vk
namespace Go.Vk
def impD (s u: List Tm): Bool × Bool:=((impU s u).1,decide ((impU s u).2=0))
def Bnds (σ: Int->Tm) (i: Nat) (ts: List Tm): Prop:= ∀(j: Nat) (t: Tm),ts[j]? =some t->t.kind≠0->σ ((i+j: Nat): Int)=app σ t
theorem Bnds.cons {σ: Int->Tm} {i: Nat} {t: Tm} {ts: List Tm}: Bnds σ i (t::ts)↔(t.kind≠0->σ (i: Int)=app σ t)/\Bnds σ (i+1) ts:=by
 constructor
 ·refine fun h=>⟨fun hk=>h 0 t J hk,fun j u hj hu=>?_⟩;have:=h (j+1) u hj hu;rw [show i+1+j=i+(j+1) by omega];exact this
 ·rintro⟨h1,h2⟩ j u hj hu
  cases j with
  | zero=>obtain rfl:=Option.some.inj hj;exact h1 hu
  | succ j =>
   have:=h2 j u hj hu;rw [show i+(j+1)=i+1+j by omega];exact this
end Go.Vk
namespace Go.Vk
section
variable {s r: List Tm} {t u: Tm} (hs: isB s=true) (hr: isB r=true) (ht: okT s.length t=true) (hu: okT s.length u=true) (hl: s.length<=r.length) (he:(askU s t u).2=0) (hf:(askU r t u).2=0) (h1:(impD r s).2=true) (h2:(impD r s).1=true)
include hs hr ht hu hl he hf h1 h2
end
section
variable {s: List Tm} {t u: Tm} (hs: isB s=true) (ht: okT s.length t=true) (hu: okT s.length u=true)
include hs ht hu
end
section
variable {s r: List Tm} {t u: Tm} (hs: isB s=true) (hr: isB r=true) (ht: okT s.length t=true) (hu: okT s.length u=true) (hl: s.length<=r.length)
include hs ht hu
include hr hl
omit hr hl
end
theorem ef {s: List Tm} {y z: Tm} (hs: isB s=true) (hy: okT s.length y=true) (hk: y.kind=1) (ht: s[y.n.toNat]? =some z) (h2: ¬ z.kind=0): follow s z=follow s y/\okT s.length z=true/\vm z < vm y:=by
 have hG:=(isB_iff.1 hs).1;have:=follow_down hG.dec (okT_vis hG hy) hk ht (by unfold opn;rw [getD_some ht];exact decide_eq_false h2);exact⟨this.1,(hG.bnd ht h2).1,this.2.2⟩
end Go.Vk
namespace Go.Vk
open Go.RowKit
abbrev bls (xs: List Bool): List Value:=xs.map Value.bool
theorem bV {xs: List Bool} {j: Nat} {x: Bool} (h: xs[j]? =some x):(bls xs)[j * 1+0]? =some (.bool x):=by
 rw [Nat.mul_one,Nat.add_zero]
 show (List.map _ _)[j]? =_
 rw [List.getElem?_map,h];rfl
theorem ck {xs: List Bool} {j: Nat} (hj: j < xs.length) (x: Bool): splice (bls xs) (j * 1) [.bool x]=bls (xs.set j x):=by
 unfold splice bls;rw [Nat.mul_one,List.map_set,List.set_eq_take_append_cons_drop,if_pos (by simpa using hj),List.append_assoc];rfl
theorem cM (k: Nat): zcells (.bool false) k=bls (List.replicate k false):=by
 have hl:(zcells (.bool false) k).length=k * 1:=aU _ _
 apply List.ext_getElem?
 intro j
 by_cases hj: j < k
 ·simp only [zcells,Builtin.zeroCells,Array.toList_map,List.getElem?_map,Array.toList_range,bls];have hr:(List.range (k *(Value.bool false).cells.size))[j]? =some j:=List.getElem?_range (show j < k * 1 by omega);rw [hr,List.getElem?_replicate,if_pos hj];simp only [Option.map_some,Option.some.injEq];have h5: j %(Value.bool false).cells.size=0:=Nat.mod_one j;rw [h5];rfl
 ·rw [List.getElem?_eq_none j0,List.getElem?_eq_none (by simp;omega)]
structure Met (n: Nat) (ms: List Bool) (seen: List Int): Prop where
 len: ms.length=n
 at_: ∀ v: Nat,v < n->ms[v]? =some (seen.contains (v: Int))
theorem Met.zero (n: Nat): Met n (List.replicate n false) []:=⟨by simp,fun v hv=>by rw [List.getElem?_replicate,if_pos hv];rfl⟩
theorem Met.get {n: Nat} {ms: List Bool} {seen: List Int} (h: Met n ms seen) {v: Int} (h0: 0<=v) (h1: v < n) {b: Bool} (hb: ms[v.toNat]? =some b): seen.contains v=b:=by
 have:=h.at_ v.toNat j0;rw [hb,show ((v.toNat: Nat): Int)=v by omega] at this;exact(Option.some.inj this).symm
theorem Met.set {n: Nat} {ms: List Bool} {seen: List Int} (h: Met n ms seen) {v: Int} (h0: 0<=v) (h1: v < n): Met n (ms.set v.toNat true) (v::seen):=by
 refine⟨by rw [List.length_set];exact h.len,fun w hw=>?_⟩;rw [List.getElem?_set,List.contains_cons];have hl:=h.len
 by_cases e: v.toNat=w
 ·rw [if_pos e,if_pos j0,show ((w: Int) == v)=true by simp;omega];rfl
 ·rw [if_neg e,h.at_ w hw,show ((w: Int) == v)=false by simp;omega];rfl
def Us (B: List Tm) (seen: List Int): Nat:=unseenN seen 0 B
theorem Us_meet {B: List Tm} {seen: List Int} {v: Int} {u: Tm} (h0: 0<=v) (hu: B[v.toNat]? =some u) (hs: seen.contains v=false): Us B (v::seen)+u.sz<=Us B seen:=by
 have:=dk seen B 0 v.toNat u hu (by rw [show ((0+v.toNat: Nat): Int)=v by omega];exact hs);rw [show ((0+v.toNat: Nat): Int)=v by omega] at this;exact this
structure WK (B: List Tm) (t: Tm) (seen out seen' out': List Int): Prop where
 vf: ∀ ts,AllV B.length ts->VF B (fun _=>false) (t::ts) seen out=VF B (fun _=>false) ts seen' out'
 u: Us B seen'<=Us B seen
 o: out'.length+Us B seen'<=out.length+Us B seen
section
variable {n: Nat} {B: List Tm} (hG: Gst B.length B) {t: Tm} {seen out: List Int} (ho: overR (B.length: Int) t=true)
include hG ho
omit hG in
theorem eE {ts: List Tm} (h: AllV B.length ts): AllV B.length (t::ts):=fun u hu=>by
 rcases List.mem_cons.1 hu with rfl | hu
 ·exact ho
 ·exact h u hu
theorem WK.op (hk: t.kind=1) (hs: seen.contains t.n=false) {u: Tm} (hu: B[t.n.toNat]? =some u) (h0: u.kind=0): WK B t seen out (t.n::seen) (out++ [t.n]):=by
 have hv:=bY ho hk;have hm:=Us_meet hv.1 hu hs;have hp:=u.sz_pos;exact⟨fun ts h=>VF_open hG.allV (eE ho h) hk hs (by unfold opn;rw [getD_some hu];exact decide_eq_true h0) J,by omega,by rw [List.length_append];simp only [List.length_cons,List.length_nil];omega⟩
theorem WK.bd (hk: t.kind=1) (hs: seen.contains t.n=false) {u: Tm} (hu: B[t.n.toNat]? =some u) (h0: ¬ u.kind=0) {seen' out': List Int} (h: WK B u (t.n::seen) out seen' out'): WK B t seen out seen' out':=by
 have hv:=bY ho hk;have hm:=Us_meet hv.1 hu hs;have h1:=h.u;have h2:=h.o;exact⟨fun ts hts=>(VF_bound' hG.allV (eE ho hts) hk hs (by unfold opn;rw [getD_some hu];exact decide_eq_false h0) hu).trans (h.vf ts hts),by omega,by omega⟩
end
structure WL (B: List Tm) (us: List Tm) (k: Nat) (seen out seen' out': List Int): Prop where
 vf: ∀ ts,AllV B.length ts->VF B (fun _=>false) (us++ts) seen out=VF B (fun _=>false) (us.drop k++ts) seen' out'
 u: Us B seen'<=Us B seen
 o: out'.length+Us B seen'<=out.length+Us B seen
theorem WL.zero (B us: List Tm) (seen out: List Int): WL B us 0 seen out seen out:=⟨fun ts h=>rfl,Nat.le_refl _,Nat.le_refl _⟩
theorem WL.step {B us: List Tm} {k: Nat} {x: Tm} {seen out seen' out' seen2 out2: List Int} (h: WL B us k seen out seen' out') (hv: AllV B.length us) (hx: us[k]? =some x) (hw: WK B x seen' out' seen2 out2): WL B us (k+1) seen out seen2 out2:=
 ⟨fun ts hts=>by
  rw [h.vf ts hts,bj hx,List.cons_append];exact hw.vf _ fun u hu=>by
   rcases List.mem_append.1 hu with hu | hu
   ·exact hv u (List.mem_of_mem_drop hu)
   ·exact hts u hu,Nat.le_trans hw.u h.u,Nat.le_trans hw.o h.o⟩
theorem WL.done {B: List Tm} (hG: Gst B.length B) {t: Tm} {k: Nat} {seen out seen' out': List Int} (ho: overR (B.length: Int) t=true) (hk: ¬ t.kind=1) (hl: t.l.length<=k) (h: WL B t.l k seen out seen' out'): WK B t seen out seen' out':=
 ⟨fun ts hts=>by rw [VF_sub hG.allV (eE ho hts) hk,h.vf ts hts,List.drop_of_length_le hl];rfl,h.u,h.o⟩
end Go.Vk
namespace Go.Vk
open Go.RowKit
structure Wd where
 tag: Int
 n: Int
 s: ByteArray
 one: Bool
def Wd.zero: Wd:=⟨0,0,⟨#[]⟩,false⟩
instance: Inhabited Wd:=⟨Wd.zero⟩
theorem Wd.ext_ {a b: Wd} (h1: a.tag=b.tag) (h2: a.n=b.n) (h3: a.s=b.s) (h4: a.one=b.one): a=b:=by cases a;cases b;simp_all
instance: DecidableEq Wd:=fun a b=>decidable_of_iff (a.tag=b.tag/\a.n=b.n/\a.s=b.s/\a.one=b.one) ⟨fun ⟨h1,h2,h3,h4⟩=>Wd.ext_ h1 h2 h3 h4,fun h=>by subst h;exact⟨rfl,rfl,rfl,rfl⟩⟩
def Wd.cells (x: Wd): List Value:= [.int .i64 x.tag,.int .i64 x.n,.string x.s,.bool x.one]
abbrev wA (x: Wd): Array Value:= #[.int .i64 x.tag,.int .i64 x.n,.string x.s,.bool x.one]
abbrev wL (x: Wd): List Value:= [.int .i64 x.tag,.int .i64 x.n,.string x.s,.bool x.one]
abbrev eO (b t: Nat) (cs: Array Value): Ent:=(some b,.cells cs t (0,0))
abbrev hA (p: Nat) (A: Option Addr) (n c: Nat) (A': Option Addr) (n' c': Nat): Array Value:= #[.pointer (some ⟨p,0,none⟩),.slice A n c,.slice A' n' c',.bool true]
theorem Wd.len (x: Wd): x.cells.length=4:=rfl
theorem Wd.one' (x: Wd): ∀ u ∈ x.cells,u.oneCell'=true:=by
 intro u hu;simp only [Wd.cells,List.mem_cons,List.not_mem_nil,or_false] at hu
 rcases hu with rfl | rfl | rfl | rfl <;> rfl
section
variable {α: Type} {f: α->List Value} {m: Nat}
theorem dh (hf: ∀ x,(f x).length=m) {xs: List α} {j: Nat} (hj: j < xs.length) (x: α): splice (gfl f xs) (j * m) (f x)=gfl f (xs.set j x):=by
 unfold splice;rw [du hf,hf,show j * m+m=(j+1) * m by rw [Nat.add_mul];omega,eg hf,List.set_eq_take_append_cons_drop,if_pos hj,aF,bR,List.append_assoc]
theorem zcells_gfl (hf: ∀ x,(f x).length=m) (hm: 0 < m) {z: Value} {x0: α} (hz: z.cells.toList=f x0) (k: Nat): zcells z k=gfl f (List.replicate k x0):=by
 have hs: z.cells.size=m:=by rw [<- Array.length_toList,hz,hf]
 have hl:(zcells z k).length=k * m:=by rw [aU,hs]
 apply List.ext_getElem?
 intro j
 by_cases hj: j < k * m
 ·have hr:(List.range (k * m))[j]? =some j:=List.getElem?_range hj;have h1:(zcells z k)[j]? =some (z.cells[j % m]!):=by
   simp only [zcells,Builtin.zeroCells,Array.toList_map,List.getElem?_map,Array.toList_range,hs,hr,Option.map_some]
  have hmod: j % m < m:=Nat.mod_lt _ hm;have hdiv: j / m < k:=by rw [Nat.div_lt_iff_lt_mul hm];exact hj
  have h2:(f x0)[j % m]? =some (z.cells[j % m]!):=by
   rw [<- hz,Array.getElem?_toList,getElem!_pos z.cells (j % m) j0];exact Array.getElem?_eq_getElem j0
  have h3:=eh hf (xs:=List.replicate k x0) (j:=j / m) (i:=j % m) (x:=x0) (by rw [List.getElem?_replicate,if_pos hdiv]) h2;rw [Nat.div_add_mod'] at h3;rw [h1,h3]
 ·rw [List.getElem?_eq_none j0,List.getElem?_eq_none (by rw [aw hf,List.length_replicate];omega)]
theorem Row.lenG (hf: ∀ x,(f x).length=m) (hm: 0 < m) {v: Value} {en: Ent} {e n: Nat} {xs: List α} (h: Row v en e m n (gfl f xs)): n=xs.length:=by
 have:=h.1;rw [aw hf] at this;exact(Nat.eq_of_mul_eq_mul_right hm this).symm
end
section
variable {α: Type} {f: α->List Value} {sz: Nat} {xs: List α}
theorem gfl_at (hf: ∀ x,(f x).length=sz) (hsz: 0 < sz) {k: Nat} {u: Value} (h:(gfl f xs)[k]? =some u): ∃ x,xs[k / sz]? =some x/\(f x)[k % sz]? =some u:=by
 have hl:=(List.getElem?_eq_some_iff.1 h).1;rw [aw hf] at hl;have hd: k / sz < xs.length:=by rw [Nat.div_lt_iff_lt_mul hsz];exact hl
 have hm: k % sz <(f xs[k / sz]).length:=by rw [hf];exact Nat.mod_lt _ hsz
 refine⟨xs[k / sz],List.getElem?_eq_getElem hd,?_⟩;have h1:=eh hf (List.getElem?_eq_getElem hd) (List.getElem?_eq_getElem hm);rw [Nat.div_add_mod',h] at h1;rw [List.getElem?_eq_getElem hm];exact h1.symm
theorem a8 (hf: ∀ x,(f x).length=sz) (hsz: 0 < sz) {cs: Array Value} {off: Nat} (h2: ∀ j x,xs[j]? =some x->∀ i u,(f x)[i]? =some u->cs[off+j * sz+i]? =some u) {k: Nat} {u: Value} (hk:(gfl f xs)[k]? =some u): cs[off+k]? =some u:=by
 obtain⟨x,h3,h4⟩:=gfl_at hf hsz hk;have:=h2 _ _ h3 _ _ h4
 rwa [Nat.add_assoc,Nat.div_add_mod'] at this
theorem fi {w: World} {H: PHeap} {L: List Ent} {A: Option Addr} {n c e: Nat} {en: Ent} {i: Nat} {vs: List Value} (hI: Inv w H L) (hi: L[i]? =some en) (hR: Row (.slice A n c) en e sz n vs): vs≠[]->∃ b o e' cs fz,A=some ⟨b,o,none⟩/\w.heap[b]? =some (.cells cs e' fz)/\∀ j u,vs[j]? =some u->cs[o+j]? =some u:=by
 intro hn
 rcases hR.2 with ⟨h1,h2,h3⟩ |⟨b,cap,cur,h1,h2,h3,h4,h5,h6⟩
 ·exact absurd (List.eq_nil_of_length_eq_zero (by rw [hR.1,h2,Nat.zero_mul])) hn
 ·injection h1 with h1
  subst h1 h2;refine⟨b,0,e,cur,(0,0),rfl,hI.at_ i hi,fun j u hj=>?_⟩;rw [<- h6,List.getElem?_take] at hj
  split at hj
  ·rw [Nat.zero_add];simpa using hj
  ·cases hj
end
theorem zcells_wd (k: Nat): zcells (.agg #[.int .i64 0,.int .i64 0,.string ⟨#[]⟩,.bool false]) k=gfl Wd.cells (List.replicate k Wd.zero):=zcells_gfl Wd.len j4 J k
theorem splice_wd {xs: List Wd} {j: Nat} (hj: j < xs.length) (x: Wd): splice (gfl Wd.cells xs) (j * 4) x.cells=gfl Wd.cells (xs.set j x):=dh Wd.len hj x
structure RdG {α: Type} (sz: Nat) (f: α->List Value) (w: World) (L0: List Ent) (A: Option Addr) (c: Nat) (xs: List α): Prop where
 hc: xs.length<=c
 hm: xs.length<=1048576
 rd: ∃(b off e: Nat) (cs: Array Value) (fz: Nat × Nat),(xs≠[]->A=some ⟨b,off,none⟩/\w.heap[b]? =some (.cells cs e fz)/\¬ dom L0 b)/\∀ j x,xs[j]? =some x->∀ i u,(f x)[i]? =some u->cs[off+j * sz+i]? =some u
section
variable {α: Type} {f: α->List Value} {sz: Nat} {w0 w: World} {H0 H: PHeap} {L0 L L1: List Ent} {A: Option Addr} {c: Nat} {xs: List α}
theorem RdG.get (h: RdG sz f w L0 A c xs) {j: Nat} (hj: j < xs.length) :
  ∃(x: α) (b off e: Nat) (cs: Array Value) (fz: Nat × Nat),xs[j]? =some x/\A=some ⟨b,off,none⟩/\(w.heap[b]? =some (.cells cs e fz)/\¬ dom L0 b)/\∀ i u,(f x)[i]? =some u->cs[off+j * sz+i]? =some u:=by
 obtain⟨b,off,e,cs,fz,h3,h4⟩:=h.rd;obtain⟨h5,h6⟩:=h3 (fun e=>by subst e;simp at hj);exact⟨xs[j],b,off,e,cs,fz,List.getElem?_eq_getElem hj,h5,h6,h4 j _ (List.getElem?_eq_getElem hj)⟩
theorem RdG.nil (w: World) (L0: List Ent): RdG sz f w L0 none 0 []:=⟨Nat.le_refl _,by simp,0,0,0,#[],(0,0),fun h=>absurd J h,fun j x h=>by simp at h⟩
theorem RdG.of_data (hI: Inv w H L) (h: RowG sz f H A c xs): RdG sz f w L A c xs:=by
 obtain⟨h1,h2,b,off,e,cs,fz,h3,h4⟩:=h;exact⟨h1,h2,b,off,e,cs,fz,fun hn=>⟨(h3 hn).1,hI.ext b _ (h3 hn).2⟩,h4⟩
theorem RdG.fewer (h: RdG sz f w L0 A c xs) (hs: ∀ k,dom L1 k->dom L0 k): RdG sz f w L1 A c xs:=by
 obtain⟨b,off,e,cs,fz,h3,h4⟩:=h.rd;exact⟨h.hc,h.hm,b,off,e,cs,fz,fun hn=>⟨(h3 hn).1,(h3 hn).2.1,fun hd=>(h3 hn).2.2 (hs b hd)⟩,h4⟩
theorem RdG.at_ {H': PHeap} (h: RdG sz f w0 L0 A c xs) (hS: Step w0 H0 L0 w H L) (hs: ∀ k,dom L1 k->dom L k): RdG sz f w L1 A c xs:=by
 obtain⟨b,off,e,cs,fz,h3,h4⟩:=h.rd;refine⟨h.hc,h.hm,b,off,e,cs,fz,fun hn=>?_,h4⟩;obtain⟨h5,h6,h7⟩:=h3 hn;refine⟨h5,hS.keepN h6 h7,fun hd=>?_⟩
 rcases hS.newL b (hs b hd) with h8 | h8
 ·have:=(Array.getElem?_eq_some_iff.1 h6).1;omega
 ·exact h7 h8
theorem RdG.of_own {n e: Nat} {en: Ent} (hf: ∀ x,(f x).length=sz) (hsz: 0 < sz) (hI: Inv w H (en::L)) (hR: Row (.slice A n c) en e sz n (gfl f xs)) (hm: xs.length<=1048576): RdG sz f w L A c xs:=by
 have hn:=hR.lenG hf hsz
 rcases hR.2 with ⟨h1,h2,h3⟩ |⟨b,cap,cur,h1,h2,h3,h4,h5,h6⟩
 ·injection h1 with h1 _ h1c
  subst h1 h1c;have: xs= []:=List.eq_nil_of_length_eq_zero j0;subst this;exact RdG.nil w L
 ·injection h1 with h1 _ h1c
  subst h1 h1c;refine⟨by omega,hm,b,0,e,cur,(0,0),fun _=>⟨rfl,?_,fun hd=>?_⟩,fun j x hj i u hu=>?_⟩
  ·have:=hI.own en List.mem_cons_self b (by rw [h2]);rw [h2] at this;exact this
  ·obtain⟨y,hy,hyb⟩:=hd;exact(List.pairwise_cons.1 hI.pw).1 y hy b (by rw [h2]) hyb
  ·have h7:=eh hf hj hu;rw [<- h6,List.getElem?_take] at h7
   split at h7
   ·rw [Nat.zero_add];simpa using h7
   ·cases h7
theorem Step.frameR {w': World} {H': PHeap} (R: List Ent) {Lc Lc': List Ent} (h: Step w0 H0 L0 w H (R++Lc)) (c: Step w H Lc w' H' Lc'): Step w0 H0 L0 w' H' (R++Lc'):=
 (Step.frame (h.perm List.perm_append_comm) c).perm List.perm_append_comm
theorem Step.tail (R: List Ent) {Lc: List Ent} (h: Step w0 H0 L0 w H (R++Lc)): Inv w H Lc:=(Step.dropN R Lc h).inv
theorem bx (R: List Ent) {Lc: List Ent}: ∀ k,dom Lc k->dom (R++Lc) k:=fun k h=>bA.2 (.inr h)
theorem RowG.of_lit {b e: Nat} {cs: Array Value} {fz: Nat × Nat} (hf: ∀ x,(f x).length=sz) (xs: List α) (hb: H b=some (.cells cs e fz)) (hm: xs.length<=1048576) (hc: cs.toList=gfl f xs): RowG sz f H (some ⟨b,0,none⟩) xs.length xs:=by
 refine⟨Nat.le_refl _,hm,b,0,e,cs,fz,fun _=>⟨rfl,hb⟩,fun j x hj i u hu=>?_⟩;have h7:=eh hf hj hu;rw [<- hc] at h7;rw [Nat.zero_add];simpa using h7
theorem RowG.nil: RowG sz f H none 0 ([]: List α):=⟨Nat.le_refl _,by simp,0,0,0,#[],(0,0),fun h=>absurd J h,fun j x h=>by simp at h⟩
end
end Go.Vk
namespace Go.Vk
inductive PB where
 | var (to: List Wd) (hooks: List Int)
 | fn (name: ByteArray) (args: List Wd)
 | vec (elems: List Wd)
instance: Inhabited PB:=⟨.vec []⟩
def PB.words: PB->List Wd
 | .var to _=>to
 | .fn _ l=>l
 | .vec l=>l
def PB.size: PB->Nat
 | .var _ _=>1
 | .fn _ l=>l.length+1
 | .vec l=>l.length+1
def PB.tag: PB->Int
 | .var _ _=>4
 | .fn _ _=>5
 | .vec _=>6
abbrev BK:=Nat × PB
abbrev PS:=List (Option PB)
abbrev BS:=List (Option BK)
def er (bs: BS): PS:=bs.map fun o=>o.map (·.2)
def atG {α: Type} (tg: α->Int) (l: List (Option α)) (w: Wd): Option α:=
 if w.n < 0\/(l.length: Int)<=w.n\/¬ w.s=⟨#[]⟩ then none
 else match l.getD w.n.toNat none with
  | some b=>if w.tag=tg b then some b else none
  | none=>none
abbrev atB (bs: BS) (w: Wd): Option BK:=atG (fun b=>b.2.tag) bs w
abbrev atS (S: PS) (w: Wd): Option PB:=atG PB.tag S w
theorem bB (bs: BS):(er bs).length=bs.length:=by simp [er]
theorem dR (bs: BS) (j: Nat):(er bs)[j]? =(bs[j]?).map fun o=>o.map (·.2):=by simp [er]
theorem f8 (bs: BS) (j: Nat):(er bs).getD j none=(bs.getD j none).map (·.2):=by
 rw [List.getD_eq_getElem?_getD,List.getD_eq_getElem?_getD,dR]
 cases bs[j]? <;> rfl
theorem dS (bs: BS) (j: Nat) (b: Option BK): er (bs.set j b)=(er bs).set j (b.map (·.2)):=by simp [er,List.map_set]
theorem fo (bs: BS) (w: Wd):(atB bs w).map (·.2)=atS (er bs) w:=by
 unfold atB atS atG;rw [bB,f8]
 split
 ·rfl
 ·cases bs.getD w.n.toNat none with
  | none=>rfl
  | some b =>
   show Option.map _ (if _ then _ else _)=if w.tag=b.2.tag then _ else _
   split <;> rfl
theorem ar {α: Type} {tg: α->Int} {l: List (Option α)} {w: Wd} {b: α} (h: atG tg l w=some b): 0<=w.n/\w.n < l.length/\w.s=⟨#[]⟩/\l[w.n.toNat]? =some (some b)/\w.tag=tg b:=by
 unfold atG at h
 split at h
 ·cases h
 ·rename_i hn
  rw [List.getD_eq_getElem?_getD] at h;have h1: 0<=w.n:=by omega
  have h2: w.n < l.length:=by omega
  have h3: w.s=⟨#[]⟩:=Classical.byContradiction fun e=>hn (.inr (.inr e));have hl: w.n.toNat < l.length:=by omega
  rw [List.getElem?_eq_getElem hl] at h;simp only [Option.getD_some] at h
  split at h
  ·rename_i b' hb
   split at h
   ·rename_i ht
    obtain rfl:=Option.some.inj h;exact⟨h1,h2,h3,by rw [List.getElem?_eq_getElem hl,hb],ht⟩
   ·cases h
  ·cases h
theorem bJ {α: Type} {tg: α->Int} {l: List (Option α)} {w: Wd} {b: α} (h1: 0<=w.n) (h2: w.n < l.length) (h3: w.s=⟨#[]⟩) (h4: l[w.n.toNat]? =some (some b)): atG tg l w=if w.tag=tg b then some b else none:=by
 unfold atG;rw [if_neg (by rintro(h | h | h);omega;omega;exact h h3),List.getD_eq_getElem?_getD,h4];rfl
theorem cn {α: Type} {tg: α->Int} {l: List (Option α)} {w: Wd} (h4: w.n < 0\/(l.length: Int)<=w.n\/(¬ w.s=⟨#[]⟩)\/l[w.n.toNat]? =some none): atG tg l w=none:=by
 unfold atG
 split
 ·rfl
 ·rename_i hn
  rcases h4 with h | h | h | h
  ·exact absurd (.inl h) hn
  ·exact absurd (.inr (.inl h)) hn
  ·exact absurd (.inr (.inr h)) hn
  ·rw [List.getD_eq_getElem?_getD,h];rfl
def refB (w: Wd): Bool:=decide (w.tag=4)||decide (w.tag=5)||decide (w.tag=6)
def nmB (s: ByteArray): Bool:=isTm (.mk 3 0 s [])
def wordS (S: PS) (w: Wd): Bool:=
 if w.tag=1 then decide (w.s=⟨#[]⟩)&&!w.one&&decide (-2147483647<=w.n)&&decide (w.n<=2147483647)
 else if w.tag=2 then decide (w.n=0)&&!w.one&&nmB w.s
 else if w.tag=3 then decide (w.n=0)&&!w.one&&decide ((w.s.size: Int)<=255)
 else refB w&&(atS S w).isSome
def allS (S: PS) (l: List Wd): Bool:=l.all (wordS S)
def findP (tk: List Bool) (size: Nat): Nat->Nat->Int
 | 0,_=> -1
 | k+1,at_=>if tk.length < at_+size then -1 else
  match ((tk.drop at_).take size).findIdx? id with
  | some i=>findP tk size k (at_+i+1)
  | none=>at_
def findS (tk: List Bool) (size: Nat): Int:=findP tk size (tk.length+1) 0
def fillP (tk: List Bool) (at_ size: Nat) (v: Bool): List Bool:=tk.take at_++List.replicate size v++tk.drop (at_+size)
structure HS where
 S: PS
 tk: List Bool
 u: Int
def HS.new (n: Nat): HS:=⟨List.replicate n none,List.replicate n false,0⟩
def HS.place (h: HS) (b: PB): HS × Int:=
 let a:=findS h.tk b.size
 if a < 0 then (h,a) else (⟨h.S.set a.toNat (some b),fillP h.tk a.toNat b.size true,h.u+b.size⟩,a)
def HS.clear (h: HS) (a: Nat): HS:=
 match h.S.getD a none with
 | some b=>⟨h.S.set a none,fillP h.tk a b.size false,h.u - b.size⟩
 | none=>h
def refW (tag a: Int): Wd × Int:=if a < 0 then (Wd.zero,210) else (⟨tag,a,⟨#[]⟩,true⟩,0)
def HS.var (h: HS): HS ×(Wd × Int):=let r:=h.place (.var [] []);(r.1,refW 4 r.2)
def HS.fun_ (h: HS) (s: ByteArray) (l: List Wd): HS ×(Wd × Int):=
 if nmB s=false then (h,(Wd.zero,1)) else if allS h.S l=false then (h,(Wd.zero,211)) else if l.length < 1\/16 < l.length then (h,(Wd.zero,1))
 else let r:=h.place (.fn s l);(r.1,refW 5 r.2)
def HS.vec (h: HS) (l: List Wd): HS ×(Wd × Int):=
 if allS h.S l=false then (h,(Wd.zero,211)) else if 64 < l.length then (h,(Wd.zero,1))
 else let r:=h.place (.vec l);(r.1,refW 6 r.2)
def nxtW (w x: Wd): Wd:=if refB x then ⟨x.tag,x.n,x.s,x.one&&w.one⟩ else x
def folS (S: PS): Nat->Wd->Wd × Bool
 | 0,_=>(Wd.zero,false)
 | k+1,w=>match atS S w with
  | some (.var (x::_) _)=>folS S k (nxtW w x)
  | _=>(w,true)
def followS (S: PS) (w: Wd): Wd × Bool:=folS S (S.length+1) w
def valueS (S: PS) (w: Wd): Wd × Int:=
 if wordS S w=false then (Wd.zero,211) else
 let x:=followS S w
 if x.2=false then (Wd.zero,2) else if wordS S x.1=false then (Wd.zero,211) else (x.1,0)
def openS (S: PS) (w: Wd): Option Nat × Int:=
 let x:=valueS S w
 if x.2≠0 then (none,x.2) else match atS S x.1 with
  | some (.var _ _)=>(some x.1.n.toNat,0)
  | _=>(none,211)
def addG (l: List Int): List Int->List Int
 | []=>l
 | g::gs=>addG (if l.contains g then l else l++ [g]) gs
def hooksAt (S: PS) (i: Nat): List Int:=
 match S.getD i none with
 | some (.var _ hk)=>hk
 | _=> []
def HS.setB (h: HS) (i: Nat) (b: PB): HS:= { h with S:=h.S.set i (some b) }
def HS.bind (h: HS) (v x: Wd): HS ×(List Int × Int):=
 let t:=openS h.S v
 if t.2≠0 then (h,([],t.2)) else
 let y:=valueS h.S x
 if y.2≠0 then (h,([],y.2)) else
 match t.1 with
 | none=>(h,([],0))
 | some i=>match atS h.S y.1 with
  | some (.var to hk) =>
   if y.1.n.toNat=i then (h,([],0)) else
   let l:=addG hk (hooksAt h.S i)
   if 4000 < l.length then (h,([],2)) else ((h.setB y.1.n.toNat (.var to l)).setB i (.var [x] []),([],0))
  | _=>(h.setB i (.var [x] []),(hooksAt h.S i,0))
def HS.hook (h: HS) (v: Wd) (g: Int): HS × Int:=
 let t:=openS h.S v
 if t.2≠0 then (h,t.2) else if g < 0\/2147483647 < g then (h,1) else
 match t.1 with
 | none=>(h,0)
 | some i=>match h.S.getD i none with
  | some (.var to hk)=>if hk.contains g then (h,0) else if 4000<=hk.length then (h,2) else (h.setB i (.var to (hk++ [g])),0)
  | _=>(h,0)
def rdL (f: Int->Wd->Int × Option Tm): Int->List Wd->Int × Option (List Tm)
 | left, []=>(left,some [])
 | left,w::ws =>
  let r:=f left w
  match r.2 with
  | none=>(r.1,none)
  | some t =>
   let r':=rdL f r.1 ws
   (r'.1,r'.2.map (t:: ·))
def rdS (S: PS): Nat->Int->Wd->Int × Option Tm
 | 0,left,_=>(left - 1,none)
 | d+1,left,w =>
  let x:=followS S w
  if x.2=false\/left - 1 < 0 then (left - 1,none)
  else if x.1.tag=1 then (left - 1,some (.mk 2 x.1.n ⟨#[]⟩ []))
  else if x.1.tag=2 then (left - 1,some (.mk 3 0 x.1.s []))
  else if x.1.tag=3 then (left - 1,some (.mk 4 0 x.1.s []))
  else match atS S x.1 with
   | none=>(left - 1,none)
   | some (.var _ _)=>(left - 1,some (.mk 1 x.1.n ⟨#[]⟩ []))
   | some (.fn s ws)=>let r:=rdL (rdS S d) (left - 1) ws;(r.1,r.2.map (.mk 5 0 s ·))
   | some (.vec ws)=>let r:=rdL (rdS S d) (left - 1) ws;(r.1,r.2.map (.mk 6 0 ⟨#[]⟩ ·))
def readS (S: PS) (w: Wd): Tm × Int:=
 if wordS S w=false then (Tm.zero,211) else match (rdS S 600 4000 w).2 with
  | some t=>(t,0)
  | none=>(Tm.zero,2)
def HS.free (h: HS) (w: Wd): HS ×(List Wd × Int):=
 match atS h.S w with
 | none=>(h,([],211))
 | some b=>if b.tag=4/\b.words= [] then (h,([],211)) else if w.one=false then (h,([],212)) else (h.clear w.n.toNat,(b.words,0))
def shW (w: Wd): Wd:=⟨w.tag,w.n,w.s,false⟩
def HS.update (h: HS) (w: Wd) (i: Int) (x: Wd): HS ×(Wd × Wd × Bool × Int):=
 match atS h.S w with
 | some (.vec l) =>
  if i < 0\/(l.length: Int)<=i then (h,(Wd.zero,Wd.zero,false,1)) else if wordS h.S x=false then (h,(Wd.zero,Wd.zero,false,211)) else
  let old:=l.getD i.toNat Wd.zero
  if w.one then (h.setB w.n.toNat (.vec (l.set i.toNat x)),(w,old,true,0)) else
  let r:=h.place (.vec ((l.map shW).set i.toNat x))
  if r.2 < 0 then (h,(Wd.zero,Wd.zero,false,210)) else (r.1.setB w.n.toNat (.vec (l.map shW)),(⟨6,r.2,⟨#[]⟩,true⟩,shW old,false,0))
 | _=>(h,(Wd.zero,Wd.zero,false,211))
def walkS (S: PS): Nat->List Bool->List Nat->List Wd->List Nat
 | 0,_,out,_=>out
 | _+1,_,out, []=>out
 | k+1,met,out,w::st=>match atS S w with
  | none=>walkS S k met out st
  | some b=>if met.getD w.n.toNat false then walkS S k met out st else walkS S k (met.set w.n.toNat true) (out++ [w.n.toNat]) (b.words.reverse++st)
def wordsN (S: PS): Nat:=(S.map fun o=>match o with | some b=>b.words.length | none=>0).sum
def blocksS (S: PS) (roots: List Wd): List Nat:=walkS S (roots.length+wordsN S+1) (List.replicate S.length false) [] roots.reverse
def noteW (c: List Int × List Bool) (w: Wd): List Int × List Bool:=
 if refB w then (c.1.set w.n.toNat (c.1.getD w.n.toNat 0+1),c.2.set w.n.toNat (c.2.getD w.n.toNat false||w.one)) else c
def wordsAt (S: PS) (j: Nat): List Wd:=
 match S.getD j none with
 | some b=>b.words
 | none=> []
def noteL (S: PS): List Int × List Bool->List Wd->Option (List Int × List Bool)
 | c, []=>some c
 | c,w::ws=>if wordS S w=false then none else noteL S (noteW c w) ws
def noteB (S: PS): List Int × List Bool->List Nat->Option (List Int × List Bool)
 | c, []=>some c
 | c,j::js=>match noteL S c (wordsAt S j) with
  | none=>none
  | some c'=>noteB S c' js
def mostS (S: PS) (j: Nat): Int:=
 match S.getD j none with
 | some (.var [] _)=>2
 | _=>1
def badAt (S: PS) (c: List Int × List Bool) (j: Nat): Bool:=c.2.getD j false&&decide (mostS S j < c.1.getD j 0)
def auditS (S: PS) (roots: List Wd): Int:=
 if allS S roots=false then 211 else
 match noteB S (roots.foldl noteW (List.replicate S.length 0,List.replicate S.length false)) (blocksS S roots) with
 | none=>213
 | some c=>if (blocksS S roots).any (badAt S c) then 213 else 0
end Go.Vk
namespace Go.Vk
open Go.RowKit
def fl3 (fs: List (Ent × Ent × Ent)): List Ent:=fs.flatMap fun t=> [t.1,t.2.1,t.2.2]
theorem fx (t: Ent × Ent × Ent) (fs: List (Ent × Ent × Ent)): fl3 (t::fs)=t.1::t.2.1::t.2.2::fl3 fs:=rfl
theorem dK: ∀(fs: List (Ent × Ent × Ent)) (j: Nat) (t: Ent × Ent × Ent),fs[j]? =some t->(fl3 fs).Perm (t.1::t.2.1::t.2.2::fl3 (fs.eraseIdx j))
 | [],j,t,h=>by simp at h
 | x::fs,0,t,h=>by
  obtain rfl: x=t:=by simpa using h
  exact List.Perm.refl _
 | x::fs,j+1,t,h=>by
  have h1:=dK fs j t (by simpa using h);rw [fx,List.eraseIdx_cons_succ,fx];refine(((h1.cons x.2.2).cons x.2.1).cons x.1).trans ?_;exact(List.perm_append_comm (l₁:= [x.1,x.2.1,x.2.2]) (l₂:= [t.1,t.2.1,t.2.2])).append_right (fl3 (fs.eraseIdx j))
def bkv: Option BK->Value
 | none=>.nilIface
 | some (q,.var _ _)=>.iface 114 (.pointer (some ⟨q,0,none⟩))
 | some (q,.fn _ _)=>.iface 110 (.pointer (some ⟨q,0,none⟩))
 | some (q,.vec _)=>.iface 117 (.pointer (some ⟨q,0,none⟩))
def bkc (o: Option BK): List Value:= [bkv o]
theorem bN (o: Option BK):(bkc o).length=1:=rfl
theorem bkv_cells (o: Option BK):(bkv o).cells.toList=bkc o:=by
 rcases o with _ |⟨q,_ | _ | _⟩ <;> rfl
theorem bkv_sz (o: Option BK):(bkv o).cells.size=1:=by
 rcases o with _ |⟨q,_ | _ | _⟩ <;> rfl
theorem bkv_one (o: Option BK):((bkv o).cells.toList.all fun u=>u.oneCell')=true:=by
 rcases o with _ |⟨q,_ | _ | _⟩ <;> rfl
def Bk3: Option BK->Ent × Ent × Ent->Prop
 | none,t=>t.1.1=none/\t.2.1.1=none/\t.2.2.1=none
 | some (q,.var to hk),t=> ∃(A: Option Addr) (c: Nat) (A': Option Addr) (c': Nat),t.1=(some q,.cells #[.slice A to.length c,.slice A' hk.length c'] 116 (0,0))/\Row (.slice A to.length c) t.2.1 35 4 to.length (gfl Wd.cells to)/\Row (.slice A' hk.length c') t.2.2 3 1 hk.length (ints hk)
 | some (q,.fn s l),t=> ∃(A: Option Addr) (c: Nat),t.1=(some q,.cells #[.string s,.slice A l.length c] 113 (0,0))/\Row (.slice A l.length c) t.2.1 35 4 l.length (gfl Wd.cells l)/\t.2.2.1=none
 | some (q,.vec l),t=> ∃(A: Option Addr) (c: Nat),t.1=(some q,.cells #[.slice A l.length c] 119 (0,0))/\Row (.slice A l.length c) t.2.1 35 4 l.length (gfl Wd.cells l)/\t.2.2.1=none
def PB.ok: PB->Prop
 | .var to hk=>to.length<=1/\hk.length<=4000
 | .fn _ l=>l.length<=64
 | .vec l=>l.length<=64
theorem PB.ok.words {b: PB} (h: b.ok): b.words.length<=64:=by
 cases b with
 | var to hk=>have:=h.1;simp only [PB.words];omega
 | fn s l=>exact h
 | vec l=>exact h
theorem PB.ok.size {b: PB} (h: b.ok): 1<=b.size/\b.size<=65:=by
 cases b with
 | var to hk=>simp only [PB.size];omega
 | fn s l=>have: l.length<=64:=h;simp only [PB.size];omega
 | vec l=>have: l.length<=64:=h;simp only [PB.size];omega
structure Fs (bs: BS) (fs: List (Ent × Ent × Ent)): Prop where
 len: fs.length=bs.length
 at_: ∀(j: Nat) (o: Option BK) (t: Ent × Ent × Ent),bs[j]? =some o->fs[j]? =some t->Bk3 o t
 ok: ∀(j: Nat) (b: BK),bs[j]? =some (some b)->b.2.ok
theorem Fs.get {bs: BS} {fs: List (Ent × Ent × Ent)} (h: Fs bs fs) {j: Nat} {o: Option BK} (hj: bs[j]? =some o): ∃ t,fs[j]? =some t/\Bk3 o t:=by
 have hl:=(List.getElem?_eq_some_iff.1 hj).1;have: j < fs.length:=by rw [h.len];exact hl
 exact⟨fs[j],List.getElem?_eq_getElem this,h.at_ j o _ hj (List.getElem?_eq_getElem this)⟩
theorem Fs.set {bs: BS} {fs: List (Ent × Ent × Ent)} (h: Fs bs fs) {j: Nat} {o: Option BK} {t: Ent × Ent × Ent} (ht: Bk3 o t) (ho: ∀ b,o=some b->b.2.ok): Fs (bs.set j o) (fs.set j t):=by
 refine⟨by simp [h.len],fun i o' t' hi hi'=>?_,fun i b hi=>?_⟩
 ·rw [List.getElem?_set] at hi hi'
  by_cases hij: j=i
  ·rw [if_pos hij] at hi hi'
   split at hi
   ·split at hi'
    ·obtain rfl:=Option.some.inj hi;obtain rfl:=Option.some.inj hi';exact ht
    ·cases hi'
   ·cases hi
  ·rw [if_neg hij] at hi hi';exact h.at_ i o' t' hi hi'
 ·rw [List.getElem?_set] at hi
  by_cases hij: j=i
  ·rw [if_pos hij] at hi
   split at hi
   ·exact ho b (Option.some.inj hi)
   ·cases hi
  ·rw [if_neg hij] at hi;exact h.ok i b hi
theorem Fs.none (n: Nat): Fs (List.replicate n none) (List.replicate n (noEnt,noEnt,noEnt)):=by
 refine⟨by simp,fun j o t hj ht=>?_,fun j b hj=>?_⟩
 ·rw [List.getElem?_replicate] at hj ht
  split at hj
  ·rename_i hl
   rw [if_pos hl] at ht;obtain rfl:=Option.some.inj hj;obtain rfl:=Option.some.inj ht;exact⟨rfl,rfl,rfl⟩
  ·cases hj
 ·rw [List.getElem?_replicate] at hj
  split at hj <;> cases hj
def HP (p: Nat) (bs: BS) (tk: List Bool) (u: Int) (L: List Ent): Prop:=
 ∃(Ab: Option Addr) (cb: Nat) (At: Option Addr) (ct: Nat) (eb et: Ent) (fs: List (Ent × Ent × Ent)),
  L=(some p,.cells #[.slice Ab bs.length cb,.slice At bs.length ct,.int .i64 u] 103 (0,0))::eb::et::fl3 fs/\
  Row (.slice Ab bs.length cb) eb 105 1 bs.length (gfl bkc bs)/\Row (.slice At bs.length ct) et 4 1 bs.length (bls tk)/\tk.length=bs.length/\bs.length<=65536/\Fs bs fs
section
variable {w0 w: World} {H0 H: PHeap} {L0 Es: List Ent} {fs: List (Ent × Ent × Ent)} {t t': Ent × Ent × Ent} {j: Nat}
theorem Step.ex3 (h: Step w0 H0 L0 w H (Es++fl3 fs)) (hj: fs[j]? =some t): Step w0 H0 L0 w H (Es++t.1::t.2.1::t.2.2::fl3 (fs.eraseIdx j)):=h.perm (List.Perm.append_left _ (dK _ _ _ hj))
theorem Step.hd3 (hj: fs[j]? =some t) (h: Step w0 H0 L0 w H (Es++t'.1::t'.2.1::t'.2.2::fl3 (fs.eraseIdx j))): Step w0 H0 L0 w H (Es++fl3 (fs.set j t')):=by
 refine h.perm (List.Perm.append_left _ ?_);have hl:=(List.getElem?_eq_some_iff.1 hj).1;have:=dK (fs.set j t') j t' (by rw [List.getElem?_set,if_pos J,if_pos hl]);rw [List.eraseIdx_set_eq] at this;exact this.symm
theorem Step.fl30 (h: Step w0 H0 L0 w H Es): ∀ n: Nat,Step w0 H0 L0 w H (Es++fl3 (List.replicate n (noEnt,noEnt,noEnt)))
 | 0=>by rw [List.replicate_zero];show Step w0 H0 L0 w H (Es++ []);rw [List.append_nil];exact h
 | n+1=>by
  have h1:=(((Step.fl30 h n).cons_none (en:=noEnt) J).cons_none (en:=noEnt) J).cons_none (en:=noEnt) J;rw [List.replicate_succ,fx];refine h1.perm ?_;exact(List.perm_append_comm (l₁:= [noEnt,noEnt,noEnt]) (l₂:=Es)).append_right _ |>.trans (by rw [List.append_assoc];exact List.Perm.refl _)
end
theorem Fs.inj {w: World} {H: PHeap} {Es: List Ent} {bs: BS} {fs: List (Ent × Ent × Ent)} (h: Fs bs fs) (hI: Inv w H (Es++fl3 fs)) {i j: Nat} {b c: BK} (hi: bs[i]? =some (some b)) (hj: bs[j]? =some (some c)) (hq: b.1=c.1): i=j:=by
 have key: ∀ {i: Nat} {b: BK},bs[i]? =some (some b)->∃ t,fs[i]? =some t/\t.1.1=some b.1:=by
  intro i b hi;obtain⟨t,h1,h2⟩:=h.get hi;refine⟨t,h1,?_⟩;obtain⟨q,pb⟩:=b
  cases pb with
  | var to hk=>obtain ⟨_,_,_,_,h3,_⟩:=h2;rw [h3]
  | fn s l=>obtain ⟨_,_,h3,_⟩:=h2;rw [h3]
  | vec l=>obtain ⟨_,_,h3,_⟩:=h2;rw [h3]
 obtain⟨t,h1,h2⟩:=key hi;obtain⟨s,h3,h4⟩:=key hj;refine Classical.byContradiction fun hne=>?_;have hp:=hI.perm (List.Perm.append_left Es (dK fs i t h1));have hj': s.1 ∈ fl3 (fs.eraseIdx i):=by
  have: s ∈ fs.eraseIdx i:=by
   rw [List.mem_eraseIdx_iff_getElem?];exact⟨j,fun e=>hne e.symm,h3⟩
  exact List.mem_flatMap.2 ⟨s,this,List.mem_cons_self⟩
 have hpw:=(List.pairwise_append.1 hp.pw).2.1;have h5:=(List.pairwise_cons.1 hpw).1 s.1 (List.mem_cons_of_mem _ (List.mem_cons_of_mem _ hj')) b.1 h2;exact h5 (by rw [h4,hq])
theorem bg {fs: List (Ent × Ent × Ent)} {j: Nat} {t: Ent × Ent × Ent} (h: fs[j]? =some t): t.1 ∈ fl3 fs:=List.mem_flatMap.2 ⟨t,List.mem_of_getElem? h,by simp⟩
theorem bp {fs: List (Ent × Ent × Ent)} {j: Nat} {t: Ent × Ent × Ent} (h: fs[j]? =some t): t.2.1 ∈ fl3 fs:=List.mem_flatMap.2 ⟨t,List.mem_of_getElem? h,by simp⟩
theorem bt {fs: List (Ent × Ent × Ent)} {j: Nat} {t: Ent × Ent × Ent} (h: fs[j]? =some t): t.2.2 ∈ fl3 fs:=List.mem_flatMap.2 ⟨t,List.mem_of_getElem? h,by simp⟩
theorem a7 {e: Ent} (R: List Ent) {Lc: List Ent} (h: e ∈ Lc): e ∈ R++Lc:=List.mem_append_right _ h
section
variable {w0 w: World} {H0 H: PHeap} {L0 L Lc: List Ent}
theorem Step.at_mem (R: List Ent) {b: Nat} {o: Obj} (h: Step w0 H0 L0 w H (R++Lc)) (hm:(some b,o) ∈ Lc): w.heap[b]? =some o:=h.inv.own _ (a7 R hm) b J
theorem Step.castR {L': List Ent} (R: List Ent) (hE: Lc=L') (h: Step w0 H0 L0 w H (R++Lc)): Step w0 H0 L0 w H (R++L'):=hE ▸ h
theorem Step.castB {L': List Ent} (R: List Ent) (h: Step w0 H0 L0 w H (R++L')) (hE: Lc=L'): Step w0 H0 L0 w H (R++Lc):=hE ▸ h
theorem RdG.of_mem {α: Type} {f: α->List Value} {sz: Nat} {A: Option Addr} {n c e: Nat} {en: Ent} {xs: List α} (hf: ∀ x,(f x).length=sz) (hsz: 0 < sz) (hI: Inv w H L) (hm: en ∈ L) (hR: Row (.slice A n c) en e sz n (gfl f xs)) (hl: xs.length<=1048576): RdG sz f w [] A c xs:=by
 obtain⟨i,hi⟩:=List.getElem?_of_mem hm;exact(RdG.of_own hf hsz (hI.perm (dX L i en hi)) hR hl).fewer fun k hk=>absurd hk bT
theorem RdI.of_mem {A: Option Addr} {n c e: Nat} {en: Ent} {xs: List Int} (hI: Inv w H L) (hm: en ∈ L) (h: Row (.slice A n c) en e 1 n (ints xs)) (hl: n * 8<=140737488355328): RdI w A c xs:=by
 obtain⟨i,hi⟩:=List.getElem?_of_mem hm;exact RdI.of_row hI h i hi hl
theorem Step.of_below (hI: Inv w0 H []) (hb: Below w0.heap.size w0 w): Step w0 H [] w H []:=by
 obtain⟨h1,h2,h3,h4,h5⟩:=hb;exact⟨h1,h2,h3,h4,fun k hk _=>h5 k hk,⟨fun e he=>(by cases he),List.Pairwise.nil,fun k o hk=>⟨(h5 k (hI.hlt hk)).trans (hI.ext k o hk).1,bT⟩⟩,Le.refl _,fun _ _ h=>.inl h,fun k hk=>absurd hk bT⟩
end
section
variable {w0 w: World} {H0 H: PHeap} {L0: List Ent} {fs: List (Ent × Ent × Ent)} {t told: Ent × Ent × Ent} {j: Nat}
theorem Step.blkOut (Es: List Ent) (hj: fs[j]? =some t) (h: Step w0 H0 L0 w H (Es++fl3 fs)): Step w0 H0 L0 w H (t.1::t.2.1::t.2.2::(Es++fl3 (fs.set j (noEnt,noEnt,noEnt)))):=by
 have h2: Step w0 H0 L0 w H (t.1::t.2.1::t.2.2::(Es++fl3 (fs.eraseIdx j))):=(h.ex3 hj).perm (List.perm_append_comm_assoc Es [t.1,t.2.1,t.2.2] (fl3 (fs.eraseIdx j)));have h3:=((h2.cons_none (en:=noEnt) J).cons_none (en:=noEnt) J).cons_none (en:=noEnt) J;refine Step.hd3 (t':=(noEnt,noEnt,noEnt)) (Es:=t.1::t.2.1::t.2.2::Es) hj (h3.perm ?_);exact List.perm_append_comm_assoc [noEnt,noEnt,noEnt] (t.1::t.2.1::t.2.2::Es) (fl3 (fs.eraseIdx j))
theorem Step.blkPut (Es: List Ent) (hj: fs[j]? =some told) (h: Step w0 H0 L0 w H (t.1::t.2.1::t.2.2::(Es++fl3 fs))): Step w0 H0 L0 w H (Es++fl3 (fs.set j t)):=by
 have h1: Step w0 H0 L0 w H ((t.1::t.2.1::t.2.2::Es)++fl3 fs):=h;have h2:=h1.ex3 hj;have h3: Step w0 H0 L0 w H (told.1::told.2.1::told.2.2::((t.1::t.2.1::t.2.2::Es)++fl3 (fs.eraseIdx j))):=h2.perm (List.perm_append_comm_assoc (t.1::t.2.1::t.2.2::Es) [told.1,told.2.1,told.2.2] (fl3 (fs.eraseIdx j)));refine Step.hd3 (t':=t) hj (h3.drop.drop.drop.perm ?_);exact List.perm_append_comm_assoc [t.1,t.2.1,t.2.2] Es (fl3 (fs.eraseIdx j))
end
theorem HP.mk' {p n cb ct: Nat} {Ab At: Option Addr} {eb et: Ent} {fs: List (Ent × Ent × Ent)} {bs: BS} {tk: List Bool} {u: Int} (hb: bs.length=n) (ht: tk.length=n) (h1: Row (.slice Ab n cb) eb 105 1 n (gfl bkc bs)) (h2: Row (.slice At n ct) et 4 1 n (bls tk)) (hn: n<=65536) (hF: Fs bs fs) :
  HP p bs tk u ((some p,.cells #[.slice Ab n cb,.slice At n ct,.int .i64 u] 103 (0,0))::eb::et::fl3 fs):=by
 subst hb;exact⟨Ab,cb,At,ct,eb,et,fs,rfl,h1,h2,ht,hn,hF⟩
theorem HP.open_ {p: Nat} {bs: BS} {tk: List Bool} {u: Int} {L: List Ent} (h: HP p bs tk u L): ∃(Ab: Option Addr) (cb: Nat) (At: Option Addr) (ct: Nat) (eb et: Ent) (fs: List (Ent × Ent × Ent)),L=(some p,.cells #[.slice Ab bs.length cb,.slice At bs.length ct,.int .i64 u] 103 (0,0))::eb::et::fl3 fs/\bs.length=bs.length/\tk.length=bs.length/\
  Row (.slice Ab bs.length cb) eb 105 1 bs.length (gfl bkc bs)/\Row (.slice At bs.length ct) et 4 1 bs.length (bls tk)/\bs.length<=65536/\Fs bs fs:=by
 obtain⟨Ab,cb,At,ct,eb,et,fs,h1,h2,h3,h4,h5,h6⟩:=h;exact⟨Ab,cb,At,ct,eb,et,fs,h1,rfl,h4,h2,h3,h5,h6⟩
end Go.Vk
namespace Go.Vk
open Go.RowKit
section
variable {P: Program} {K: Act->World->Prop} {Q: Exit->Act->World->Prop} {D: List Deferred} {a: Act} {w: World} {N: Nat} {m: Env} {d: Nat} {ty: TypeId} {pos: String} {aft: Array Edge} {g: Option (Nat × Bool)}
theorem ch {x: Operand} {t e: TypeId} {v: Value} (ht: P.underlying t=some (.pointer e)) (ha: Has D a N m) (hx: ev m x=some v) (hd: Nat.blt d N=true) (k: ∀ a',Has D a' N ((d,.iface t v)::m)->K a' w) :
  Oper.wp P ⟨some d,.makeInterface t x,ty,pos,aft,g⟩ a w K Q:=
 aM (by simp [execOp,ha.ev hx,Instr.makeInterface,run_underlying ht]) ha hd k
theorem bq {x: Operand} {xt t e: TypeId} {v: Value} (ht: P.underlying t=some (.pointer e)) (ha: Has D a N m) (hx: ev m x=some (.iface t v)) (hd: Nat.blt d N=true) (k: ∀ a',Has D a' N ((d,.tuple #[v,.bool true])::m)->K a' w) :
  Oper.wp P ⟨some d,.typeAssert x xt t true,ty,pos,aft,g⟩ a w K Q:=
 aM (by simp [execOp,ha.ev hx,Instr.typeAssert,run_underlying ht]) ha hd k
theorem aP {x: Operand} {xt t t' e: TypeId} {v z: Value} {sz bytes: Nat} (T: Ty P t (.pointer e) sz bytes z) (ha: Has D a N m) (hx: ev m x=some (.iface t' v)) (hne: Nat.beq t' t=false) (hd: Nat.blt d N=true) (k: ∀ a',Has D a' N ((d,.tuple #[z,.bool false])::m)->K a' w) :
  Oper.wp P ⟨some d,.typeAssert x xt t true,ty,pos,aft,g⟩ a w K Q:=by
 have hn: ¬ t'=t:=fun e=>by rw [e,Nat.beq_refl] at hne;cases hne
 exact aM (by simp [execOp,ha.ev hx,Instr.typeAssert,T.run_und,hn,T.run_zero]) ha hd k
theorem bu {x: Operand} {xt t e: TypeId} {z: Value} {sz bytes: Nat} (T: Ty P t (.pointer e) sz bytes z) (ha: Has D a N m) (hx: ev m x=some .nilIface) (hd: Nat.blt d N=true) (k: ∀ a',Has D a' N ((d,.tuple #[z,.bool false])::m)->K a' w) :
  Oper.wp P ⟨some d,.typeAssert x xt t true,ty,pos,aft,g⟩ a w K Q:=
 aM (by simp [execOp,ha.ev hx,Instr.typeAssert,T.run_und,T.run_zero]) ha hd k
theorem eqIn_if {t i: TypeId} {ms: Array (String × TypeId)} {v: Value} (ht: P.underlying t=some (.interface ms)) (w: World) (d: Nat):(Op.equalIn (d+1) t (.iface i v) .nilIface).run P w=.ok false w:=by simp [Op.equalIn,run_underlying ht]
theorem eqIn_if0 {t: TypeId} {ms: Array (String × TypeId)} (ht: P.underlying t=some (.interface ms)) (w: World) (d: Nat):(Op.equalIn (d+1) t .nilIface .nilIface).run P w=.ok true w:=by simp [Op.equalIn,run_underlying ht]
theorem run_if_eq {t i: TypeId} {ms: Array (String × TypeId)} {v: Value} (ht: P.underlying t=some (.interface ms)) (w: World):(binOp .eql t (.iface i v) .nilIface).run P w=.ok (.bool false) w:=by
 have h:=eqIn_if (i:=i) (v:=v) ht w 9999;simp only [binOp];simp [Op.equal,Op.maxDepth,h]
theorem run_if_eq0 {t: TypeId} {ms: Array (String × TypeId)} (ht: P.underlying t=some (.interface ms)) (w: World):(binOp .eql t .nilIface .nilIface).run P w=.ok (.bool true) w:=by
 have h:=eqIn_if0 ht w 9999;simp only [binOp];simp [Op.equal,Op.maxDepth,h]
theorem run_if_ne {t i: TypeId} {ms: Array (String × TypeId)} {v: Value} (ht: P.underlying t=some (.interface ms)) (w: World):(binOp .neq t (.iface i v) .nilIface).run P w=.ok (.bool true) w:=by
 have h:=eqIn_if (i:=i) (v:=v) ht w 9999;simp only [binOp];simp [Op.equal,Op.maxDepth,h]
theorem run_if_ne0 {t: TypeId} {ms: Array (String × TypeId)} (ht: P.underlying t=some (.interface ms)) (w: World):(binOp .neq t .nilIface .nilIface).run P w=.ok (.bool false) w:=by
 have h:=eqIn_if0 ht w 9999;simp only [binOp];simp [Op.equal,Op.maxDepth,h]
theorem eqIn_ptr {t e b b' sz bytes: Nat} {dd: TypeDesc} {z: Value} (ht: P.underlying t=some (.pointer e)) (T: Ty P e dd sz bytes z) (hs: ¬ sz=0) (h1:(sameAddr ⟨b,0,none⟩ ⟨b',0,none⟩).run P w=.ok (decide (b=b')) w) (d: Nat):(Op.equalIn (d+1) t (.pointer (some ⟨b,0,none⟩)) (.pointer (some ⟨b',0,none⟩))).run P w=.ok (decide (b=b')) w:=by simp [Op.equalIn,run_underlying ht,T.run_sizeOf,hs,h1]
theorem run_ptr_eq {t e b b' sz bytes ca cb: Nat} {dd: TypeDesc} {z: Value} {ta tb: Array Value} (ht: P.underlying t=some (.pointer e)) (T: Ty P e dd sz bytes z) (hs: Nat.blt 0 sz=true) (hb: w.heap[b]? =some (.cells ta ca (0,0))) (hb': w.heap[b']? =some (.cells tb cb (0,0))):(binOp .eql t (.pointer (some ⟨b,0,none⟩)) (.pointer (some ⟨b',0,none⟩))).run P w=.ok (.bool (decide (b=b'))) w:=by
 have hs': ¬ sz=0:=by
  have:=Nat.le_of_ble_eq_true hs;omega
 have h1:(sameAddr ⟨b,0,none⟩ ⟨b',0,none⟩).run P w=.ok (decide (b=b')) w:=by
  by_cases h: b=b'
  ·subst h;rw [run_sameAddr_same];simp
  ·rw [run_sameAddr_other (hne:=by simp [h]) (ha:=hb) (hb:=hb')];simp [h]
 have h:=eqIn_ptr ht T hs' h1 9999;simp only [binOp];simp [Op.equal,Op.maxDepth,h]
theorem gc {x: Operand} {t ty': TypeId} {ms: Array (String × TypeId)} {i: TypeId} {v: Value} (ht: P.underlying t=some (.interface ms)) (ha: Has D a N m) (hx: ev m x=some (.iface i v)) (hd: Nat.blt d N=true) (k: ∀ a',Has D a' N ((d,.bool false)::m)->K a' w) :
  Oper.wp P ⟨some d,.binOp .eql t x (.const .nilIface) ty',ty,pos,aft,g⟩ a w K Q:=
 aM (by simp [execOp,ha.ev hx,ha.ev (show ev m (.const .nilIface)=some .nilIface from rfl),eqGuard,run_if_eq (i:=i) (v:=v) ht w]) ha hd k
theorem o_ifeq0 {x: Operand} {t ty': TypeId} {ms: Array (String × TypeId)} (ht: P.underlying t=some (.interface ms)) (ha: Has D a N m) (hx: ev m x=some .nilIface) (hd: Nat.blt d N=true) (k: ∀ a',Has D a' N ((d,.bool true)::m)->K a' w) :
  Oper.wp P ⟨some d,.binOp .eql t x (.const .nilIface) ty',ty,pos,aft,g⟩ a w K Q:=
 aM (by simp [execOp,ha.ev hx,ha.ev (show ev m (.const .nilIface)=some .nilIface from rfl),eqGuard,run_if_eq0 ht w]) ha hd k
theorem ge {x: Operand} {t ty': TypeId} {ms: Array (String × TypeId)} {i: TypeId} {v: Value} (ht: P.underlying t=some (.interface ms)) (ha: Has D a N m) (hx: ev m x=some (.iface i v)) (hd: Nat.blt d N=true) (k: ∀ a',Has D a' N ((d,.bool true)::m)->K a' w) :
  Oper.wp P ⟨some d,.binOp .neq t x (.const .nilIface) ty',ty,pos,aft,g⟩ a w K Q:=
 aM (by simp [execOp,ha.ev hx,ha.ev (show ev m (.const .nilIface)=some .nilIface from rfl),eqGuard,run_if_ne (i:=i) (v:=v) ht w]) ha hd k
theorem o_ifne0 {x: Operand} {t ty': TypeId} {ms: Array (String × TypeId)} (ht: P.underlying t=some (.interface ms)) (ha: Has D a N m) (hx: ev m x=some .nilIface) (hd: Nat.blt d N=true) (k: ∀ a',Has D a' N ((d,.bool false)::m)->K a' w) :
  Oper.wp P ⟨some d,.binOp .neq t x (.const .nilIface) ty',ty,pos,aft,g⟩ a w K Q:=
 aM (by simp [execOp,ha.ev hx,ha.ev (show ev m (.const .nilIface)=some .nilIface from rfl),eqGuard,run_if_ne0 ht w]) ha hd k
theorem run_method {t e fn: Nat} {name: String} {v: Value} (hz: Nat.beq (P.types.size+Made.depth) 0=false) (hu: P.underlying t=some (.pointer e)) (hi:(P.info? t).map (fun i=>(i.methods.find? (·.name == name)).map fun m=>(m.path,m.func))=some (some (#[],some (fn,true)))) :
  (method (P.types.size+Made.depth) t v name).run P w=.ok (fn,v) w:=by
 obtain⟨i,h1,h2⟩:=Option.map_eq_some_iff.1 hi;obtain⟨mm,h3,h4⟩:=Option.map_eq_some_iff.1 h2;injection h4 with h5 h6
 cases hk: P.types.size+Made.depth with
 | zero=>rw [hk] at hz;cases hz
 | succ k=>simp [method,typeInfo,h1,h3,h5,h6,Go.follow,receiverAt,Place.get,run_underlying hu]
theorem cp {x: Operand} {name: String} {xs: Array Operand} {ts: Array TypeId} {t e fn: Nat} {f: Func} {c: Code} {v: Value} {vs: Array Value} {R: Ending→World→Prop} (hz: Nat.beq (P.types.size+Made.depth) 0=false) (hu: P.underlying t=some (.pointer e))
  (hi:(P.info? t).map (fun i=>(i.methods.find? (·.name == name)).map fun m=>(m.path,m.func))=some (some (#[],some (fn,true))))
  (hf: P.funcs[fn]? =some f) (hb: f.body=some c) (hn:(f.name == "runtime.NumGoroutine")=false) (hx: ev m x=some (.iface t v)) (hvs: xs.map a.eval=vs)
  (ha: Has D a N m) (hd: Nat.blt d N=true) (hc: Calls P fn (#[v]++vs) w R) (k: ∀ e w',R e w'→∃ v,e=.returned v∧∀ a',Has D a' N ((d,v)::m)→K a' w') :
  Oper.wp P ⟨some d,.call { callee:=.invoke x name,args:=xs,argTypes:=ts },ty,pos,aft,g⟩ a w K Q:=by
 have hr:(execOp a.eval ⟨some d,.call { callee:=.invoke x name,args:=xs,argTypes:=ts },ty,pos,aft,g⟩).run P w=.ok (.enter fn (#[v]++vs)) w:=by
  have h2:(f.name= "runtime.NumGoroutine")=False:=by simpa using hn
  have h3:(#[Value.iface t v]++vs).extract 1 (1+vs.size)=vs:=by
   apply Array.ext'
   simp
  have h4:(#[Value.iface t v]++vs)[0]? =some (.iface t v):=by simp [Array.getElem?_append]
  simp [execOp,resolve,invoke,ha.ev hx,hvs,h4,callMethod,run_method hz hu hi,callFunc,hf,h2,hb,h3]
 unfold Oper.wp;rw [hr];refine Calls.mono hc fun e w' hR=>?_;obtain⟨v,rfl,hk⟩:=k e w' hR;exact hk _ (ha.put hd v)
theorem o_ptr_eq {x y: Operand} {t ty' e: TypeId} {dd: TypeDesc} {b b' sz bytes ca cb: Nat} {z: Value} {ta tb: Array Value} (ht: P.underlying t=some (.pointer e)) (T: Ty P e dd sz bytes z) (hs: Nat.blt 0 sz=true) (ha: Has D a N m) (hx: ev m x=some (.pointer (some ⟨b,0,none⟩))) (hy: ev m y=some (.pointer (some ⟨b',0,none⟩)))
  (hb: w.heap[b]? =some (.cells ta ca (0,0))) (hb': w.heap[b']? =some (.cells tb cb (0,0))) (hd: Nat.blt d N=true) (k: ∀ a',Has D a' N ((d,.bool (decide (b=b')))::m)->K a' w) :
  Oper.wp P ⟨some d,.binOp .eql t x y ty',ty,pos,aft,g⟩ a w K Q:=
 aM (by simp [execOp,ha.ev hx,ha.ev hy,eqGuard,run_ptr_eq ht T hs hb hb']) ha hd k
end
end Go.Vk
namespace Go.Vk
theorem bO {tk: List Bool} {a n: Nat} {v: Bool} (h: a+n<=tk.length):(fillP tk a n v).length=tk.length:=by
 unfold fillP;simp only [List.length_append,List.length_take,List.length_replicate,List.length_drop];omega
theorem ed {tk: List Bool} {a n: Nat} {v: Bool} (h: a+n<=tk.length) (k: Nat):(fillP tk a n v)[k]? =if a<=k/\k < a+n then some v else tk[k]?:=by
 unfold fillP;have h1:(tk.take a).length=a:=by rw [List.length_take];omega
 by_cases hk: k < a
 ·rw [if_neg j0,List.append_assoc,List.getElem?_append_left j0,List.getElem?_take,if_pos hk]
 ·by_cases hk2: k < a+n
  ·rw [if_pos ⟨by omega,hk2⟩,List.append_assoc,List.getElem?_append_right j0,List.getElem?_append_left (by rw [List.length_replicate];omega),List.getElem?_replicate,if_pos j0]
  ·rw [if_neg j0,List.getElem?_append_right (by rw [List.length_append,List.length_replicate];omega),List.getElem?_drop]
   congr 1
   rw [List.length_append,List.length_replicate];omega
theorem cut3 (tk: List Bool) (a n: Nat): tk=tk.take a++(tk.drop a).take n++tk.drop (a+n):=by
 rw [List.append_assoc,<- List.drop_drop,List.take_append_drop,List.take_append_drop]
theorem mid_eq {tk: List Bool} {a n: Nat} {v: Bool} (h: a+n<=tk.length) (hv: ∀ k,a<=k->k < a+n->tk[k]? =some v):(tk.drop a).take n=List.replicate n v:=by
 apply List.ext_getElem?
 intro k;rw [List.getElem?_take,List.getElem?_replicate,List.getElem?_drop]
 split
 ·exact hv _ j0 j0
 ·rfl
theorem fillP_count {tk: List Bool} {a n: Nat} {v: Bool} (h: a+n<=tk.length) (hv: ∀ k,a<=k->k < a+n->tk[k]? =some (!v)):((fillP tk a n v).count true: Int)=(tk.count true: Int)+(if v then (n: Int) else -(n: Int)):=by
 have h1:=congrArg (List.count true) (cut3 tk a n);rw [mid_eq h hv,List.count_append,List.count_append] at h1;unfold fillP;rw [List.count_append,List.count_append]
 cases v
 ·simp only [Bool.not_false,List.count_replicate,beq_self_eq_true,if_true] at h1;have: List.count true (List.replicate n false)=0:=by rw [List.count_replicate];rfl
  rw [this];simp only [Bool.false_eq_true,if_false];omega
 ·have: List.count true (List.replicate n (!true))=0:=by rw [List.count_replicate];rfl
  rw [this] at h1;simp only [List.count_replicate,beq_self_eq_true,if_true];omega
theorem cZ (tk: List Bool) (size: Nat): ∀ k a,findP tk size k a= -1\/∃ p: Nat,findP tk size k a=p/\a<=p/\p+size<=tk.length/\((tk.drop p).take size).findIdx? id=none
 | 0,a=>.inl J
 | k+1,a=>by
  unfold findP
  split
  ·exact .inl J
  ·split
   ·rename_i i hi
    rcases cZ tk size k (a+i+1) with h |⟨p,h1,h2,h3⟩
    ·exact .inl h
    ·exact .inr ⟨p,h1,by omega,h3⟩
   ·rename_i hi
    exact .inr ⟨a,rfl,Nat.le_refl _,by omega,hi⟩
theorem ga {tk: List Bool} {p n: Nat} (h: p+n<=tk.length) (hi:((tk.drop p).take n).findIdx? id=none): ∀ k,p<=k->k < p+n->tk[k]? =some false:=by
 intro k h1 h2;rw [List.findIdx?_eq_none_iff] at hi;have hk: k < tk.length:=by omega
 have hm: tk[k] ∈(tk.drop p).take n:=by
  refine List.mem_of_getElem? (i:=k - p) ?_;rw [List.getElem?_take,if_pos j0,List.getElem?_drop,show p+(k - p)=k by omega];exact List.getElem?_eq_getElem hk
 have:=hi _ hm;rw [List.getElem?_eq_getElem hk];exact congrArg some this
theorem bK (tk: List Bool) (size: Nat): findS tk size= -1\/∃ p: Nat,findS tk size=p/\p+size<=tk.length/\∀ k,p<=k->k < p+size->tk[k]? =some false:=by
 rcases cZ tk size (tk.length+1) 0 with h |⟨p,h1,_,h2,h3⟩
 ·exact .inl h
 ·exact .inr ⟨p,h1,h2,ga h2 h3⟩
theorem findP_out {tk: List Bool} {size k a: Nat} (h: tk.length < a+size): findP tk size k a= -1:=by
 cases k with
 | zero=>rfl
 | succ k=>unfold findP;rw [if_pos h]
theorem findP_hit {tk: List Bool} {size k a i: Nat} (h: a+size<=tk.length) (hi: i < size) (hno: ∀ j,j < i->tk[a+j]? =some false) (ht: tk[a+i]? =some true): findP tk size (k+1) a=findP tk size k (a+i+1):=by
 conv=>lhs;unfold findP
 rw [if_neg j0];have:((tk.drop a).take size).findIdx? id=some i:=by
  rw [List.findIdx?_eq_some_iff_getElem];have hl: i <((tk.drop a).take size).length:=by rw [List.length_take,List.length_drop];omega
  refine⟨hl,?_,fun j hj=>?_⟩
  ·rw [List.getElem_take,List.getElem_drop];have:=(List.getElem?_eq_some_iff.1 ht).2;simp [this]
  ·rw [List.getElem_take,List.getElem_drop];have:=(List.getElem?_eq_some_iff.1 (hno j hj)).2;simp [this]
 rw [this]
theorem findP_free {tk: List Bool} {size k a: Nat} (h: a+size<=tk.length) (hno: ∀ j,j < size->tk[a+j]? =some false): findP tk size (k+1) a=a:=by
 unfold findP;rw [if_neg j0];have:((tk.drop a).take size).findIdx? id=none:=by
  rw [List.findIdx?_eq_none_iff];intro x hx;obtain⟨j,hj⟩:=List.getElem?_of_mem hx;rw [List.getElem?_take] at hj
  split at hj
  ·rename_i hlt
   rw [List.getElem?_drop,hno j hlt] at hj;obtain rfl:=Option.some.inj hj;rfl
  ·cases hj
 rw [this]
theorem fillP_zero (tk: List Bool) (a: Nat) (v: Bool): fillP tk a 0 v=tk:=by
 unfold fillP;rw [List.replicate_zero,List.append_nil,Nat.add_zero,List.take_append_drop]
theorem fillP_step {tk: List Bool} {a n: Nat} {v: Bool} (h: a+(n+1)<=tk.length):(fillP tk a n v).set (a+n) v=fillP tk a (n+1) v:=by
 apply List.ext_getElem?
 intro k;rw [List.getElem?_set,ed h,bO j0]
 by_cases hk: a+n=k
 ·subst hk;rw [if_pos J,if_pos j0,if_pos j0]
 ·rw [if_neg hk,ed j0]
  by_cases h2: a<=k/\k < a+n
  ·rw [if_pos h2,if_pos j0]
  ·rw [if_neg h2,if_neg j0]
structure HS.Ok (h: HS): Prop where
 ltk: h.tk.length=h.S.length
 le: h.S.length<=65536
 blk: ∀(j: Nat) (b: PB),h.S[j]? =some (some b)->b.ok/\j+b.size<=h.S.length
 tkn: ∀ k: Nat,h.tk[k]? =some true↔∃(j: Nat) (b: PB),h.S[j]? =some (some b)/\j<=k/\k < j+b.size
 dis: ∀(i j: Nat) (b c: PB),h.S[i]? =some (some b)->h.S[j]? =some (some c)->i < j->i+b.size<=j
 cnt: h.u=(h.tk.count true: Int)
theorem HS.Ok.u {h: HS} (hO: h.Ok): 0<=h.u/\h.u<=65536:=by
 have h1:=hO.cnt;have h2:=List.count_le_length (a:=true) (l:=h.tk);have h3:=hO.ltk;have h4:=hO.le;omega
theorem HS.Ok.new {n: Nat} (h: n<=65536):(HS.new n).Ok:=by
 refine⟨by simp [HS.new],by simpa [HS.new] using h,fun j b hj=>?_,fun k=>⟨fun hk=>?_,fun ⟨j,b,hj,_⟩=>?_⟩,fun i j b c hi=>?_,?_⟩
 ·simp only [HS.new,List.getElem?_replicate] at hj;split at hj <;> cases hj
 ·simp only [HS.new,List.getElem?_replicate] at hk;split at hk <;> cases hk
 ·simp only [HS.new,List.getElem?_replicate] at hj;split at hj <;> cases hj
 ·simp only [HS.new,List.getElem?_replicate] at hi;split at hi <;> cases hi
 ·show (0: Int)=((List.replicate n false).count true: Int)
  have: List.count true (List.replicate n false)=0:=by rw [List.count_replicate];rfl
  rw [this];rfl
theorem bm {α: Type} {l: List α} {a k: Nat} {x y: α} (h:(l.set a x)[k]? =some y):(k=a/\y=x)\/(k≠a/\l[k]? =some y):=by
 rw [List.getElem?_set] at h
 split at h
 ·rename_i e
  split at h
  ·exact .inl ⟨e.symm,(Option.some.inj h).symm⟩
  ·cases h
 ·rename_i e
  exact .inr ⟨fun h'=>e h'.symm,h⟩
theorem HS.Ok.place {h: HS} (hO: h.Ok) {b: PB} (hb: b.ok):(h.place b).1.Ok:=by
 unfold HS.place;dsimp only
 split
 ·exact hO
 ·rename_i hn
  rcases bK h.tk b.size with h1 |⟨p,h1,h2,h3⟩
  ·omega
  ·rw [h1];have hp:((p: Nat): Int).toNat=p:=by omega
   rw [hp];have hs:=hb.size;have hl:=hO.ltk;have hpl: p < h.S.length:=by omega
   have hnew:(h.S.set p (some b))[p]? =some (some b):=by rw [List.getElem?_set,if_pos J,if_pos hpl]
   have hold: ∀(j: Nat) (c: PB),h.S[j]? =some (some c)->∀ k,j<=k->k < j+c.size->¬(p<=k/\k < p+b.size):=by
    intro j c hj k h4 h5 ⟨h6,h7⟩;have h8:=(hO.tkn k).2 ⟨j,c,hj,h4,h5⟩;rw [h3 k h6 h7] at h8;cases h8
   have hne: ∀(j: Nat) (c: PB),h.S[j]? =some (some c)->j≠p:=by
    intro j c hj e;subst e;exact hold j c hj j (Nat.le_refl _) (by have:=((hO.blk j c hj).1).size;omega) ⟨Nat.le_refl _,by omega⟩
   refine⟨?_,?_,fun j c hj=>?_,fun k=>?_,fun i j c e hi hj hij=>?_,?_⟩
   ·show (fillP h.tk p b.size true).length=(h.S.set p (some b)).length
    rw [bO h2,List.length_set];exact hl
   ·show (h.S.set p (some b)).length<=65536
    rw [List.length_set];exact hO.le
   ·show c.ok/\j+c.size<=(h.S.set p (some b)).length
    rw [List.length_set]
    rcases bm hj with ⟨e1,e2⟩ |⟨_,h4⟩
    ·obtain rfl:=Option.some.inj e2;subst e1;exact⟨hb,by omega⟩
    ·exact hO.blk j c h4
   ·show (fillP h.tk p b.size true)[k]? =some true↔∃ j c,(h.S.set p (some b))[j]? =some (some c)/\j<=k/\k < j+c.size
    rw [ed h2]
    constructor
    ·intro hk
     split at hk
     ·rename_i hr
      exact⟨p,b,hnew,hr.1,hr.2⟩
     ·obtain⟨j,c,h4,h5,h6⟩:=(hO.tkn k).1 hk;exact⟨j,c,by rw [List.getElem?_set,if_neg (fun e=>hne j c h4 e.symm)];exact h4,h5,h6⟩
    ·rintro⟨j,c,h4,h5,h6⟩
     rcases bm h4 with ⟨e1,e2⟩ |⟨_,h7⟩
     ·obtain rfl:=Option.some.inj e2;subst e1;rw [if_pos ⟨h5,h6⟩]
     ·rw [if_neg (hold j c h7 k h5 h6)];exact(hO.tkn k).2 ⟨j,c,h7,h5,h6⟩
   ·rcases bm hi with ⟨e1,e2⟩ |⟨n1,h4⟩ <;> rcases bm hj with ⟨e3,e4⟩ |⟨n2,h5⟩
    ·omega
    ·obtain rfl:=Option.some.inj e2;subst e1;have:=((hO.blk j e h5).1).size;refine Classical.byContradiction fun hc=>hold j e h5 j (Nat.le_refl _) j0 ⟨by omega,by omega⟩
    ·obtain rfl:=Option.some.inj e4;subst e3;refine Classical.byContradiction fun hc=>hold i c h4 j j0 j0 ⟨Nat.le_refl _,by omega⟩
    ·exact hO.dis i j c e h4 h5 hij
   ·show h.u+b.size=((fillP h.tk p b.size true).count true: Int)
    rw [fillP_count h2 (by simpa using h3),hO.cnt];rfl
theorem HS.Ok.clear {h: HS} (hO: h.Ok) (a: Nat):(h.clear a).Ok:=by
 unfold HS.clear
 split
 ·rename_i b hb
  have hb': h.S[a]? =some (some b):=by
   rw [List.getD_eq_getElem?_getD] at hb
   cases hh: h.S[a]? with
   | none=>rw [hh] at hb;cases hb
   | some o=>rw [hh] at hb;exact congrArg some hb
  obtain⟨hbo,hfit⟩:=hO.blk a b hb';have hl:=hO.ltk;have hs:=hbo.size;have h2: a+b.size<=h.tk.length:=by omega
  have hr: ∀ k,a<=k->k < a+b.size->h.tk[k]? =some true:=fun k h1 h3=>(hO.tkn k).2 ⟨a,b,hb',h1,h3⟩;have hold: ∀(j: Nat) (c: PB),j≠a->h.S[j]? =some (some c)->∀ k,j<=k->k < j+c.size->¬(a<=k/\k < a+b.size):=by
   intro j c hja hj k h4 h5 ⟨h6,h7⟩
   rcases Nat.lt_or_gt_of_ne hja with hlt | hgt
   ·have:=hO.dis j a c b hj hb' hlt;omega
   ·have:=hO.dis a j b c hb' hj hgt;omega
  refine⟨?_,?_,fun j c hj=>?_,fun k=>?_,fun i j c e hi hj hij=>?_,?_⟩
  ·show (fillP h.tk a b.size false).length=(h.S.set a none).length
   rw [bO h2,List.length_set];exact hl
  ·show (h.S.set a none).length<=65536
   rw [List.length_set];exact hO.le
  ·show c.ok/\j+c.size<=(h.S.set a none).length
   rw [List.length_set]
   rcases bm hj with ⟨_,e2⟩ |⟨_,h4⟩
   ·cases e2
   ·exact hO.blk j c h4
  ·show (fillP h.tk a b.size false)[k]? =some true↔∃ j c,(h.S.set a none)[j]? =some (some c)/\j<=k/\k < j+c.size
   rw [ed h2]
   constructor
   ·intro hk
    split at hk
    ·cases hk
    ·rename_i hnr
     obtain⟨j,c,h4,h5,h6⟩:=(hO.tkn k).1 hk;have hja: j≠a:=fun e=>by
      subst e;rw [hb'] at h4;obtain rfl:=Option.some.inj (Option.some.inj h4);exact hnr ⟨h5,h6⟩
     exact⟨j,c,by rw [List.getElem?_set,if_neg (fun e=>hja e.symm)];exact h4,h5,h6⟩
   ·rintro⟨j,c,h4,h5,h6⟩
    rcases bm h4 with ⟨_,e2⟩ |⟨hja,h7⟩
    ·cases e2
    ·rw [if_neg (hold j c hja h7 k h5 h6)];exact(hO.tkn k).2 ⟨j,c,h7,h5,h6⟩
  ·rcases bm hi with ⟨_,e2⟩ |⟨_,h4⟩
   ·cases e2
   ·rcases bm hj with ⟨_,e4⟩ |⟨_,h5⟩
    ·cases e4
    ·exact hO.dis i j c e h4 h5 hij
  ·show h.u - b.size=((fillP h.tk a b.size false).count true: Int)
   rw [fillP_count h2 (by simpa using hr),hO.cnt];simp only [Bool.false_eq_true,if_false];omega
 ·exact hO
theorem HS.Ok.setB {h: HS} (hO: h.Ok) {i: Nat} {b b': PB} (hi: h.S[i]? =some (some b)) (hb': b'.ok) (hs: b'.size=b.size):(h.setB i b').Ok:=by
 have key: ∀(j: Nat) (c: PB),(h.S.set i (some b'))[j]? =some (some c)->∃ c',h.S[j]? =some (some c')/\c'.size=c.size/\c.ok:=by
  intro j c hj
  rcases bm hj with ⟨e1,e2⟩ |⟨_,h4⟩
  ·obtain rfl:=Option.some.inj e2;subst e1;exact⟨b,hi,hs.symm,hb'⟩
  ·exact⟨c,h4,rfl,(hO.blk j c h4).1⟩
 refine⟨by show _=(h.S.set i (some b')).length;rw [List.length_set];exact hO.ltk,by show (h.S.set i (some b')).length<=_;rw [List.length_set];exact hO.le,fun j c hj=>?_,fun k=>?_,fun p q c e hp hq hpq=>?_,hO.cnt⟩
 ·show c.ok/\j+c.size<=(h.S.set i (some b')).length
  rw [List.length_set];obtain⟨c',h1,h2,h3⟩:=key j c hj;exact⟨h3,by rw [<- h2];exact(hO.blk j c' h1).2⟩
 ·refine(hO.tkn k).trans ⟨fun ⟨j,c,h1,h2,h3⟩=>?_,fun ⟨j,c,h1,h2,h3⟩=>?_⟩
  ·by_cases hj: i=j
   ·subst hj;rw [hi] at h1;obtain rfl:=Option.some.inj (Option.some.inj h1);exact⟨i,b',by show (h.S.set i (some b'))[i]? =_;rw [List.getElem?_set,if_pos J,if_pos (List.getElem?_eq_some_iff.1 hi).1],h2,by omega⟩
   ·exact⟨j,c,by show (h.S.set i (some b'))[j]? =_;rw [List.getElem?_set,if_neg hj];exact h1,h2,h3⟩
  ·obtain⟨c',h4,h5,_⟩:=key j c h1;exact⟨j,c',h4,h2,by omega⟩
 ·obtain⟨c',h1,h2,_⟩:=key p c hp;obtain⟨e',h3,h4,_⟩:=key q e hq;have:=hO.dis p q c' e' h1 h3 hpq;omega
end Go.Vk
namespace Go.Vk
abbrev wv (x: Wd): Value:=.agg #[.int .i64 x.tag,.int .i64 x.n,.string x.s,.bool x.one]
end Go.Vk
namespace Go.Vk.Tryz
open Go.RowKit
theorem map4 {α β: Type} {g: α->β} {l: List α} {a b c d: β} (h: l.map g= [a,b,c,d]): ∃ x y z u,l= [x,y,z,u]/\g x=a/\g y=b/\g z=c/\g u=d:=by
 match l,h with
 | [x,y,z,u],h =>
  simp only [List.map_cons,List.map_nil,List.cons.injEq,and_true] at h;exact⟨x,y,z,u,rfl,h⟩
theorem dec_wd (x y: Wd): decide (x=y)=(decide (x.tag=y.tag)&&(decide (x.n=y.n)&&(decide (x.s=y.s)&&decide (x.one=y.one)))):=by
 rw [Bool.eq_iff_iff];simp only [decide_eq_true_eq,Bool.and_eq_true];exact⟨fun h=>by subst h;exact⟨rfl,rfl,rfl,rfl⟩,fun ⟨h1,h2,h3,h4⟩=>Wd.ext_ h1 h2 h3 h4⟩
theorem run_eqWd (x y: Wd) (w: World):(Op.equal 35 (wv x) (wv y)).run prog w=.ok (decide (x=y)) w:=by
 have hu: Go.Proofs.Tryz.prog.underlying 35=some (.struct (Go.Proofs.Tryz.prog.fieldsOf 35)):=by kernel_rfl
 have hp: Go.Proofs.Tryz.prog.stoodInHeld 35=false:=by kernel_rfl
 obtain⟨f0,f1,f2,f3,hf,g0,g1,g2,g3⟩:=map4 (g:=fun f: Field=>(f.name,f.type,f.offset)) (l:=(Go.Proofs.Tryz.prog.fieldsOf 35).toList) (a:=("Tag",3,0)) (b:=("N",3,1)) (c:=("S",9,2)) (d:=("One",4,3)) j1;simp only [Prod.mk.injEq] at g0 g1 g2 g3;have a1: ∀ w,(isAgg 3).run prog w=.ok false w:=fun w=>by simp [isAgg,T3.run_und]
 have a2: ∀ w,(isAgg 9).run prog w=.ok false w:=fun w=>by simp [isAgg,T9.run_und]
 have a3: ∀ w,(isAgg 4).run prog w=.ok false w:=fun w=>by simp [isAgg,T4.run_und]
 unfold Op.equal Op.maxDepth;rw [run_equalIn_struct w 9999 35 _ _ hu hp,hf,dec_wd];simp only [Op.eqFields,part,Sem.run_bind,g0.1,g0.2.1,g0.2.2,g1.1,g1.2.1,g1.2.2,g2.1,g2.2.1,g2.2.2,g3.1,g3.2.1,g3.2.2,a1,a2,a3,Result.andThen_ok];simp [run_equalIn_int w _ _ _ _ _ _ T3.und,run_equalIn_string w _ _ _ _ T9.und,run_equalIn_bool' w _ _ _ _ T4.und,fp]
 by_cases h1: x.tag=y.tag <;> by_cases h2: x.n=y.n <;> by_cases h3: x.s=y.s <;> by_cases h4: x.one=y.one <;> simp [h1,h2,h3,h4]
section
variable {K: Act->World->Prop} {Q: Exit->Act->World->Prop} {D: List Deferred} {a: Act} {w: World} {N: Nat} {m: Env} {d: Nat} {ty: TypeId} {pos: String} {aft: Array Edge} {g: Option (Nat × Bool)}
theorem fF {x y: Operand} {x1 y1: Wd} {ty': TypeId} (ha: Has D a N m) (hx: ev m x=some (wv x1)) (hy: ev m y=some (wv y1)) (hd: Nat.blt d N=true) (k: ∀ a',Has D a' N ((d,.bool (!decide (x1=y1)))::m)->K a' w) :
  Oper.wp prog ⟨some d,.binOp .neq 35 x y ty',ty,pos,aft,g⟩ a w K Q:=by
 have hg: Go.Proofs.Tryz.prog.eqGuardType Go.Proofs.Tryz.prog.depth 35=false:=by kernel_rfl
 have h1:=run_eqWd x1 y1 w;exact aM (by simp [execOp,ha.ev hx,ha.ev hy,eqGuard,hg,binOp,h1]) ha hd k
end
end Go.Vk.Tryz
namespace Go.Vk
theorem fC {s: ByteArray} (h: nmB s=true): nameB s=true:=by
 unfold nmB isTm at h;rw [chkAll,cO] at h
 split at h
 ·cases h
 ·rename_i h2
  simp only [badB,formB,form3,bareB,Tm.kind,Tm.s,Tm.n,Tm.l,Bool.or_eq_true,not_or,Bool.not_eq_true,Bool.not_eq_false',Bool.and_eq_true] at h2;simp at h2;exact h2
theorem nmB_size {s: ByteArray} (h: nmB s=true): s.size<=32:=by
 have h1:=fC h;unfold nameB at h1;simp only [Bool.and_eq_true,decide_eq_true_eq] at h1;exact h1.1.2
def HK (p: Nat) (h: HS) (L: List Ent): Prop:= ∃ bs: BS,er bs=h.S/\HP p bs h.tk h.u L
theorem bz (h: HS) (b: PB):(h.place b).2=findS h.tk b.size:=by
 unfold HS.place;dsimp only
 split <;> rfl
def plB (bs: BS) (tk: List Bool) (b: BK): BS:=if findS tk b.2.size < 0 then bs else bs.set (findS tk b.2.size).toNat (some b)
def plT (tk: List Bool) (b: BK): List Bool:=if findS tk b.2.size < 0 then tk else fillP tk (findS tk b.2.size).toNat b.2.size true
def plU (tk: List Bool) (u: Int) (b: BK): Int:=if findS tk b.2.size < 0 then u else u+b.2.size
theorem HK.place {p: Nat} {h: HS} {bs: BS} {b: BK} {L: List Ent} (hb: er bs=h.S) (hP: HP p (plB bs h.tk b) (plT h.tk b) (plU h.tk h.u b) L): HK p (h.place b.2).1 L:=by
 refine⟨plB bs h.tk b,?_,?_⟩
 ·unfold HS.place plB;dsimp only
  split
  ·exact hb
  ·show er (bs.set _ _)=h.S.set _ _
   rw [dS,hb];rfl
 ·have h1:(h.place b.2).1.tk=plT h.tk b:=by
   unfold HS.place plT;dsimp only
   split <;> rfl
  have h2:(h.place b.2).1.u=plU h.tk h.u b:=by
   unfold HS.place plU;dsimp only
   split <;> rfl
  rw [h1,h2];exact hP
theorem HK.clear {p a: Nat} {h: HS} {bs: BS} {b: BK} {L: List Ent} (hb: er bs=h.S) (hx: bs[a]? =some (some b)) (hP: HP p (bs.set a none) (fillP h.tk a b.2.size false) (h.u - ((b.2.size: Nat): Int)) L): HK p (h.clear a) L:=by
 have h1: h.S.getD a none=some b.2:=by rw [<- hb,f8,List.getD_eq_getElem?_getD,hx];rfl
 unfold HS.clear;rw [h1];exact⟨bs.set a none,by rw [dS,hb];rfl,hP⟩
theorem HK.len {h: HS} {bs: BS} (hO: h.Ok) (hb: er bs=h.S): bs.length<=65536/\h.tk.length=bs.length:=by
 have h1: bs.length=h.S.length:=by rw [<- hb,bB]
 rw [h1];exact⟨hO.le,hO.ltk⟩
def openB (bs: BS) (w: Wd): Option BK × Int:=
 if (valueS (er bs) w).2=0 then match atB bs (valueS (er bs) w).1 with
  | some (q,.var to hk)=>(some (q,.var to hk),0)
  | _=>(none,211)
 else (none,(valueS (er bs) w).2)
def ptB: Option BK->Value
 | some b=>.pointer (some ⟨b.1,0,none⟩)
 | none=>.pointer none
theorem openB_ok {bs: BS} {w: Wd} (h:(openB bs w).2=0): ∃(q: Nat) (to: List Wd) (hk: List Int),openB bs w=(some (q,.var to hk),0)/\atB bs (valueS (er bs) w).1=some (q,.var to hk)/\(valueS (er bs) w).2=0:=by
 unfold openB at h ⊢
 split at h
 ·rename_i h1
  rw [if_pos h1]
  split at h
  ·rename_i q to hk h2
   rw [h2];exact⟨q,to,hk,rfl,rfl,h1⟩
  ·cases h
 ·rename_i h1
  exact absurd h h1
theorem bD (bs: BS) (w: Wd): openS (er bs) w=((openB bs w).1.map fun _=>(valueS (er bs) w).1.n.toNat,(openB bs w).2):=by
 unfold openS openB;dsimp only
 by_cases h1:(valueS (er bs) w).2=0
 ·rw [if_pos h1,if_neg (by simpa using h1),<- fo]
  cases h2: atB bs (valueS (er bs) w).1 with
  | none=>rfl
  | some b=>obtain ⟨q,_ | _ | _⟩:=b <;> rfl
 ·rw [if_neg h1,if_pos h1];rfl
theorem bM {bs: BS} {j: Nat} {b: BK} {o: Option BK} (hj: bs[j]? =some (some b)) (h: bkc o=bkc (some b)): gfl bkc (bs.set j o)=gfl bkc bs:=by
 have hl:=(List.getElem?_eq_some_iff.1 hj).1;have he: bs[j]=some b:=(List.getElem?_eq_some_iff.1 hj).2;rw [List.set_eq_take_append_cons_drop,if_pos hl,aF,bR,h]
 conv=>rhs;rw [<- List.take_append_drop j bs,List.drop_eq_getElem_cons hl,aF,bR,he]
theorem cv {bs: BS} {S: PS} {j: Nat} {b: BK} (hb: er bs=S) (hj: bs[j]? =some (some b)): S[j]? =some (some b.2):=by rw [<- hb,dR,hj];rfl
theorem HK.setB {p i: Nat} {h: HS} {bs: BS} {q: Nat} {b: PB} {L: List Ent} (hb: er bs=h.S) (hP: HP p (bs.set i (some (q,b))) h.tk h.u L): HK p (h.setB i b) L:=
 ⟨bs.set i (some (q,b)),by rw [dS,hb];rfl,hP⟩
end Go.Vk
namespace Go.Proofs
open Go.Shelf
def Tryz.lays316_ren: Go.Shelf.Ren:=⟨fun | 316=>111 | n=>n,fun | 9=>9 | 3=>3 | 4=>4 | 37=>178 | 0=>0 | 127=>179 | 5=>5 | n=>n,fun | n=>n⟩
theorem Tryz.lays316: Go.Proofs.LaysM.n316 Tryz.prog Tryz.lays316_ren:= {
 mixed:=by kernel_rfl
 f316:=Tryz.func111.trans (congrArg some (by kernel_rfl))
 t0:=Tryz.underlying0
 a0:=Tryz.isAgg0
 z0:=Tryz.sizeOf0
 v0:=Tryz.zeroValue0
 t3:=Tryz.underlying3
 a3:=Tryz.isAgg3
 z3:=Tryz.sizeOf3
 v3:=Tryz.zeroValue3
 t4:=Tryz.underlying4
 a4:=Tryz.isAgg4
 z4:=Tryz.sizeOf4
 v4:=Tryz.zeroValue4
 t9:=Tryz.underlying9
 a9:=Tryz.isAgg9
 z9:=Tryz.sizeOf9
 v9:=Tryz.zeroValue9
 t37:=Tryz.underlying178
 a37:=Tryz.isAgg178
 z37:=Tryz.sizeOf178
 v37:=Tryz.zeroValue178
 t127:=Tryz.underlying179
 a127:=Tryz.isAgg179
 z127:=Tryz.sizeOf179
 v127:=Tryz.zeroValue179
 t5:=Tryz.underlying5
 a5:=Tryz.isAgg5
 z5:=Tryz.sizeOf5
 v5:=Tryz.zeroValue5
 i0:=by kernel_rfl
 i3:=by kernel_rfl
 i4:=by kernel_rfl
 i5:=by kernel_rfl
 i9:=by kernel_rfl
 i37:=by kernel_rfl
 i127:=by kernel_rfl }
end Go.Proofs
namespace Go.Vk.Tryz
open Go.RowKit
theorem c_SClone0 {w0: World} {H: PHeap} (hI: Inv w0 H []) {s: ByteArray} (hs: s.size<=281474976710656): Calls prog 111 #[.string s] w0 (Rs w0 H (.string s)):=
 Calls.mono (Go.Proofs.Any.stringslite_Clone lays316 s w0 hs) fun e w' ⟨h1,h2⟩=>⟨h1,Step.of_below hI h2⟩
theorem c_SClone {w0: World} {H: PHeap} (hI: Inv w0 H []) {s: ByteArray} (hs: s.size<=281474976710656): Calls prog 62 #[(.string s)] w0 (Rs w0 H (.string s)):=by
 have C:=Step.refl hI;refine enter [(.string s)] func62 J ntmps62 J fun a q=>?_;refine wp_seq (ab (Ls J q fun a q=>?_));refine wpList_nil (aa (wp_seq (ab (Lm J q fun a q=>?_))));refine lin J (aD func111 J J (q.evs J) q J (c_SClone0 C.inv.nil hs) ?_);rintro e w ⟨rfl,F⟩;refine⟨_,rfl,fun a q=>?_⟩;have C:=C.call F;refine Ls J q fun a q=>?_;refine wpList_nil (aa (wp_ret (ret1 J q J ?_)));refine⟨congrArg _ ?_,C.plain.drop_all⟩;rfl
theorem fw {w0: World} {H: PHeap} (hI: Inv w0 H []) {x: Wd}: Calls prog 70 #[(.agg (wA x))] w0 (Rs w0 H (.bool (refB x))):=by
 have C:=Step.refl hI;refine enter [(.agg (wA x))] func70 J ntmps70 J fun a q=>?_;refine wp_seq (ab (lin J (aV (cs:=(wA x)) C q J J J fun I a w C q=>?_)));refine Ls J q fun a q=>?_;refine wpList_nil (aa (wp_seq (cN (D:= []) (N:=16) (E:= [(1,(pB I)),(2,(.bool (((decide (x.tag=4))||(decide (x.tag=5)))||(decide (x.tag=6)))))]) (fun a q=>?_) ?_)));rotate_left
 ·refine lin J (ac (f:=0) (o2:=0) T35 T3 J J J J q J J fun a q=>?_);refine lin J (af (v:=(iV x.tag)) T3 J q J (C.blkL 0 J) J J fun a q=>?_);refine lin J (bn (i:=x.tag) (j:=4) q J J J fun a q=>?_);refine Lm J q fun a q=>?_;refine an (t:=6) q J (fun F q=>?_) (fun F q=>?_)
  ·refine Lf J q J J fun a q=>?_;refine Lf J q J J fun a q=>?_;refine Lf J q J J fun a q=>?_;refine lin J (aq q J J J fun a q=>?_);refine Lm J q fun a q=>?_;refine Lf J q J J fun a q=>?_;refine Lf J q J J fun a q=>?_;refine Lf J q J J fun a q=>?_;refine lin J (aq q J J J fun a q=>?_);refine Ls J q fun a q=>?_;exact wpList_nil ⟨rfl,rfl,Has.cons q J (Has.cons q (by simp [lk,Nat.beq,F]) (q.nil))⟩
  ·refine ae J q J J J (ac (f:=0) (o2:=0) T35 T3 J J J J q J J fun a q=>?_);refine ae J q J J J (af (v:=(iV x.tag)) T3 J q J (C.blkL 0 J) J J fun a q=>?_);refine ae J q J J J (bn (i:=x.tag) (j:=5) q J J J fun a q=>?_);refine lin J (am q J J J fun a q=>?_);refine Lm J q fun a q=>?_;refine an (t:=11) q J (fun G q=>?_) (fun G q=>?_)
   ·refine Lf J q J J fun a q=>?_;refine Lf J q J J fun a q=>?_;refine Lf J q J J fun a q=>?_;refine lin J (aq q J J J fun a q=>?_);refine Ls J q fun a q=>?_;exact wpList_nil ⟨rfl,rfl,Has.cons q J (Has.cons q (by simp [lk,Nat.beq,F,G]) (q.nil))⟩
   ·refine ae J q J J J (ac (f:=0) (o2:=0) T35 T3 J J J J q J J fun a q=>?_);refine ae J q J J J (af (v:=(iV x.tag)) T3 J q J (C.blkL 0 J) J J fun a q=>?_);refine ae J q J J J (bn (i:=x.tag) (j:=6) q J J J fun a q=>?_);refine lin J (am q J J J fun a q=>?_);refine Ls J q fun a q=>?_;exact wpList_nil ⟨rfl,rfl,Has.cons q J (Has.cons q (by simp [lk,Nat.beq,F,G]) (q.nil))⟩
 refine aa (wp_ret (ret1 J q J ?_));refine⟨congrArg _ ?_,C.plain.drop_all⟩;unfold refB;rfl
theorem fZ {w0: World} {H: PHeap} (hI: Inv w0 H []) {s: ByteArray}: Calls prog 59 #[(.string s)] w0 (Rs w0 H (.bool (nmB s))):=by
 have C:=Step.refl hI;refine enter [(.string s)] func59 J ntmps59 J fun a q=>?_;refine wp_seq (ab (Ls J q fun a q=>?_));refine wpList_nil (aa (wp_seq (ab (Lm J q fun a q=>?_))));refine lin J (aG (vs:= [(0,(iV 3)),(2,(.string s))]) (cells:= [(iV 3),(iV 0),(.string s),(.slice none 0 0)]) T41 PL41 q (q.evp J) J J fun a q=>?_);refine lin J (aD func109 J J (q.evs J) q J (c_TCheck (t:=(Tm.mk 3 0 s [])) C.inv.nil (RowT.nil _)) ?_);rintro e w ⟨rfl,F⟩;refine⟨_,rfl,fun a q=>?_⟩;have C:=C.call F;refine lin J (bn (i:=(if isTm (Tm.mk 3 0 s []) then (0: Int) else 3)) (j:=0) q J J J fun a q=>?_);refine Ls J q fun a q=>?_;refine wpList_nil (aa (wp_ret (ret1 J q J ?_)));refine⟨congrArg _ ?_,C.plain.drop_all⟩;unfold nmB
 cases isTm (Tm.mk 3 0 s []) <;> rfl
theorem dp {w0: World} {H: PHeap} (hI: Inv w0 H []) {t n: Int}: Calls prog 60 #[(iV t),(iV n)] w0 (Rs w0 H (.tuple #[wv (refW t n).1,.int .i64 (refW t n).2])):=by
 have C:=Step.refl hI;refine enter [(iV t),(iV n)] func60 J ntmps60 J fun a q=>?_;refine wp_seq (ab (lin J (aE (cs:= #[(iV 0),(iV 0),(.string (⟨#[]⟩)),(.bool false)]) T35 C q J J fun G a w C q=>?_)));refine Ls J q fun a q=>?_;refine wpList_nil (aa (wp_seq (wp_seq (ab (Lm J q fun a q=>?_)))));refine lin J (bl (i:=n) (j:=0) q J J J fun a q=>?_);refine wpList_nil (aa (an (t:=7) q J (fun F q=>?_) (fun F q=>?_)))
 ·refine ap q J (wp_seq (ab (lin J (aG (vs:= []) (cells:= [(iV 0),(iV 0),(.string (⟨#[]⟩)),(.bool false)]) T35 PL35 q (q.evp J) J J fun a q=>?_))));refine lin J (ak (cs':= #[(iV 0),(iV 0),(.string (⟨#[]⟩)),(.bool false)]) T35 C (i:=0) J q J J J J J J fun a w C q=>?_);refine Ls J q fun a q=>?_;refine wpList_nil (aa (wp_ret (ai (retA1 (i:=0) (cs:= #[(iV 0),(iV 0),(.string (⟨#[]⟩)),(.bool false)]) J T35 J C J q J J J ?_))));refine⟨?_,C.plain.drop_all⟩;unfold refW;rw [if_pos F]
  try rfl
 ·refine ah q J (wp_skip (aa (wp_seq (ab (Lm J q fun a q=>?_)))));refine Lm J q fun a q=>?_;refine lin J (aG (vs:= [(0,(iV t)),(1,(iV n)),(3,(.bool true))]) (cells:= [(iV t),(iV n),(.string (⟨#[]⟩)),(.bool true)]) T35 PL35 q (q.evp J) J J fun a q=>?_);refine lin J (ak (cs':= #[(iV t),(iV n),(.string (⟨#[]⟩)),(.bool true)]) T35 C (i:=0) J q J J J J J J fun a w C q=>?_);refine Ls J q fun a q=>?_;refine wpList_nil (aa (wp_ret (retA1 (i:=0) (cs:= #[(iV t),(iV n),(.string (⟨#[]⟩)),(.bool true)]) J T35 J C J q J J J ?_)));refine⟨?_,C.plain.drop_all⟩;unfold refW;rw [if_neg F]
  try rfl
def RW (w: World) (H: PHeap) (xs: List Wd) (e: Ending) (w': World): Prop:= ∃ A c en,e=.returned (.slice A xs.length c)/\Row (.slice A xs.length c) en 35 4 xs.length (gfl Wd.cells xs)/\Step w H [] w' H [en]
def RN (w: World) (H: PHeap) (xs: List Int) (e: Ending) (w': World): Prop:= ∃ A c en,e=.returned (.slice A xs.length c)/\Row (.slice A xs.length c) en 3 1 xs.length (ints xs)/\Step w H [] w' H [en]
theorem bH {w0: World} {H: PHeap} (hI: Inv w0 H []) {A: Option Addr} {c: Nat} {xs: List Wd} (hr: RdG 4 Wd.cells w0 [] A c xs): Calls prog 63 #[(.slice A xs.length c)] w0 (RW w0 H xs):=by
 have C:=Step.refl hI;have a5:=hr.hm;refine enter [(.slice A xs.length c)] func63 J ntmps63 J fun a q=>?_;refine wp_seq (ab (Ls J q fun a q=>?_));refine wpList_nil (aa (wp_seq (ab (Lm J q fun a q=>?_))));have C:=C.cons_none (en:=noEnt) J;obtain⟨T,a1,X,V,Y,I,Z⟩:=hr.rd;refine lin J (aJ (news:=(gfl Wd.cells xs)) (xs:= []) T37.und T35 J J C (Row.nil 35 4) q J J (aw Wd.len _) (fun O=>⟨T,a1,X,V,Y,(I (fun F=>O (by rw [F];rfl))).1,C.keepN (I (fun F=>O (by rw [F];rfl))).2.1 (I (fun F=>O (by rw [F];rfl))).2.2,fun j u a0=>a8 Wd.len j4 Z a0⟩) (aT Wd.one' _) j0 J J fun a6 a4 a w G C q=>?_);rw [List.nil_append] at G;obtain⟨a2,a3,rfl⟩:=G.slice;refine Ls J q fun a q=>?_;refine wpList_nil (aa (wp_ret (ret1 J q J ?_)));rw [Nat.zero_add] at G;exact⟨_,_,_,by rw [Nat.zero_add],G,C⟩
theorem cR {w0: World} {H: PHeap} (hI: Inv w0 H []) {A: Option Addr} {c: Nat} {xs: List Int} (hr: RdI w0 A c xs): Calls prog 68 #[(.slice A xs.length c)] w0 (RN w0 H xs):=by
 have C:=Step.refl hI;have Z:=hr.len;refine enter [(.slice A xs.length c)] func68 J ntmps68 J fun a q=>?_;refine wp_seq (ab (Ls J q fun a q=>?_));refine wpList_nil (aa (wp_seq (ab (Lm J q fun a q=>?_))));have C:=C.cons_none (en:=noEnt) J;refine lin J (aJ (news:=(ints xs)) (xs:= []) T26.und T3 J J C (Row.nil 3 1) q J J j3 (fun I=>by obtain⟨_,_,b,o,e,O,T,h1,h2⟩:=hr;exact⟨b,o,e,O,T,(h1 (fun G=>I (by rw [G];rfl))).1,C.keep0 _ _ (h1 (fun G=>I (by rw [G];rfl))).2,h2⟩) (ints_one _) j0 J J fun a0 Y a w F C q=>?_);rw [List.nil_append] at F;obtain⟨V,X,rfl⟩:=F.slice;refine Ls J q fun a q=>?_;refine wpList_nil (aa (wp_ret (ret1 J q J ?_)));rw [Nat.zero_add] at F;exact⟨_,_,_,by rw [Nat.zero_add],F,C⟩
theorem c_varsize {w0: World} {H: PHeap} (hI: Inv w0 H []) {q c c': Nat} {A A': Option Addr} {to: List Wd} {hk: List Int} (hq: w0.heap[q]? =some (.cells #[(.slice A to.length c),(.slice A' hk.length c')] 116 (0,0))) (hl: to.length<=64): Calls prog 200 #[(pB q)] w0 (Rs w0 H (iV 1)):=by
 have F:=Step.refl hI;refine enter [(pB q)] func200 J ntmps200 J fun a C=>?_;refine wp_seq (ab (Ls J C fun a C=>?_));refine wpList_nil (aa (wp_seq (ab (Ls J C fun a C=>?_))));refine wpList_nil (aa (wp_ret (ret1 J C J ?_)));refine⟨congrArg _ ?_,F.plain.drop_all⟩;rfl
theorem c_varwords {w0: World} {H: PHeap} (hI: Inv w0 H []) {q c c': Nat} {A A': Option Addr} {to: List Wd} {hk: List Int} (hq: w0.heap[q]? =some (.cells #[(.slice A to.length c),(.slice A' hk.length c')] 116 (0,0))): Calls prog 201 #[(pB q)] w0 (Rs w0 H (.slice A to.length c)):=by
 have F:=Step.refl hI;refine enter [(pB q)] func201 J ntmps201 J fun a C=>?_;refine wp_seq (ab (Ls J C fun a C=>?_));refine wpList_nil (aa (wp_seq (ab (Lm J C fun a C=>?_))));refine lin J (av C J J fun a C=>?_);refine lin J (ac (f:=0) (o2:=(0+0)) T116 T37 J J J J C J J fun a C=>?_);refine lin J (af (v:=(.slice A to.length c)) T37 J C J (F.keep0 _ _ hq) J J fun a C=>?_);refine Ls J C fun a C=>?_;refine wpList_nil (aa (wp_ret (ret1 J C J ?_)));refine⟨congrArg _ ?_,F.plain.drop_all⟩;rfl
theorem c_fnsize {w0: World} {H: PHeap} (hI: Inv w0 H []) {q c: Nat} {A: Option Addr} {s: ByteArray} {l: List Wd} (hq: w0.heap[q]? =some (.cells #[(.string s),(.slice A l.length c)] 113 (0,0))) (hl: l.length<=64): Calls prog 198 #[(pB q)] w0 (Rs w0 H (iV ((l.length+1: Nat): Int))):=by
 have F:=Step.refl hI;refine enter [(pB q)] func198 J ntmps198 J fun a C=>?_;refine wp_seq (ab (Ls J C fun a C=>?_));refine wpList_nil (aa (wp_seq (ab (Lm J C fun a C=>?_))));refine lin J (av C J J fun a C=>?_);refine lin J (ac (f:=1) (o2:=(0+1)) T113 T37 J J J J C J J fun a C=>?_);refine lin J (af (v:=(.slice A l.length c)) T37 J C J (F.keep0 _ _ hq) J J fun a C=>?_);refine lin J (aI T37.und C J J fun a C=>?_);refine lin J (aL (i:=((l.length: Nat): Int)) (j:=1) C J J J j0 fun a C=>?_);refine Ls J C fun a C=>?_;refine wpList_nil (aa (wp_ret (ret1 J C J ?_)));refine⟨congrArg _ ?_,F.plain.drop_all⟩;rfl
theorem c_fnwords {w0: World} {H: PHeap} (hI: Inv w0 H []) {q c: Nat} {A: Option Addr} {s: ByteArray} {l: List Wd} (hq: w0.heap[q]? =some (.cells #[(.string s),(.slice A l.length c)] 113 (0,0))): Calls prog 199 #[(pB q)] w0 (Rs w0 H (.slice A l.length c)):=by
 have F:=Step.refl hI;refine enter [(pB q)] func199 J ntmps199 J fun a C=>?_;refine wp_seq (ab (Ls J C fun a C=>?_));refine wpList_nil (aa (wp_seq (ab (Lm J C fun a C=>?_))));refine lin J (av C J J fun a C=>?_);refine lin J (ac (f:=1) (o2:=(0+1)) T113 T37 J J J J C J J fun a C=>?_);refine lin J (af (v:=(.slice A l.length c)) T37 J C J (F.keep0 _ _ hq) J J fun a C=>?_);refine Ls J C fun a C=>?_;refine wpList_nil (aa (wp_ret (ret1 J C J ?_)));refine⟨congrArg _ ?_,F.plain.drop_all⟩;rfl
theorem c_vecsize {w0: World} {H: PHeap} (hI: Inv w0 H []) {q c: Nat} {A: Option Addr} {l: List Wd} (hq: w0.heap[q]? =some (.cells #[(.slice A l.length c)] 119 (0,0))) (hl: l.length<=64): Calls prog 202 #[(pB q)] w0 (Rs w0 H (iV ((l.length+1: Nat): Int))):=by
 have F:=Step.refl hI;refine enter [(pB q)] func202 J ntmps202 J fun a C=>?_;refine wp_seq (ab (Ls J C fun a C=>?_));refine wpList_nil (aa (wp_seq (ab (Lm J C fun a C=>?_))));refine lin J (av C J J fun a C=>?_);refine lin J (ac (f:=0) (o2:=(0+0)) T119 T37 J J J J C J J fun a C=>?_);refine lin J (af (v:=(.slice A l.length c)) T37 J C J (F.keep0 _ _ hq) J J fun a C=>?_);refine lin J (aI T37.und C J J fun a C=>?_);refine lin J (aL (i:=((l.length: Nat): Int)) (j:=1) C J J J j0 fun a C=>?_);refine Ls J C fun a C=>?_;refine wpList_nil (aa (wp_ret (ret1 J C J ?_)));refine⟨congrArg _ ?_,F.plain.drop_all⟩;rfl
theorem c_vecwords {w0: World} {H: PHeap} (hI: Inv w0 H []) {q c: Nat} {A: Option Addr} {l: List Wd} (hq: w0.heap[q]? =some (.cells #[(.slice A l.length c)] 119 (0,0))): Calls prog 203 #[(pB q)] w0 (Rs w0 H (.slice A l.length c)):=by
 have F:=Step.refl hI;refine enter [(pB q)] func203 J ntmps203 J fun a C=>?_;refine wp_seq (ab (Ls J C fun a C=>?_));refine wpList_nil (aa (wp_seq (ab (Lm J C fun a C=>?_))));refine lin J (av C J J fun a C=>?_);refine lin J (ac (f:=0) (o2:=(0+0)) T119 T37 J J J J C J J fun a C=>?_);refine lin J (af (v:=(.slice A l.length c)) T37 J C J (F.keep0 _ _ hq) J J fun a C=>?_);refine Ls J C fun a C=>?_;refine wpList_nil (aa (wp_ret (ret1 J C J ?_)));refine⟨congrArg _ ?_,F.plain.drop_all⟩;rfl
theorem ff {K: Act→World→Prop} {Q: Exit→Act→World→Prop} {D: List Deferred} {a: Act} {w0 w: World} {H0 H: PHeap} {L0 L: List Ent} {N: Nat} {m: Env} {d: Nat} {ty: TypeId} {pos: String} {aft: Array Edge} {g: Option (Nat × Bool)} {x: Operand} {ts: Array TypeId} {b: BK} {t: Ent × Ent × Ent} (hS: Step w0 H0 L0 w H L) (hm1: t.1 ∈ L) (hB: Bk3 (some b) t) (hok: b.2.ok) (ha: Has D a N m) (hx: ev m x=some (bkv (some b))) (hd: Nat.blt d N=true) (k: ∀ a' w',Step w0 H0 L0 w' H L→Has D a' N ((d,.int .i64 ((b.2.size: Nat): Int))::m)→K a' w') :
  Oper.wp prog ⟨some d,.call { callee:=.invoke x "riparian/heap.size",args:= #[],argTypes:=ts },ty,pos,aft,g⟩ a w K Q:=by
 obtain⟨G,⟨O,X⟩ |⟨s,l⟩ |⟨l⟩⟩:=b
 ·obtain⟨A,c,T,c',F,I, -⟩:=hB;rw [F] at hm1;refine cp J T114.und j1 func200 J J hx (ha.evs (xs:= []) J) ha hd (c_varsize hS.inv.nil (hS.inv.own _ hm1 G J) (show _≤64 from by have V: O.length≤1:=hok.1;omega)) ?_;rintro e w' ⟨rfl,C⟩;exact⟨_,rfl,fun a' q=>k  a' w' (hS.call C) q⟩
 ·obtain⟨A,c,F,I, -⟩:=hB;rw [F] at hm1;refine cp J T110.und j1 func198 J J hx (ha.evs (xs:= []) J) ha hd (c_fnsize hS.inv.nil (hS.inv.own _ hm1 G J) (show _≤64 from hok)) ?_;rintro e w' ⟨rfl,C⟩;exact⟨_,rfl,fun a' q=>k  a' w' (hS.call C) q⟩
 ·obtain⟨A,c,F,I, -⟩:=hB;rw [F] at hm1;refine cp J T117.und j1 func202 J J hx (ha.evs (xs:= []) J) ha hd (c_vecsize hS.inv.nil (hS.inv.own _ hm1 G J) (show _≤64 from hok)) ?_;rintro e w' ⟨rfl,C⟩;exact⟨_,rfl,fun a' q=>k  a' w' (hS.call C) q⟩
theorem dy {K: Act→World→Prop} {Q: Exit→Act→World→Prop} {D: List Deferred} {a: Act} {w0 w: World} {H0 H: PHeap} {L0 L: List Ent} {N: Nat} {m: Env} {d: Nat} {ty: TypeId} {pos: String} {aft: Array Edge} {g: Option (Nat × Bool)} {x: Operand} {ts: Array TypeId} {b: BK} {t: Ent × Ent × Ent} (hS: Step w0 H0 L0 w H L) (hm1: t.1 ∈ L) (hB: Bk3 (some b) t) (hok: b.2.ok) (ha: Has D a N m) (hx: ev m x=some (bkv (some b))) (hd: Nat.blt d N=true) (k: ∀(A: Option Addr) (c: Nat),Row (.slice A b.2.words.length c) t.2.1 35 4 b.2.words.length (gfl Wd.cells b.2.words)→∀ a' w',Step w0 H0 L0 w' H L→Has D a' N ((d,.slice A b.2.words.length c)::m)→K a' w') :
  Oper.wp prog ⟨some d,.call { callee:=.invoke x "riparian/heap.words",args:= #[],argTypes:=ts },ty,pos,aft,g⟩ a w K Q:=by
 obtain⟨I,⟨V,T⟩ |⟨s,l⟩ |⟨l⟩⟩:=b
 ·obtain⟨A,c,O,c',G,q, -⟩:=hB;rw [G] at hm1;refine cp J T114.und j1 func201 J J hx (ha.evs (xs:= []) J) ha hd (c_varwords hS.inv.nil (hS.inv.own _ hm1 I J)) ?_;rintro e w' ⟨rfl,F⟩;exact⟨_,rfl,fun a' C=>k A c q a' w' (hS.call F) C⟩
 ·obtain⟨A,c,G,q, -⟩:=hB;rw [G] at hm1;refine cp J T110.und j1 func199 J J hx (ha.evs (xs:= []) J) ha hd (c_fnwords hS.inv.nil (hS.inv.own _ hm1 I J)) ?_;rintro e w' ⟨rfl,F⟩;exact⟨_,rfl,fun a' C=>k A c q a' w' (hS.call F) C⟩
 ·obtain⟨A,c,G,q, -⟩:=hB;rw [G] at hm1;refine cp J T117.und j1 func203 J J hx (ha.evs (xs:= []) J) ha hd (c_vecwords hS.inv.nil (hS.inv.own _ hm1 I J)) ?_;rintro e w' ⟨rfl,F⟩;exact⟨_,rfl,fun a' C=>k A c q a' w' (hS.call F) C⟩
end Go.Vk.Tryz
namespace Go.Vk.Tryz
open Go.RowKit
theorem c_find {w0: World} {H: PHeap} {L: List Ent} {p: Nat} {bs: BS} {tk: List Bool} {u: Int} (hI: Inv w0 H L) (hP: HP p bs tk u L) {size: Nat} (hz: 1<=size/\size<=1000): Calls prog 110 #[(pB p),(iV ((size: Nat): Int))] w0 (fun e w'=>e=.returned (iV (findS tk size))/\Step w0 H L w' H L):=by
 obtain⟨Ab,cb,G,I,T,V,fs,rfl,aw,ax,b0,ad,ay,ar⟩:=hP.open_;have F:=Step.refl hI;refine enter [(pB p),(iV ((size: Nat): Int))] func110 J ntmps110 J fun a q=>?_;refine wp_seq (ab (Ls J q fun a q=>?_));refine wpList_nil (aa (wp_scope_straight (wp_seq (ab (Ls J q fun a q=>?_)))));refine wpList_nil (aa (wp_seq (wp_label ?_)));refine aa (wp_seq (wp_block (a6 (fun a4 a w=> ∃(C: Nat),∃(k: Nat),a4=k/\Has [] a 35 [(0,(pB p)),(1,(iV ((size: Nat): Int))),(5,(iV ((C: Nat): Int)))]/\Step w0 H ((eO p 103 #[.slice Ab bs.length cb,.slice G bs.length I,.int .i64 u])::T::V::fl3 fs) w H ((eO p 103 #[(.slice Ab bs.length cb),(.slice G bs.length I),(iV u)])::T::V::(fl3 fs))/\(findP tk size k C=findS tk size)/\(tk.length < C+k)/\(C<=tk.length)) _ ⟨0,(tk.length+1),rfl,q.pk J,F,rfl,j0,j0⟩ ?_)));intro b6 a w a1;obtain⟨C,k,b4,q,F,a0,b3,b1⟩:=a1;refine wp_seq (wp_seq (ab (Lm J q fun a q=>?_)));refine Lm J q fun a q=>?_;refine lin J (aL (i:=((C: Nat): Int)) (j:=((size: Nat): Int)) q J J J j0 fun a q=>?_);refine Lm J q fun a q=>?_;refine lin J (av q J J fun a q=>?_);refine lin J (ac (f:=1) (o2:=1) T103 T101 J J J J q J J fun a q=>?_);refine lin J (af (v:=(.slice G bs.length I)) T101 J q J (F.blkL 0 J) J J fun a q=>?_);refine lin J (aI T101.und q J J fun a q=>?_);refine lin J (gg (i:=(((C: Nat): Int)+((size: Nat): Int))) (j:=((bs.length: Nat): Int)) q J J J fun a q=>?_);refine wpList_nil (aa (an (t:=15) q J (fun h2 q=>?_) (fun h2 q=>?_)))
 ·refine ap q J (wp_skip (aa (wp_block (wp_seq (wp_seq (ab (Lm J q fun a q=>?_)))))));refine Lm J q fun a q=>?_;refine wpList_nil (aa (wp_block (a6 (fun a4 a w=> ∃(i: Nat),a4=size - i/\Has [] a 35 [(0,(pB p)),(1,(iV ((size: Nat): Int))),(5,(iV ((C: Nat): Int))),(16,(iV ((size: Nat): Int))),(17,(iV ((i: Nat): Int)))]/\Step w0 H ((eO p 103 #[.slice Ab bs.length cb,.slice G bs.length I,.int .i64 u])::T::V::fl3 fs) w H ((eO p 103 #[(.slice Ab bs.length cb),(.slice G bs.length I),(iV u)])::T::V::(fl3 fs))/\(i<=size)/\(∀ j,j < i->tk[C+j]? =some false)) _ ⟨0,rfl,q.pk J,F,j0,(fun j h=>by omega)⟩ ?_)));intro b7 a w a1;obtain⟨i,b5,q,F,b2,a2⟩:=a1;refine wp_seq (ab (lin J (bl (i:=((i: Nat): Int)) (j:=((size: Nat): Int)) q J J J fun a q=>?_)));refine wpList_nil (aa (wp_seq (an (t:=18) q J (fun a8 q=>?_) (fun a8 q=>?_))))
  ·refine ap q J (wp_skip (aa (wp_seq (wp_block (wp_seq (ab (Lm J q fun a q=>?_)))))));refine Ls J q fun a q=>?_;refine wpList_nil (aa (wp_seq (ab (Lm J q fun a q=>?_))));refine lin J (av q J J fun a q=>?_);refine lin J (ac (f:=1) (o2:=1) T103 T101 J J J J q J J fun a q=>?_);refine lin J (af (v:=(.slice G bs.length I)) T101 J q J (F.blkL 0 J) J J fun a q=>?_);refine Lm J q fun a q=>?_;refine Lm J q fun a q=>?_;refine lin J (aL (i:=((C: Nat): Int)) (j:=((i: Nat): Int)) q J J J j0 fun a q=>?_);obtain⟨X,am,a7,al,ae,Z, -⟩:=ad.at_ (j:=(C+i)) j0;have a9:(G: Option Addr)=some ⟨X,0,none⟩:=by injection al
   obtain⟨a5,a3⟩: ∃ x,tk[(C+i)]? =some x:=⟨_,List.getElem?_eq_getElem j5⟩;have Z:=Z 0 (.bool a5) j0 (bV a3);refine lin J (aC (b:=X) (o:=0) (j:=(C+i)) T101.und T4 a9 q J J j0 j0 J fun a q=>?_);refine lin J (af (v:=(.bool a5)) T4 J q J (F.blkL 2 (b:=X) (o:=.cells a7 4 (0,0)) (by rw [<- ae];rfl)) Z J fun a q=>?_);refine wpList_nil (aa (au (t:=28) q J (fun Y q=>?_) (fun Y q=>?_)))
   ·refine ap q J (wp_seq (ab (Lm J q fun a q=>?_)));refine Lm J q fun a q=>?_;refine lin J (aL (i:=((i: Nat): Int)) (j:=1) q J J J j0 fun a q=>?_);refine lin J (aL (i:=((C: Nat): Int)) (j:=(((i: Nat): Int)+1)) q J J J j0 fun a q=>?_);refine Ls J q fun a q=>?_;refine wpList_nil (aa (wp_exit (blk_miss J (az (az (blk_miss J (az (aN (aa (?_))))))))));obtain⟨k',rfl⟩: ∃ k',k=k'+1:=⟨k - 1,by omega⟩;have ak:=findP_hit (k:=k') (tk:=tk) (size:=size) (a:=C) (i:=i) j0 j0 a2 (by rw [a3,Y]);exact⟨k',by omega,(C+(i+1)),k',rfl,q.pk J,F,(by rw [<- a0,ak,Nat.add_assoc]),j0,j0⟩
   ·refine ah q J (wp_skip (ao (aa (ab (lin J (aL (i:=((i: Nat): Int)) (j:=1) q J J J j0 fun a q=>?_))))));refine Lm J q fun a q=>?_;refine wpList_nil (aa (?_));exact⟨size - (i+1),by omega,(i+1),rfl,q.pk J,F,j0,(fun j ag=>by
      by_cases aj: j=i
      ·subst aj;rw [a3,Y]
      ·exact a2 j j0)⟩
  ·refine ah q J (wp_exit (az (az (aN (aa (wp_seq (ab (Lm J q fun a q=>?_))))))));refine Ls J q fun a q=>?_;refine wpList_nil (aa (wp_ret (aA (ai (aA (ai (ng_ret (ret1 J q J ?_))))))));obtain⟨k',rfl⟩: ∃ k',k=k'+1:=⟨k - 1,by omega⟩;have O:=findP_free (k:=k') (tk:=tk) (size:=size) (a:=C) j0 (fun j ag=>a2 j j0);rw [a0] at O;exact⟨by rw [O],F⟩
 ·refine ah q J (wp_exit (az (az (aN (aa (wp_seq (ab (Ls J q fun a q=>?_))))))));refine wpList_nil (aa (wp_ret (ng_ret (ret1 J q J ?_))));have O:=findP_out (tk:=tk) (size:=size) (k:=k) (a:=C) (by have aq:=h2;omega);rw [a0] at O;exact⟨by rw [O],F⟩
theorem c_fill {w0: World} {H: PHeap} {L: List Ent} {p: Nat} {bs: BS} {tk: List Bool} {u: Int} (hI: Inv w0 H L) (hP: HP p bs tk u L) {a_ size: Nat} {v: Bool} (hz: size<=1000) (hfit: a_+size<=bs.length) (hu: -1000000000000<=u/\u<=1000000000000): Calls prog 108 #[(pB p),(iV ((a_: Nat): Int)),(iV ((size: Nat): Int)),(.bool v)] w0 (fun e w'=> ∃ L',e=.returned (.tuple #[])/\HP p bs (fillP tk a_ size v) (if v then u+size else u - size) L'/\Step w0 H L w' H L'):=by
 obtain⟨Ab,cb,F,G,a2,a3,fs,rfl,a7,Z,ad,ai,a8,a5⟩:=hP.open_;have C:=Step.refl hI;refine enter [(pB p),(iV ((a_: Nat): Int)),(iV ((size: Nat): Int)),(.bool v)] func108 J ntmps108 J fun a q=>?_;refine wp_seq (wp_seq (ab (Lm J q fun a q=>?_)));refine Lm J q fun a q=>?_;refine wpList_nil (aa (wp_block (a6 (fun aq a w=> ∃(k: Nat),∃(O: List Bool),∃(X: Ent),aq=size - k/\Has [] a 40 [(0,(pB p)),(1,(iV ((a_: Nat): Int))),(2,(iV ((size: Nat): Int))),(3,(.bool v)),(9,(iV ((size: Nat): Int))),(10,(iV ((k: Nat): Int)))]/\Step w0 H ((eO p 103 #[.slice Ab bs.length cb,.slice F bs.length G,.int .i64 u])::a2::a3::fl3 fs) w H ((eO p 103 #[(.slice Ab bs.length cb),(.slice F bs.length G),(iV u)])::a2::X::(fl3 fs))/\(Row (.slice F bs.length G) X 4 1 bs.length (bls O))/\(O=fillP tk a_ k v)/\(k<=size)) _ ⟨0,tk,a3,rfl,q.pk J,C,ai,(fillP_zero _ _ _).symm,j0⟩ ?_)));intro b4 a w aj;obtain⟨k,O,X,b2,q,C,I,V,b1⟩:=aj;have b3: O.length=bs.length:=by rw [V,bO j0];exact Z
 refine wp_seq (ab (lin J (bl (i:=((k: Nat): Int)) (j:=((size: Nat): Int)) q J J J fun a q=>?_)));refine wpList_nil (aa (wp_seq (an (t:=11) q J (fun h2 q=>?_) (fun h2 q=>?_))))
 ·refine ap q J (wp_skip (aa (wp_seq (wp_block (wp_seq (ab (Lm J q fun a q=>?_)))))));refine Ls J q fun a q=>?_;refine wpList_nil (aa (ab (Lm J q fun a q=>?_)));refine lin J (av q J J fun a q=>?_);refine lin J (ac (f:=1) (o2:=1) T103 T101 J J J J q J J fun a q=>?_);refine lin J (af (v:=(.slice F bs.length G)) T101 J q J (C.blkL 0 J) J J fun a q=>?_);refine Lm J q fun a q=>?_;refine Lm J q fun a q=>?_;refine lin J (aL (i:=((a_: Nat): Int)) (j:=((k: Nat): Int)) q J J J j0 fun a q=>?_);refine Lm J q fun a q=>?_;obtain⟨a1,aw,ax,al,ay,ae, -⟩:=I.at_ (j:=(a_+k)) j0;have a4:(F: Option Addr)=some ⟨a1,0,none⟩:=by injection al
  obtain⟨ar,am⟩: ∃ x,O[(a_+k)]? =some x:=⟨_,List.getElem?_eq_getElem j5⟩;have ae:=ae 0 (.bool ar) j0 (bV am);refine lin J (aC (b:=a1) (o:=0) (j:=(a_+k)) T101.und T4 a4 q J J j0 j0 J fun a q=>?_);refine lin J (dl (j:=(a_+k)) T4 C (i:=2) J I J a4 j0 J q J J J J fun ag a w a9 b0 C q=>?_);rw [show (Value.cells _).toList= [.bool v] from rfl,ck j5] at a9;refine wpList_nil (ao (aa (ab (lin J (aL (i:=((k: Nat): Int)) (j:=1) q J J J j0 fun a q=>?_)))));refine Lm J q fun a q=>?_;refine wpList_nil (aa (?_));exact⟨size - (k+1),by omega,(k+1),(O.set (a_+k) v),ag,rfl,q.pk J,C,a9,(by rw [V];exact fillP_step j0),j0⟩
 ·refine ah q J (wp_exit (az (az (aN (aa (wp_seq (ab (Lm J q fun a q=>?_))))))));refine wpList_nil (aa (au (t:=23) q J (fun Y q=>?_) (fun Y q=>?_)))
  ·refine ap q J (ab (Lm J q fun a q=>?_));refine lin J (av q J J fun a q=>?_);refine lin J (ac (f:=2) (o2:=2) T103 T3 J J J J q J J fun a q=>?_);refine lin J (af (v:=(iV u)) T3 J q J (C.blkL 0 J) J J fun a q=>?_);refine Lm J q fun a q=>?_;refine lin J (aL (i:=u) (j:=((size: Nat): Int)) q J J J j0 fun a q=>?_);refine lin J (av q J J fun a q=>?_);refine lin J (ac (f:=2) (o2:=2) T103 T3 J J J J q J J fun a q=>?_);refine lin J (ak (cs':= #[(.slice Ab bs.length cb),(.slice F bs.length G),(iV (u+((size: Nat): Int)))]) T3 C (i:=0) J q J J J J J J fun a w C q=>?_);refine wpList_nil (ret0 J q ?_);have a0: k=size:=by omega
   subst a0 V;have T:(fillP tk a_ k v).length=bs.length:=by rw [bO j0];exact Z
   rw [Y] at I T ⊢;exact⟨_,rfl,HP.mk' a7 T ad I a8 a5,C⟩
  ·refine ah q J (ab (Lm J q fun a q=>?_));refine lin J (av q J J fun a q=>?_);refine lin J (ac (f:=2) (o2:=2) T103 T3 J J J J q J J fun a q=>?_);refine lin J (af (v:=(iV u)) T3 J q J (C.blkL 0 J) J J fun a q=>?_);refine Lm J q fun a q=>?_;refine lin J (cx (i:=u) (j:=((size: Nat): Int)) q J J J j0 fun a q=>?_);refine lin J (av q J J fun a q=>?_);refine lin J (ac (f:=2) (o2:=2) T103 T3 J J J J q J J fun a q=>?_);refine lin J (ak (cs':= #[(.slice Ab bs.length cb),(.slice F bs.length G),(iV (u - ((size: Nat): Int)))]) T3 C (i:=0) J q J J J J J J fun a w C q=>?_);refine wpList_nil (ret0 J q ?_);have a0: k=size:=by omega
   subst a0 V;have T:(fillP tk a_ k v).length=bs.length:=by rw [bO j0];exact Z
   rw [Y] at I T ⊢;exact⟨_,rfl,HP.mk' a7 T ad I a8 a5,C⟩
theorem fT {w0: World} {H: PHeap} {L: List Ent} {p: Nat} {bs: BS} {tk: List Bool} {u: Int} (hI: Inv w0 H L) (hP: HP p bs tk u L) {x: Wd}: Calls prog 67 #[(pB p),(.agg (wA x))] w0 (fun e w'=>e=.returned (bkv (atB bs x))/\Step w0 H L w' H L):=by
 obtain⟨Ab,cb,b6,bf,bg,bh,fs,rfl,bj,bk,al,bo,bm,bi⟩:=hP.open_;have C:=Step.refl hI;refine enter [(pB p),(.agg (wA x))] func67 J ntmps67 J fun a q=>?_;refine wp_seq (ab (lin J (aV (cs:=(wA x)) C q J J J fun Y a w C q=>?_)));refine Ls J q fun a q=>?_;refine wpList_nil (aa (wp_seq (wp_seq ?_)))
 let a2:List (Nat×Value):=[(0,(pB p)),(3,(pB Y))];by_cases O: x.n < 0
 ·have a7:=C;refine b0 bI [fun _ v=>v=(.pointer (some ⟨Y,1,none⟩)),fun _ v=>v=(iV x.n),fun _ v=>v=(.bool true),fun _ v=>v=(.bool true),fun _ v=>v=undef,fun _ v=>v=undef,fun _ v=>v=undef,fun _ v=>v=undef,fun _ v=>v=undef,fun _ v=>v=undef,fun _ v=>v=undef,fun _ v=>v=undef,fun _ v=>v=(.bool true),fun _ v=>v=(.bool true),fun _ v=>v=undef,fun _ v=>v=undef,fun _ v=>v=undef,fun _ v=>v=(.bool true)] (N:=58) (E:= a2) mixed J (Monos.cons (fun _ _ _ _ h=>h) (Monos.cons (fun _ _ _ _ h=>h) (Monos.cons (fun _ _ _ _ h=>h) (Monos.cons (fun _ _ _ _ h=>h) (Monos.cons (fun _ _ _ _ h=>h) (Monos.cons (fun _ _ _ _ h=>h) (Monos.cons (fun _ _ _ _ h=>h) (Monos.cons (fun _ _ _ _ h=>h) (Monos.cons (fun _ _ _ _ h=>h) (Monos.cons (fun _ _ _ _ h=>h) (Monos.cons (fun _ _ _ _ h=>h) (Monos.cons (fun _ _ _ _ h=>h) (Monos.cons (fun _ _ _ _ h=>h) (Monos.cons (fun _ _ _ _ h=>h) (Monos.cons (fun _ _ _ _ h=>h) (Monos.cons (fun _ _ _ _ h=>h) (Monos.cons (fun _ _ _ _ h=>h) (Monos.cons (fun _ _ _ _ h=>h) (Monos.nil))))))))))))))))))) C (q.pk J) (.cons ?_ (.cons ?_ (.cons ?_ (.cons ?_ (.cons ?_ (.cons ?_ (.cons ?_ (.cons ?_ (.cons ?_ (.cons ?_ (.cons ?_ (.cons ?_ (.cons ?_ (.cons ?_ (.cons ?_ (.cons ?_ (.cons ?_ (.cons ?_ (.nil))))))))))))))))))) (fun a w b8 az C q a0=>?_)
  ·refine Qz J fun a w C q F=>?_;refine id (ac (f:=1) (o2:=1) T35 T3 J J J J q J J fun a q=>?_);exact qdone J q C J
  ·refine Qz J fun a w C q F=>?_;obtain⟨_,q,rfl⟩:=F.g q 0 J;refine id (af (v:=(iV x.n)) T3 J q J (C.blkL 0 J) J J fun a q=>?_);exact qdone J q C J
  ·refine Qz J fun a w C q F=>?_;obtain⟨_,q,rfl⟩:=F.g q 1 J;refine id (bl (i:=x.n) (j:=0) q J J J fun a q=>?_);exact qdone J q C (by first |(rw [decide_eq_true O] <;> rfl) |(rw [decide_eq_false O] <;> rfl) |(rw [O] <;> rfl) | simp [O])
  ·refine Qz J fun a w C q F=>?_;obtain⟨_,q,rfl⟩:=F.g q 2 J;refine id (aj q J J fun a q=>?_);exact qdone J q C (by first |(rw [decide_eq_true O] <;> rfl) |(rw [decide_eq_false O] <;> rfl) |(rw [O] <;> rfl) | simp [O])
  ·intro a w I G C q F;subst G;obtain⟨_,q,rfl⟩:=F.g q 3 J;rw [if_neg (ay J J q J J J)];intro d V;rfl
  ·intro a w I G C q F;subst G;obtain⟨_,q,rfl⟩:=F.g q 4 J;obtain⟨_,q,rfl⟩:=F.g q 3 J;rw [if_neg (ay J J q J J J)];intro d V;rfl
  ·intro a w I G C q F;subst G;obtain⟨_,q,rfl⟩:=F.g q 3 J;rw [if_neg (ay J J q J J J)];intro d V;rfl
  ·intro a w I G C q F;subst G;obtain⟨_,q,rfl⟩:=F.g q 6 J;obtain⟨_,q,rfl⟩:=F.g q 3 J;rw [if_neg (ay J J q J J J)];intro d V;rfl
  ·intro a w I G C q F;subst G;obtain⟨_,q,rfl⟩:=F.g q 7 J;obtain⟨_,q,rfl⟩:=F.g q 3 J;rw [if_neg (ay J J q J J J)];intro d V;rfl
  ·intro a w I G C q F;subst G;obtain⟨_,q,rfl⟩:=F.g q 8 J;obtain⟨_,q,rfl⟩:=F.g q 3 J;rw [if_neg (ay J J q J J J)];intro d V;rfl
  ·intro a w I G C q F;subst G;obtain⟨_,q,rfl⟩:=F.g q 9 J;obtain⟨_,q,rfl⟩:=F.g q 3 J;rw [if_neg (ay J J q J J J)];intro d V;rfl
  ·intro a w I G C q F;subst G;obtain⟨_,q,rfl⟩:=F.g q 5 J;obtain⟨_,q,rfl⟩:=F.g q 10 J;obtain⟨_,q,rfl⟩:=F.g q 3 J;rw [if_neg (ay J J q J J J)];intro d V;rfl
  ·refine Qz J fun a w C q F=>?_;obtain⟨_,q,rfl⟩:=F.g q 3 J;obtain⟨_,q,rfl⟩:=F.g q 11 J;refine id (aq q J J J fun a q=>?_);exact qdone J q C J
  ·refine Qz J fun a w C q F=>?_;obtain⟨_,q,rfl⟩:=F.g q 12 J;refine id (aj q J J fun a q=>?_);exact qdone J q C J
  ·intro a w I G C q F;subst G;obtain⟨_,q,rfl⟩:=F.g q 13 J;rw [if_neg (ay J J q J J J)];intro d V;rfl
  ·intro a w I G C q F;subst G;obtain⟨_,q,rfl⟩:=F.g q 14 J;obtain⟨_,q,rfl⟩:=F.g q 13 J;rw [if_neg (ay J J q J J J)];intro d V;rfl
  ·intro a w I G C q F;subst G;obtain⟨_,q,rfl⟩:=F.g q 15 J;obtain⟨_,q,rfl⟩:=F.g q 13 J;rw [if_neg (ay J J q J J J)];intro d V;rfl
  ·refine Qz J fun a w C q F=>?_;obtain⟨_,q,rfl⟩:=F.g q 13 J;obtain⟨_,q,rfl⟩:=F.g q 16 J;refine id (aq q J J J fun a q=>?_);exact qdone J q C J
  subst az;obtain⟨_,q,rfl⟩:=Dd q a0 17 J;refine aa (ap q J (wp_seq (ab (Ls J q fun a q=>?_))));refine wpList_nil (aa (wp_ret (ai (ret1 J q J ?_))));have C:=C.drop;rw [show atB bs x=none from cn (.inl O)];exact⟨rfl,C⟩
 ·by_cases T:((bs.length: Nat): Int)<=x.n
  ·have a7:=C;refine b0 bI [fun _ v=>v=(.pointer (some ⟨Y,1,none⟩)),fun _ v=>v=(iV x.n),fun _ v=>v=(.bool false),fun _ v=>v=(.bool false),fun _ v=>v=(.pointer (some ⟨Y,1,none⟩)),fun _ v=>v=(iV x.n),fun _ v=>v=(pB p),fun _ v=>v=(pB p),fun _ v=>v=(pB p),fun _ v=>v=(.slice Ab bs.length cb),fun _ v=>v=(iV ((bs.length: Nat): Int)),fun _ v=>v=(.bool true),fun _ v=>v=(.bool true),fun _ v=>v=(.bool true),fun _ v=>v=undef,fun _ v=>v=undef,fun _ v=>v=undef,fun _ v=>v=(.bool true)] (N:=58) (E:= a2) mixed J (Monos.cons (fun _ _ _ _ h=>h) (Monos.cons (fun _ _ _ _ h=>h) (Monos.cons (fun _ _ _ _ h=>h) (Monos.cons (fun _ _ _ _ h=>h) (Monos.cons (fun _ _ _ _ h=>h) (Monos.cons (fun _ _ _ _ h=>h) (Monos.cons (fun _ _ _ _ h=>h) (Monos.cons (fun _ _ _ _ h=>h) (Monos.cons (fun _ _ _ _ h=>h) (Monos.cons (fun _ _ _ _ h=>h) (Monos.cons (fun _ _ _ _ h=>h) (Monos.cons (fun _ _ _ _ h=>h) (Monos.cons (fun _ _ _ _ h=>h) (Monos.cons (fun _ _ _ _ h=>h) (Monos.cons (fun _ _ _ _ h=>h) (Monos.cons (fun _ _ _ _ h=>h) (Monos.cons (fun _ _ _ _ h=>h) (Monos.cons (fun _ _ _ _ h=>h) (Monos.nil))))))))))))))))))) C (q.pk J) (.cons ?_ (.cons ?_ (.cons ?_ (.cons ?_ (.cons ?_ (.cons ?_ (.cons ?_ (.cons ?_ (.cons ?_ (.cons ?_ (.cons ?_ (.cons ?_ (.cons ?_ (.cons ?_ (.cons ?_ (.cons ?_ (.cons ?_ (.cons ?_ (.nil))))))))))))))))))) (fun a w b9 b1 C q a0=>?_)
   ·refine Qz J fun a w C q F=>?_;refine id (ac (f:=1) (o2:=1) T35 T3 J J J J q J J fun a q=>?_);exact qdone J q C J
   ·refine Qz J fun a w C q F=>?_;obtain⟨_,q,rfl⟩:=F.g q 0 J;refine id (af (v:=(iV x.n)) T3 J q J (C.blkL 0 J) J J fun a q=>?_);exact qdone J q C J
   ·refine Qz J fun a w C q F=>?_;obtain⟨_,q,rfl⟩:=F.g q 1 J;refine id (bl (i:=x.n) (j:=0) q J J J fun a q=>?_);exact qdone J q C (by first |(rw [decide_eq_true O] <;> rfl) |(rw [decide_eq_false O] <;> rfl) |(rw [O] <;> rfl) | simp [O])
   ·refine Qz J fun a w C q F=>?_;obtain⟨_,q,rfl⟩:=F.g q 2 J;refine id (aj q J J fun a q=>?_);exact qdone J q C (by first |(rw [decide_eq_true O] <;> rfl) |(rw [decide_eq_false O] <;> rfl) |(rw [O] <;> rfl) | simp [O])
   ·intro a w I G C q F;subst G;obtain⟨_,q,rfl⟩:=F.g q 3 J;rw [if_pos (aB J q J J J)];refine id (ac (f:=1) (o2:=1) T35 T3 J J J J q J J fun a q=>?_);exact qdone J q C J
   ·intro a w I G C q F;subst G;obtain⟨_,q,rfl⟩:=F.g q 4 J;obtain⟨_,q,rfl⟩:=F.g q 3 J;rw [if_pos (aB J q J J J)];refine id (af (v:=(iV x.n)) T3 J q J (C.blkL 0 J) J J fun a q=>?_);exact qdone J q C J
   ·intro a w I G C q F;subst G;obtain⟨_,q,rfl⟩:=F.g q 3 J;rw [if_pos (aB J q J J J)];refine id (aj q J J fun a q=>?_);exact qdone J q C J
   ·intro a w I G C q F;subst G;obtain⟨_,q,rfl⟩:=F.g q 6 J;obtain⟨_,q,rfl⟩:=F.g q 3 J;rw [if_pos (aB J q J J J)];refine id (av q J J fun a q=>?_);exact qdone J q C J
   ·intro a w I G C q F;subst G;obtain⟨_,q,rfl⟩:=F.g q 7 J;obtain⟨_,q,rfl⟩:=F.g q 3 J;rw [if_pos (aB J q J J J)];refine id (ac (f:=0) (o2:=0) T103 T100 J J J J q J J fun a q=>?_);exact qdone J q C J
   ·intro a w I G C q F;subst G;obtain⟨_,q,rfl⟩:=F.g q 8 J;obtain⟨_,q,rfl⟩:=F.g q 3 J;rw [if_pos (aB J q J J J)];refine id (af (v:=(.slice Ab bs.length cb)) T100 J q J (C.blkL 1 J) J J fun a q=>?_);exact qdone J q C J
   ·intro a w I G C q F;subst G;obtain⟨_,q,rfl⟩:=F.g q 9 J;obtain⟨_,q,rfl⟩:=F.g q 3 J;rw [if_pos (aB J q J J J)];refine id (aI T100.und q J J fun a q=>?_);exact qdone J q C J
   ·intro a w I G C q F;subst G;obtain⟨_,q,rfl⟩:=F.g q 5 J;obtain⟨_,q,rfl⟩:=F.g q 10 J;obtain⟨_,q,rfl⟩:=F.g q 3 J;rw [if_pos (aB J q J J J)];refine id (eQ (i:=x.n) (j:=((bs.length: Nat): Int)) q J J J fun a q=>?_);exact qdone J q C (by first |(rw [decide_eq_true T] <;> rfl) |(rw [decide_eq_false T] <;> rfl) |(rw [T] <;> rfl) | simp [T])
   ·refine Qz J fun a w C q F=>?_;obtain⟨_,q,rfl⟩:=F.g q 3 J;obtain⟨_,q,rfl⟩:=F.g q 11 J;refine id (am q J J J fun a q=>?_);exact qdone J q C (by first |(rw [decide_eq_true T] <;> rfl) |(rw [decide_eq_false T] <;> rfl) |(rw [T] <;> rfl) | simp [T])
   ·refine Qz J fun a w C q F=>?_;obtain⟨_,q,rfl⟩:=F.g q 12 J;refine id (aj q J J fun a q=>?_);exact qdone J q C (by first |(rw [decide_eq_true T] <;> rfl) |(rw [decide_eq_false T] <;> rfl) |(rw [T] <;> rfl) | simp [T])
   ·intro a w I G C q F;subst G;obtain⟨_,q,rfl⟩:=F.g q 13 J;rw [if_neg (ay J J q J J J)];intro d V;rfl
   ·intro a w I G C q F;subst G;obtain⟨_,q,rfl⟩:=F.g q 14 J;obtain⟨_,q,rfl⟩:=F.g q 13 J;rw [if_neg (ay J J q J J J)];intro d V;rfl
   ·intro a w I G C q F;subst G;obtain⟨_,q,rfl⟩:=F.g q 15 J;obtain⟨_,q,rfl⟩:=F.g q 13 J;rw [if_neg (ay J J q J J J)];intro d V;rfl
   ·refine Qz J fun a w C q F=>?_;obtain⟨_,q,rfl⟩:=F.g q 13 J;obtain⟨_,q,rfl⟩:=F.g q 16 J;refine id (aq q J J J fun a q=>?_);exact qdone J q C J
   subst b1;obtain⟨_,q,rfl⟩:=Dd q a0 17 J;refine aa (ap q J (wp_seq (ab (Ls J q fun a q=>?_))));refine wpList_nil (aa (wp_ret (ai (ret1 J q J ?_))));have C:=C.drop;rw [show atB bs x=none from cn (.inr (.inl T))];exact⟨rfl,C⟩
  ·have a7:=C;refine b0 bI [fun _ v=>v=(.pointer (some ⟨Y,1,none⟩)),fun _ v=>v=(iV x.n),fun _ v=>v=(.bool false),fun _ v=>v=(.bool false),fun _ v=>v=(.pointer (some ⟨Y,1,none⟩)),fun _ v=>v=(iV x.n),fun _ v=>v=(pB p),fun _ v=>v=(pB p),fun _ v=>v=(pB p),fun _ v=>v=(.slice Ab bs.length cb),fun _ v=>v=(iV ((bs.length: Nat): Int)),fun _ v=>v=(.bool false),fun _ v=>v=(.bool false),fun _ v=>v=(.bool false),fun _ v=>v=(.pointer (some ⟨Y,2,none⟩)),fun _ v=>v=(.string x.s),fun _ v=>v=(.bool (!decide (x.s=⟨#[]⟩))),fun _ v=>v=(.bool (!decide (x.s=⟨#[]⟩)))] (N:=58) (E:= a2) mixed J (Monos.cons (fun _ _ _ _ h=>h) (Monos.cons (fun _ _ _ _ h=>h) (Monos.cons (fun _ _ _ _ h=>h) (Monos.cons (fun _ _ _ _ h=>h) (Monos.cons (fun _ _ _ _ h=>h) (Monos.cons (fun _ _ _ _ h=>h) (Monos.cons (fun _ _ _ _ h=>h) (Monos.cons (fun _ _ _ _ h=>h) (Monos.cons (fun _ _ _ _ h=>h) (Monos.cons (fun _ _ _ _ h=>h) (Monos.cons (fun _ _ _ _ h=>h) (Monos.cons (fun _ _ _ _ h=>h) (Monos.cons (fun _ _ _ _ h=>h) (Monos.cons (fun _ _ _ _ h=>h) (Monos.cons (fun _ _ _ _ h=>h) (Monos.cons (fun _ _ _ _ h=>h) (Monos.cons (fun _ _ _ _ h=>h) (Monos.cons (fun _ _ _ _ h=>h) (Monos.nil))))))))))))))))))) C (q.pk J) (.cons ?_ (.cons ?_ (.cons ?_ (.cons ?_ (.cons ?_ (.cons ?_ (.cons ?_ (.cons ?_ (.cons ?_ (.cons ?_ (.cons ?_ (.cons ?_ (.cons ?_ (.cons ?_ (.cons ?_ (.cons ?_ (.cons ?_ (.cons ?_ (.nil))))))))))))))))))) (fun a w ba b2 C q a0=>?_)
   ·refine Qz J fun a w C q F=>?_;refine id (ac (f:=1) (o2:=1) T35 T3 J J J J q J J fun a q=>?_);exact qdone J q C J
   ·refine Qz J fun a w C q F=>?_;obtain⟨_,q,rfl⟩:=F.g q 0 J;refine id (af (v:=(iV x.n)) T3 J q J (C.blkL 0 J) J J fun a q=>?_);exact qdone J q C J
   ·refine Qz J fun a w C q F=>?_;obtain⟨_,q,rfl⟩:=F.g q 1 J;refine id (bl (i:=x.n) (j:=0) q J J J fun a q=>?_);exact qdone J q C (by first |(rw [decide_eq_true O] <;> rfl) |(rw [decide_eq_false O] <;> rfl) |(rw [O] <;> rfl) | simp [O])
   ·refine Qz J fun a w C q F=>?_;obtain⟨_,q,rfl⟩:=F.g q 2 J;refine id (aj q J J fun a q=>?_);exact qdone J q C (by first |(rw [decide_eq_true O] <;> rfl) |(rw [decide_eq_false O] <;> rfl) |(rw [O] <;> rfl) | simp [O])
   ·intro a w I G C q F;subst G;obtain⟨_,q,rfl⟩:=F.g q 3 J;rw [if_pos (aB J q J J J)];refine id (ac (f:=1) (o2:=1) T35 T3 J J J J q J J fun a q=>?_);exact qdone J q C J
   ·intro a w I G C q F;subst G;obtain⟨_,q,rfl⟩:=F.g q 4 J;obtain⟨_,q,rfl⟩:=F.g q 3 J;rw [if_pos (aB J q J J J)];refine id (af (v:=(iV x.n)) T3 J q J (C.blkL 0 J) J J fun a q=>?_);exact qdone J q C J
   ·intro a w I G C q F;subst G;obtain⟨_,q,rfl⟩:=F.g q 3 J;rw [if_pos (aB J q J J J)];refine id (aj q J J fun a q=>?_);exact qdone J q C J
   ·intro a w I G C q F;subst G;obtain⟨_,q,rfl⟩:=F.g q 6 J;obtain⟨_,q,rfl⟩:=F.g q 3 J;rw [if_pos (aB J q J J J)];refine id (av q J J fun a q=>?_);exact qdone J q C J
   ·intro a w I G C q F;subst G;obtain⟨_,q,rfl⟩:=F.g q 7 J;obtain⟨_,q,rfl⟩:=F.g q 3 J;rw [if_pos (aB J q J J J)];refine id (ac (f:=0) (o2:=0) T103 T100 J J J J q J J fun a q=>?_);exact qdone J q C J
   ·intro a w I G C q F;subst G;obtain⟨_,q,rfl⟩:=F.g q 8 J;obtain⟨_,q,rfl⟩:=F.g q 3 J;rw [if_pos (aB J q J J J)];refine id (af (v:=(.slice Ab bs.length cb)) T100 J q J (C.blkL 1 J) J J fun a q=>?_);exact qdone J q C J
   ·intro a w I G C q F;subst G;obtain⟨_,q,rfl⟩:=F.g q 9 J;obtain⟨_,q,rfl⟩:=F.g q 3 J;rw [if_pos (aB J q J J J)];refine id (aI T100.und q J J fun a q=>?_);exact qdone J q C J
   ·intro a w I G C q F;subst G;obtain⟨_,q,rfl⟩:=F.g q 5 J;obtain⟨_,q,rfl⟩:=F.g q 10 J;obtain⟨_,q,rfl⟩:=F.g q 3 J;rw [if_pos (aB J q J J J)];refine id (eQ (i:=x.n) (j:=((bs.length: Nat): Int)) q J J J fun a q=>?_);exact qdone J q C (by first |(rw [decide_eq_true T] <;> rfl) |(rw [decide_eq_false T] <;> rfl) |(rw [T] <;> rfl) | simp [T])
   ·refine Qz J fun a w C q F=>?_;obtain⟨_,q,rfl⟩:=F.g q 3 J;obtain⟨_,q,rfl⟩:=F.g q 11 J;refine id (am q J J J fun a q=>?_);exact qdone J q C (by first |(rw [decide_eq_true T] <;> rfl) |(rw [decide_eq_false T] <;> rfl) |(rw [T] <;> rfl) | simp [T])
   ·refine Qz J fun a w C q F=>?_;obtain⟨_,q,rfl⟩:=F.g q 12 J;refine id (aj q J J fun a q=>?_);exact qdone J q C (by first |(rw [decide_eq_true T] <;> rfl) |(rw [decide_eq_false T] <;> rfl) |(rw [T] <;> rfl) | simp [T])
   ·intro a w I G C q F;subst G;obtain⟨_,q,rfl⟩:=F.g q 13 J;rw [if_pos (aB J q J J J)];refine id (ac (f:=2) (o2:=2) T35 T9 J J J J q J J fun a q=>?_);exact qdone J q C J
   ·intro a w I G C q F;subst G;obtain⟨_,q,rfl⟩:=F.g q 14 J;obtain⟨_,q,rfl⟩:=F.g q 13 J;rw [if_pos (aB J q J J J)];refine id (af (v:=(.string x.s)) T9 J q J (C.blkL 0 J) J J fun a q=>?_);exact qdone J q C J
   ·intro a w I G C q F;subst G;obtain⟨_,q,rfl⟩:=F.g q 15 J;obtain⟨_,q,rfl⟩:=F.g q 13 J;rw [if_pos (aB J q J J J)];refine id (o_nes q J J J fun a q=>?_);exact qdone J q C J
   ·refine Qz J fun a w C q F=>?_;obtain⟨_,q,rfl⟩:=F.g q 13 J;obtain⟨_,q,rfl⟩:=F.g q 16 J;refine id (am q J J J fun a q=>?_);exact qdone J q C J
   subst b2;obtain⟨_,q,rfl⟩:=Dd q a0 17 J;refine aa (aQ (t:=25) q J (fun Z q=>?_) (fun Z q=>?_))
   ·refine ap q J (wp_seq (ab (Ls J q fun a q=>?_)));refine wpList_nil (aa (wp_ret (ai (ret1 J q J ?_))));have C:=C.drop;rw [show atB bs x=none from cn (.inr (.inr (.inl Z)))];exact⟨rfl,C⟩
   ·refine ah q J (wp_skip (aa (wp_seq (wp_seq ?_))));have a7:=C;obtain⟨a9,a3,bc,ag,X,b3,au,ar⟩:=Row.getG bN j4 al (j:=(Int.toNat x.n)) j0;have ak:(Ab: Option Addr)=some ⟨a3,0,none⟩:=by injection b3
    refine b0 bI [fun _ v=>v=(pB p),fun _ v=>v=(pB p),fun _ v=>v=(pB p),fun _ v=>v=(.slice Ab bs.length cb),fun _ v=>v=(.pointer (some ⟨Y,1,none⟩)),fun _ v=>v=(iV x.n),fun _ v=>v=(.pointer (some ⟨a3,0+(Int.toNat x.n) * 1,none⟩)),fun _ v=>v=(bkv a9)] (N:=58) (E:= a2) mixed J (Monos.cons (fun _ _ _ _ h=>h) (Monos.cons (fun _ _ _ _ h=>h) (Monos.cons (fun _ _ _ _ h=>h) (Monos.cons (fun _ _ _ _ h=>h) (Monos.cons (fun _ _ _ _ h=>h) (Monos.cons (fun _ _ _ _ h=>h) (Monos.cons (fun _ _ _ _ h=>h) (Monos.cons (fun _ _ _ _ h=>h) (Monos.nil))))))))) C (q.pk J) (.cons ?_ (.cons ?_ (.cons ?_ (.cons ?_ (.cons ?_ (.cons ?_ (.cons ?_ (.cons ?_ (.nil))))))))) (fun a w b7 ax C q a0=>?_)
    ·refine Qz J fun a w C q F=>?_;refine id (aj q J J fun a q=>?_);exact qdone J q C J
    ·refine Qz J fun a w C q F=>?_;obtain⟨_,q,rfl⟩:=F.g q 0 J;refine id (av q J J fun a q=>?_);exact qdone J q C J
    ·refine Qz J fun a w C q F=>?_;obtain⟨_,q,rfl⟩:=F.g q 1 J;refine id (ac (f:=0) (o2:=0) T103 T100 J J J J q J J fun a q=>?_);exact qdone J q C J
    ·refine Qz J fun a w C q F=>?_;obtain⟨_,q,rfl⟩:=F.g q 2 J;refine id (af (v:=(.slice Ab bs.length cb)) T100 J q J (C.blkL 1 J) J J fun a q=>?_);exact qdone J q C J
    ·refine Qz J fun a w C q F=>?_;refine id (ac (f:=1) (o2:=1) T35 T3 J J J J q J J fun a q=>?_);exact qdone J q C J
    ·refine Qz J fun a w C q F=>?_;obtain⟨_,q,rfl⟩:=F.g q 4 J;refine id (af (v:=(iV x.n)) T3 J q J (C.blkL 0 J) J J fun a q=>?_);exact qdone J q C J
    ·refine Qz J fun a w C q F=>?_;obtain⟨_,q,rfl⟩:=F.g q 3 J;obtain⟨_,q,rfl⟩:=F.g q 5 J;refine id (aC (b:=a3) (o:=0) (j:=(Int.toNat x.n)) T100.und T105 ak q J J j0 j0 J fun a q=>?_);exact qdone J q C J
    ·refine Qz J fun a w C q F=>?_;obtain⟨_,q,rfl⟩:=F.g q 6 J;refine id (af (v:=(bkv a9)) T105 J q J (C.blkL 2 (b:=a3) (o:=.cells ag 105 (0,0)) (by rw [<- au];rfl)) (ar 0 _ J) J fun a q=>?_);exact qdone J q C J
    subst ax;obtain⟨_,q,rfl⟩:=Dd q a0 7 J;refine aa (wp_block (wp_seq (ab ?_)))
    rcases a9 with _ |⟨a1,⟨b5,aw⟩ |⟨b4,a8⟩ |⟨a8⟩⟩
    ·refine lin J (bu T114 q J J fun a q=>?_);refine lin J (ad (v:=(.bool false)) q J J J fun a q=>?_);refine lin J (ad (v:=(.pointer none)) q J J J fun a q=>?_);refine wpList_nil (aa (ah q J (wp_seq (ab (lin J (bu T110 q J J fun a q=>?_))))));refine lin J (ad (v:=(.bool false)) q J J J fun a q=>?_);refine lin J (ad (v:=(.pointer none)) q J J J fun a q=>?_);refine wpList_nil (aa (ah q J (wp_seq (ab (lin J (bu T117 q J J fun a q=>?_))))));refine lin J (ad (v:=(.bool false)) q J J J fun a q=>?_);refine lin J (ad (v:=(.pointer none)) q J J J fun a q=>?_);refine wpList_nil (aa (ah q J (wp_skip (ao (aa (wp_seq (ab (Ls J q fun a q=>?_))))))));refine wpList_nil (aa (wp_ret (ret1 J q J ?_)));have C:=C.drop;rw [show atB bs x=none from cn (.inr (.inr (.inr X)))];exact⟨rfl,C⟩
    ·have ae:=X;refine lin J (bq T114.und q J J fun a q=>?_);refine lin J (ad (v:=(.bool true)) q J J J fun a q=>?_);refine lin J (ad (v:=(pB a1)) q J J J fun a q=>?_);refine wpList_nil (aa (ap q J (wp_seq (ab (Ls J q fun a q=>?_)))));refine wpList_nil (aa (wp_seq (ab (lin J (ac (f:=0) (o2:=0) T35 T3 J J J J q J J fun a q=>?_)))));refine lin J (af (v:=(iV x.tag)) T3 J q J (C.blkL 0 J) J J fun a q=>?_);refine lin J (bn (i:=x.tag) (j:=4) q J J J fun a q=>?_);refine wpList_nil (aa (an (t:=39) q J (fun a4 q=>?_) (fun a4 q=>?_)))
     ·refine ap q J (wp_seq (ab (Lm J q fun a q=>?_)));refine lin J (ch T114.und q J J fun a q=>?_);refine Ls J q fun a q=>?_;refine wpList_nil (aa (wp_ret (aA (ai (ret1 J q J ?_)))));have C:=C.drop;rw [show atB bs x=(some (a1,PB.var b5 aw)) from (bJ j0 j0 Z X).trans (if_pos a4)];exact⟨rfl,C⟩
     ·refine ah q J (wp_skip (ao (aa (wp_seq (ab (Ls J q fun a q=>?_))))));refine wpList_nil (aa (wp_ret (ret1 J q J ?_)));have C:=C.drop;rw [show atB bs x=none from (bJ j0 j0 Z X).trans (if_neg a4)];exact⟨rfl,C⟩
    ·have ae:=X;refine lin J (aP T114 q J J J fun a q=>?_);refine lin J (ad (v:=(.bool false)) q J J J fun a q=>?_);refine lin J (ad (v:=(.pointer none)) q J J J fun a q=>?_);refine wpList_nil (aa (ah q J (wp_seq (ab (lin J (bq T110.und q J J fun a q=>?_))))));refine lin J (ad (v:=(.bool true)) q J J J fun a q=>?_);refine lin J (ad (v:=(pB a1)) q J J J fun a q=>?_);refine wpList_nil (aa (ap q J (wp_seq (ab (Ls J q fun a q=>?_)))));refine wpList_nil (aa (wp_seq (ab (lin J (ac (f:=0) (o2:=0) T35 T3 J J J J q J J fun a q=>?_)))));refine lin J (af (v:=(iV x.tag)) T3 J q J (C.blkL 0 J) J J fun a q=>?_);refine lin J (bn (i:=x.tag) (j:=5) q J J J fun a q=>?_);refine wpList_nil (aa (an (t:=47) q J (fun a5 q=>?_) (fun a5 q=>?_)))
     ·refine ap q J (wp_seq (ab (Lm J q fun a q=>?_)));refine lin J (ch T110.und q J J fun a q=>?_);refine Ls J q fun a q=>?_;refine wpList_nil (aa (wp_ret (aA (ai (ret1 J q J ?_)))));have C:=C.drop;rw [show atB bs x=(some (a1,PB.fn b4 a8)) from (bJ j0 j0 Z X).trans (if_pos a5)];exact⟨rfl,C⟩
     ·refine ah q J (wp_skip (ao (aa (wp_seq (ab (Ls J q fun a q=>?_))))));refine wpList_nil (aa (wp_ret (ret1 J q J ?_)));have C:=C.drop;rw [show atB bs x=none from (bJ j0 j0 Z X).trans (if_neg a5)];exact⟨rfl,C⟩
    ·have ae:=X;refine lin J (aP T114 q J J J fun a q=>?_);refine lin J (ad (v:=(.bool false)) q J J J fun a q=>?_);refine lin J (ad (v:=(.pointer none)) q J J J fun a q=>?_);refine wpList_nil (aa (ah q J (wp_seq (ab (lin J (aP T110 q J J J fun a q=>?_))))));refine lin J (ad (v:=(.bool false)) q J J J fun a q=>?_);refine lin J (ad (v:=(.pointer none)) q J J J fun a q=>?_);refine wpList_nil (aa (ah q J (wp_seq (ab (lin J (bq T117.und q J J fun a q=>?_))))));refine lin J (ad (v:=(.bool true)) q J J J fun a q=>?_);refine lin J (ad (v:=(pB a1)) q J J J fun a q=>?_);refine wpList_nil (aa (ap q J (wp_seq (ab (Ls J q fun a q=>?_)))));refine wpList_nil (aa (wp_seq (ab (lin J (ac (f:=0) (o2:=0) T35 T3 J J J J q J J fun a q=>?_)))));refine lin J (af (v:=(iV x.tag)) T3 J q J (C.blkL 0 J) J J fun a q=>?_);refine lin J (bn (i:=x.tag) (j:=6) q J J J fun a q=>?_);refine wpList_nil (aa (an (t:=55) q J (fun a6 q=>?_) (fun a6 q=>?_)))
     ·refine ap q J (wp_seq (ab (Lm J q fun a q=>?_)));refine lin J (ch T117.und q J J fun a q=>?_);refine Ls J q fun a q=>?_;refine wpList_nil (aa (wp_ret (aA (ai (ret1 J q J ?_)))));have C:=C.drop;rw [show atB bs x=(some (a1,PB.vec a8)) from (bJ j0 j0 Z X).trans (if_pos a6)];exact⟨rfl,C⟩
     ·refine ah q J (wp_skip (ao (aa (wp_seq (ab (Ls J q fun a q=>?_))))));refine wpList_nil (aa (wp_ret (ret1 J q J ?_)));have C:=C.drop;rw [show atB bs x=none from (bJ j0 j0 Z X).trans (if_neg a6)];exact⟨rfl,C⟩
end Go.Vk.Tryz
namespace Go.Vk.Tryz
open Go.RowKit
theorem aK {bs: BS} {x: Wd} {o: Option BK} (h: atB bs x=o): atS (er bs) x=o.map (·.2):=by rw [<- fo,h]
theorem eI {w0: World} {H: PHeap} {L: List Ent} {p: Nat} {bs: BS} {tk: List Bool} {u: Int} (hI: Inv w0 H L) (hP: HP p bs tk u L) {x: Wd}: Calls prog 53 #[(pB p),(.agg (wA x))] w0 (fun e w'=>e=.returned (.bool (wordS (er bs) x))/\Step w0 H L w' H L):=by
 have C:=Step.refl hI;refine enter [(pB p),(.agg (wA x))] func53 J ntmps53 J fun a q=>?_;refine wp_seq (ab (lin J (aV (cs:=(wA x)) C q J J J fun T a w C q=>?_)));refine Ls J q fun a q=>?_;refine wpList_nil (aa (wp_seq (wp_seq (ab (lin J (ac (f:=0) (o2:=0) T35 T3 J J J J q J J fun a q=>?_))))));refine lin J (af (v:=(iV x.tag)) T3 J q J (C.blkL 0 J) J J fun a q=>?_);refine wpList_nil (aa (wp_block (wp_seq (ab (lin J (bn (i:=x.tag) (j:=1) q J J J fun a q=>?_))))));refine Ls J q fun a q=>?_;refine wpList_nil (aa (an (t:=7) q J (fun F q=>?_) (fun F q=>?_)))
 ·refine ap q J (wp_seq (cN (D:= []) (N:=66) (E:= [(3,(pB T)),(4,(.bool ((((decide (x.s=⟨#[]⟩))&&(!x.one))&&(decide ((-2147483647)<=x.n)))&&(decide (x.n<=2147483647)))))]) (fun a q=>?_) ?_));rotate_left
  ·refine lin J (ac (f:=2) (o2:=2) T35 T9 J J J J q J J fun a q=>?_);refine lin J (af (v:=(.string x.s)) T9 J q J (C.blkL 0 J) J J fun a q=>?_);refine lin J (gJ q J J J fun a q=>?_);refine Lm J q fun a q=>?_;refine an (t:=12) q J (fun X q=>?_) (fun X q=>?_)
   ·refine ae J q J J J (ac (f:=3) (o2:=3) T35 T4 J J J J q J J fun a q=>?_);refine ae J q J J J (af (v:=(.bool x.one)) T4 J q J (C.blkL 0 J) J J fun a q=>?_);refine ae J q J J J (aS q J J fun a q=>?_);refine lin J (aq q J J J fun a q=>?_);refine Lm J q fun a q=>?_;refine au (t:=17) q J (fun a0 q=>?_) (fun a0 q=>?_)
    ·refine ae J q J J J (ac (f:=1) (o2:=1) T35 T3 J J J J q J J fun a q=>?_);refine ae J q J J J (af (v:=(iV x.n)) T3 J q J (C.blkL 0 J) J J fun a q=>?_);refine ae J q J J J (eQ (i:=x.n) (j:=(-2147483647)) q J J J fun a q=>?_);refine lin J (aq q J J J fun a q=>?_);refine Lm J q fun a q=>?_;refine an (t:=22) q J (fun a3 q=>?_) (fun a3 q=>?_)
     ·refine ae J q J J J (ac (f:=1) (o2:=1) T35 T3 J J J J q J J fun a q=>?_);refine ae J q J J J (af (v:=(iV x.n)) T3 J q J (C.blkL 0 J) J J fun a q=>?_);refine ae J q J J J (gg (i:=x.n) (j:=2147483647) q J J J fun a q=>?_);refine lin J (aq q J J J fun a q=>?_);refine Ls J q fun a q=>?_;exact wpList_nil ⟨rfl,rfl,Has.cons q J (Has.cons q (by simp [lk,Nat.beq,F,X,a0,a3]) (q.nil))⟩
     ·refine Lf J q J J fun a q=>?_;refine Lf J q J J fun a q=>?_;refine Lf J q J J fun a q=>?_;refine lin J (am q J J J fun a q=>?_);refine Ls J q fun a q=>?_;exact wpList_nil ⟨rfl,rfl,Has.cons q J (Has.cons q (by simp [lk,Nat.beq,F,X,a0,a3]) (q.nil))⟩
    ·refine Lf J q J J fun a q=>?_;refine Lf J q J J fun a q=>?_;refine Lf J q J J fun a q=>?_;refine lin J (am q J J J fun a q=>?_);refine Lm J q fun a q=>?_;refine Lf J q J J fun a q=>?_;refine Lf J q J J fun a q=>?_;refine Lf J q J J fun a q=>?_;refine lin J (am q J J J fun a q=>?_);refine Ls J q fun a q=>?_;exact wpList_nil ⟨rfl,rfl,Has.cons q J (Has.cons q (by simp [lk,Nat.beq,F,X,a0]) (q.nil))⟩
   ·refine Lf J q J J fun a q=>?_;refine Lf J q J J fun a q=>?_;refine Lf J q J J fun a q=>?_;refine lin J (am q J J J fun a q=>?_);refine Lm J q fun a q=>?_;refine Lf J q J J fun a q=>?_;refine Lf J q J J fun a q=>?_;refine Lf J q J J fun a q=>?_;refine lin J (am q J J J fun a q=>?_);refine Lm J q fun a q=>?_;refine Lf J q J J fun a q=>?_;refine Lf J q J J fun a q=>?_;refine Lf J q J J fun a q=>?_;refine lin J (am q J J J fun a q=>?_);refine Ls J q fun a q=>?_;exact wpList_nil ⟨rfl,rfl,Has.cons q J (Has.cons q (by simp [lk,Nat.beq,F,X]) (q.nil))⟩
  refine aa (wp_ret (aA (ai (ret1 J q J ?_))));have C:=C.drop;refine⟨congrArg _ (congrArg _ ?_),C⟩;unfold wordS;rw [if_pos F]
  try rfl
 ·refine ah q J (wp_seq (ab (lin J (bn (i:=x.tag) (j:=2) q J J J fun a q=>?_))));refine Ls J q fun a q=>?_;refine wpList_nil (aa (an (t:=27) q J (fun G q=>?_) (fun G q=>?_)))
  ·refine ap q J (wp_seq (c_joinS (w0:=w0) (H0:=H) (L0:=L) (H:=H) (L:=((eO T 35 (wA x))::L)) (D:= []) (N:=66) (E:= [(3,(pB T)),(4,(.bool (((decide (x.n=0))&&(!x.one))&&(nmB x.s))))]) (fun a w C q=>?_) ?_));rotate_left
   ·refine lin J (ac (f:=1) (o2:=1) T35 T3 J J J J q J J fun a q=>?_);refine lin J (af (v:=(iV x.n)) T3 J q J (C.blkL 0 J) J J fun a q=>?_);refine lin J (bn (i:=x.n) (j:=0) q J J J fun a q=>?_);refine Lm J q fun a q=>?_;refine an (t:=32) q J (fun a1 q=>?_) (fun a1 q=>?_)
    ·refine ae J q J J J (ac (f:=3) (o2:=3) T35 T4 J J J J q J J fun a q=>?_);refine ae J q J J J (af (v:=(.bool x.one)) T4 J q J (C.blkL 0 J) J J fun a q=>?_);refine ae J q J J J (aS q J J fun a q=>?_);refine lin J (aq q J J J fun a q=>?_);refine Lm J q fun a q=>?_;refine au (t:=37) q J (fun a4 q=>?_) (fun a4 q=>?_)
     ·refine ae J q J J J (ac (f:=2) (o2:=2) T35 T9 J J J J q J J fun a q=>?_);refine ae J q J J J (af (v:=(.string x.s)) T9 J q J (C.blkL 0 J) J J fun a q=>?_);refine ae J q J J J (aD func59 J J (q.evs J) q J (fZ (s:=x.s) C.inv.nil) ?_);rintro e w ⟨rfl,Y⟩;refine⟨_,rfl,fun a q=>?_⟩;have C:=C.call Y;refine lin J (aq q J J J fun a q=>?_);refine Ls J q fun a q=>?_;exact wpList_nil ⟨rfl,C,Has.cons q J (Has.cons q (by simp [lk,Nat.beq,F,G,a1,a4]) (q.nil))⟩
     ·refine Lf J q J J fun a q=>?_;refine Lf J q J J fun a q=>?_;refine Lf J q J J fun a q=>?_;refine lin J (am q J J J fun a q=>?_);refine Ls J q fun a q=>?_;exact wpList_nil ⟨rfl,C,Has.cons q J (Has.cons q (by simp [lk,Nat.beq,F,G,a1,a4]) (q.nil))⟩
    ·refine Lf J q J J fun a q=>?_;refine Lf J q J J fun a q=>?_;refine Lf J q J J fun a q=>?_;refine lin J (am q J J J fun a q=>?_);refine Lm J q fun a q=>?_;refine Lf J q J J fun a q=>?_;refine Lf J q J J fun a q=>?_;refine Lf J q J J fun a q=>?_;refine lin J (am q J J J fun a q=>?_);refine Ls J q fun a q=>?_;exact wpList_nil ⟨rfl,C,Has.cons q J (Has.cons q (by simp [lk,Nat.beq,F,G,a1]) (q.nil))⟩
   refine aa (wp_ret (aA (ai (ret1 J q J ?_))));have C:=C.drop;refine⟨congrArg _ (congrArg _ ?_),C⟩;unfold wordS;rw [if_neg F,if_pos G]
   try rfl
  ·refine ah q J (wp_seq (ab (lin J (bn (i:=x.tag) (j:=3) q J J J fun a q=>?_))));refine Ls J q fun a q=>?_;refine wpList_nil (aa (an (t:=42) q J (fun I q=>?_) (fun I q=>?_)))
   ·refine ap q J (wp_seq (cN (D:= []) (N:=66) (E:= [(3,(pB T)),(4,(.bool (((decide (x.n=0))&&(!x.one))&&(decide ((((x.s).size: Nat): Int)<=255)))))]) (fun a q=>?_) ?_));rotate_left
    ·refine lin J (ac (f:=1) (o2:=1) T35 T3 J J J J q J J fun a q=>?_);refine lin J (af (v:=(iV x.n)) T3 J q J (C.blkL 0 J) J J fun a q=>?_);refine lin J (bn (i:=x.n) (j:=0) q J J J fun a q=>?_);refine Lm J q fun a q=>?_;refine an (t:=47) q J (fun Z q=>?_) (fun Z q=>?_)
     ·refine ae J q J J J (ac (f:=3) (o2:=3) T35 T4 J J J J q J J fun a q=>?_);refine ae J q J J J (af (v:=(.bool x.one)) T4 J q J (C.blkL 0 J) J J fun a q=>?_);refine ae J q J J J (aS q J J fun a q=>?_);refine lin J (aq q J J J fun a q=>?_);refine Lm J q fun a q=>?_;refine au (t:=52) q J (fun a2 q=>?_) (fun a2 q=>?_)
      ·refine ae J q J J J (ac (f:=2) (o2:=2) T35 T9 J J J J q J J fun a q=>?_);refine ae J q J J J (af (v:=(.string x.s)) T9 J q J (C.blkL 0 J) J J fun a q=>?_);refine ae J q J J J (gh T9.und q J J fun a q=>?_);refine ae J q J J J (gg (i:=(((x.s).size: Nat): Int)) (j:=255) q J J J fun a q=>?_);refine lin J (aq q J J J fun a q=>?_);refine Ls J q fun a q=>?_;exact wpList_nil ⟨rfl,rfl,Has.cons q J (Has.cons q (by simp [lk,Nat.beq,F,G,I,Z,a2]) (q.nil))⟩
      ·refine Lf J q J J fun a q=>?_;refine Lf J q J J fun a q=>?_;refine Lf J q J J fun a q=>?_;refine Lf J q J J fun a q=>?_;refine lin J (am q J J J fun a q=>?_);refine Ls J q fun a q=>?_;exact wpList_nil ⟨rfl,rfl,Has.cons q J (Has.cons q (by simp [lk,Nat.beq,F,G,I,Z,a2]) (q.nil))⟩
     ·refine Lf J q J J fun a q=>?_;refine Lf J q J J fun a q=>?_;refine Lf J q J J fun a q=>?_;refine lin J (am q J J J fun a q=>?_);refine Lm J q fun a q=>?_;refine Lf J q J J fun a q=>?_;refine Lf J q J J fun a q=>?_;refine Lf J q J J fun a q=>?_;refine Lf J q J J fun a q=>?_;refine lin J (am q J J J fun a q=>?_);refine Ls J q fun a q=>?_;exact wpList_nil ⟨rfl,rfl,Has.cons q J (Has.cons q (by simp [lk,Nat.beq,F,G,I,Z]) (q.nil))⟩
    refine aa (wp_ret (aA (ai (ret1 J q J ?_))));have C:=C.drop;refine⟨congrArg _ (congrArg _ ?_),C⟩;unfold wordS;rw [if_neg F,if_neg G,if_pos I]
    try rfl
   ·refine ah q J (wp_skip (ao (aa (wp_seq (ab (lin J (al (vs:=(wL x)) T35 J q J (C.blkL 0 J) J (ag J) J fun a q=>?_)))))));refine lin J (aD func70 J J (q.evs J) q J (fw (x:=x) C.inv.nil) ?_);rintro e w ⟨rfl,Y⟩;refine⟨_,rfl,fun a q=>?_⟩;have C:=C.call Y;refine Lm J q fun a q=>?_;refine au (t:=60) q J (fun V q=>?_) (fun V q=>?_)
    ·refine ae J q J J J (aj q J J fun a q=>?_);refine ae J q J J J (al (vs:=(wL x)) T35 J q J (C.blkL 0 J) J (ag J) J fun a q=>?_);have a6:=fT (x:=x) (C.tail [(eO T 35 (wA x))]) hP;refine ae J q J J J (aD func67 J J (q.evs J) q J (a6) ?_);rintro e w ⟨rfl,Y⟩;obtain⟨a8,O⟩: ∃ o_,atB bs x=o_:=⟨_,rfl⟩;rw [O];refine⟨_,rfl,fun a q=>?_⟩;have C:=C.frameR [(eO T 35 (wA x))] Y
     rcases a8 with _ |⟨ak,⟨av,a9⟩ |⟨ad,a7⟩ |⟨a7⟩⟩
     ·refine ae J q J J J (o_ifne0 T105.und q J J fun a q=>?_);refine lin J (aq q J J J fun a q=>?_);refine Ls J q fun a q=>?_;refine wpList_nil (aa (wp_ret (ret1 J q J ?_)));have C:=C.drop;refine⟨congrArg _ (congrArg _ ?_),C⟩;unfold wordS;rw [if_neg F,if_neg G,if_neg I];rw [V,aK O];rfl
     ·have a5:=(ar O).2.2.2.1;refine ae J q J J J (ge T105.und q J J fun a q=>?_);refine lin J (aq q J J J fun a q=>?_);refine Ls J q fun a q=>?_;refine wpList_nil (aa (wp_ret (ret1 J q J ?_)));have C:=C.drop;refine⟨congrArg _ (congrArg _ ?_),C⟩;unfold wordS;rw [if_neg F,if_neg G,if_neg I];rw [V,aK O];rfl
     ·have a5:=(ar O).2.2.2.1;refine ae J q J J J (ge T105.und q J J fun a q=>?_);refine lin J (aq q J J J fun a q=>?_);refine Ls J q fun a q=>?_;refine wpList_nil (aa (wp_ret (ret1 J q J ?_)));have C:=C.drop;refine⟨congrArg _ (congrArg _ ?_),C⟩;unfold wordS;rw [if_neg F,if_neg G,if_neg I];rw [V,aK O];rfl
     ·have a5:=(ar O).2.2.2.1;refine ae J q J J J (ge T105.und q J J fun a q=>?_);refine lin J (aq q J J J fun a q=>?_);refine Ls J q fun a q=>?_;refine wpList_nil (aa (wp_ret (ret1 J q J ?_)));have C:=C.drop;refine⟨congrArg _ (congrArg _ ?_),C⟩;unfold wordS;rw [if_neg F,if_neg G,if_neg I];rw [V,aK O];rfl
    ·refine Lf J q J J fun a q=>?_;refine Lf J q J J fun a q=>?_;refine Lf J q J J fun a q=>?_;refine Lf J q J J fun a q=>?_;refine lin J (am q J J J fun a q=>?_);refine Ls J q fun a q=>?_;refine wpList_nil (aa (wp_ret (ret1 J q J ?_)));have C:=C.drop;refine⟨congrArg _ (congrArg _ ?_),C⟩;unfold wordS;rw [if_neg F,if_neg G,if_neg I];rw [V];rfl
theorem c_all1 {w0: World} {H: PHeap} {L: List Ent} {p: Nat} {bs: BS} {tk: List Bool} {u: Int} (hI: Inv w0 H L) (hP: HP p bs tk u L) {x: Wd} {bh: Nat} (hbh: w0.heap[bh]? =some (.cells #[.pointer (some ⟨p,0,none⟩)] 44 (0,0))/\¬ dom L bh): Calls prog 105 #[(.agg (wA x)),(pB bh)] w0 (fun e w'=>e=.returned (.bool (!wordS (er bs) x))/\Step w0 H L w' H L):=by
 have C:=Step.refl hI;refine enter [(.agg (wA x)),(pB bh)] func105 J ntmps105 J fun a q=>?_;refine wp_seq (ab (lin J (aV (cs:=(wA x)) C q J J J fun F a w C q=>?_)));refine Ls J q fun a q=>?_;refine wpList_nil (aa (wp_seq (ab (lin J (af (v:=(pB p)) T44 J q J (C.keepN hbh.1 hbh.2) J J fun a q=>?_)))));refine lin J (al (vs:=(wL x)) T35 J q J (C.blkL 0 J) J (ag J) J fun a q=>?_);have I:=eI (x:=x) (C.tail [(eO F 35 (wA x))]) hP;refine lin J (aD func53 J J (q.evs J) q J (I) ?_);rintro e w ⟨rfl,G⟩;refine⟨_,rfl,fun a q=>?_⟩;have C:=C.frameR [(eO F 35 (wA x))] G;refine lin J (aS q J J fun a q=>?_);refine Ls J q fun a q=>?_;refine wpList_nil (aa (wp_ret (ret1 J q J ?_)));have C:=C.drop;exact⟨rfl,C⟩
theorem dom_back {w0 w: World} {H0 H: PHeap} {L0 L: List Ent} (h: Step w0 H0 L0 w H L) {b: Nat} {o: Obj} (hd: dom L b) (hb: w0.heap[b]? =some o/\¬ dom L0 b): dom L0 b:=by
 rcases h.newL b hd with h1 | h1
 ·have:=(Array.getElem?_eq_some_iff.1 hb.1).1;omega
 ·exact h1
def IxW (w: World) (H: PHeap) (L: List Ent) (b: Bool) (e: Ending) (w': World): Prop:= ∃ r: Int,e=.returned (iV r)/\(0<=r↔b=true)/\Step w H L w' H L
theorem none_any {α: Type} {f: α->Bool} {xs: List α} {k: Nat} (h: ∀(j: Nat) (x: α),j < k->xs[j]? =some x->f x=false) (hk: xs.length<=k): xs.any f=false:=by
 rw [List.any_eq_false];intro x hx;obtain⟨j,hj⟩:=List.getElem?_of_mem hx;rw [h j x (by have:=(List.getElem?_eq_some_iff.1 hj).1;omega) hj];simp
theorem some_any {α: Type} {f: α->Bool} {xs: List α} {k: Nat} {x: α} (hx: xs[k]? =some x) (h: f x=true): xs.any f=true:=List.any_eq_true.2 ⟨x,List.mem_of_getElem? hx,h⟩
theorem next_no {α: Type} {f: α->Bool} {xs: List α} {k: Nat} {x: α} (h: ∀(j: Nat) (x: α),j < k->xs[j]? =some x->f x=false) (hx: xs[k]? =some x) (hf: f x=false): ∀(j: Nat) (x: α),j < k+1->xs[j]? =some x->f x=false:=by
 intro j y hj hy
 by_cases e: j=k
 ·subst e;rw [hx] at hy;obtain rfl:=Option.some.inj hy;exact hf
 ·exact h j y j0 hy
theorem all_of_any (S: PS) (xs: List Wd):(!xs.any (fun x=>!wordS S x))=allS S xs:=by
 unfold allS
 induction xs with
 | nil=>rfl
 | cons x xs ih=>rw [List.any_cons,List.all_cons,<- ih];cases wordS S x <;> simp
theorem c_IndexFuncW {w0: World} {H: PHeap} {L: List Ent} {p: Nat} {bs: BS} {tk: List Bool} {u: Int} (hI: Inv w0 H L) (hP: HP p bs tk u L) {A: Option Addr} {c: Nat} {xs: List Wd} (hr: RdG 4 Wd.cells w0 L A c xs) {bh: Nat} (hbh: w0.heap[bh]? =some (.cells #[.pointer (some ⟨p,0,none⟩)] 44 (0,0))/\¬ dom L bh): Calls prog 73 #[(.slice A xs.length c),(.func (.func 105) #[] #[.pointer (some ⟨bh,0,none⟩)])] w0 (IxW w0 H L (xs.any (fun x=>!wordS (er bs) x))):=by
 have C:=Step.refl hI;have ac:=hr.hm;refine enter [(.slice A xs.length c),(.func (.func 105) #[] #[.pointer (some ⟨bh,0,none⟩)])] func73 J ntmps73 J fun a q=>?_;refine wp_seq (ab (Ls J q fun a q=>?_));refine wpList_nil (aa (wp_seq (wp_seq (ab (Lm J q fun a q=>?_)))));refine lin J (aI T37.und q J J fun a q=>?_);refine Lm J q fun a q=>?_;refine wpList_nil (aa (wp_block ?_));refine a6 (fun a3 a w=> ∃(k: Nat),a3=xs.length - k/\Has [] a 19 [(0,(.slice A xs.length c)),(1,(.func (.func 105) #[] #[.pointer (some ⟨bh,0,none⟩)])),(7,(iV ((xs.length: Nat): Int))),(8,(iV ((k: Nat): Int)))]/\Step w0 H L w H (L)/\(k<=xs.length)/\(∀(j: Nat) (x: Wd),j < k->xs[j]? =some x->(!wordS (er bs) x)=false)) _ ⟨0,rfl,q.pk J,C,by omega,fun j x h=>by omega⟩ ?_;intro ae a w a1;obtain⟨k,ad,q,C,a9,I⟩:=a1;refine wp_seq (ab (lin J (bl (i:=((k: Nat): Int)) (j:=((xs.length: Nat): Int)) q J J J fun a q=>?_)));refine wpList_nil (aa (wp_seq (an (t:=9) q J (fun h2 q=>?_) (fun h2 q=>?_))))
 ·refine ap q J (wp_skip (aa (wp_seq (wp_block (wp_seq (ab (Lm J q fun a q=>?_)))))));refine Ls J q fun a q=>?_;refine wpList_nil (aa (wp_seq (ab (Lm J q fun a q=>?_))));refine Lm J q fun a q=>?_;refine Lm J q fun a q=>?_;obtain⟨T,V,a4,a7,a5,a8,O,X,G,a0⟩:=hr.get (j:=k) j5;refine lin J (aC (b:=V) (o:=a4) (j:=k) T37.und T35 X q J J j0 j0 J fun a q=>?_);refine lin J (al (vs:=(wL T)) T35 J q J (C.keepN G.1 G.2) J a0 J fun a q=>?_);have a2:=c_all1 (x:=T) (C.tail []) hP ⟨C.keepN hbh.1 hbh.2,fun Y=>hbh.2 (dom_back C Y hbh)⟩;refine lin J (br func105 J J (q.evs J) q J J (a2) ?_);rintro e w ⟨rfl,Z⟩;refine⟨_,rfl,fun a q=>?_⟩;have C:=C.frameR [] Z;refine wpList_nil (aa (au (t:=16) q J (fun F q=>?_) (fun F q=>?_)))
  ·refine ap q J (wp_seq (ab (Lm J q fun a q=>?_)));refine Ls J q fun a q=>?_;refine wpList_nil (aa (wp_ret (aA (ai (ai (aA (ai (ret1 J q J ?_))))))));exact⟨(k: Int),rfl,⟨fun _=>some_any O F,fun _=>by omega⟩,C⟩
  ·refine ah q J (wp_skip (ao (aa (ab (lin J (aL (i:=((k: Nat): Int)) (j:=1) q J J J j0 fun a q=>?_))))));refine Lm J q fun a q=>?_;refine wpList_nil (aa (?_));exact⟨xs.length - (k+1),by omega,(k+1),rfl,q.pk J,C,j0,(next_no I O F)⟩
 ·refine ah q J (wp_exit (az (az (aN (aa (wp_seq (ab (Ls J q fun a q=>?_))))))));refine wpList_nil (aa (wp_ret (ret1 J q J ?_)));exact⟨-1,rfl,⟨fun h=>by omega,fun h=>by rw [none_any I j0] at h;cases h⟩,C⟩
theorem c_ContainsFuncW {w0: World} {H: PHeap} {L: List Ent} {p: Nat} {bs: BS} {tk: List Bool} {u: Int} (hI: Inv w0 H L) (hP: HP p bs tk u L) {A: Option Addr} {c: Nat} {xs: List Wd} (hr: RdG 4 Wd.cells w0 L A c xs) {bh: Nat} (hbh: w0.heap[bh]? =some (.cells #[.pointer (some ⟨p,0,none⟩)] 44 (0,0))/\¬ dom L bh): Calls prog 35 #[(.slice A xs.length c),(.func (.func 105) #[] #[.pointer (some ⟨bh,0,none⟩)])] w0 (fun e w'=>e=.returned (.bool (xs.any (fun x=>!wordS (er bs) x)))/\Step w0 H L w' H L):=by
 have C:=Step.refl hI;refine enter [(.slice A xs.length c),(.func (.func 105) #[] #[.pointer (some ⟨bh,0,none⟩)])] func35 J ntmps35 J fun a q=>?_;refine wp_seq (ab (Ls J q fun a q=>?_));refine wpList_nil (aa (wp_seq (ab (Lm J q fun a q=>?_))));refine Lm J q fun a q=>?_;have O:=c_IndexFuncW (C.tail []) hP (hr.at_ (H':=H) C (fun _ F=>F)) ⟨C.keepN hbh.1 hbh.2,fun F=>hbh.2 (dom_back C F hbh)⟩;refine lin J (aD func73 J J (q.evs J) q J (O) ?_);rintro e w ⟨T,rfl,I,G⟩;refine⟨_,rfl,fun a q=>?_⟩;have C:=C.frameR [] G;refine lin J (eQ (i:=T) (j:=0) q J J J fun a q=>?_);refine Ls J q fun a q=>?_;refine wpList_nil (aa (wp_ret (ret1 J q J ?_)));refine⟨congrArg _ (congrArg _ ?_),C⟩;rw [Bool.eq_iff_iff,decide_eq_true_eq];exact I
theorem not_both {w: World} {H: PHeap} (R: List Ent) {Lc: List Ent} (hI: Inv w H (R++Lc)) {b: Nat} {o: Obj} (h0: R[0]? =some (some b,o)) (hd: dom Lc b): False:=by
 obtain⟨y,hy,hyb⟩:=hd;exact(List.pairwise_append.1 hI.pw).2.2 _ (List.mem_of_getElem? h0) y hy b J hyb
theorem eH {w0: World} {H: PHeap} {L: List Ent} {p: Nat} {bs: BS} {tk: List Bool} {u: Int} (hI: Inv w0 H L) (hP: HP p bs tk u L) {A: Option Addr} {c: Nat} {xs: List Wd} (hr: RdG 4 Wd.cells w0 L A c xs): Calls prog 55 #[(pB p),(.slice A xs.length c)] w0 (fun e w'=>e=.returned (.bool (allS (er bs) xs))/\Step w0 H L w' H L):=by
 have C:=Step.refl hI;refine enter [(pB p),(.slice A xs.length c)] func55 J ntmps55 J fun a q=>?_;refine wp_seq (ab (lin J (aV (cs:= #[(pB p)]) C q J J J fun F a w C q=>?_)));refine Ls J q fun a q=>?_;refine wpList_nil (aa (wp_seq (ab (Lm J q fun a q=>?_))));refine lin J (cP (fs:= #[]) (cs:= #[(pB F)]) q (q.evs (xs:= []) J) (q.evs J) J fun a q=>?_);have O:=c_ContainsFuncW (bh:=F) (C.tail [(eO F 44 #[(pB p)])]) hP (hr.at_ (H':=H) C (bx [(eO F 44 #[(pB p)])])) ⟨C.blkL 0 J,fun G=>not_both [(eO F 44 #[(pB p)])] C.inv J G⟩;refine lin J (aD func35 J J (q.evs J) q J (O) ?_);rintro e w ⟨rfl,I⟩;refine⟨_,rfl,fun a q=>?_⟩;have C:=C.frameR [(eO F 44 #[(pB p)])] I;refine lin J (aS q J J fun a q=>?_);refine Ls J q fun a q=>?_;refine wpList_nil (aa (wp_ret (ret1 J q J ?_)));have C:=C.drop;exact⟨by rw [<- all_of_any],C⟩
end Go.Vk.Tryz
namespace Go.Vk.Tryz
open Go.RowKit
theorem e8 {w0: World} {H: PHeap} {L: List Ent} {p: Nat} {bs: BS} {tk: List Bool} {u: Int} {b: BK} {t: Ent × Ent × Ent} (hI: Inv w0 H (t.1::t.2.1::t.2.2::L)) (hP: HP p bs tk u L) (hl: bs.length<=65536/\tk.length=bs.length) (hu: -100000000000<=u/\u<=100000000000) (hB: Bk3 (some b) t) (hok: b.2.ok): Calls prog 61 #[(pB p),(bkv (some b))] w0 (fun e w'=> ∃ L',e=.returned (iV (findS tk b.2.size))/\HP p (plB bs tk b) (plT tk b) (plU tk u b) L'/\Step w0 H (t.1::t.2.1::t.2.2::L) w' H L'):=by
 have C:=Step.refl hI;have b2:=hok.size;refine enter [(pB p),(bkv (some b))] func61 J ntmps61 J fun a q=>?_;refine wp_seq (ab (Ls J q fun a q=>?_));refine wpList_nil (aa (wp_seq (ab (Lm J q fun a q=>?_))));refine Lm J q fun a q=>?_;refine lin J (ff C (List.mem_of_getElem? (i:=0) J) hB hok q J J fun a w C q=>?_);have aj:=c_find (size:=b.2.size) (C.tail [t.1,t.2.1,t.2.2]) hP j0;refine lin J (aD func110 J J (q.evs J) q J (aj) ?_);rintro e w ⟨rfl,X⟩;refine⟨_,rfl,fun a q=>?_⟩;have C:=C.frameR [t.1,t.2.1,t.2.2] X;refine Ls J q fun a q=>?_;refine wpList_nil (aa (wp_seq (wp_seq (ab (Lm J q fun a q=>?_)))));refine lin J (eQ (i:=(findS tk b.2.size)) (j:=0) q J J J fun a q=>?_);refine wpList_nil (aa (an (t:=11) q J (fun h2 q=>?_) (fun h2 q=>?_)))
 ·obtain⟨F,a8,b0,b1⟩: ∃ p: Nat,findS tk b.2.size=p/\p+b.2.size<=tk.length/\∀ k,p<=k->k < p+b.2.size->tk[k]? =some false:=by
   rcases bK tk b.2.size with a7 | a7
   ·omega
   ·exact a7
  rw [a8] at q;refine ap q J (wp_seq (ab (Lm J q fun a q=>?_)));refine lin J (av q J J fun a q=>?_);obtain⟨G,O,Y,a0,aw,a2,a3,a9,T,V,a6,ai,ad,I⟩:=(hP).open_;have C:=Step.castR [t.1,t.2.1,t.2.2] a9 C;refine lin J (ac (f:=0) (o2:=0) T103 T100 J J J J q J J fun a q=>?_);refine lin J (af (v:=(.slice G bs.length O)) T100 J q J (C.blkL 3 J) J J fun a q=>?_);refine Lm J q fun a q=>?_;refine Lm J q fun a q=>?_;obtain⟨b4,Z,ar,au,b3,am,ay,ax⟩:=Row.getG bN j4 a6 (j:=F) j0;have a4:(G: Option Addr)=some ⟨Z,0,none⟩:=by injection am
  refine lin J (aC (b:=Z) (o:=0) (j:=F) T100.und T105 a4 q J J j0 j0 J fun a q=>?_);refine lin J (dl (j:=F) T105 C (i:=4) J a6 J a4 j0 J q J J (bkv_sz _) (bkv_one _) fun a1 a w a5 az C q=>?_);rw [show (Value.cells _).toList=bkc (some b) from bkv_cells _,dh bN j5] at a5;refine wpList_nil (aa (ab (Lm J q fun a q=>?_)));refine Lm J q fun a q=>?_;refine Lm J q fun a q=>?_;refine lin J (ff C (List.mem_of_getElem? (i:=0) J) hB hok q J J fun a w C q=>?_);obtain⟨told,al⟩: ∃ t',a3[F]? =some t':=⟨_,List.getElem?_eq_getElem (by rw [I.len];omega)⟩;have C:=Step.blkPut (t:=t) [(eO p 103 #[(.slice G bs.length O),(.slice Y bs.length a0),(iV u)]),a1,a2] al C;have I:=I.set (j:=F) (t:=t) hB (fun aq e=>by obtain rfl:=Option.some.inj e;exact hok);have ae: HP p (bs.set F (some b)) tk u ((eO p 103 #[(.slice G bs.length O),(.slice Y bs.length a0),(iV u)])::a1::a2::(fl3 (a3.set F t))):=HP.mk' (by first | exact T | exact List.length_set.trans T |(simp only [List.length_set];done) |(simp only [List.length_set];exact T)) (by first | exact V | exact List.length_set.trans V |(simp only [List.length_set];done) |(simp only [List.length_set];exact V)) a5 ai ad I;have ak:=c_fill (a_:=F) (size:=b.2.size) (v:=true) (C.tail []) ae j0 (by rw [List.length_set];omega) j0;refine lin J (aD func108 J J (q.evs J) q J (ak) ?_);rintro e w ⟨ao,rfl,ag,X⟩;refine⟨_,rfl,fun a q=>?_⟩;have C:=C.frameR [] X;refine wpList_nil (aa (wp_seq (ab (Lm J q fun a q=>?_))));refine Ls J q fun a q=>?_;refine wpList_nil (aa (wp_ret (ret1 J q J ?_)));unfold plB plT plU;rw [a8,if_neg j0,if_neg j0,if_neg j0,Int.toNat_natCast];exact⟨_,rfl,ag,C⟩
 ·refine ah q J (wp_skip (aa (wp_seq (ab (Lm J q fun a q=>?_)))));refine Ls J q fun a q=>?_;refine wpList_nil (aa (wp_ret (ret1 J q J ?_)));have C:=C.fd [0,0,0] J;unfold plB plT plU;rw [if_pos j0,if_pos j0,if_pos j0];exact⟨_,rfl,hP,C⟩
theorem fY {w0: World} {H: PHeap} {L: List Ent} {p: Nat} {bs: BS} {tk: List Bool} {u: Int} (hI: Inv w0 H L) (hP: HP p bs tk u L) {a_: Nat} {i: Int} {b: BK} (hi: i=((a_: Nat): Int)) (hx: bs[a_]? =some (some b)) (hfit: a_+b.2.size<=bs.length) (hu: -100000000000<=u/\u<=100000000000): Calls prog 58 #[.pointer (some ⟨p,0,none⟩),.int .i64 i] w0 (fun e w'=> ∃ L' t,e=.returned (.tuple #[])/\Bk3 (some b) t/\HP p (bs.set a_ none) (fillP tk a_ b.2.size false) (u - ((b.2.size: Nat): Int)) L'/\Step w0 H L w' H (t.1::t.2.1::t.2.2::L')):=by
 obtain⟨Ab,cb,V,Z,a0,a1,fs,rfl,O,T,a6,ax,aq,I⟩:=hP.open_;have C:=Step.refl hI;subst hi;obtain⟨t,ht,am⟩:=I.get hx;have a9:=I.ok _ _ hx;have bl:=a9.size;have bh: a_ < bs.length:=(List.getElem?_eq_some_iff.1 hx).1;refine enter [(pB p),(iV ((a_: Nat): Int))] func58 J ntmps58 J fun a q=>?_;refine wp_seq (ab (Lm J q fun a q=>?_));refine Lm J q fun a q=>?_;refine Lm J q fun a q=>?_;refine lin J (av q J J fun a q=>?_);refine lin J (ac (f:=0) (o2:=0) T103 T100 J J J J q J J fun a q=>?_);refine lin J (af (v:=(.slice Ab bs.length cb)) T100 J q J (C.blkL 0 J) J J fun a q=>?_);refine Lm J q fun a q=>?_;obtain⟨ae,G,b8,ai,ad,b4,b1,b0⟩:=Row.getG bN j4 a6 (j:=a_) j0;have al:(Ab: Option Addr)=some ⟨G,0,none⟩:=by injection b4
 refine lin J (aC (b:=G) (o:=0) (j:=a_) T100.und T105 al q J J j0 j0 J fun a q=>?_);refine lin J (af (v:=(bkv ae)) T105 J q J (C.blkL 1 (b:=G) (o:=.cells ai 105 (0,0)) (by rw [<- b1];rfl)) (b0 0 _ J) J fun a q=>?_);obtain rfl: ae=some b:=by rw [hx] at ad;exact(Option.some.inj ad).symm
 refine lin J (ff C (a7 [(eO p 103 #[(.slice Ab bs.length cb),(.slice V bs.length Z),(iV u)]),a0,a1] (bg ht)) am a9 q J J fun a w C q=>?_);have au: HP p bs tk u ((eO p 103 #[(.slice Ab bs.length cb),(.slice V bs.length Z),(iV u)])::a0::a1::(fl3 fs)):=HP.mk' (by first | exact O | exact List.length_set.trans O |(simp only [List.length_set];done) |(simp only [List.length_set];exact O)) (by first | exact T | exact List.length_set.trans T |(simp only [List.length_set];done) |(simp only [List.length_set];exact T)) a6 ax aq I;have b2:=c_fill (a_:=a_) (size:=b.2.size) (v:=false) (C.tail []) au j0 j0 j0;refine lin J (aD func108 J J (q.evs J) q J (b2) ?_);rintro e w ⟨b7,rfl,aw,az⟩;refine⟨_,rfl,fun a q=>?_⟩;have C:=C.frameR [] az;refine wpList_nil (aa (ab (Lm J q fun a q=>?_)));refine lin J (av q J J fun a q=>?_);obtain⟨F,Y,ag,ah,bc,ak,bf,ao,a4,ap,a8,ay,ar,a3⟩:=(aw).open_;have C:=Step.castR [] ao C;refine lin J (ac (f:=0) (o2:=0) T103 T100 J J J J q J J fun a q=>?_);refine lin J (af (v:=(.slice F bs.length Y)) T100 J q J (C.blkL 0 J) J J fun a q=>?_);refine Lm J q fun a q=>?_;obtain⟨bn,X,b9,ba,bm,b5,bj,bi⟩:=Row.getG bN j4 a8 (j:=a_) j0;have a2:(F: Option Addr)=some ⟨X,0,none⟩:=by injection b5
 refine lin J (aC (b:=X) (o:=0) (j:=a_) T100.und T105 a2 q J J j0 j0 J fun a q=>?_);refine lin J (dl (j:=a_) T105 C (i:=1) J a8 J a2 j0 J q J J J J fun aj a w a5 bk C q=>?_);rw [show (Value.cells _).toList=bkc none from rfl,dh bN j5] at a5;refine wpList_nil (ret0 J q ?_);obtain⟨b6,b3,an⟩:=a3.get hx;have C:=Step.blkOut [(eO p 103 #[(.slice F bs.length Y),(.slice ag bs.length ah),(iV (u - ((b.2.size: Nat): Int)))]),aj,ak] b3 C;exact⟨_,b6,rfl,an,HP.mk' (by first | exact a4 | exact List.length_set.trans a4) ap a5 ay ar (a3.set (o:=none) (t:=(noEnt,noEnt,noEnt)) ⟨rfl,rfl,rfl⟩ (fun b e=>by cases e)),C⟩
theorem ef {S: PS} {w x: Wd} {to: List Wd} {hk: List Int} {k: Nat} (h: atS S w=some (.var to hk)) (hx: to[0]? =some x): folS S (k+1) w=folS S k (nxtW w x):=by
 match to,hx with
 | y::to,hx =>
  obtain rfl: y=x:=by simpa using hx
  conv=>lhs;unfold folS
  rw [h]
theorem da {S: PS} {w: Wd} {k: Nat} (h: ∀ to hk,atS S w=some (.var to hk)->to= []): folS S (k+1) w=(w,true):=by
 unfold folS
 split
 ·rename_i x to hk h1
  have:=h _ _ h1
  cases this
 ·rfl
theorem c_follow {w0: World} {H: PHeap} {L: List Ent} {p: Nat} {bs: BS} {tk: List Bool} {u: Int} (hI: Inv w0 H L) (hP: HP p bs tk u L) {x: Wd}: Calls prog 104 #[(pB p),(.agg (wA x))] w0 (fun e w'=>e=.returned (.tuple #[wv (followS (er bs) x).1,.bool (followS (er bs) x).2])/\Step w0 H L w' H L):=by
 obtain⟨Ab,cb,a4,a8,X,Y,fs,rfl,ax,ay,bj,bk,bh,aw⟩:=hP.open_;have C:=Step.refl hI;refine enter [(pB p),(.agg (wA x))] func104 J ntmps104 J fun a q=>?_;refine wp_seq (ab (lin J (aV (cs:=(wA x)) C q J J J fun a7 a w C q=>?_)));refine lin J (aE (cs:= #[(iV 0),(iV 0),(.string (⟨#[]⟩)),(.bool false)]) T35 C q J J fun O a w C q=>?_);refine Ls J q fun a q=>?_;refine wpList_nil (aa (wp_seq (wp_seq (ab (Lm J q fun a q=>?_)))));refine lin J (av q J J fun a q=>?_);refine lin J (ac (f:=0) (o2:=0) T103 T100 J J J J q J J fun a q=>?_);refine lin J (af (v:=(.slice Ab bs.length cb)) T100 J q J (C.blkL 2 J) J J fun a q=>?_);refine lin J (aI T100.und q J J fun a q=>?_);refine lin J (aL (i:=((bs.length: Nat): Int)) (j:=1) q J J J j0 fun a q=>?_);refine Lm J q fun a q=>?_;refine wpList_nil (aa (wp_block (a6 (fun c1 a w=> ∃(k: Nat),∃(y: Wd),c1=bs.length+1 - k/\Has [] a 53 [(0,(pB p)),(3,(pB a7)),(4,(pB O)),(14,(iV (((bs.length: Nat): Int)+1))),(15,(iV ((k: Nat): Int)))]/\Step w0 H ((eO p 103 #[.slice Ab bs.length cb,.slice a4 bs.length a8,.int .i64 u])::X::Y::fl3 fs) w H ((eO O 35 #[(iV 0),(iV 0),(.string (⟨#[]⟩)),(.bool false)])::(eO a7 35 (wA y))::(eO p 103 #[(.slice Ab bs.length cb),(.slice a4 bs.length a8),(iV u)])::X::Y::(fl3 fs))/\(folS (er bs) (bs.length+1 - k) y=followS (er bs) x)/\(k<=bs.length+1)) _ ⟨0,x,rfl,q.pk J,C,(by unfold followS;rw [bB];rfl),j0⟩ ?_)));intro cg a w br;obtain⟨k,y,cf,q,C,G,a1⟩:=br;refine wp_seq (ab (lin J (bl (i:=((k: Nat): Int)) (j:=(((bs.length: Nat): Int)+1)) q J J J fun a q=>?_)));let V:=(eO a7 35 (wA y));refine wpList_nil (aa (wp_seq (an (t:=16) q J (fun ba q=>?_) (fun ba q=>?_))))
 ·refine ap q J (wp_skip (aa (wp_seq (wp_block (wp_seq (ab (Lm J q fun a q=>?_)))))));refine lin J (al (vs:=(wL y)) T35 J q J (C.blkL 1 J) J (ag J) J fun a q=>?_);have bv:=fT (x:=y) (C.tail [(eO O 35 #[(iV 0),(iV 0),(.string (⟨#[]⟩)),(.bool false)]),V]) (HP.mk' (by first | exact ax | exact List.length_set.trans ax |(simp only [List.length_set];done) |(simp only [List.length_set];exact ax)) (by first | exact ay | exact List.length_set.trans ay |(simp only [List.length_set];done) |(simp only [List.length_set];exact ay)) bj bk bh aw);refine lin J (aD func67 J J (q.evs J) q J (bv) ?_);rintro e w ⟨rfl,b0⟩;obtain⟨c4,I⟩: ∃ o_,atB bs y=o_:=⟨_,rfl⟩;rw [I];refine⟨_,rfl,fun a q=>?_⟩;have C:=C.frameR [(eO O 35 #[(iV 0),(iV 0),(.string (⟨#[]⟩)),(.bool false)]),V] b0
  let a5:=(eO p 103 #[(.slice Ab bs.length cb),(.slice a4 bs.length a8),(iV u)]);rcases c4 with _ |⟨c2,⟨Z,bw⟩ |⟨ch,c3⟩ |⟨c3⟩⟩
  ·refine lin J (bu T114 q J J fun a q=>?_);refine Lm J q fun a q=>?_;refine lin J (ad (v:=(.pointer none)) q J J J fun a q=>?_);refine lin J (ad (v:=(.bool false)) q J J J fun a q=>?_);refine Ls J q fun a q=>?_;refine Ls J q fun a q=>?_;refine wpList_nil (aa (wp_seq (wp_seq (ab (Lm J q fun a q=>?_)))));refine lin J (aS q J J fun a q=>?_);refine Lm J q fun a q=>?_;refine Lf J q J J fun a q=>?_;refine Lf J q J J fun a q=>?_;refine Lf J q J J fun a q=>?_;refine Lf J q J J fun a q=>?_;refine Lf J q J J fun a q=>?_;refine Lf J q J J fun a q=>?_;refine lin J (aq q J J J fun a q=>?_);refine wpList_nil (aa (ap q J (wp_seq (ab (lin J (al (vs:=(wL y)) T35 J q J (C.blkL 1 J) J (ag J) J fun a q=>?_))))));refine lin J (ak (cs':=(wA y)) T35 C (i:=0) J q J J J J J J fun a w C q=>?_);refine Ls J q fun a q=>?_;refine wpList_nil (aa (wp_ret (ai (aA (ai (ai (aA (ai (retA1 (i:=0) (cs:=(wA y)) J T35 J C J q J J J ?_)))))))));have C:=C.fd [0,0] J;have T:=da (S:=er bs) (w:=y) (k:=bs.length - k) (fun b4 a1 h1=>by
    rw [aK I] at h1
    cases h1)
   rw [show bs.length+1 - k=bs.length - k+1 by omega,T] at G;rw [<- G];exact⟨rfl,C⟩
  ·have a2:=(ar I).2.2.2.1;refine lin J (bq T114.und q J J fun a q=>?_);refine Lm J q fun a q=>?_;refine lin J (ad (v:=(pB c2)) q J J J fun a q=>?_);refine lin J (ad (v:=(.bool true)) q J J J fun a q=>?_);refine Ls J q fun a q=>?_;refine Ls J q fun a q=>?_;refine wpList_nil (aa (wp_seq (wp_seq (ab (Lm J q fun a q=>?_)))));refine lin J (aS q J J fun a q=>?_);refine Lm J q fun a q=>?_;refine ae J q J J J (aj q J J fun a q=>?_);refine ae J q J J J (av q J J fun a q=>?_);obtain⟨ci,b2,bf⟩:=aw.get a2;obtain⟨a3,b6,c5,c7,bz,bi,ca⟩:=bf;have b1:=bg b2;have bx:=bp b2;have ce:=bt b2;rw [bz] at b1;have b8:=aw.ok _ _ a2;have cc: Z.length<=1:=b8.1;have cd: bw.length<=4000:=b8.2;refine ae J q J J J (ac (f:=0) (o2:=0) T116 T37 J J J J q J J fun a q=>?_);refine ae J q J J J (af (v:=(.slice a3 Z.length b6)) T37 J q J (C.at_mem [(eO O 35 #[(iV 0),(iV 0),(.string (⟨#[]⟩)),(.bool false)]),V,a5,X,Y] b1) J J fun a q=>?_);refine ae J q J J J (aI T37.und q J J fun a q=>?_);refine ae J q J J J (bn (i:=((Z.length: Nat): Int)) (j:=0) q J J J fun a q=>?_);refine lin J (am q J J J fun a q=>?_);refine wpList_nil (aa (an (t:=33) q J (fun b9 q=>?_) (fun b9 q=>?_)))
   ·refine ap q J (wp_seq (ab (lin J (al (vs:=(wL y)) T35 J q J (C.blkL 1 J) J (ag J) J fun a q=>?_))));refine lin J (ak (cs':=(wA y)) T35 C (i:=0) J q J J J J J J fun a w C q=>?_);refine Ls J q fun a q=>?_;refine wpList_nil (aa (wp_ret (ai (aA (ai (ai (aA (ai (retA1 (i:=0) (cs:=(wA y)) J T35 J C J q J J J ?_)))))))));have C:=C.fd [0,0] J;have T:=da (S:=er bs) (w:=y) (k:=bs.length - k) (fun b4 a1 h1=>by
     obtain rfl:=List.eq_nil_of_length_eq_zero (show Z.length=0 by omega);rw [aK I] at h1;injection h1 with h1
     injection h1 with h1
     exact h1.symm)
    rw [show bs.length+1 - k=bs.length - k+1 by omega,T] at G;rw [<- G];exact⟨rfl,C⟩
   ·refine ah q J (wp_skip (aa (wp_seq (ab (Lm J q fun a q=>?_)))));refine lin J (av q J J fun a q=>?_);refine lin J (ac (f:=0) (o2:=0) T116 T37 J J J J q J J fun a q=>?_);refine lin J (af (v:=(.slice a3 Z.length b6)) T37 J q J (C.at_mem [(eO O 35 #[(iV 0),(iV 0),(.string (⟨#[]⟩)),(.bool false)]),V,a5,X,Y] b1) J J fun a q=>?_);obtain⟨F,b5,c8,c9,b3,c0,bo,bm⟩:=Row.getG Wd.len j4 bi (j:=0) j0;have bc:(a3: Option Addr)=some ⟨b5,0,none⟩:=by injection c0
    have b7:=bx;rw [bo] at b7;refine lin J (aC (b:=b5) (o:=0) (j:=0) T37.und T35 bc q J J j0 j0 J fun a q=>?_);refine lin J (al (vs:=(wL F)) T35 J q J (C.at_mem [(eO O 35 #[(iV 0),(iV 0),(.string (⟨#[]⟩)),(.bool false)]),V,a5,X,Y] b7) J bm J fun a q=>?_);refine lin J (aE (cs:= #[(iV 0),(iV 0),(.string (⟨#[]⟩)),(.bool false)]) T35 C q J J fun c6 a w C q=>?_);refine lin J (ak (cs':=(wA F)) T35 C (i:=0) J q J J J J J J fun a w C q=>?_);refine wpList_nil (aa (wp_seq (wp_seq (ab (lin J (al (vs:=(wL F)) T35 J q J (C.blkL 0 J) J (ag J) J fun a q=>?_))))));refine lin J (aD func70 J J (q.evs J) q J (fw (x:=F) C.inv.nil) ?_);rintro e w ⟨rfl,b0⟩;refine⟨_,rfl,fun a q=>?_⟩;have C:=C.call b0;refine wpList_nil (aa (au (t:=42) q J (fun a0 q=>?_) (fun a0 q=>?_)))
    ·refine ap q J (ab (lin J (ac (f:=3) (o2:=3) T35 T4 J J J J q J J fun a q=>?_)));refine lin J (af (v:=(.bool F.one)) T4 J q J (C.blkL 0 J) J J fun a q=>?_);refine Lm J q fun a q=>?_;refine au (t:=45) q J (fun a9 q=>?_) (fun a9 q=>?_)
     ·refine ae J q J J J (ac (f:=3) (o2:=3) T35 T4 J J J J q J J fun a q=>?_);refine ae J q J J J (af (v:=(.bool y.one)) T4 J q J (C.blkL 2 J) J J fun a q=>?_);refine lin J (aq q J J J fun a q=>?_);refine lin J (ac (f:=3) (o2:=3) T35 T4 J J J J q J J fun a q=>?_);refine lin J (ak (cs':= #[(iV F.tag),(iV F.n),(.string F.s),(.bool y.one)]) T4 C (i:=0) J q J J J J J J fun a w C q=>?_);refine wpList_nil (aa (ab (lin J (al (vs:= [(iV F.tag),(iV F.n),(.string F.s),(.bool y.one)]) T35 J q J (C.blkL 0 J) J (ag J) J fun a q=>?_))));refine lin J (ak (cs':= #[(iV F.tag),(iV F.n),(.string F.s),(.bool y.one)]) T35 C (i:=2) J q J J J J J J fun a w C q=>?_);refine wpList_nil (ao (aa (ab (lin J (aL (i:=((k: Nat): Int)) (j:=1) q J J J j0 fun a q=>?_)))));refine Lm J q fun a q=>?_;refine wpList_nil (aa (?_));have C:=C.drop;exact⟨bs.length+1 - (k+1),by omega,(k+1),(Wd.mk F.tag F.n F.s y.one),rfl,q.pk J,C,(by rw [<- G,show bs.length+1 - k=(bs.length+1 - (k+1))+1 by omega,ef (aK I) b3];unfold nxtW;simp [a0,a9]),j0⟩
     ·refine Lf J q J J fun a q=>?_;refine Lf J q J J fun a q=>?_;refine lin J (am q J J J fun a q=>?_);refine lin J (ac (f:=3) (o2:=3) T35 T4 J J J J q J J fun a q=>?_);refine lin J (ak (cs':= #[(iV F.tag),(iV F.n),(.string F.s),(.bool false)]) T4 C (i:=0) J q J J J J J J fun a w C q=>?_);refine wpList_nil (aa (ab (lin J (al (vs:= [(iV F.tag),(iV F.n),(.string F.s),(.bool false)]) T35 J q J (C.blkL 0 J) J (ag J) J fun a q=>?_))));refine lin J (ak (cs':= #[(iV F.tag),(iV F.n),(.string F.s),(.bool false)]) T35 C (i:=2) J q J J J J J J fun a w C q=>?_);refine wpList_nil (ao (aa (ab (lin J (aL (i:=((k: Nat): Int)) (j:=1) q J J J j0 fun a q=>?_)))));refine Lm J q fun a q=>?_;refine wpList_nil (aa (?_));have C:=C.drop;exact⟨bs.length+1 - (k+1),by omega,(k+1),(Wd.mk F.tag F.n F.s false),rfl,q.pk J,C,(by rw [<- G,show bs.length+1 - k=(bs.length+1 - (k+1))+1 by omega,ef (aK I) b3];unfold nxtW;simp [a0,a9]),j0⟩
    ·refine ah q J (wp_skip (aa (ab (lin J (al (vs:=(wL F)) T35 J q J (C.blkL 0 J) J (ag J) J fun a q=>?_)))));refine lin J (ak (cs':=(wA F)) T35 C (i:=2) J q J J J J J J fun a w C q=>?_);refine wpList_nil (ao (aa (ab (lin J (aL (i:=((k: Nat): Int)) (j:=1) q J J J j0 fun a q=>?_)))));refine Lm J q fun a q=>?_;refine wpList_nil (aa (?_));have C:=C.drop;exact⟨bs.length+1 - (k+1),by omega,(k+1),F,rfl,q.pk J,C,(by rw [<- G,show bs.length+1 - k=(bs.length+1 - (k+1))+1 by omega,ef (aK I) b3];unfold nxtW;simp [a0]),j0⟩
  ·have a2:=(ar I).2.2.2.1;refine lin J (aP T114 q J J J fun a q=>?_);refine Lm J q fun a q=>?_;refine lin J (ad (v:=(.pointer none)) q J J J fun a q=>?_);refine lin J (ad (v:=(.bool false)) q J J J fun a q=>?_);refine Ls J q fun a q=>?_;refine Ls J q fun a q=>?_;refine wpList_nil (aa (wp_seq (wp_seq (ab (Lm J q fun a q=>?_)))));refine lin J (aS q J J fun a q=>?_);refine Lm J q fun a q=>?_;refine Lf J q J J fun a q=>?_;refine Lf J q J J fun a q=>?_;refine Lf J q J J fun a q=>?_;refine Lf J q J J fun a q=>?_;refine Lf J q J J fun a q=>?_;refine Lf J q J J fun a q=>?_;refine lin J (aq q J J J fun a q=>?_);refine wpList_nil (aa (ap q J (wp_seq (ab (lin J (al (vs:=(wL y)) T35 J q J (C.blkL 1 J) J (ag J) J fun a q=>?_))))));refine lin J (ak (cs':=(wA y)) T35 C (i:=0) J q J J J J J J fun a w C q=>?_);refine Ls J q fun a q=>?_;refine wpList_nil (aa (wp_ret (ai (aA (ai (ai (aA (ai (retA1 (i:=0) (cs:=(wA y)) J T35 J C J q J J J ?_)))))))));have C:=C.fd [0,0] J;have T:=da (S:=er bs) (w:=y) (k:=bs.length - k) (fun b4 a1 h1=>by
    rw [aK I] at h1
    cases h1)
   rw [show bs.length+1 - k=bs.length - k+1 by omega,T] at G;rw [<- G];exact⟨rfl,C⟩
  ·have a2:=(ar I).2.2.2.1;refine lin J (aP T114 q J J J fun a q=>?_);refine Lm J q fun a q=>?_;refine lin J (ad (v:=(.pointer none)) q J J J fun a q=>?_);refine lin J (ad (v:=(.bool false)) q J J J fun a q=>?_);refine Ls J q fun a q=>?_;refine Ls J q fun a q=>?_;refine wpList_nil (aa (wp_seq (wp_seq (ab (Lm J q fun a q=>?_)))));refine lin J (aS q J J fun a q=>?_);refine Lm J q fun a q=>?_;refine Lf J q J J fun a q=>?_;refine Lf J q J J fun a q=>?_;refine Lf J q J J fun a q=>?_;refine Lf J q J J fun a q=>?_;refine Lf J q J J fun a q=>?_;refine Lf J q J J fun a q=>?_;refine lin J (aq q J J J fun a q=>?_);refine wpList_nil (aa (ap q J (wp_seq (ab (lin J (al (vs:=(wL y)) T35 J q J (C.blkL 1 J) J (ag J) J fun a q=>?_))))));refine lin J (ak (cs':=(wA y)) T35 C (i:=0) J q J J J J J J fun a w C q=>?_);refine Ls J q fun a q=>?_;refine wpList_nil (aa (wp_ret (ai (aA (ai (ai (aA (ai (retA1 (i:=0) (cs:=(wA y)) J T35 J C J q J J J ?_)))))))));have C:=C.fd [0,0] J;have T:=da (S:=er bs) (w:=y) (k:=bs.length - k) (fun b4 a1 h1=>by
    rw [aK I] at h1
    cases h1)
   rw [show bs.length+1 - k=bs.length - k+1 by omega,T] at G;rw [<- G];exact⟨rfl,C⟩
 ·refine ah q J (wp_exit (az (az (aN (aa (wp_seq (ab (lin J (aG (vs:= []) (cells:= [(iV 0),(iV 0),(.string (⟨#[]⟩)),(.bool false)]) T35 PL35 q (q.evp J) J J fun a q=>?_)))))))));refine lin J (ak (cs':= #[(iV 0),(iV 0),(.string (⟨#[]⟩)),(.bool false)]) T35 C (i:=0) J q J J J J J J fun a w C q=>?_);refine Ls J q fun a q=>?_;refine wpList_nil (aa (wp_ret (retA1 (i:=0) (cs:= #[(iV 0),(iV 0),(.string (⟨#[]⟩)),(.bool false)]) J T35 J C J q J J J ?_)));have C:=C.fd [0,0] J;rw [show bs.length+1 - k=0 by omega] at G;unfold folS at G;rw [<- G];exact⟨rfl,C⟩
end Go.Vk.Tryz
namespace Go.Vk.Tryz
open Go.RowKit
end Go.Vk.Tryz
