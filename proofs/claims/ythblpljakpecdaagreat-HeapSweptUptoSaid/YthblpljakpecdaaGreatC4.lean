/- Part 4 of the proof of heapSwept_holds. Conditions: none. -/
import Derived.Test.YthblpljakpecdaaGreatC3
set_option linter.unusedVariables false
set_option linter.unusedSimpArgs false
set_option linter.unusedSectionVars false
set_option maxRecDepth 100000
open Go.Proofs.Tryz
namespace Go.Vk.Tryz
open Go.RowKit
theorem c_inside {w0: World} {H: PHeap} {q p: Nat} {ws bs: List Wd} {h: HS} {L: List Ent} (hI: Inv w0 H L) (hM: HM q p ws bs h L) {v_ y_: Wd}: Calls prog 48 #[(pB q),(.agg (wA v_)),(.agg (wA y_))] w0 (fun e w'=> ∃ H',e=.returned (.bool (insP h.S v_ y_))/\Step w0 H L w' H' L):=by
 obtain⟨_,Z,rfl,⟨a9,ao,Ab,cb,a2,a1,rfl,bt,bq⟩,bh⟩:=hM;have F:=Step.refl hI;have cc:=Row.cap bt;have ca:=Row.cap bq;refine enter [(pB q),(.agg (wA v_)),(.agg (wA y_))] func48 J ntmps48 J fun a C=>?_;refine wp_seq (ab (lin J (aV (cs:=(wA v_)) F C J J J fun a6 a w F C=>?_)));refine lin J (aV (cs:=(wA y_)) F C J J J fun a7 a w F C=>?_);refine Ls J C fun a C=>?_;refine wpList_nil (aa (wp_seq ?_));have bu:=F;let b6:=(eO q 46 (hA p a9 ws.length ao Ab bs.length cb));let b7:List Ent:=[(eO a7 35 (wA y_)),(eO a6 35 (wA v_)),b6,a2,a1];refine As.c_draw_head (ini:=(As.il [])) (sup:=(As.sl [(9,10)])) (als:= [9,10]) (s0:=⟨H,fun _=>none⟩) (L:=((eO a7 35 (wA y_))::(eO a6 35 (wA v_))::b6::a2::a1::Z)) (N:=45) (E:= [(0,(pB q)),(4,(pB a6)),(5,(pB a7))]) 11 [FcV (pB q),FcV (pB q),FcV (pB q),FcV (pB p),FcV (.agg (wA y_)),fun ay v=>(fun H v=> ∃ A c,v=(.tuple #[(tv (((readS (HS.S h) y_).1)) A c),(iV ((readS (HS.S h) y_).2))])/\RowT H A c ((readS (HS.S h) y_).1).l) ay.H v,fun ay v=>(fun H v=> ∃ A c,v=(.tuple #[(tv (((readS (HS.S h) y_).1)) A c),(iV ((readS (HS.S h) y_).2))])/\RowT H A c ((readS (HS.S h) y_).1).l) ay.H v,fun ay v=>(fun H v=> ∃ A c,v=(tv (((readS (HS.S h) y_).1)) A c)/\RowT H A c ((readS (HS.S h) y_).1).l) ay.H v,FcV (iV ((readS (HS.S h) y_).2)),fun s v=> ∃ b,s.ax 9=some [(some b,(.cells aZ 41 (0,0)))]/\v=.pointer (some ⟨b,0,none⟩),fun s _=> ∃(b: Nat) (A: Option Addr) (c: Nat),s.ax 9=some [(some b,(.cells aZ 41 (0,0)))]/\s.ax 10=some [(eO b 41 (tA (((readS (HS.S h) y_).1)) A c))]/\RowT s.H A c ((readS (HS.S h) y_).1).l] mixed J J J (As.M1 (As.M1 (As.M1 (As.M1 (As.M1 (As.Monos.cons (fun _ _ v hl aw=>(fun _ _ _ hl ⟨A,c,e,hr⟩=>⟨A,c,e,hr.mono hl⟩: ∀(H H': PHeap) (v: Value),Le H H'->(fun H v=> ∃ A c,v=(.tuple #[(tv (((readS (HS.S h) y_).1)) A c),(iV ((readS (HS.S h) y_).2))])/\RowT H A c ((readS (HS.S h) y_).1).l) H v->(fun H v=> ∃ A c,v=(.tuple #[(tv (((readS (HS.S h) y_).1)) A c),(iV ((readS (HS.S h) y_).2))])/\RowT H A c ((readS (HS.S h) y_).1).l) H' v) _ _ _ hl.le aw) (As.Monos.cons (fun _ _ v hl aw=>(fun _ _ _ hl ⟨A,c,e,hr⟩=>⟨A,c,e,hr.mono hl⟩: ∀(H H': PHeap) (v: Value),Le H H'->(fun H v=> ∃ A c,v=(.tuple #[(tv (((readS (HS.S h) y_).1)) A c),(iV ((readS (HS.S h) y_).2))])/\RowT H A c ((readS (HS.S h) y_).1).l) H v->(fun H v=> ∃ A c,v=(.tuple #[(tv (((readS (HS.S h) y_).1)) A c),(iV ((readS (HS.S h) y_).2))])/\RowT H A c ((readS (HS.S h) y_).1).l) H' v) _ _ _ hl.le aw) (As.Monos.cons (fun _ _ v hl aw=>(fun _ _ _ hl ⟨A,c,e,hr⟩=>⟨A,c,e,hr.mono hl⟩: ∀(H H': PHeap) (v: Value),Le H H'->(fun H v=> ∃ A c,v=(tv (((readS (HS.S h) y_).1)) A c)/\RowT H A c ((readS (HS.S h) y_).1).l) H v->(fun H v=> ∃ A c,v=(tv (((readS (HS.S h) y_).1)) A c)/\RowT H A c ((readS (HS.S h) y_).1).l) H' v) _ _ _ hl.le aw) (As.M1 (As.Monos.cons (fun _ _ _ hl ⟨b,h,e⟩=>⟨b,hl.get h,e⟩) (As.Monos.cons (fun _ _ _ hl ⟨b,A,c,h1,h2,hr⟩=>⟨b,A,c,hl.get h1,hl.get h2,hr.mono hl.le⟩) (As.Monos.nil)))))))))))) (fun _=>rfl) F (C.pk J) (As.QuietsI.c4 ?_ ?_ ?_ ?_ (As.QuietsI.c4 ?_ ?_ ?_ ?_ (As.QuietsI.c2 ?_ ?_ (As.QuietsI.cons ?_ (As.QuietsI.nil))))) (fun bm a w bc X F C az=>?_)
 ·refine As.Qx J fun a w I G Y V F C T X=>?_;have O:=F;exact aj C J J fun a C=>As.ql C O
 ·refine As.Qx1 0 J fun a w I G Y V F C T X=>?_;have O:=F;exact av C J J fun a C=>As.ql C O
 ·refine As.Qx1 1 J fun a w I G Y V F C T X=>?_;have O:=F;exact ac (f:=0) (o2:=0) T46 T44 J J J J C J J fun a C=>As.ql C O
 ·refine As.Qx1 2 J fun a w I G Y V F C T X=>?_;have O:=F;have F:=Step.dropN _ _ F;exact af (v:=(pB p)) T44 J C J (F.blkL 2 J) J J fun a C=>As.ql C O
 ·refine As.Qx J fun a w I G Y V F C T X=>?_;have O:=F;have F:=Step.dropN _ _ F;exact al (vs:=(wL y_)) T35 J C J (F.blkL 0 J) J (ag J) J fun a C=>As.ql C O
 ·refine As.Qx1 3 J fun a w I G Y V F C T X=>?_;obtain⟨_,C,rfl⟩:=T.g C 4 J;have O:=F;have bw:=Step.dropN _ _ F;have F:=Step.perm F (List.Perm.of_eq (List.append_assoc (As.aents (As.il []) (As.sl [(9,10)]) [9,10] G) b7 Z).symm);have c1:=fW (F.tail ((As.aents (As.il []) (As.sl [(9,10)]) [9,10] G)++ b7)) bh (x:=y_);refine id (Co func16 C J (c1) ?_);rintro e w ⟨c9,a4,a5,rfl,ar,bj⟩;refine⟨_,rfl,fun a C=>?_⟩;have F:=F.frameR ((As.aents (As.il []) (As.sl [(9,10)]) [9,10] G)++ b7) bj;have F:=Step.perm F (List.Perm.of_eq (List.append_assoc (As.aents (As.il []) (As.sl [(9,10)]) [9,10] G) b7 Z));exact As.qdone (s:=⟨I,G⟩) bj.le C F ⟨_,_,rfl,ar⟩
 ·refine As.Qx J fun a w I G Y V F C T X=>?_;obtain⟨_,C,a4,a5,rfl,ar⟩:=T.g C 5 J;have O:=F;refine id (aj C J J fun a C=>?_);exact As.qdone (s:=⟨I,G⟩) (Le.refl _) C O ⟨_,_,rfl,ar⟩
 ·refine As.Qx J fun a w I G Y V F C T X=>?_;obtain⟨_,C,a4,a5,rfl,ar⟩:=T.g C 6 J;have O:=F;refine id (ad (v:=(tv (((readS (HS.S h) y_).1)) a4 a5)) C J J J fun a C=>?_);exact As.qdone (s:=⟨I,G⟩) (Le.refl _) C O ⟨_,_,rfl,ar⟩
 ·refine As.Qx J fun a w I G Y V F C T X=>?_;obtain⟨_,C,a4,a5,rfl,ar⟩:=T.g C 6 J;have O:=F;exact ad (v:=(iV ((readS (HS.S h) y_).2))) C J J J fun a C=>As.ql C O
 ·refine As.Qx J fun a w I G Y V F C T X=>?_;have F: Step w0 H ([(eO q 46 #[.pointer (some ⟨p,0,none⟩),.slice a9 ws.length ao,.slice Ab bs.length cb,.bool true]),a2,a1]++Z) w I ((As.aents (As.il []) (As.sl [(9,10)]) [] G++As.aents (As.il []) (As.sl [(9,10)]) [10] G++((eO a7 35 (wA y_))::(eO a6 35 (wA v_))::b6::a2::a1::Z))):=As.opn (s:=⟨I,G⟩) [] [9] [10] [] J (As.con0 V J) F;refine aE (cs:=aZ) T41 F C J J fun a3 a w F C=>?_;exact As.qown (i:=9) (dst:=some 7) (s:=⟨I,G⟩) (E:= [(some a3,(.cells aZ 41 (0,0)))]) [] [9] [10] J J V (Le.refl _) C.dfr (As.has_at C) F As.con1 ⟨a3,rfl,rfl⟩
 ·refine As.Qx J fun a w I G Y V F C T X=>?_;obtain⟨_,C,a3,b2,rfl⟩:=T.g C 9 J;have b2: G 9=some [(some a3,(.cells aZ 41 (0,0)))]:=b2;obtain⟨_,C,a4,a5,rfl,ar⟩:=T.g C 7 J;have F: Step w0 H ([(eO q 46 #[.pointer (some ⟨p,0,none⟩),.slice a9 ws.length ao,.slice Ab bs.length cb,.bool true]),a2,a1]++Z) w I ((some a3,(.cells aZ 41 (0,0)))::(As.aents (As.il []) (As.sl [(9,10)]) [] G++As.aents (As.il []) (As.sl [(9,10)]) [] G++((eO a7 35 (wA y_))::(eO a6 35 (wA v_))::b6::a2::a1::Z))):=As.opn (s:=⟨I,G⟩) [] [9,10] [] [(some a3,(.cells aZ 41 (0,0)))] J (As.con2 J J J b2 V) F;refine id (ak (cs':=(tA (((readS (HS.S h) y_).1)) a4 a5)) T41 F (i:=0) J C J J J J J J fun a w F C=>?_);exact As.qown (i:=10) (dst:=none) (s:=⟨I,G⟩) (E:= [(eO a3 41 (tA (((readS (HS.S h) y_).1)) a4 a5))]) [] [9,10] [] J J V (Le.refl _) C.dfr (v:=undef) (fun _ h=>by cases h) F (.inl (As.con2' J J)) ⟨a3,a4,a5,b2,rfl,ar⟩
 obtain⟨b4,G⟩:=bc;have cd: Le H b4:=X.le;dsimp only at az F;obtain⟨_,C,rfl⟩:=As.Dd C az 8 J;obtain⟨_,C,a3,b2,rfl⟩:=As.Dd C az 9 J;have b2: G 9=some [(some a3,(.cells aZ 41 (0,0)))]:=b2;obtain⟨_,c7,bl,a4,a5,c6,b9,ar⟩:=az 10 _ _ J J;have b9: G 10=some [(eO bl 41 (tA (((readS (HS.S h) y_).1)) a4 a5))]:=b9;obtain rfl: a3=bl:=by have au:=(b2).symm.trans c6;simpa using au
 have F: Step w0 H ([(eO q 46 #[.pointer (some ⟨p,0,none⟩),.slice a9 ws.length ao,.slice Ab bs.length cb,.bool true]),a2,a1]++Z) w b4 ((eO a3 41 (tA (((readS (HS.S h) y_).1)) a4 a5))::(eO a7 35 (wA y_))::(eO a6 35 (wA v_))::(eO q 46 (hA p a9 ws.length ao Ab bs.length cb))::a2::a1::Z):=by
  have au:=F;unfold As.aents at au;simp only [List.flatMap_cons,List.flatMap_nil,As.conE,show (As.sl [(9,10)]) 9=some 10 from rfl,show (As.sl [(9,10)]) 10=none from rfl,b2,b9,Option.isSome_some,Option.getD_some,cond_true,cond_false,List.cons_append,List.nil_append,List.append_nil] at au;exact au
 refine any1 (i:=11) j1 J J (aH C J J fun a C=>?_);refine any0 j1 ?_;refine aa (wp_seq ?_);have bu:=F;let b5:List Ent:=[(eO a3 41 (tA (((readS (HS.S h) y_).1)) a4 a5)),(eO a7 35 (wA y_)),(eO a6 35 (wA v_)),(eO q 46 (hA p a9 ws.length ao Ab bs.length cb)),a2,a1];let U:=(eO a3 41 (tA (((readS (HS.S h) y_).1)) a4 a5));let K:=(eO q 46 (hA p a9 ws.length ao Ab bs.length cb));refine As.c_draw_head (ini:=(As.il [])) (sup:=(As.sl [(9,10)])) (als:= [9,10]) (s0:=⟨b4,fun _=>none⟩) (L:=(U::(eO a7 35 (wA y_))::(eO a6 35 (wA v_))::K::a2::a1::Z)) (N:=45) (E:= [(0,(pB q)),(4,(pB a6)),(7,(pB a3)),(8,(iV ((readS (HS.S h) y_).2)))]) 11 [FcV (pB q),FcV (pB q),FcV (pB q),FcV (pB p),FcV (.agg (wA v_)),fun ay v=>(fun H v=> ∃ A c,v=(.tuple #[(tv (((readS (HS.S h) v_).1)) A c),(iV ((readS (HS.S h) v_).2))])/\RowT H A c ((readS (HS.S h) v_).1).l) ay.H v,fun ay v=>(fun H v=> ∃ A c,v=(.tuple #[(tv (((readS (HS.S h) v_).1)) A c),(iV ((readS (HS.S h) v_).2))])/\RowT H A c ((readS (HS.S h) v_).1).l) ay.H v,fun ay v=>(fun H v=> ∃ A c,v=(tv (((readS (HS.S h) v_).1)) A c)/\RowT H A c ((readS (HS.S h) v_).1).l) ay.H v,FcV (iV ((readS (HS.S h) v_).2)),fun s v=> ∃ b,s.ax 9=some [(some b,(.cells aZ 41 (0,0)))]/\v=.pointer (some ⟨b,0,none⟩),fun s _=> ∃(b: Nat) (A: Option Addr) (c: Nat),s.ax 9=some [(some b,(.cells aZ 41 (0,0)))]/\s.ax 10=some [(eO b 41 (tA (((readS (HS.S h) v_).1)) A c))]/\RowT s.H A c ((readS (HS.S h) v_).1).l] mixed J J J (As.M1 (As.M1 (As.M1 (As.M1 (As.M1 (As.Monos.cons (fun _ _ v hl aw=>(fun _ _ _ hl ⟨A,c,e,hr⟩=>⟨A,c,e,hr.mono hl⟩: ∀(H H': PHeap) (v: Value),Le H H'->(fun H v=> ∃ A c,v=(.tuple #[(tv (((readS (HS.S h) v_).1)) A c),(iV ((readS (HS.S h) v_).2))])/\RowT H A c ((readS (HS.S h) v_).1).l) H v->(fun H v=> ∃ A c,v=(.tuple #[(tv (((readS (HS.S h) v_).1)) A c),(iV ((readS (HS.S h) v_).2))])/\RowT H A c ((readS (HS.S h) v_).1).l) H' v) _ _ _ hl.le aw) (As.Monos.cons (fun _ _ v hl aw=>(fun _ _ _ hl ⟨A,c,e,hr⟩=>⟨A,c,e,hr.mono hl⟩: ∀(H H': PHeap) (v: Value),Le H H'->(fun H v=> ∃ A c,v=(.tuple #[(tv (((readS (HS.S h) v_).1)) A c),(iV ((readS (HS.S h) v_).2))])/\RowT H A c ((readS (HS.S h) v_).1).l) H v->(fun H v=> ∃ A c,v=(.tuple #[(tv (((readS (HS.S h) v_).1)) A c),(iV ((readS (HS.S h) v_).2))])/\RowT H A c ((readS (HS.S h) v_).1).l) H' v) _ _ _ hl.le aw) (As.Monos.cons (fun _ _ v hl aw=>(fun _ _ _ hl ⟨A,c,e,hr⟩=>⟨A,c,e,hr.mono hl⟩: ∀(H H': PHeap) (v: Value),Le H H'->(fun H v=> ∃ A c,v=(tv (((readS (HS.S h) v_).1)) A c)/\RowT H A c ((readS (HS.S h) v_).1).l) H v->(fun H v=> ∃ A c,v=(tv (((readS (HS.S h) v_).1)) A c)/\RowT H A c ((readS (HS.S h) v_).1).l) H' v) _ _ _ hl.le aw) (As.M1 (As.Monos.cons (fun _ _ _ hl ⟨b,h,e⟩=>⟨b,hl.get h,e⟩) (As.Monos.cons (fun _ _ _ hl ⟨b,A,c,h1,h2,hr⟩=>⟨b,A,c,hl.get h1,hl.get h2,hr.mono hl.le⟩) (As.Monos.nil)))))))))))) (fun _=>rfl) F (C.pk J) (As.QuietsI.c4 ?_ ?_ ?_ ?_ (As.QuietsI.c4 ?_ ?_ ?_ ?_ (As.QuietsI.c2 ?_ ?_ (As.QuietsI.cons ?_ (As.QuietsI.nil))))) (fun bm a w bc X F C az=>?_)
 ·refine As.Qx J fun a w I G Y V F C T X=>?_;have O:=F;exact aj C J J fun a C=>As.ql C O
 ·refine As.Qx1 0 J fun a w I G Y V F C T X=>?_;have O:=F;exact av C J J fun a C=>As.ql C O
 ·refine As.Qx1 1 J fun a w I G Y V F C T X=>?_;have O:=F;exact ac (f:=0) (o2:=0) T46 T44 J J J J C J J fun a C=>As.ql C O
 ·refine As.Qx1 2 J fun a w I G Y V F C T X=>?_;have O:=F;have F:=Step.dropN _ _ F;exact af (v:=(pB p)) T44 J C J (F.blkL 3 J) J J fun a C=>As.ql C O
 ·refine As.Qx J fun a w I G Y V F C T X=>?_;have O:=F;have F:=Step.dropN _ _ F;exact al (vs:=(wL v_)) T35 J C J (F.blkL 2 J) J (ag J) J fun a C=>As.ql C O
 ·refine As.Qx1 3 J fun a w I G Y V F C T X=>?_;obtain⟨_,C,rfl⟩:=T.g C 4 J;have O:=F;have bw:=Step.dropN _ _ F;have F:=Step.perm F (List.Perm.of_eq (List.append_assoc (As.aents (As.il []) (As.sl [(9,10)]) [9,10] G) b5 Z).symm);have bz:=fW (F.tail ((As.aents (As.il []) (As.sl [(9,10)]) [9,10] G)++ b5)) bh (x:=v_);refine id (Co func16 C J (bz) ?_);rintro e w ⟨c8,a8,an,rfl,b0,bi⟩;refine⟨_,rfl,fun a C=>?_⟩;have F:=F.frameR ((As.aents (As.il []) (As.sl [(9,10)]) [9,10] G)++ b5) bi;have F:=Step.perm F (List.Perm.of_eq (List.append_assoc (As.aents (As.il []) (As.sl [(9,10)]) [9,10] G) b5 Z));exact As.qdone (s:=⟨I,G⟩) bi.le C F ⟨_,_,rfl,b0⟩
 ·refine As.Qx J fun a w I G Y V F C T X=>?_;obtain⟨_,C,a8,an,rfl,b0⟩:=T.g C 5 J;have O:=F;refine id (aj C J J fun a C=>?_);exact As.qdone (s:=⟨I,G⟩) (Le.refl _) C O ⟨_,_,rfl,b0⟩
 ·refine As.Qx J fun a w I G Y V F C T X=>?_;obtain⟨_,C,a8,an,rfl,b0⟩:=T.g C 6 J;have O:=F;refine id (ad (v:=(tv (((readS (HS.S h) v_).1)) a8 an)) C J J J fun a C=>?_);exact As.qdone (s:=⟨I,G⟩) (Le.refl _) C O ⟨_,_,rfl,b0⟩
 ·refine As.Qx J fun a w I G Y V F C T X=>?_;obtain⟨_,C,a8,an,rfl,b0⟩:=T.g C 6 J;have O:=F;exact ad (v:=(iV ((readS (HS.S h) v_).2))) C J J J fun a C=>As.ql C O
 ·refine As.Qx J fun a w I G Y V F C T X=>?_;have F: Step w0 H ([(eO q 46 #[.pointer (some ⟨p,0,none⟩),.slice a9 ws.length ao,.slice Ab bs.length cb,.bool true]),a2,a1]++Z) w I ((As.aents (As.il []) (As.sl [(9,10)]) [] G++As.aents (As.il []) (As.sl [(9,10)]) [10] G++(U::(eO a7 35 (wA y_))::(eO a6 35 (wA v_))::K::a2::a1::Z))):=As.opn (s:=⟨I,G⟩) [] [9] [10] [] J (As.con0 V J) F;refine aE (cs:=aZ) T41 F C J J fun a0 a w F C=>?_;exact As.qown (i:=9) (dst:=some 9) (s:=⟨I,G⟩) (E:= [(some a0,(.cells aZ 41 (0,0)))]) [] [9] [10] J J V (Le.refl _) C.dfr (As.has_at C) F As.con1 ⟨a0,rfl,rfl⟩
 ·refine As.Qx J fun a w I G Y V F C T X=>?_;obtain⟨_,C,a0,b1,rfl⟩:=T.g C 9 J;have b1: G 9=some [(some a0,(.cells aZ 41 (0,0)))]:=b1;obtain⟨_,C,a8,an,rfl,b0⟩:=T.g C 7 J;have F: Step w0 H ([(eO q 46 #[.pointer (some ⟨p,0,none⟩),.slice a9 ws.length ao,.slice Ab bs.length cb,.bool true]),a2,a1]++Z) w I ((some a0,(.cells aZ 41 (0,0)))::(As.aents (As.il []) (As.sl [(9,10)]) [] G++As.aents (As.il []) (As.sl [(9,10)]) [] G++(U::(eO a7 35 (wA y_))::(eO a6 35 (wA v_))::K::a2::a1::Z))):=As.opn (s:=⟨I,G⟩) [] [9,10] [] [(some a0,(.cells aZ 41 (0,0)))] J (As.con2 J J J b1 V) F;refine id (ak (cs':=(tA (((readS (HS.S h) v_).1)) a8 an)) T41 F (i:=0) J C J J J J J J fun a w F C=>?_);exact As.qown (i:=10) (dst:=none) (s:=⟨I,G⟩) (E:= [(eO a0 41 (tA (((readS (HS.S h) v_).1)) a8 an))]) [] [9,10] [] J J V (Le.refl _) C.dfr (v:=undef) (fun _ h=>by cases h) F (.inl (As.con2' J J)) ⟨a0,a8,an,b1,rfl,b0⟩
 obtain⟨bf,G⟩:=bc;have c3: Le b4 bf:=X.le;dsimp only at az F;have ar:=ar.mono c3;obtain⟨_,C,rfl⟩:=As.Dd C az 8 J;obtain⟨_,C,a0,b1,rfl⟩:=As.Dd C az 9 J;have b1: G 9=some [(some a0,(.cells aZ 41 (0,0)))]:=b1;obtain⟨_,c7,bk,a8,an,c5,b8,b0⟩:=az 10 _ _ J J;have b8: G 10=some [(eO bk 41 (tA (((readS (HS.S h) v_).1)) a8 an))]:=b8;obtain rfl: a0=bk:=by have au:=(b1).symm.trans c5;simpa using au
 have F: Step w0 H ([(eO q 46 #[.pointer (some ⟨p,0,none⟩),.slice a9 ws.length ao,.slice Ab bs.length cb,.bool true]),a2,a1]++Z) w bf ((eO a0 41 (tA (((readS (HS.S h) v_).1)) a8 an))::(eO a3 41 (tA (((readS (HS.S h) y_).1)) a4 a5))::(eO a7 35 (wA y_))::(eO a6 35 (wA v_))::(eO q 46 (hA p a9 ws.length ao Ab bs.length cb))::a2::a1::Z):=by
  have au:=F;unfold As.aents at au;simp only [List.flatMap_cons,List.flatMap_nil,As.conE,show (As.sl [(9,10)]) 9=some 10 from rfl,show (As.sl [(9,10)]) 10=none from rfl,b1,b8,Option.isSome_some,Option.getD_some,cond_true,cond_false,List.cons_append,List.nil_append,List.append_nil] at au;exact au
 refine any1 (i:=11) j1 J J (aH C J J fun a C=>?_);refine any0 j1 ?_;refine aa (wp_seq (wp_seq (ab (Lm J C fun a C=>?_))));refine lin J (bE (i:=((readS (HS.S h) y_).2)) (j:=0) C J J J fun a C=>?_);refine Lm J C fun a C=>?_;refine aQ (t:=32) C J (fun bn C=>?_) (fun bn C=>?_)
 ·refine Lf J C J J fun a C=>?_;refine Lf J C J J fun a C=>?_;refine lin J (aq C J J J fun a C=>?_);refine Lm J C fun a C=>?_;refine Lf J C J J fun a C=>?_;refine Lf J C J J fun a C=>?_;refine Lf J C J J fun a C=>?_;refine lin J (aq C J J J fun a C=>?_);refine wpList_nil (aa (ap C J (wp_seq (ab (Ls J C fun a C=>?_)))));refine wpList_nil (aa (wp_ret (ai (ret1 J C J ?_))));have F:=F.fd [0,0,0,0] J;rw [show insP h.S v_ y_=true from by unfold insP;rw [if_pos j0]];exact⟨_,rfl,F⟩
 ·refine ae J C J J J (aj C J J fun a C=>?_);refine ae J C J J J (bE (i:=((readS (HS.S h) v_).2)) (j:=0) C J J J fun a C=>?_);refine lin J (am C J J J fun a C=>?_);refine Lm J C fun a C=>?_;refine aQ (t:=36) C J (fun bo C=>?_) (fun bo C=>?_)
  ·refine Lf J C J J fun a C=>?_;refine Lf J C J J fun a C=>?_;refine Lf J C J J fun a C=>?_;refine lin J (aq C J J J fun a C=>?_);refine wpList_nil (aa (ap C J (wp_seq (ab (Ls J C fun a C=>?_)))));refine wpList_nil (aa (wp_ret (ai (ret1 J C J ?_))));have F:=F.fd [0,0,0,0] J;rw [show insP h.S v_ y_=true from by unfold insP;rw [if_pos j0]];exact⟨_,rfl,F⟩
  ·refine ae J C J J J (ac (f:=0) (o2:=0) T41 T3 J J J J C J J fun a C=>?_);refine ae J C J J J (af (v:=(iV ((((readS (HS.S h) v_).1)).kind))) T3 J C J (F.blkL 0 J) J J fun a C=>?_);refine ae J C J J J (bE (i:=((((readS (HS.S h) v_).1)).kind)) (j:=1) C J J J fun a C=>?_);refine lin J (am C J J J fun a C=>?_);let bg:=(eO a0 41 (tA (((readS (HS.S h) v_).1)) a8 an));let M:=(eO a3 41 (tA (((readS (HS.S h) y_).1)) a4 a5));let W:=(eO q 46 (hA p a9 ws.length ao Ab bs.length cb));refine wpList_nil (aa (aQ (t:=40) C J (fun bp C=>?_) (fun bp C=>?_)))
   ·refine ap C J (wp_seq (ab (Ls J C fun a C=>?_)));refine wpList_nil (aa (wp_ret (ai (ret1 J C J ?_))));have F:=F.fd [0,0,0,0] J;rw [show insP h.S v_ y_=true from by unfold insP;rw [if_pos j0]];exact⟨_,rfl,F⟩
   ·refine ah C J (wp_skip (aa (wp_seq (ab (lin J (aE (cs:= #[.nilFunc]) T73 F C J J fun b3 a w F C=>?_))))));refine wpList_nil (aa (wp_seq (ab (lin J (cP (fs:= #[]) (cs:= #[(pB a0),(pB b3)]) C (C.evs (xs:= []) J) (C.evs J) J fun a C=>?_)))));refine lin J (ak (cs':= #[(.func (.func 99) #[] #[(pB a0),(pB b3)])]) T73 F (i:=0) J C J J J J J J fun a w F C=>?_);refine wpList_nil (aa (wp_seq (ab (lin J (af (v:=(.func (.func 99) #[] #[(pB a0),(pB b3)])) T73 J C J (F.blkL 0 J) J J fun a C=>?_)))));refine lin J (al (vs:=(tL (((readS (HS.S h) y_).1)) a4 a5)) T41 J C J (F.blkL 2 J) J (ag J) J fun a C=>?_);have F:=F.fd [8,8,8,8,8,8,7,8] J;have c0:=c_visit (ba:=a0) (bv:=b3) (u:=(readS h.S v_).1) ((readS (HS.S h) y_).1) _ _ _ _ ar (Inv.head [bg,(eO b3 73 #[(.func (.func 99) #[] #[(pB a0),(pB b3)])])] (B:=(M::(eO a7 35 (wA y_))::(eO a6 35 (wA v_))::W::a2::a1::Z)) F.inv);refine lin J (br func99 J J (C.evs J) C J J (c0) ?_);rintro e w ⟨rfl,bx⟩;refine⟨_,rfl,fun a C=>?_⟩;have F:=Step.frame (Lc:= [bg,(eO b3 73 #[(.func (.func 99) #[] #[(pB a0),(pB b3)])])]) (R:=(M::(eO a7 35 (wA y_))::(eO a6 35 (wA v_))::W::a2::a1::Z)) F bx;refine Ls J C fun a C=>?_;refine wpList_nil (aa (wp_ret (ret1 J C J ?_)));have F:=F.fd [0,0,0,0,0] J;rw [show insP h.S v_ y_=occV (readS h.S v_).1.n (readS h.S y_).1 from by unfold insP;rw [if_neg j0]];exact⟨_,rfl,F⟩
end Go.Vk.Tryz
namespace Go.Vk.Tryz
open Go.RowKit
set_option maxHeartbeats 4000000 in
theorem c_step {w0: World} {H: PHeap} {q p: Nat} {ws bs: List Wd} {h: HS} {L: List Ent} (hI: Inv w0 H L) (hM: HM q p ws bs h L) {x: StV} (hdi: DI h ws bs) (hlw: ws.length<=50000) (hlb: bs.length<=50000): Calls prog 13 #[(pB q),(.agg #[(iV x.kd),(iV x.a),(iV x.b),(iV x.c)])] w0 (fun e w'=> ∃ h' ws' bs' H' L',SR x (h,ws,bs) (h',ws',bs')/\ws'.length<=ws.length+130/\bs'.length<=bs.length+1/\HM q p ws' bs' h' L'/\e=.returned (.tuple #[])/\Step w0 H L w' H' L'):=by
 obtain⟨_,b2,bi,⟨hq,i5,Ab,cb,ay,a9,rfl,d8,d0⟩,bj⟩:=hM;have F: Step w0 H L w0 H ([(eO q 46 #[.pointer (some ⟨p,0,none⟩),.slice hq ws.length i5,.slice Ab bs.length cb,.bool true]),ay,a9]++b2):=Step.castR [] bi (Step.refl hI);have F1:=Row.cap d8;have Ep:=Row.cap d0;have lo:=hdi.ok;obtain⟨kk,lu⟩: ∃ k_,ixZ x.kd 9=k_:=⟨_,rfl⟩;refine enter [(pB q),(.agg #[(iV x.kd),(iV x.a),(iV x.b),(iV x.c)])] func13 J ntmps13 J fun a C=>?_;refine wp_seq (ab (lin J (aV (cs:= #[(iV x.kd),(iV x.a),(iV x.b),(iV x.c)]) F C J J J fun ct a w F C=>?_)));refine wpList_nil (aa (wp_seq (ab (lin J (ac (f:=0) (o2:=0) T32 T3 J J J J C J J fun a C=>?_)))));refine lin J (af (v:=(iV x.kd)) T3 J C J (F.blkL 0 J) J J fun a C=>?_);have rt:=dI (k:=x.kd) (n:=9) F.inv.nil j0;rw [lu] at rt;refine lin J (Cs func43 C J (rt) F fun a w C F=>?_);refine wpList_nil (aa (wp_block (wp_seq (ab (lin J (bn (i:=kk) (j:=0) C J J J fun a C=>?_))))));refine Ls J C fun a C=>?_;let b1:=(eO q 46 (hA p hq ws.length i5 Ab bs.length cb));let a7:=(eO ct 32 #[(iV x.kd),(iV x.a),(iV x.b),(iV x.c)]);let b7:=((HS.var h).2.1);refine wpList_nil (aa (an (t:=39) C J (fun wy C=>?_) (fun wy C=>?_)))
 ·refine ap C J (wp_seq (ab (Lm J C fun a C=>?_)));refine lin J (av C J J fun a C=>?_);refine lin J (ac (f:=0) (o2:=0) T46 T44 J J J J C J J fun a C=>?_);refine lin J (af (v:=(pB p)) T44 J C J (F.blkL 1 J) J J fun a C=>?_);have A0:=c_hVar (F.tail [a7,b1,ay,a9]) bj hdi.ok;refine lin J (Co func24 C J (A0) ?_);rintro e w ⟨mf,rfl,ia,z2⟩;refine⟨_,rfl,fun a C=>?_⟩;have F:=F.frameR [a7,b1,ay,a9] z2;have Ee: HS.Ok ((HS.var h).1):=HS.Ok.var hdi.ok;refine Lm J C fun a C=>?_;refine lin J (ad (v:=(.agg (wA b7))) C J J J fun a C=>?_);refine lin J (ad (v:=(iV ((HS.var h).2.2))) C J J J fun a C=>?_);refine lin J (aE (cs:= #[(iV 0),(iV 0),(.string (⟨#[]⟩)),(.bool false)]) T35 F C J J fun kj a w F C=>?_);refine lin J (ak (cs':=(wA b7)) T35 F (i:=0) J C J J J J J J fun a w F C=>?_);refine Ls J C fun a C=>?_;refine wpList_nil (aa (wp_seq (ab (Lm J C fun a C=>?_))));refine lin J (bn (i:=((HS.var h).2.2)) (j:=0) C J J J fun a C=>?_);let R:Array Value:=#[(iV ((b7).tag)),(iV ((b7).n)),(.string ((b7).s)),(.bool false)];refine wpList_nil (aa (an (t:=50) C J (fun gs C=>?_) (fun gs C=>?_)))
  ·refine ap C J (wp_seq (ab (lin J (al (vs:=(wL b7)) T35 J C J (F.blkL 0 J) J (ag J) J fun a C=>?_))));refine lin J (aE (cs:= #[(iV 0),(iV 0),(.string (⟨#[]⟩)),(.bool false)]) T35 F C J J fun ki a w F C=>?_);refine lin J (ak (cs':=(wA b7)) T35 F (i:=0) J C J J J J J J fun a w F C=>?_);refine wpList_nil (aa (wp_seq (ab (lin J (ac (f:=3) (o2:=3) T35 T4 J J J J C J J fun a C=>?_)))));refine lin J (ak (cs':= R) T4 F (i:=0) J C J J J J J J fun a w F C=>?_);refine wpList_nil (aa (?_));have F:=F.fd [6,6] J
   let Bb:=(As.il [(8, [ay]),(15, [a9])])
   let ji:=(As.sl [])
   have bo:=F;refine As.c_draw_headF (ini:=Bb) (sup:=ji) (als:= [8,15]) (s0:=⟨H,fun _=>none⟩) (L:=((eO ki 35 R)::(eO kj 35 (wA b7))::a7::b1::mf)) (N:=480) (E:= [(0,(pB q)),(4,(pB kj)),(6,(pB ki))]) 16 1 [FcV (pB q),FcV (pB q),FcV (pB q),FcV (pB q),FcV (.pointer (some ⟨q,1,none⟩)),FcV (.slice hq ws.length i5),FcV (.agg (wA b7)),As.lf (fun H v=> ∃ b,v=.slice (some ⟨b,0,none⟩) 1 1/\H b=some (.cells (wA b7) 35 (0,0))),fun s v=> ∃(A: Option Addr) (c: Nat) (en: Ent),s.ax 8=some [en]/\v=.slice A ((ws++([b7]: List Wd)).length) c/\Row (.slice A ((ws++([b7]: List Wd)).length) c) en 35 4 ((ws++([b7]: List Wd)).length) (gfl Wd.cells (ws++([b7]: List Wd))),FcV (pB q),FcV (pB q),FcV (.pointer (some ⟨q,2,none⟩)),FcV (.slice Ab bs.length cb),FcV (.agg R),As.lf (fun H v=> ∃ b,v=.slice (some ⟨b,0,none⟩) 1 1/\H b=some (.cells R 35 (0,0))),fun s v=> ∃(A: Option Addr) (c: Nat) (en: Ent),s.ax 15=some [en]/\v=.slice A ((bs++([(Wd.mk ((b7).tag) ((b7).n) ((b7).s) false)]: List Wd)).length) c/\Row (.slice A ((bs++([(Wd.mk ((b7).tag) ((b7).n) ((b7).s) false)]: List Wd)).length) c) en 35 4 ((bs++([(Wd.mk ((b7).tag) ((b7).n) ((b7).s) false)]: List Wd)).length) (gfl Wd.cells (bs++([(Wd.mk ((b7).tag) ((b7).n) ((b7).s) false)]: List Wd)))] mixed j1 j1 j1 j1 j6 (fun _=>rfl) F (C.pk J) (As.QuietsI.c4 ?_ ?_ ?_ ?_ (As.QuietsI.c4 ?_ ?_ ?_ ?_ (As.QuietsI.c4 ?_ ?_ ?_ ?_ (As.QuietsI.c4 ?_ ?_ ?_ ?_ (As.QuietsI.nil))))) (fun bm a w ba X F C a2=>?_) (fun bm a w ba X F C a2=>?_)
   ·refine As.Qx J fun a w O G Z V F C T X=>?_;have I:=F;exact aj C J J fun a C=>As.ql C I
   ·refine As.Qx J fun a w O G Z V F C T X=>?_;have I:=F;exact aj C J J fun a C=>As.ql C I
   ·refine As.Qx J fun a w O G Z V F C T X=>?_;have I:=F;exact aj C J J fun a C=>As.ql C I
   ·refine As.Qx1 2 J fun a w O G Z V F C T X=>?_;have I:=F;exact av C J J fun a C=>As.ql C I
   ·refine As.Qx1 3 J fun a w O G Z V F C T X=>?_;have I:=F;exact ac (f:=1) (o2:=1) T46 T37 J J J J C J J fun a C=>As.ql C I
   ·refine As.Qx1 4 J fun a w O G Z V F C T X=>?_;have I:=F;have F:=Step.dropN _ _ F;exact af (v:=(.slice hq ws.length i5)) T37 J C J (F.blkL 3 J) J J fun a C=>As.ql C I
   ·refine As.Qx J fun a w O G Z V F C T X=>?_;have I:=F;have F:=Step.dropN _ _ F;exact al (vs:=(wL b7)) T35 J C J (F.blkL 1 J) J (ag J) J fun a C=>As.ql C I
   ·refine As.Qx1 6 J fun a w O G Z V F C T X=>?_;have I:=F;have c3:=Step.dropN _ _ F;refine id (aY (vs:= [(0,(.agg (wA b7)))]) (cells:=(wL b7)) T37.und T35 F C (C.evp J) J J J J fun su a w F C=>?_);obtain⟨Cm,F,Aa,ni⟩:=F.give;exact As.qdone (s:=⟨O,G⟩) Aa C F ⟨_,rfl,ni⟩
   ·refine As.Qx1 5 J fun a w O G Z V F C T X=>?_;obtain⟨_,C,su,rfl,ni⟩:=T.g C 7 J;have F: Step w0 H L w O (ay::_):=As.opn (s:=⟨O,G⟩) [] [8] [15] [ay] J (As.con0s V J) F;obtain⟨tj,Bt,uw,u9,vg,qq,wf⟩:=(RowG.of_lit Wd.len ([b7]: List Wd) ni j3 J).2.2;refine id (aJ (news:=(gfl Wd.cells ([b7]: List Wd))) (xs:=(gfl Wd.cells ws)) T37.und T35 J J F d8 C J J (aw Wd.len _) (fun b9=>⟨tj,Bt,uw,u9,vg,(qq (fun Y=>b9 (by rw [Y];rfl))).1,F.blkH (qq (fun Y=>b9 (by rw [Y];rfl))).2,fun j u bg=>a8 Wd.len j4 wf bg⟩) (aT Wd.one' _) j0 J J fun Gk gn a w dk F C=>?_);rw [<- aF] at dk;obtain⟨f0,ff,rfl⟩:=dk.slice;have b4:(ws.length+1)=(ws++([b7]: List Wd)).length:=by have Y:=dk.1;rw [aw Wd.len] at Y;omega
    rw [show Value.slice f0 (ws.length+1) ff=Value.slice f0 (ws++([b7]: List Wd)).length ff from by rw [b4]] at C;rw [b4] at dk;exact As.qown (i:=8) (dst:=some 61) (s:=⟨O,G⟩) (E:= [gn]) [] [8] [15] J J V (Le.refl _) C.dfr (As.has_at C) F As.con1 ⟨_,_,_,rfl,rfl,dk⟩
   ·refine As.Qx J fun a w O G Z V F C T X=>?_;have I:=F;exact aj C J J fun a C=>As.ql C I
   ·refine As.Qx1 9 J fun a w O G Z V F C T X=>?_;have I:=F;exact av C J J fun a C=>As.ql C I
   ·refine As.Qx1 10 J fun a w O G Z V F C T X=>?_;have I:=F;exact ac (f:=2) (o2:=2) T46 T37 J J J J C J J fun a C=>As.ql C I
   ·refine As.Qx1 11 J fun a w O G Z V F C T X=>?_;have I:=F;have F:=Step.dropN _ _ F;exact af (v:=(.slice Ab bs.length cb)) T37 J C J (F.blkL 3 J) J J fun a C=>As.ql C I
   ·refine As.Qx J fun a w O G Z V F C T X=>?_;have I:=F;have F:=Step.dropN _ _ F;exact al (vs:= [(iV ((b7).tag)),(iV ((b7).n)),(.string ((b7).s)),(.bool false)]) T35 J C J (F.blkL 0 J) J (ag J) J fun a C=>As.ql C I
   ·refine As.Qx1 13 J fun a w O G Z V F C T X=>?_;have I:=F;have c3:=Step.dropN _ _ F;refine id (aY (vs:= [(0,(.agg R))]) (cells:= [(iV ((b7).tag)),(iV ((b7).n)),(.string ((b7).s)),(.bool false)]) T37.und T35 F C (C.evp J) J J J J fun sy a w F C=>?_);obtain⟨Ct,F,Af,nm⟩:=F.give;exact As.qdone (s:=⟨O,G⟩) Af C F ⟨_,rfl,nm⟩
   ·refine As.Qx1 12 J fun a w O G Z V F C T X=>?_;obtain⟨_,C,sy,rfl,nm⟩:=T.g C 14 J;have F: Step w0 H L w O (a9::_):=As.opn (s:=⟨O,G⟩) [8] [15] [] [a9] J (As.con0s V J) F;obtain⟨to,Bx,v0,ud,vk,qu,wj⟩:=(RowG.of_lit Wd.len ([(Wd.mk ((b7).tag) ((b7).n) ((b7).s) false)]: List Wd) nm j3 J).2.2;refine id (aJ (news:=(gfl Wd.cells ([(Wd.mk ((b7).tag) ((b7).n) ((b7).s) false)]: List Wd))) (xs:=(gfl Wd.cells bs)) T37.und T35 J J F d0 C J J (aw Wd.len _) (fun b9=>⟨to,Bx,v0,ud,vk,(qu (fun Y=>b9 (by rw [Y];rfl))).1,F.blkH (qu (fun Y=>b9 (by rw [Y];rfl))).2,fun j u bg=>a8 Wd.len j4 wj bg⟩) (aT Wd.one' _) j0 J J fun Gp go a w dl F C=>?_);rw [<- aF] at dl;obtain⟨hp,i4,rfl⟩:=dl.slice;have b4:(bs.length+1)=(bs++([(Wd.mk ((b7).tag) ((b7).n) ((b7).s) false)]: List Wd)).length:=by have Y:=dl.1;rw [aw Wd.len] at Y;omega
    rw [show Value.slice hp (bs.length+1) i4=Value.slice hp (bs++([(Wd.mk ((b7).tag) ((b7).n) ((b7).s) false)]: List Wd)).length i4 from by rw [b4]] at C;rw [b4] at dl;exact As.qown (i:=15) (dst:=some 68) (s:=⟨O,G⟩) (E:= [go]) [8] [15] [] J J V (Le.refl _) C.dfr (As.has_at C) F As.con1 ⟨_,_,_,rfl,rfl,dl⟩
   ·obtain⟨ij,G⟩:=ba;have Aj: Le H ij:=X.le;dsimp only at a2 F;obtain⟨_,C,rfl⟩:=As.Dd C a2 0 J;obtain⟨_,C,rfl⟩:=As.Dd C a2 1 J;obtain⟨_,C,f0,ff,gn,hj,rfl,dk⟩:=As.Dd C a2 8 J;have hj: G 8=some [gn]:=hj;obtain⟨_,C,hp,i4,go,hk,rfl,dl⟩:=As.Dd C a2 15 J;have hk: G 15=some [go]:=hk;have F: Step w0 H L w ij (gn::go::(eO ki 35 R)::(eO kj 35 (wA b7))::a7::b1::mf):=by
     have Y:=F;unfold As.aents at Y;simp only [List.flatMap_cons,List.flatMap_nil,As.conE,show ji 8=none from rfl,show ji 15=none from rfl,hj,hk,Option.isSome_some,Option.getD_some,cond_true,cond_false,List.cons_append,List.nil_append,List.append_nil] at Y;exact Y
    refine any1 (i:=16) j1 J J (av C J J fun a C=>?_);refine any1 (i:=17) j1 J J (ac (f:=1) (o2:=1) T46 T37 J J J J C J J fun a C=>?_);refine any1 (i:=18) j1 J J (ak (cs':=(hA p f0 ((ws++([b7]: List Wd)).length) ff Ab bs.length cb)) T37 F (i:=5) J C J J J J J J fun a w F C=>?_);refine any1 (i:=19) j1 J J (av C J J fun a C=>?_);refine any1 (i:=20) j1 J J (ac (f:=2) (o2:=2) T46 T37 J J J J C J J fun a C=>?_);refine any1 (i:=21) j1 J J (ak (cs':=(hA p f0 ((ws++([b7]: List Wd)).length) ff hp ((bs++([(Wd.mk ((b7).tag) ((b7).n) ((b7).s) false)]: List Wd)).length) i4)) T37 F (i:=5) J C J J J J J J fun a w F C=>?_);refine any0 j1 ?_;refine ao (ret0 J C ?_);have F:=F.fd [3,0,3,0,3,0,2,2,3] J;exact⟨_,_,_,_,_,SR.var gs,by first | omega |(simp only [List.length_append,List.length_cons,List.length_nil];omega),by first | omega |(simp only [List.length_append,List.length_cons,List.length_nil];omega),⟨_,_,rfl,⟨_,_,_,_,_,_,rfl,dk,dl⟩,ia⟩,rfl,F⟩
   ·obtain⟨ij,G⟩:=ba;have Aj: Le H ij:=X.le;dsimp only at a2 F;obtain⟨_,cd,rfl⟩:=a2 0 _ _ J J J;have C:=C.add (cd _ J);obtain⟨_,cd,f0,ff,gn,hj,rfl,dk⟩:=a2 8 _ _ J J J;have C:=C.add (cd _ J);have hj: G 8=some [gn]:=hj;obtain⟨_,cd,hp,i4,go,hk,rfl,dl⟩:=a2 15 _ _ J J J;have C:=C.add (cd _ J);have hk: G 15=some [go]:=hk;have F: Step w0 H L w ij (gn::go::(eO ki 35 R)::(eO kj 35 (wA b7))::a7::b1::mf):=by
     have Y:=F;unfold As.aents at Y;simp only [List.flatMap_cons,List.flatMap_nil,As.conE,show ji 8=none from rfl,show ji 15=none from rfl,hj,hk,Option.isSome_some,Option.getD_some,cond_true,cond_false,List.cons_append,List.nil_append,List.append_nil] at Y;exact Y
    let d:=(hA p f0 ((ws++([b7]: List Wd)).length) ff Ab bs.length cb);let Q:=(hA p f0 ((ws++([b7]: List Wd)).length) ff hp ((bs++([(Wd.mk ((b7).tag) ((b7).n) ((b7).s) false)]: List Wd)).length) i4);refine any2 (i:=1) (i':=16) j1 J J J J ?_ ?_
    ·refine id (aj C J J fun a C=>?_);refine any1 (i:=16) j1 J J (av C J J fun a C=>?_);refine any1 (i:=17) j1 J J (ac (f:=1) (o2:=1) T46 T37 J J J J C J J fun a C=>?_);refine any1 (i:=18) j1 J J (ak (cs':=d) T37 F (i:=5) J C J J J J J J fun a w F C=>?_);refine any1 (i:=19) j1 J J (av C J J fun a C=>?_);refine any1 (i:=20) j1 J J (ac (f:=2) (o2:=2) T46 T37 J J J J C J J fun a C=>?_);refine any1 (i:=21) j1 J J (ak (cs':=Q) T37 F (i:=5) J C J J J J J J fun a w F C=>?_);refine any0 j1 ?_;refine ao (ret0 J C ?_);have F:=F.fd [3,0,3,0,3,0,2,2,3] J;exact⟨_,_,_,_,_,SR.var gs,by first | omega |(simp only [List.length_append,List.length_cons,List.length_nil];omega),by first | omega |(simp only [List.length_append,List.length_cons,List.length_nil];omega),⟨_,_,rfl,⟨_,_,_,_,_,_,rfl,dk,dl⟩,ia⟩,rfl,F⟩
    ·refine id (av C J J fun a C=>?_);refine any2 (i:=1) (i':=17) j1 J J J J ?_ ?_
     ·refine id (aj C J J fun a C=>?_);refine any1 (i:=17) j1 J J (ac (f:=1) (o2:=1) T46 T37 J J J J C J J fun a C=>?_);refine any1 (i:=18) j1 J J (ak (cs':=d) T37 F (i:=5) J C J J J J J J fun a w F C=>?_);refine any1 (i:=19) j1 J J (av C J J fun a C=>?_);refine any1 (i:=20) j1 J J (ac (f:=2) (o2:=2) T46 T37 J J J J C J J fun a C=>?_);refine any1 (i:=21) j1 J J (ak (cs':=Q) T37 F (i:=5) J C J J J J J J fun a w F C=>?_);refine any0 j1 ?_;refine ao (ret0 J C ?_);have F:=F.fd [3,0,3,0,3,0,2,2,3] J;exact⟨_,_,_,_,_,SR.var gs,by first | omega |(simp only [List.length_append,List.length_cons,List.length_nil];omega),by first | omega |(simp only [List.length_append,List.length_cons,List.length_nil];omega),⟨_,_,rfl,⟨_,_,_,_,_,_,rfl,dk,dl⟩,ia⟩,rfl,F⟩
     ·refine id (ac (f:=1) (o2:=1) T46 T37 J J J J C J J fun a C=>?_);refine any2 (i:=1) (i':=18) j1 J J J J ?_ ?_
      ·refine id (aj C J J fun a C=>?_);refine any1 (i:=18) j1 J J (ak (cs':=d) T37 F (i:=5) J C J J J J J J fun a w F C=>?_);refine any1 (i:=19) j1 J J (av C J J fun a C=>?_);refine any1 (i:=20) j1 J J (ac (f:=2) (o2:=2) T46 T37 J J J J C J J fun a C=>?_);refine any1 (i:=21) j1 J J (ak (cs':=Q) T37 F (i:=5) J C J J J J J J fun a w F C=>?_);refine any0 j1 ?_;refine ao (ret0 J C ?_);have F:=F.fd [3,0,3,0,3,0,2,2,3] J;exact⟨_,_,_,_,_,SR.var gs,by first | omega |(simp only [List.length_append,List.length_cons,List.length_nil];omega),by first | omega |(simp only [List.length_append,List.length_cons,List.length_nil];omega),⟨_,_,rfl,⟨_,_,_,_,_,_,rfl,dk,dl⟩,ia⟩,rfl,F⟩
      ·refine id (ak (cs':=d) T37 F (i:=5) J C J J J J J J fun a w F C=>?_);refine any1 (i:=1) j1 J J (aj C J J fun a C=>?_);refine any1 (i:=19) j1 J J (av C J J fun a C=>?_);refine any1 (i:=20) j1 J J (ac (f:=2) (o2:=2) T46 T37 J J J J C J J fun a C=>?_);refine any1 (i:=21) j1 J J (ak (cs':=Q) T37 F (i:=5) J C J J J J J J fun a w F C=>?_);refine any0 j1 ?_;refine ao (ret0 J C ?_);have F:=F.fd [3,0,3,0,3,0,2,2,3] J;exact⟨_,_,_,_,_,SR.var gs,by first | omega |(simp only [List.length_append,List.length_cons,List.length_nil];omega),by first | omega |(simp only [List.length_append,List.length_cons,List.length_nil];omega),⟨_,_,rfl,⟨_,_,_,_,_,_,rfl,dk,dl⟩,ia⟩,rfl,F⟩
  ·refine ah C J (wp_skip (ao (ret0 J C ?_)));have F:=F.fd [0,0] J;exact⟨_,_,_,_,_,SR.var0 gs,by first | omega |(simp only [List.length_append,List.length_cons,List.length_nil];omega),by first | omega |(simp only [List.length_append,List.length_cons,List.length_nil];omega),⟨_,_,rfl,⟨_,_,_,_,_,_,rfl,d8,d0⟩,ia⟩,rfl,F⟩
 ·refine ah C J (wp_seq (ab (lin J (bn (i:=kk) (j:=1) C J J J fun a C=>?_))));refine Ls J C fun a C=>?_;let kh:List (Nat×Value):=[(0,(pB q)),(3,(pB ct))];refine wpList_nil (aa (an (t:=73) C J (fun w5 C=>?_) (fun w5 C=>?_)))
  ·refine ap C J ?_;obtain⟨⟨da,jk⟩,o5⟩: ∃ bp,takeP ws x.a=bp:=⟨_,rfl⟩;have F7: jk.length<=ws.length:=by have Y:=bw ws x.a;rw [o5] at Y;first | exact Y | exact Nat.le_of_eq Y
   obtain⟨⟨db,m2⟩,o7⟩: ∃ bp,shareP jk x.b=bp:=⟨_,rfl⟩;have F9: m2.length<=jk.length:=by have Y:=shareP_len jk x.b;rw [o7] at Y;first | exact Y | exact Nat.le_of_eq Y
   obtain⟨⟨jc,⟨e5,e1⟩⟩,hi⟩: ∃ bp,h.fun_ fS [da,db]=bp:=⟨_,rfl⟩;have yd: HS.Ok jc:=by have Y:=HS.Ok.fun_ hdi.ok fS [da,db];rw [hi] at Y;exact Y
   have rc: HM q p ws bs h (b1::ay::a9::b2):=⟨[b1,ay,a9],b2,rfl,⟨_,_,_,_,_,_,rfl,d8,d0⟩,bj⟩
   let bh:=(As.il [(8,(b1::ay::a9::b2))])
   let bf:=(As.sl [(8,12),(12,14)])
   have F: Step w0 H L w H ((b1::ay::a9::b2)++ [a7]):=Step.perm (show Step w0 H L w H ([a7]++(b1::ay::a9::b2)) from F) (List.perm_append_comm (l₁:= [a7]) (l₂:=(b1::ay::a9::b2)));have bo:=F;refine As.c_draw_head (ini:=bh) (sup:=bf) (als:= [8,12,14]) (s0:=⟨H,fun _=>none⟩) (L:= [a7]) (N:=480) (E:= kh) 17 [FcV (pB q),FcV (pB q),FcV (pB q),FcV (pB q),FcV (pB p),FcV (pB q),FcV (.pointer (some ⟨ct,1,none⟩)),FcV (iV x.a),fun s v=> ∃ L',s.ax 8=some L'/\v=(.agg (wA da))/\HM q p jk bs h L',FcV (pB q),FcV (.pointer (some ⟨ct,2,none⟩)),FcV (iV x.b),fun s v=> ∃ L',s.ax 12=some L'/\v=(.agg (wA db))/\HM q p m2 bs h L'/\(s.ax 8).isSome=true,As.lf (fun H v=> ∃ b,v=.slice (some ⟨b,0,none⟩) 2 2/\H b=some (.cells #[(iV da.tag),(iV da.n),(.string da.s),(.bool da.one),(iV db.tag),(iV db.n),(.string db.s),(.bool db.one)] 35 (0,0))),fun s v=> ∃ L',s.ax 14=some L'/\v=(.tuple #[(.agg (wA e5)),(iV e1)])/\HM q p m2 bs jc L'/\(s.ax 8).isSome=true/\(s.ax 12).isSome=true,FcV (.agg (wA e5)),FcV (iV e1)] mixed j1 j1 j1 (by repeat' (first | exact As.Monos.nil | refine As.Monos.cons ?_ ?_ |(intro _ _ _ hl h;exact h) |(rintro _ _ _ hl ⟨A,c,h,hr⟩;exact⟨A,c,h,hr.mono hl.le⟩) |(rintro _ _ _ hl ⟨b,h,e3⟩;exact⟨b,h,hl.le _ _ e3⟩) | exact fun _ _ _ hl ⟨L',h,e,bj,ez,jh⟩=>⟨L',hl.get h,e,bj,hl.some ez,hl.some jh⟩ | exact fun _ _ _ hl ⟨L',h,e,bj,ez⟩=>⟨L',hl.get h,e,bj,hl.some ez⟩ | exact fun _ _ _ hl ⟨L',h,e,bj⟩=>⟨L',hl.get h,e,bj⟩)) (fun _=>rfl) (show Step w0 H L w H (((b1::ay::a9::b2)++([]++([]++ [])))++ [a7]) from by simpa only [List.nil_append,List.append_nil,List.cons_append,List.append_assoc] using F) (C.pk J) (As.QuietsI.c4 ?_ ?_ ?_ ?_ (As.QuietsI.c4 ?_ ?_ ?_ ?_ (As.QuietsI.c4 ?_ ?_ ?_ ?_ (As.QuietsI.c4 ?_ ?_ ?_ ?_ (As.QuietsI.cons ?_ (As.QuietsI.nil)))))) (fun bm a w ba X F C a2=>?_)
   ·refine As.Qx J fun a w O G Z V F C T X=>?_;have I:=F;exact aj C J J fun a C=>As.ql C I
   ·refine As.Qx J fun a w O G Z V F C T X=>?_;have I:=F;exact aj C J J fun a C=>As.ql C I
   ·refine As.Qx1 1 J fun a w O G Z V F C T X=>?_;have I:=F;exact av C J J fun a C=>As.ql C I
   ·refine As.Qx1 2 J fun a w O G Z V F C T X=>?_;have I:=F;exact ac (f:=0) (o2:=0) T46 T44 J J J J C J J fun a C=>As.ql C I
   ·refine As.Qx1 3 J fun a w O G Z V F C T X=>?_;have I:=F;have ob: ∃ cw,(∃ pi ms Y,HM q p pi ms Y cw)/\∀ dj ∈ cw,dj ∈ As.aents bh bf [8,12,14] G:=by
     cases hx14_: G 14 with
     | some cw =>
      obtain⟨_,hy,d4,_,d5, -⟩:=T.fact 14 _ hx14_ _ J _ J;obtain rfl:=Option.some.inj (hx14_.symm.trans d4);exact⟨_,⟨_,_,_,d5⟩,fun dj cg=>by
        unfold As.aents;simp only [List.flatMap_cons,List.flatMap_nil,As.conE,show bf 8=some 12 from rfl,show bf 12=some 14 from rfl,show bf 14=none from rfl,show bh 8=(b1::ay::a9::b2) from rfl,show bh 12= [] from rfl,show bh 14= [] from rfl,hx14_,Option.isSome_some,Option.isSome_none,Option.getD_some,Option.getD_none,cond_true,cond_false,List.append_nil,List.nil_append];simp [cg]⟩
     | none =>
      cases hx12_: G 12 with
      | some cw =>
       obtain⟨_,hy,d4,_,d5, -⟩:=T.fact 12 _ hx12_ _ J _ J;obtain rfl:=Option.some.inj (hx12_.symm.trans d4);exact⟨_,⟨_,_,_,d5⟩,fun dj cg=>by
         unfold As.aents;simp only [List.flatMap_cons,List.flatMap_nil,As.conE,show bf 8=some 12 from rfl,show bf 12=some 14 from rfl,show bf 14=none from rfl,show bh 8=(b1::ay::a9::b2) from rfl,show bh 12= [] from rfl,show bh 14= [] from rfl,hx14_,hx12_,Option.isSome_some,Option.isSome_none,Option.getD_some,Option.getD_none,cond_true,cond_false,List.append_nil,List.nil_append];simp [cg]⟩
      | none =>
       cases hx8_: G 8 with
       | some cw =>
        obtain⟨_,hy,d4,_,d5⟩:=T.fact 8 _ hx8_ _ J _ J;obtain rfl:=Option.some.inj (hx8_.symm.trans d4);exact⟨_,⟨_,_,_,d5⟩,fun dj cg=>by
          unfold As.aents;simp only [List.flatMap_cons,List.flatMap_nil,As.conE,show bf 8=some 12 from rfl,show bf 12=some 14 from rfl,show bf 14=none from rfl,show bh 8=(b1::ay::a9::b2) from rfl,show bh 12= [] from rfl,show bh 14= [] from rfl,hx14_,hx12_,hx8_,Option.isSome_some,Option.isSome_none,Option.getD_some,Option.getD_none,cond_true,cond_false,List.append_nil,List.nil_append];simp [cg]⟩
       | none =>
        exact⟨(b1::ay::a9::b2),⟨_,_,_,rc⟩,fun dj cg=>by
          unfold As.aents;simp only [List.flatMap_cons,List.flatMap_nil,As.conE,show bf 8=some 12 from rfl,show bf 12=some 14 from rfl,show bf 14=none from rfl,show bh 8=(b1::ay::a9::b2) from rfl,show bh 12= [] from rfl,show bh 14= [] from rfl,hx14_,hx12_,hx8_,Option.isSome_some,Option.isSome_none,Option.getD_some,Option.getD_none,cond_true,cond_false,List.append_nil,List.nil_append];simp [cg]⟩
    obtain⟨cw,⟨_,_,_,ne⟩,n4⟩:=ob;obtain⟨sn,Bn,u4,so,Bo,u5,oh⟩:=HM.blk ne;have og:=I.inv.own _ (List.mem_append_left _ (n4 _ oh)) q J;exact af (v:=(pB p)) T44 J C J og J J fun a C=>As.ql C I
   ·refine As.Qx J fun a w O G Z V F C T X=>?_;have I:=F;exact aj C J J fun a C=>As.ql C I
   ·refine As.Qx J fun a w O G Z V F C T X=>?_;have I:=F;exact ac (f:=1) (o2:=1) T32 T3 J J J J C J J fun a C=>As.ql C I
   ·refine As.Qx1 6 J fun a w O G Z V F C T X=>?_;have I:=F;have F:=Step.dropN _ _ F;exact af (v:=(iV x.a)) T3 J C J (F.blkL 0 J) J J fun a C=>As.ql C I
   ·refine As.Qx1 5 J fun a w O G Z V F C T X=>?_;obtain⟨_,C,rfl⟩:=T.g C 7 J;have jd: G 12=none:=T.late 3 12 j1;have je: G 14=none:=T.late 3 14 j1;have bi: As.aents bh bf [8,12,14] G=((b1::ay::a9::b2)):=by
     unfold As.aents;simp only [List.flatMap_cons,List.flatMap_nil,As.conE,show bf 8=some 12 from rfl,show bf 12=some 14 from rfl,show bf 14=none from rfl,show bh 8=(b1::ay::a9::b2) from rfl,show bh 12= [] from rfl,show bh 14= [] from rfl,V,jd,je,Option.isSome_some,Option.isSome_none,Option.getD_some,Option.getD_none,cond_true,cond_false,List.append_nil,List.nil_append]
    have F: Step w0 H L w O (((b1::ay::a9::b2))++_):=As.opn (s:=⟨O,G⟩) [] [8,12,14] [] ((b1::ay::a9::b2)) J bi F;have F:=Step.perm F (List.perm_append_comm (l₁:=(b1::ay::a9::b2)) (l₂:=_));have zq:=bS (F.tail (_)) rc j0 j0 o5;refine id (Co func14 C J (zq) ?_);rintro e w ⟨ga,rfl,xy,ys⟩;refine⟨_,rfl,fun a C=>?_⟩;have F:=F.frameR (_) ys;have F:=Step.perm F (List.perm_append_comm (l₁:=_) (l₂:=ga));have cf: As.aents bh bf [8,12,14] (As.upd G 8 (ga))=(ga):=by
     unfold As.aents;simp only [List.flatMap_cons,List.flatMap_nil,As.conE,show bf 8=some 12 from rfl,show bf 12=some 14 from rfl,show bf 14=none from rfl,show bh 8=(b1::ay::a9::b2) from rfl,show bh 12= [] from rfl,show bh 14= [] from rfl,As.upd_at,show As.upd G 8 (ga) 12=G 12 from rfl,show As.upd G 8 (ga) 14=G 14 from rfl,jd,je,Option.isSome_some,Option.isSome_none,Option.getD_some,Option.getD_none,cond_true,cond_false,List.append_nil,List.nil_append]
    exact As.qown (i:=8) (dst:=some 83) (s:=⟨O,G⟩) (E:=(ga)) [] [8,12,14] [] J J V (Le.refl _) C.dfr (As.has_at C) F (.inl cf) ⟨ga,rfl,rfl,xy⟩
   ·refine As.Qx J fun a w O G Z V F C T X=>?_;have I:=F;exact aj C J J fun a C=>As.ql C I
   ·refine As.Qx J fun a w O G Z V F C T X=>?_;have I:=F;exact ac (f:=2) (o2:=2) T32 T3 J J J J C J J fun a C=>As.ql C I
   ·refine As.Qx1 10 J fun a w O G Z V F C T X=>?_;have I:=F;have F:=Step.dropN _ _ F;exact af (v:=(iV x.b)) T3 J C J (F.blkL 0 J) J J fun a C=>As.ql C I
   ·refine As.Qx1 9 J fun a w O G Z V F C T X=>?_;obtain⟨_,C,rfl⟩:=T.g C 11 J;obtain⟨_,C,ee,dn,rfl,n7⟩:=T.g C 8 J;have dn: G 8=some ee:=dn;have je: G 14=none:=T.late 3 14 j1;have bi: As.aents bh bf [8,12,14] G=(ee):=by
     unfold As.aents;simp only [List.flatMap_cons,List.flatMap_nil,As.conE,show bf 8=some 12 from rfl,show bf 12=some 14 from rfl,show bf 14=none from rfl,show bh 8=(b1::ay::a9::b2) from rfl,show bh 12= [] from rfl,show bh 14= [] from rfl,V,je,dn,Option.isSome_some,Option.isSome_none,Option.getD_some,Option.getD_none,cond_true,cond_false,List.append_nil,List.nil_append]
    have F: Step w0 H L w O ((ee)++_):=As.opn (s:=⟨O,G⟩) [] [8,12,14] [] (ee) J bi F;have F:=Step.perm F (List.perm_append_comm (l₁:=ee) (l₂:=_));have zr:=c_mshared (F.tail (_)) n7 j0 j0 o7;refine id (Co func45 C J (zr) ?_);rintro e w ⟨gb,rfl,xz,yu⟩;refine⟨_,rfl,fun a C=>?_⟩;have F:=F.frameR (_) yu;have F:=Step.perm F (List.perm_append_comm (l₁:=_) (l₂:=gb));have cf: As.aents bh bf [8,12,14] (As.upd G 12 (gb))=(gb):=by
     unfold As.aents;simp only [List.flatMap_cons,List.flatMap_nil,As.conE,show bf 8=some 12 from rfl,show bf 12=some 14 from rfl,show bf 14=none from rfl,show bh 8=(b1::ay::a9::b2) from rfl,show bh 12= [] from rfl,show bh 14= [] from rfl,As.upd_at,show As.upd G 12 (gb) 8=G 8 from rfl,show As.upd G 12 (gb) 14=G 14 from rfl,je,dn,Option.isSome_some,Option.isSome_none,Option.getD_some,Option.getD_none,cond_true,cond_false,List.append_nil,List.nil_append]
    exact As.qown (i:=12) (dst:=some 87) (s:=⟨O,G⟩) (E:=(gb)) [] [8,12,14] [] J J V (Le.refl _) C.dfr (As.has_at C) F (.inl cf) ⟨gb,rfl,rfl,xz,(congrArg Option.isSome dn)⟩
   ·refine As.Qx J fun a w O G Z V F C T X=>?_;obtain⟨_,C,ee,dn,rfl,n7⟩:=T.g C 8 J;have dn: G 8=some ee:=dn;obtain⟨_,C,ef,dp,rfl,n8,ch⟩:=T.g C 12 J;have dp: G 12=some ef:=dp;have I:=F;have c3:=Step.dropN _ _ F;refine id (aY (vs:= [(0,(.agg (wA da))),(1,(.agg (wA db)))]) (cells:= [(iV da.tag),(iV da.n),(.string da.s),(.bool da.one),(iV db.tag),(iV db.n),(.string db.s),(.bool db.one)]) T37.und T35 F C (C.evp J) J J J J fun t9 a w F C=>?_);obtain⟨D4,F,Aq,nx⟩:=F.give;exact As.qdone (s:=⟨O,G⟩) Aq C F ⟨_,rfl,nx⟩
   ·refine As.Qx1 4 J fun a w O G Z V F C T X=>?_;obtain⟨_,C,t9,rfl,nx⟩:=T.g C 13 J;obtain⟨_,C,ef,dp,rfl,n8,ch⟩:=T.g C 12 J;have dp: G 12=some ef:=dp;have bi: As.aents bh bf [8,12,14] G=(ef):=by
     unfold As.aents;simp only [List.flatMap_cons,List.flatMap_nil,As.conE,show bf 8=some 12 from rfl,show bf 12=some 14 from rfl,show bf 14=none from rfl,show bh 8=(b1::ay::a9::b2) from rfl,show bh 12= [] from rfl,show bh 14= [] from rfl,V,dp,Option.isSome_some,Option.isSome_none,Option.getD_some,Option.getD_none,cond_true,cond_false,List.append_nil,List.nil_append]
    have F: Step w0 H L w O ((ef)++_):=As.opn (s:=⟨O,G⟩) [] [8,12,14] [] (ef) J bi F;have F:=Step.perm F (List.perm_append_comm (l₁:=ef) (l₂:=_));have zs:=c_mfun (F.tail (_)) n8 hdi.ok ((RdG.of_data F.inv (RowG.of_lit Wd.len ([da,db]: List Wd) nx j3 J)).fewer (bx (_))) hi;refine id (Co func23 C J (zs) ?_);rintro e w ⟨gc,rfl,y0,yv⟩;refine⟨_,rfl,fun a C=>?_⟩;have F:=F.frameR (_) yv;have F:=Step.perm F (List.perm_append_comm (l₁:=_) (l₂:=gc));have cf: As.aents bh bf [8,12,14] (As.upd G 14 (gc))=(gc):=by
     unfold As.aents;simp only [List.flatMap_cons,List.flatMap_nil,As.conE,show bf 8=some 12 from rfl,show bf 12=some 14 from rfl,show bf 14=none from rfl,show bh 8=(b1::ay::a9::b2) from rfl,show bh 12= [] from rfl,show bh 14= [] from rfl,As.upd_at,show As.upd G 14 (gc) 8=G 8 from rfl,show As.upd G 14 (gc) 12=G 12 from rfl,dp,Option.isSome_some,Option.isSome_none,Option.getD_some,Option.getD_none,cond_true,cond_false,List.append_nil,List.nil_append]
    exact As.qown (i:=14) (dst:=some 89) (s:=⟨O,G⟩) (E:=(gc)) [] [8,12,14] [] J J V (Le.refl _) C.dfr (As.has_at C) F (.inl cf) ⟨gc,rfl,rfl,y0,ch,(congrArg Option.isSome dp)⟩
   ·refine As.Qx J fun a w O G Z V F C T X=>?_;obtain⟨_,C,gf,ex,rfl,n9,ch,e4⟩:=T.g C 14 J;have ex: G 14=some gf:=ex;have I:=F;exact ad (v:=(.agg (wA e5))) C J J J fun a C=>As.ql C I
   ·refine As.Qx J fun a w O G Z V F C T X=>?_;obtain⟨_,C,gf,ex,rfl,n9,ch,e4⟩:=T.g C 14 J;have ex: G 14=some gf:=ex;have I:=F;exact ad (v:=(iV e1)) C J J J fun a C=>As.ql C I
   obtain⟨q2,G⟩:=ba;have G4: Le H q2:=X.le;dsimp only at a2 F;obtain⟨_,C,rfl⟩:=As.Dd C a2 0 J;obtain⟨_,C,ee,dn,rfl,n7⟩:=As.Dd C a2 8 J;have dn: G 8=some (ee):=dn;obtain⟨_,C,ef,dp,rfl,n8,ch⟩:=As.Dd C a2 12 J;have dp: G 12=some (ef):=dp;obtain⟨_,cd,gf,ex,rfl,n9,ch,e4⟩:=a2 14 _ _ J J;have ex: G 14=some (gf):=ex;obtain⟨_,C,rfl⟩:=As.Dd C a2 15 J;obtain⟨_,C,rfl⟩:=As.Dd C a2 16 J;have F: Step w0 H L w q2 (gf++ [a7]):=by
    have Y:=F;unfold As.aents at Y;simp only [List.flatMap_cons,List.flatMap_nil,As.conE,show bf 8=some 12 from rfl,show bf 12=some 14 from rfl,show bf 14=none from rfl,dn,dp,ex,List.append_assoc,Option.isSome_some,Option.getD_some,cond_true,cond_false,List.cons_append,List.nil_append,List.append_nil] at Y;exact Y
   have F:=Step.perm F (List.perm_append_comm (l₁:=gf) (l₂:= [a7]));have zt:=f6 (F.tail [a7]) n9 j0 j0 (x:=e5) (e0:=e1);refine any1 (i:=17) j1 J J (Co func44 C J (zt) ?_);rintro e w ⟨D7,Di,rfl,y2,yw⟩;refine⟨_,rfl,fun a C=>?_⟩;have F:=F.frameR [a7] yw;have Gc:=eM m2 e5 e1;obtain⟨_,Do,rfl,⟨Ci,Dw,Cf,Dt,E8,E0,rfl,ro,rj⟩,xe⟩:=y2;have Ex:=Row.cap ro;have El:=Row.cap rj;refine any0 j1 ?_;refine ao (ret0 J C ?_);have F:=F.drop;exact⟨_,_,_,_,_,(by have Y:=SR.fn (x:=x) (h:=h) (bs:=bs) o5 o7;rw [hi] at Y;exact Y),by first | omega |(simp only [List.length_append,List.length_cons,List.length_nil];omega),by first | omega |(simp only [List.length_append,List.length_cons,List.length_nil];omega),⟨_,_,rfl,⟨_,_,_,_,_,_,rfl,ro,rj⟩,xe⟩,rfl,F⟩
  ·refine ah C J (wp_seq (ab (lin J (bn (i:=kk) (j:=2) C J J J fun a C=>?_))));refine Ls J C fun a C=>?_;refine wpList_nil (aa (an (t:=93) C J (fun wx C=>?_) (fun wx C=>?_)))
   ·refine ap C J ?_;obtain⟨⟨dc,jl⟩,o8⟩: ∃ bp,takeP ws x.a=bp:=⟨_,rfl⟩;have Fb: jl.length<=ws.length:=by have Y:=bw ws x.a;rw [o8] at Y;first | exact Y | exact Nat.le_of_eq Y
    obtain⟨⟨df,jm⟩,o9⟩: ∃ bp,takeP jl x.b=bp:=⟨_,rfl⟩;have Fc: jm.length<=jl.length:=by have Y:=bw jl x.b;rw [o9] at Y;first | exact Y | exact Nat.le_of_eq Y
    obtain⟨⟨dg,m3⟩,oa⟩: ∃ bp,takeP jm x.c=bp:=⟨_,rfl⟩;have Fd: m3.length<=jm.length:=by have Y:=bw jm x.c;rw [oa] at Y;first | exact Y | exact Nat.le_of_eq Y
    obtain⟨⟨jc,⟨e5,e1⟩⟩,hi⟩: ∃ bp,h.vec [dc,df,dg]=bp:=⟨_,rfl⟩;have yd: HS.Ok jc:=by have Y:=HS.Ok.vec hdi.ok [dc,df,dg];rw [hi] at Y;exact Y
    have rd: HM q p ws bs h (b1::ay::a9::b2):=⟨[b1,ay,a9],b2,rfl,⟨_,_,_,_,_,_,rfl,d8,d0⟩,bj⟩
    let b8:=(As.il [(8,(b1::ay::a9::b2))])
    let b5:=(As.sl [(8,12),(12,16),(16,18)])
    have F: Step w0 H L w H ((b1::ay::a9::b2)++ [a7]):=Step.perm (show Step w0 H L w H ([a7]++(b1::ay::a9::b2)) from F) (List.perm_append_comm (l₁:= [a7]) (l₂:=(b1::ay::a9::b2)));have bo:=F;refine As.c_draw_head (ini:=b8) (sup:=b5) (als:= [8,12,16,18]) (s0:=⟨H,fun _=>none⟩) (L:= [a7]) (N:=480) (E:= kh) 21 [FcV (pB q),FcV (pB q),FcV (pB q),FcV (pB q),FcV (pB p),FcV (pB q),FcV (.pointer (some ⟨ct,1,none⟩)),FcV (iV x.a),fun s v=> ∃ L',s.ax 8=some L'/\v=(.agg (wA dc))/\HM q p jl bs h L',FcV (pB q),FcV (.pointer (some ⟨ct,2,none⟩)),FcV (iV x.b),fun s v=> ∃ L',s.ax 12=some L'/\v=(.agg (wA df))/\HM q p jm bs h L'/\(s.ax 8).isSome=true,FcV (pB q),FcV (.pointer (some ⟨ct,3,none⟩)),FcV (iV x.c),fun s v=> ∃ L',s.ax 16=some L'/\v=(.agg (wA dg))/\HM q p m3 bs h L'/\(s.ax 8).isSome=true/\(s.ax 12).isSome=true,As.lf (fun H v=> ∃ b,v=.slice (some ⟨b,0,none⟩) 3 3/\H b=some (.cells #[(iV dc.tag),(iV dc.n),(.string dc.s),(.bool dc.one),(iV df.tag),(iV df.n),(.string df.s),(.bool df.one),(iV dg.tag),(iV dg.n),(.string dg.s),(.bool dg.one)] 35 (0,0))),fun s v=> ∃ L',s.ax 18=some L'/\v=(.tuple #[(.agg (wA e5)),(iV e1)])/\HM q p m3 bs jc L'/\(s.ax 8).isSome=true/\(s.ax 12).isSome=true/\(s.ax 16).isSome=true,FcV (.agg (wA e5)),FcV (iV e1)] mixed j1 j1 j1 (by repeat' (first | exact As.Monos.nil | refine As.Monos.cons ?_ ?_ |(intro _ _ _ hl h;exact h) |(rintro _ _ _ hl ⟨A,c,h,hr⟩;exact⟨A,c,h,hr.mono hl.le⟩) |(rintro _ _ _ hl ⟨b,h,e3⟩;exact⟨b,h,hl.le _ _ e3⟩) | exact fun _ _ _ hl ⟨L',h,e,bj,ez,jh,Ca⟩=>⟨L',hl.get h,e,bj,hl.some ez,hl.some jh,hl.some Ca⟩ | exact fun _ _ _ hl ⟨L',h,e,bj,ez,jh⟩=>⟨L',hl.get h,e,bj,hl.some ez,hl.some jh⟩ | exact fun _ _ _ hl ⟨L',h,e,bj,ez⟩=>⟨L',hl.get h,e,bj,hl.some ez⟩ | exact fun _ _ _ hl ⟨L',h,e,bj⟩=>⟨L',hl.get h,e,bj⟩)) (fun _=>rfl) (show Step w0 H L w H (((b1::ay::a9::b2)++([]++([]++([]++ []))))++ [a7]) from by simpa only [List.nil_append,List.append_nil,List.cons_append,List.append_assoc] using F) (C.pk J) (As.QuietsI.c4 ?_ ?_ ?_ ?_ (As.QuietsI.c4 ?_ ?_ ?_ ?_ (As.QuietsI.c4 ?_ ?_ ?_ ?_ (As.QuietsI.c4 ?_ ?_ ?_ ?_ (As.QuietsI.c4 ?_ ?_ ?_ ?_ (As.QuietsI.cons ?_ (As.QuietsI.nil))))))) (fun bm a w ba X F C a2=>?_)
    ·refine As.Qx J fun a w O G Z V F C T X=>?_;have I:=F;exact aj C J J fun a C=>As.ql C I
    ·refine As.Qx J fun a w O G Z V F C T X=>?_;have I:=F;exact aj C J J fun a C=>As.ql C I
    ·refine As.Qx1 1 J fun a w O G Z V F C T X=>?_;have I:=F;exact av C J J fun a C=>As.ql C I
    ·refine As.Qx1 2 J fun a w O G Z V F C T X=>?_;have I:=F;exact ac (f:=0) (o2:=0) T46 T44 J J J J C J J fun a C=>As.ql C I
    ·refine As.Qx1 3 J fun a w O G Z V F C T X=>?_;have I:=F;have ob: ∃ cw,(∃ pi ms Y,HM q p pi ms Y cw)/\∀ dj ∈ cw,dj ∈ As.aents b8 b5 [8,12,16,18] G:=by
      cases hx18_: G 18 with
      | some cw =>
       obtain⟨_,hy,d4,_,d5, -⟩:=T.fact 18 _ hx18_ _ J _ J;obtain rfl:=Option.some.inj (hx18_.symm.trans d4);exact⟨_,⟨_,_,_,d5⟩,fun dj cg=>by
         unfold As.aents;simp only [List.flatMap_cons,List.flatMap_nil,As.conE,show b5 8=some 12 from rfl,show b5 12=some 16 from rfl,show b5 16=some 18 from rfl,show b5 18=none from rfl,show b8 8=(b1::ay::a9::b2) from rfl,show b8 12= [] from rfl,show b8 16= [] from rfl,show b8 18= [] from rfl,hx18_,Option.isSome_some,Option.isSome_none,Option.getD_some,Option.getD_none,cond_true,cond_false,List.append_nil,List.nil_append];simp [cg]⟩
      | none =>
       cases hx16_: G 16 with
       | some cw =>
        obtain⟨_,hy,d4,_,d5, -⟩:=T.fact 16 _ hx16_ _ J _ J;obtain rfl:=Option.some.inj (hx16_.symm.trans d4);exact⟨_,⟨_,_,_,d5⟩,fun dj cg=>by
          unfold As.aents;simp only [List.flatMap_cons,List.flatMap_nil,As.conE,show b5 8=some 12 from rfl,show b5 12=some 16 from rfl,show b5 16=some 18 from rfl,show b5 18=none from rfl,show b8 8=(b1::ay::a9::b2) from rfl,show b8 12= [] from rfl,show b8 16= [] from rfl,show b8 18= [] from rfl,hx18_,hx16_,Option.isSome_some,Option.isSome_none,Option.getD_some,Option.getD_none,cond_true,cond_false,List.append_nil,List.nil_append];simp [cg]⟩
       | none =>
        cases hx12_: G 12 with
        | some cw =>
         obtain⟨_,hy,d4,_,d5, -⟩:=T.fact 12 _ hx12_ _ J _ J;obtain rfl:=Option.some.inj (hx12_.symm.trans d4);exact⟨_,⟨_,_,_,d5⟩,fun dj cg=>by
           unfold As.aents;simp only [List.flatMap_cons,List.flatMap_nil,As.conE,show b5 8=some 12 from rfl,show b5 12=some 16 from rfl,show b5 16=some 18 from rfl,show b5 18=none from rfl,show b8 8=(b1::ay::a9::b2) from rfl,show b8 12= [] from rfl,show b8 16= [] from rfl,show b8 18= [] from rfl,hx18_,hx16_,hx12_,Option.isSome_some,Option.isSome_none,Option.getD_some,Option.getD_none,cond_true,cond_false,List.append_nil,List.nil_append];simp [cg]⟩
        | none =>
         cases hx8_: G 8 with
         | some cw =>
          obtain⟨_,hy,d4,_,d5⟩:=T.fact 8 _ hx8_ _ J _ J;obtain rfl:=Option.some.inj (hx8_.symm.trans d4);exact⟨_,⟨_,_,_,d5⟩,fun dj cg=>by
            unfold As.aents;simp only [List.flatMap_cons,List.flatMap_nil,As.conE,show b5 8=some 12 from rfl,show b5 12=some 16 from rfl,show b5 16=some 18 from rfl,show b5 18=none from rfl,show b8 8=(b1::ay::a9::b2) from rfl,show b8 12= [] from rfl,show b8 16= [] from rfl,show b8 18= [] from rfl,hx18_,hx16_,hx12_,hx8_,Option.isSome_some,Option.isSome_none,Option.getD_some,Option.getD_none,cond_true,cond_false,List.append_nil,List.nil_append];simp [cg]⟩
         | none =>
          exact⟨(b1::ay::a9::b2),⟨_,_,_,rd⟩,fun dj cg=>by
            unfold As.aents;simp only [List.flatMap_cons,List.flatMap_nil,As.conE,show b5 8=some 12 from rfl,show b5 12=some 16 from rfl,show b5 16=some 18 from rfl,show b5 18=none from rfl,show b8 8=(b1::ay::a9::b2) from rfl,show b8 12= [] from rfl,show b8 16= [] from rfl,show b8 18= [] from rfl,hx18_,hx16_,hx12_,hx8_,Option.isSome_some,Option.isSome_none,Option.getD_some,Option.getD_none,cond_true,cond_false,List.append_nil,List.nil_append];simp [cg]⟩
     obtain⟨cw,⟨_,_,_,ne⟩,n4⟩:=ob;obtain⟨sn,Bn,u4,so,Bo,u5,oh⟩:=HM.blk ne;have og:=I.inv.own _ (List.mem_append_left _ (n4 _ oh)) q J;exact af (v:=(pB p)) T44 J C J og J J fun a C=>As.ql C I
    ·refine As.Qx J fun a w O G Z V F C T X=>?_;have I:=F;exact aj C J J fun a C=>As.ql C I
    ·refine As.Qx J fun a w O G Z V F C T X=>?_;have I:=F;exact ac (f:=1) (o2:=1) T32 T3 J J J J C J J fun a C=>As.ql C I
    ·refine As.Qx1 6 J fun a w O G Z V F C T X=>?_;have I:=F;have F:=Step.dropN _ _ F;exact af (v:=(iV x.a)) T3 J C J (F.blkL 0 J) J J fun a C=>As.ql C I
    ·refine As.Qx1 5 J fun a w O G Z V F C T X=>?_;obtain⟨_,C,rfl⟩:=T.g C 7 J;have jd: G 12=none:=T.late 4 12 j1;have jf: G 16=none:=T.late 4 16 j1;have fv: G 18=none:=T.late 4 18 j1;have bi: As.aents b8 b5 [8,12,16,18] G=((b1::ay::a9::b2)):=by
      unfold As.aents;simp only [List.flatMap_cons,List.flatMap_nil,As.conE,show b5 8=some 12 from rfl,show b5 12=some 16 from rfl,show b5 16=some 18 from rfl,show b5 18=none from rfl,show b8 8=(b1::ay::a9::b2) from rfl,show b8 12= [] from rfl,show b8 16= [] from rfl,show b8 18= [] from rfl,V,jd,jf,fv,Option.isSome_some,Option.isSome_none,Option.getD_some,Option.getD_none,cond_true,cond_false,List.append_nil,List.nil_append]
     have F: Step w0 H L w O (((b1::ay::a9::b2))++_):=As.opn (s:=⟨O,G⟩) [] [8,12,16,18] [] ((b1::ay::a9::b2)) J bi F;have F:=Step.perm F (List.perm_append_comm (l₁:=(b1::ay::a9::b2)) (l₂:=_));have zu:=bS (F.tail (_)) rd j0 j0 o8;refine id (Co func14 C J (zu) ?_);rintro e w ⟨f8,rfl,y3,yx⟩;refine⟨_,rfl,fun a C=>?_⟩;have F:=F.frameR (_) yx;have F:=Step.perm F (List.perm_append_comm (l₁:=_) (l₂:=f8));have cf: As.aents b8 b5 [8,12,16,18] (As.upd G 8 (f8))=(f8):=by
      unfold As.aents;simp only [List.flatMap_cons,List.flatMap_nil,As.conE,show b5 8=some 12 from rfl,show b5 12=some 16 from rfl,show b5 16=some 18 from rfl,show b5 18=none from rfl,show b8 8=(b1::ay::a9::b2) from rfl,show b8 12= [] from rfl,show b8 16= [] from rfl,show b8 18= [] from rfl,As.upd_at,show As.upd G 8 (f8) 12=G 12 from rfl,show As.upd G 8 (f8) 16=G 16 from rfl,show As.upd G 8 (f8) 18=G 18 from rfl,jd,jf,fv,Option.isSome_some,Option.isSome_none,Option.getD_some,Option.getD_none,cond_true,cond_false,List.append_nil,List.nil_append]
     exact As.qown (i:=8) (dst:=some 103) (s:=⟨O,G⟩) (E:=(f8)) [] [8,12,16,18] [] J J V (Le.refl _) C.dfr (As.has_at C) F (.inl cf) ⟨f8,rfl,rfl,y3⟩
    ·refine As.Qx J fun a w O G Z V F C T X=>?_;have I:=F;exact aj C J J fun a C=>As.ql C I
    ·refine As.Qx J fun a w O G Z V F C T X=>?_;have I:=F;exact ac (f:=2) (o2:=2) T32 T3 J J J J C J J fun a C=>As.ql C I
    ·refine As.Qx1 10 J fun a w O G Z V F C T X=>?_;have I:=F;have F:=Step.dropN _ _ F;exact af (v:=(iV x.b)) T3 J C J (F.blkL 0 J) J J fun a C=>As.ql C I
    ·refine As.Qx1 9 J fun a w O G Z V F C T X=>?_;obtain⟨_,C,rfl⟩:=T.g C 11 J;obtain⟨_,C,eg,dq,rfl,na⟩:=T.g C 8 J;have dq: G 8=some eg:=dq;have jf: G 16=none:=T.late 4 16 j1;have fv: G 18=none:=T.late 4 18 j1;have bi: As.aents b8 b5 [8,12,16,18] G=(eg):=by
      unfold As.aents;simp only [List.flatMap_cons,List.flatMap_nil,As.conE,show b5 8=some 12 from rfl,show b5 12=some 16 from rfl,show b5 16=some 18 from rfl,show b5 18=none from rfl,show b8 8=(b1::ay::a9::b2) from rfl,show b8 12= [] from rfl,show b8 16= [] from rfl,show b8 18= [] from rfl,V,jf,fv,dq,Option.isSome_some,Option.isSome_none,Option.getD_some,Option.getD_none,cond_true,cond_false,List.append_nil,List.nil_append]
     have F: Step w0 H L w O ((eg)++_):=As.opn (s:=⟨O,G⟩) [] [8,12,16,18] [] (eg) J bi F;have F:=Step.perm F (List.perm_append_comm (l₁:=eg) (l₂:=_));have zv:=bS (F.tail (_)) na j0 j0 o9;refine id (Co func14 C J (zv) ?_);rintro e w ⟨f9,rfl,y4,yy⟩;refine⟨_,rfl,fun a C=>?_⟩;have F:=F.frameR (_) yy;have F:=Step.perm F (List.perm_append_comm (l₁:=_) (l₂:=f9));have cf: As.aents b8 b5 [8,12,16,18] (As.upd G 12 (f9))=(f9):=by
      unfold As.aents;simp only [List.flatMap_cons,List.flatMap_nil,As.conE,show b5 8=some 12 from rfl,show b5 12=some 16 from rfl,show b5 16=some 18 from rfl,show b5 18=none from rfl,show b8 8=(b1::ay::a9::b2) from rfl,show b8 12= [] from rfl,show b8 16= [] from rfl,show b8 18= [] from rfl,As.upd_at,show As.upd G 12 (f9) 8=G 8 from rfl,show As.upd G 12 (f9) 16=G 16 from rfl,show As.upd G 12 (f9) 18=G 18 from rfl,jf,fv,dq,Option.isSome_some,Option.isSome_none,Option.getD_some,Option.getD_none,cond_true,cond_false,List.append_nil,List.nil_append]
     exact As.qown (i:=12) (dst:=some 107) (s:=⟨O,G⟩) (E:=(f9)) [] [8,12,16,18] [] J J V (Le.refl _) C.dfr (As.has_at C) F (.inl cf) ⟨f9,rfl,rfl,y4,(congrArg Option.isSome dq)⟩
    ·refine As.Qx J fun a w O G Z V F C T X=>?_;have I:=F;exact aj C J J fun a C=>As.ql C I
    ·refine As.Qx J fun a w O G Z V F C T X=>?_;have I:=F;exact ac (f:=3) (o2:=3) T32 T3 J J J J C J J fun a C=>As.ql C I
    ·refine As.Qx1 14 J fun a w O G Z V F C T X=>?_;have I:=F;have F:=Step.dropN _ _ F;exact af (v:=(iV x.c)) T3 J C J (F.blkL 0 J) J J fun a C=>As.ql C I
    ·refine As.Qx1 13 J fun a w O G Z V F C T X=>?_;obtain⟨_,C,rfl⟩:=T.g C 15 J;obtain⟨_,C,eh,dr,rfl,nb,ch⟩:=T.g C 12 J;have dr: G 12=some eh:=dr;have fv: G 18=none:=T.late 4 18 j1;have bi: As.aents b8 b5 [8,12,16,18] G=(eh):=by
      unfold As.aents;simp only [List.flatMap_cons,List.flatMap_nil,As.conE,show b5 8=some 12 from rfl,show b5 12=some 16 from rfl,show b5 16=some 18 from rfl,show b5 18=none from rfl,show b8 8=(b1::ay::a9::b2) from rfl,show b8 12= [] from rfl,show b8 16= [] from rfl,show b8 18= [] from rfl,V,fv,dr,Option.isSome_some,Option.isSome_none,Option.getD_some,Option.getD_none,cond_true,cond_false,List.append_nil,List.nil_append]
     have F: Step w0 H L w O ((eh)++_):=As.opn (s:=⟨O,G⟩) [] [8,12,16,18] [] (eh) J bi F;have F:=Step.perm F (List.perm_append_comm (l₁:=eh) (l₂:=_));have zw:=bS (F.tail (_)) nb j0 j0 oa;refine id (Co func14 C J (zw) ?_);rintro e w ⟨fa,rfl,y5,yz⟩;refine⟨_,rfl,fun a C=>?_⟩;have F:=F.frameR (_) yz;have F:=Step.perm F (List.perm_append_comm (l₁:=_) (l₂:=fa));have cf: As.aents b8 b5 [8,12,16,18] (As.upd G 16 (fa))=(fa):=by
      unfold As.aents;simp only [List.flatMap_cons,List.flatMap_nil,As.conE,show b5 8=some 12 from rfl,show b5 12=some 16 from rfl,show b5 16=some 18 from rfl,show b5 18=none from rfl,show b8 8=(b1::ay::a9::b2) from rfl,show b8 12= [] from rfl,show b8 16= [] from rfl,show b8 18= [] from rfl,As.upd_at,show As.upd G 16 (fa) 8=G 8 from rfl,show As.upd G 16 (fa) 12=G 12 from rfl,show As.upd G 16 (fa) 18=G 18 from rfl,fv,dr,Option.isSome_some,Option.isSome_none,Option.getD_some,Option.getD_none,cond_true,cond_false,List.append_nil,List.nil_append]
     exact As.qown (i:=16) (dst:=some 111) (s:=⟨O,G⟩) (E:=(fa)) [] [8,12,16,18] [] J J V (Le.refl _) C.dfr (As.has_at C) F (.inl cf) ⟨fa,rfl,rfl,y5,ch,(congrArg Option.isSome dr)⟩
    ·refine As.Qx J fun a w O G Z V F C T X=>?_;obtain⟨_,C,eg,dq,rfl,na⟩:=T.g C 8 J;have dq: G 8=some eg:=dq;obtain⟨_,C,eh,dr,rfl,nb,ch⟩:=T.g C 12 J;have dr: G 12=some eh:=dr;obtain⟨_,C,ej,ds,rfl,nc,ch,e4⟩:=T.g C 16 J;have ds: G 16=some ej:=ds;have I:=F;have c3:=Step.dropN _ _ F;refine id (aY (vs:= [(0,(.agg (wA dc))),(1,(.agg (wA df))),(2,(.agg (wA dg)))]) (cells:= [(iV dc.tag),(iV dc.n),(.string dc.s),(.bool dc.one),(iV df.tag),(iV df.n),(.string df.s),(.bool df.one),(iV dg.tag),(iV dg.n),(.string dg.s),(.bool dg.one)]) T37.und T35 F C (C.evp J) J J J J fun tc a w F C=>?_);obtain⟨D8,F,Au,o0⟩:=F.give;exact As.qdone (s:=⟨O,G⟩) Au C F ⟨_,rfl,o0⟩
    ·refine As.Qx1 4 J fun a w O G Z V F C T X=>?_;obtain⟨_,C,tc,rfl,o0⟩:=T.g C 17 J;obtain⟨_,C,ej,ds,rfl,nc,ch,e4⟩:=T.g C 16 J;have ds: G 16=some ej:=ds;have bi: As.aents b8 b5 [8,12,16,18] G=(ej):=by
      unfold As.aents;simp only [List.flatMap_cons,List.flatMap_nil,As.conE,show b5 8=some 12 from rfl,show b5 12=some 16 from rfl,show b5 16=some 18 from rfl,show b5 18=none from rfl,show b8 8=(b1::ay::a9::b2) from rfl,show b8 12= [] from rfl,show b8 16= [] from rfl,show b8 18= [] from rfl,V,ds,e4,Option.isSome_some,Option.isSome_none,Option.getD_some,Option.getD_none,cond_true,cond_false,List.append_nil,List.nil_append]
     have F: Step w0 H L w O ((ej)++_):=As.opn (s:=⟨O,G⟩) [] [8,12,16,18] [] (ej) J bi F;have F:=Step.perm F (List.perm_append_comm (l₁:=ej) (l₂:=_));have zx:=c_mvec (F.tail (_)) nc hdi.ok ((RdG.of_data F.inv (RowG.of_lit Wd.len ([dc,df,dg]: List Wd) o0 j3 J)).fewer (bx (_))) hi;refine id (Co func25 C J (zx) ?_);rintro e w ⟨fb,rfl,y6,z0⟩;refine⟨_,rfl,fun a C=>?_⟩;have F:=F.frameR (_) z0;have F:=Step.perm F (List.perm_append_comm (l₁:=_) (l₂:=fb));have cf: As.aents b8 b5 [8,12,16,18] (As.upd G 18 (fb))=(fb):=by
      unfold As.aents;simp only [List.flatMap_cons,List.flatMap_nil,As.conE,show b5 8=some 12 from rfl,show b5 12=some 16 from rfl,show b5 16=some 18 from rfl,show b5 18=none from rfl,show b8 8=(b1::ay::a9::b2) from rfl,show b8 12= [] from rfl,show b8 16= [] from rfl,show b8 18= [] from rfl,As.upd_at,show As.upd G 18 (fb) 8=G 8 from rfl,show As.upd G 18 (fb) 12=G 12 from rfl,show As.upd G 18 (fb) 16=G 16 from rfl,ds,e4,Option.isSome_some,Option.isSome_none,Option.getD_some,Option.getD_none,cond_true,cond_false,List.append_nil,List.nil_append]
     exact As.qown (i:=18) (dst:=some 113) (s:=⟨O,G⟩) (E:=(fb)) [] [8,12,16,18] [] J J V (Le.refl _) C.dfr (As.has_at C) F (.inl cf) ⟨fb,rfl,rfl,y6,ch,e4,(congrArg Option.isSome ds)⟩
    ·refine As.Qx J fun a w O G Z V F C T X=>?_;obtain⟨_,C,gg,ey,rfl,nd,ch,e4,rz⟩:=T.g C 18 J;have ey: G 18=some gg:=ey;have I:=F;exact ad (v:=(.agg (wA e5))) C J J J fun a C=>As.ql C I
    ·refine As.Qx J fun a w O G Z V F C T X=>?_;obtain⟨_,C,gg,ey,rfl,nd,ch,e4,rz⟩:=T.g C 18 J;have ey: G 18=some gg:=ey;have I:=F;exact ad (v:=(iV e1)) C J J J fun a C=>As.ql C I
    obtain⟨q3,G⟩:=ba;have G5: Le H q3:=X.le;dsimp only at a2 F;obtain⟨_,C,rfl⟩:=As.Dd C a2 0 J;obtain⟨_,C,eg,dq,rfl,na⟩:=As.Dd C a2 8 J;have dq: G 8=some (eg):=dq;obtain⟨_,C,eh,dr,rfl,nb,ch⟩:=As.Dd C a2 12 J;have dr: G 12=some (eh):=dr;obtain⟨_,C,ej,ds,rfl,nc,ch,e4⟩:=As.Dd C a2 16 J;have ds: G 16=some (ej):=ds;obtain⟨_,cd,gg,ey,rfl,nd,ch,e4,rz⟩:=a2 18 _ _ J J;have ey: G 18=some (gg):=ey;obtain⟨_,C,rfl⟩:=As.Dd C a2 19 J;obtain⟨_,C,rfl⟩:=As.Dd C a2 20 J;have F: Step w0 H L w q3 (gg++ [a7]):=by
     have Y:=F;unfold As.aents at Y;simp only [List.flatMap_cons,List.flatMap_nil,As.conE,show b5 8=some 12 from rfl,show b5 12=some 16 from rfl,show b5 16=some 18 from rfl,show b5 18=none from rfl,dq,dr,ds,ey,List.append_assoc,Option.isSome_some,Option.getD_some,cond_true,cond_false,List.cons_append,List.nil_append,List.append_nil] at Y;exact Y
    have F:=Step.perm F (List.perm_append_comm (l₁:=gg) (l₂:= [a7]));have zy:=f6 (F.tail [a7]) nd j0 j0 (x:=e5) (e0:=e1);refine any1 (i:=21) j1 J J (Co func44 C J (zy) ?_);rintro e w ⟨D9,Dj,rfl,y7,z1⟩;refine⟨_,rfl,fun a C=>?_⟩;have F:=F.frameR [a7] z1;have Gd:=eM m3 e5 e1;obtain⟨_,Dp,rfl,⟨Cj,Dx,Cg,Du,E9,E1,rfl,rp,rk⟩,xf⟩:=y7;have Ey:=Row.cap rp;have Em:=Row.cap rk;refine any0 j1 ?_;refine ao (ret0 J C ?_);have F:=F.drop;exact⟨_,_,_,_,_,(by have Y:=SR.vec (x:=x) (h:=h) (bs:=bs) o8 o9 oa;rw [hi] at Y;exact Y),by first | omega |(simp only [List.length_append,List.length_cons,List.length_nil];omega),by first | omega |(simp only [List.length_append,List.length_cons,List.length_nil];omega),⟨_,_,rfl,⟨_,_,_,_,_,_,rfl,rp,rk⟩,xf⟩,rfl,F⟩
   ·refine ah C J (wp_seq (ab (lin J (bn (i:=kk) (j:=3) C J J J fun a C=>?_))));refine Ls J C fun a C=>?_;refine wpList_nil (aa (an (t:=117) C J (fun r8 C=>?_) (fun r8 C=>?_)))
    ·refine ap C J (wp_seq (ab (Lm J C fun a C=>?_)));refine lin J (av C J J fun a C=>?_);refine lin J (ac (f:=2) (o2:=2) T46 T37 J J J J C J J fun a C=>?_);refine lin J (af (v:=(.slice Ab bs.length cb)) T37 J C J (F.blkL 1 J) J J fun a C=>?_);refine lin J (aI T37.und C J J fun a C=>?_);refine lin J (cT (i:=((bs.length: Nat): Int)) (j:=0) C J J J fun a C=>?_);refine wpList_nil (aa (an (t:=124) C J (fun wz C=>?_) (fun wz C=>?_)))
     ·refine ap C J (wp_seq ?_);obtain⟨a3,oc,zc⟩:=cI (k:=x.a) (n:=(bs.length: Int)) (m:=bs.length) J j0;have Ga:= @List.length_eraseIdx_le _ bs a3;have bo:=F;refine b0 bI [FcV (.pointer (some ⟨ct,1,none⟩)),FcV (iV x.a),FcV (pB q),FcV (pB q),FcV (.pointer (some ⟨q,2,none⟩)),FcV (.slice Ab bs.length cb),FcV (iV ((bs.length: Nat): Int)),FcV (iV ((a3: Nat): Int)),FcV (iV ((a3: Nat): Int))] (N:=480) (E:= kh) mixed j1 j8 F (C.pk J) (.c4 ?_ ?_ ?_ ?_ (.c4 ?_ ?_ ?_ ?_ (.cons ?_ (.nil)))) (fun a w Da Av F C a2=>?_)
      ·refine Qz J fun a w F C T=>?_;exact ac (f:=1) (o2:=1) T32 T3 J J J J C J J fun a C=>qe C F
      ·refine Qz1 0 J fun a w F C T=>?_;exact af (v:=(iV x.a)) T3 J C J (F.blkL 0 J) J J fun a C=>qe C F
      ·refine Qz J fun a w F C T=>?_;exact aj C J J fun a C=>qe C F
      ·refine Qz1 2 J fun a w F C T=>?_;exact av C J J fun a C=>qe C F
      ·refine Qz1 3 J fun a w F C T=>?_;exact ac (f:=2) (o2:=2) T46 T37 J J J J C J J fun a C=>qe C F
      ·refine Qz1 4 J fun a w F C T=>?_;exact af (v:=(.slice Ab bs.length cb)) T37 J C J (F.blkL 1 J) J J fun a C=>qe C F
      ·refine Qz1 5 J fun a w F C T=>?_;exact aI T37.und C J J fun a C=>qe C F
      ·refine Qz1 1 J fun a w F C T=>?_;obtain⟨_,C,rfl⟩:=T.g C 6 J;have ru:=dI (k:=x.a) (n:=((bs.length: Nat): Int)) F.inv.nil j0;rw [oc] at ru;exact Cs func43 C J (ru) F fun a w C F=>qe C F
      ·refine Qz1 7 J fun a w F C T=>?_;exact aH C J J fun a C=>qe C F
      subst Av;obtain⟨_,C,rfl⟩:=Dd C a2 8 J;refine aa (wp_seq (ab (Lm J C fun a C=>?_)));refine lin J (av C J J fun a C=>?_);refine lin J (ac (f:=2) (o2:=2) T46 T37 J J J J C J J fun a C=>?_);refine lin J (af (v:=(.slice Ab bs.length cb)) T37 J C J (F.blkL 1 J) J J fun a C=>?_);refine Lm J C fun a C=>?_;obtain⟨bk,mr,Dr,uq,oj,B4,z9,z3⟩:=Row.getG Wd.len j4 d0 (j:=a3) j0;have x3:(Ab: Option Addr)=some ⟨mr,0,none⟩:=by injection B4
      refine lin J (aC (b:=mr) (o:=0) (j:=a3) T37.und T35 x3 C J J j0 j0 J fun a C=>?_);refine lin J (al (vs:=(wL bk)) T35 J C J (F.blkL 3 (b:=mr) (o:=.cells uq 35 (0,0)) (by rw [<- z9];rfl)) J z3 J fun a C=>?_);refine lin J (aE (cs:= #[(iV 0),(iV 0),(.string (⟨#[]⟩)),(.bool false)]) T35 F C J J fun fc a w F C=>?_);refine lin J (ak (cs':=(wA bk)) T35 F (i:=0) J C J J J J J J fun a w F C=>?_);refine wpList_nil (aa (wp_seq (ab (Lm J C fun a C=>?_))));refine Lm J C fun a C=>?_;refine lin J (av C J J fun a C=>?_);refine lin J (ac (f:=2) (o2:=2) T46 T37 J J J J C J J fun a C=>?_);refine lin J (af (v:=(.slice Ab bs.length cb)) T37 J C J (F.blkL 2 J) J J fun a C=>?_);have zz:=fq F.inv.nil (RdG.of_mem Wd.len j4 F.inv (List.mem_of_getElem? (i:=4) J) d0 j0);refine lin J (Co func47 C J (zz) ?_);rintro e w ⟨pj,qh,E4,rfl,yf,o4⟩;refine⟨_,rfl,fun a C=>?_⟩;have F:=F.call_own o4;refine Lm J C fun a C=>?_;refine Lm J C fun a C=>?_;refine lin J (aL (i:=((a3: Nat): Int)) (j:=1) C J J J j0 fun a C=>?_);have A1:=c_DeleteW (i:=a3) F.inv.one yf j0 J J;refine lin J (Co func46 C J (A1) ?_);rintro e w ⟨qj,rfl,re,o4⟩;rw [show bs.length - 1=(bs.eraseIdx a3).length from by rw [List.length_eraseIdx,if_pos j0]] at re ⊢;refine⟨_,rfl,fun a C=>?_⟩;have F:=F.call_one o4;refine lin J (av C J J fun a C=>?_);refine lin J (ac (f:=2) (o2:=2) T46 T37 J J J J C J J fun a C=>?_);refine lin J (ak (cs':=(hA p hq ws.length i5 pj ((bs.eraseIdx a3).length) qh)) T37 F (i:=3) J C J J J J J J fun a w F C=>?_);refine wpList_nil (aa (wp_seq (ab (Lm J C fun a C=>?_))));refine lin J (ac (f:=2) (o2:=2) T32 T3 J J J J C J J fun a C=>?_);refine lin J (af (v:=(iV x.b)) T3 J C J (F.blkL 2 J) J J fun a C=>?_);have F:=F.fd [5,5,6,6,6] J;let qc:=(hA p hq ws.length i5 pj ((bs.eraseIdx a3).length) qh);have y8: HM q p ws (bs.eraseIdx a3) h ((eO q 46 qc)::ay::qj::b2):=⟨[(eO q 46 qc),ay,qj],b2,rfl,⟨_,_,_,_,_,_,rfl,d8,re⟩,bj⟩;obtain⟨⟨c0,c8⟩,jb⟩: ∃ bp,takeP ws x.b=bp:=⟨_,rfl⟩;have Fe: c8.length<=ws.length:=by have Y:=bw ws x.b;rw [jb] at Y;first | exact Y | exact Nat.le_of_eq Y
      have A2:=bS (F.tail [(eO fc 35 (wA bk)),a7,a9]) y8 j0 j0 jb;refine lin J (Co func14 C J (A2) ?_);rintro e w ⟨Dk,rfl,y9,z4⟩;refine⟨_,rfl,fun a C=>?_⟩;have F:=F.frameR [(eO fc 35 (wA bk)),a7,a9] z4;obtain⟨_,cj,rfl,⟨f5,fl,ih,ir,fo,i6,rfl,lq,lp⟩,n6⟩:=y9;have Ez:=Row.cap lq;have En:=Row.cap lp;refine lin J (aE (cs:= #[(iV 0),(iV 0),(.string (⟨#[]⟩)),(.bool false)]) T35 F C J J fun gj a w F C=>?_);refine lin J (ak (cs':=(wA c0)) T35 F (i:=0) J C J J J J J J fun a w F C=>?_);refine wpList_nil (aa (wp_seq (wp_seq (ab (Lm J C fun a C=>?_)))));refine lin J (al (vs:=(wL bk)) T35 J C J (F.blkL 1 J) J (ag J) J fun a C=>?_);refine lin J (al (vs:=(wL c0)) T35 J C J (F.blkL 0 J) J (ag J) J fun a C=>?_);let qb:=(eO q 46 (hA p f5 c8.length fl ih ((bs.eraseIdx a3).length) ir));have ya: HM q p c8 (bs.eraseIdx a3) h (qb::fo::i6::cj):=⟨[qb,fo,i6],cj,rfl,⟨_,_,_,_,_,_,rfl,lq,lp⟩,n6⟩;have A3:=c_inside (F.tail [(eO gj 35 (wA c0)),(eO fc 35 (wA bk)),a7,a9]) ya (v_:=bk) (y_:=c0);refine lin J (Co func48 C J (A3) ?_);rintro e w ⟨g9,rfl,z5⟩;refine⟨_,rfl,fun a C=>?_⟩;have F:=F.frameR [(eO gj 35 (wA c0)),(eO fc 35 (wA bk)),a7,a9] z5;let gi:List Ent:=[(eO gj 35 (wA c0)),(eO fc 35 (wA bk)),a7,a9,(eO q 46 (hA p f5 c8.length fl ih ((bs.eraseIdx a3).length) ir)),fo,i6];let kg:=(eO gj 35 (wA c0));let kf:=(eO fc 35 (wA bk));let qf:=(eO q 46 (hA p f5 c8.length fl ih ((bs.eraseIdx a3).length) ir));refine wpList_nil (aa (au (t:=159) C J (fun n2 C=>?_) (fun n2 C=>?_)))
      ·refine ap C J (wp_seq ?_);have F:=F.front 6 J
       let Bl:=(As.il [(7, [i6])])
       let sk:=(As.sl [])
       have bo:=F;refine As.c_draw_head (ini:=Bl) (sup:=sk) (als:= [7]) (s0:=⟨g9,fun _=>none⟩) (L:=(kg::kf::a7::a9::qf::fo::cj)) (N:=480) (E:= [(0,(pB q)),(8,(pB fc)),(9,(pB gj))]) 8 [FcV (pB q),FcV (pB q),FcV (pB q),FcV (.pointer (some ⟨q,2,none⟩)),FcV (.slice ih ((bs.eraseIdx a3).length) ir),FcV (.agg (wA bk)),As.lf (fun H v=> ∃ b,v=.slice (some ⟨b,0,none⟩) 1 1/\H b=some (.cells (wA bk) 35 (0,0))),fun s v=> ∃(A: Option Addr) (c: Nat) (en: Ent),s.ax 7=some [en]/\v=.slice A (((bs.eraseIdx a3)++([bk]: List Wd)).length) c/\Row (.slice A (((bs.eraseIdx a3)++([bk]: List Wd)).length) c) en 35 4 (((bs.eraseIdx a3)++([bk]: List Wd)).length) (gfl Wd.cells ((bs.eraseIdx a3)++([bk]: List Wd)))] mixed j1 j1 j1 j6 (fun _=>rfl) F (C.pk J) (As.QuietsI.c4 ?_ ?_ ?_ ?_ (As.QuietsI.c4 ?_ ?_ ?_ ?_ (As.QuietsI.nil))) (fun bm a w ba X F C a2=>?_)
       ·refine As.Qx J fun a w O G Z V F C T X=>?_;have I:=F;exact aj C J J fun a C=>As.ql C I
       ·refine As.Qx J fun a w O G Z V F C T X=>?_;have I:=F;exact aj C J J fun a C=>As.ql C I
       ·refine As.Qx1 1 J fun a w O G Z V F C T X=>?_;have I:=F;exact av C J J fun a C=>As.ql C I
       ·refine As.Qx1 2 J fun a w O G Z V F C T X=>?_;have I:=F;exact ac (f:=2) (o2:=2) T46 T37 J J J J C J J fun a C=>As.ql C I
       ·refine As.Qx1 3 J fun a w O G Z V F C T X=>?_;have I:=F;have F:=Step.dropN _ _ F;exact af (v:=(.slice ih ((bs.eraseIdx a3).length) ir)) T37 J C J (F.blkL 4 J) J J fun a C=>As.ql C I
       ·refine As.Qx J fun a w O G Z V F C T X=>?_;have I:=F;have F:=Step.dropN _ _ F;exact al (vs:=(wL bk)) T35 J C J (F.blkL 1 J) J (ag J) J fun a C=>As.ql C I
       ·refine As.Qx1 5 J fun a w O G Z V F C T X=>?_;have I:=F;have c3:=Step.dropN _ _ F;refine id (aY (vs:= [(0,(.agg (wA bk)))]) (cells:=(wL bk)) T37.und T35 F C (C.evp J) J J J J fun te a w F C=>?_);obtain⟨Db,F,Aw,o1⟩:=F.give;exact As.qdone (s:=⟨O,G⟩) Aw C F ⟨_,rfl,o1⟩
       ·refine As.Qx1 4 J fun a w O G Z V F C T X=>?_;obtain⟨_,C,te,rfl,o1⟩:=T.g C 6 J;have F: Step w0 H L w O (i6::_):=As.opn (s:=⟨O,G⟩) [] [7] [] [i6] J (As.con0s V J) F;obtain⟨u2,C8,vb,uo,vw,r5,wv⟩:=(RowG.of_lit Wd.len ([bk]: List Wd) o1 j3 J).2.2;refine id (aJ (news:=(gfl Wd.cells ([bk]: List Wd))) (xs:=(gfl Wd.cells (bs.eraseIdx a3))) T37.und T35 J J F lp C J J (aw Wd.len _) (fun b9=>⟨u2,C8,vb,uo,vw,(r5 (fun Y=>b9 (by rw [Y];rfl))).1,F.blkH (r5 (fun Y=>b9 (by rw [Y];rfl))).2,fun j u bg=>a8 Wd.len j4 wv bg⟩) (aT Wd.one' _) j0 J J fun H3 i8 a w ha F C=>?_);rw [<- aF] at ha;obtain⟨g6,gl,rfl⟩:=ha.slice;have b4:((bs.eraseIdx a3).length+1)=((bs.eraseIdx a3)++([bk]: List Wd)).length:=by have Y:=ha.1;rw [aw Wd.len] at Y;omega
        rw [show Value.slice g6 ((bs.eraseIdx a3).length+1) gl=Value.slice g6 ((bs.eraseIdx a3)++([bk]: List Wd)).length gl from by rw [b4]] at C;rw [b4] at ha;exact As.qown (i:=7) (dst:=some 167) (s:=⟨O,G⟩) (E:= [i8]) [] [7] [] J J V (Le.refl _) C.dfr (As.has_at C) F As.con1 ⟨_,_,_,rfl,rfl,ha⟩
       obtain⟨k6,G⟩:=ba;have G6: Le g9 k6:=X.le;dsimp only at a2 F;obtain⟨_,C,rfl⟩:=As.Dd C a2 0 J;obtain⟨_,C,g6,gl,i8,p2,rfl,ha⟩:=As.Dd C a2 7 J;have p2: G 7=some [i8]:=p2;have F: Step w0 H L w k6 (i8::kg::kf::a7::a9::qf::fo::cj):=by
        have Y:=F;unfold As.aents at Y;simp only [List.flatMap_cons,List.flatMap_nil,As.conE,show sk 7=none from rfl,p2,Option.isSome_some,Option.getD_some,cond_true,cond_false,List.cons_append,List.nil_append,List.append_nil] at Y;exact Y
       refine any1 (i:=8) j1 J J (av C J J fun a C=>?_);refine any1 (i:=9) j1 J J (ac (f:=2) (o2:=2) T46 T37 J J J J C J J fun a C=>?_);refine any1 (i:=10) j1 J J (ak (cs':=(hA p f5 c8.length fl g6 (((bs.eraseIdx a3)++([bk]: List Wd)).length) gl)) T37 F (i:=5) J C J J J J J J fun a w F C=>?_);refine any0 j1 ?_;refine aa (wp_seq ?_);have F:=F.front 6 J
       let Bm:=(As.il [(7, [fo])])
       let sm:=(As.sl [])
       have bo:=F;refine As.c_draw_head (ini:=Bm) (sup:=sm) (als:= [7]) (s0:=⟨k6,fun _=>none⟩) (L:=(i8::kg::kf::a7::a9::(eO q 46 (hA p f5 c8.length fl g6 (((bs.eraseIdx a3)++([bk]: List Wd)).length) gl))::cj)) (N:=480) (E:= [(0,(pB q)),(9,(pB gj))]) 8 [FcV (pB q),FcV (pB q),FcV (pB q),FcV (.pointer (some ⟨q,1,none⟩)),FcV (.slice f5 c8.length fl),FcV (.agg (wA c0)),As.lf (fun H v=> ∃ b,v=.slice (some ⟨b,0,none⟩) 1 1/\H b=some (.cells (wA c0) 35 (0,0))),fun s v=> ∃(A: Option Addr) (c: Nat) (en: Ent),s.ax 7=some [en]/\v=.slice A ((c8++([c0]: List Wd)).length) c/\Row (.slice A ((c8++([c0]: List Wd)).length) c) en 35 4 ((c8++([c0]: List Wd)).length) (gfl Wd.cells (c8++([c0]: List Wd)))] mixed j1 j1 j1 j6 (fun _=>rfl) F (C.pk J) (As.QuietsI.c4 ?_ ?_ ?_ ?_ (As.QuietsI.c4 ?_ ?_ ?_ ?_ (As.QuietsI.nil))) (fun bm a w ba X F C a2=>?_)
       ·refine As.Qx J fun a w O G Z V F C T X=>?_;have I:=F;exact aj C J J fun a C=>As.ql C I
       ·refine As.Qx J fun a w O G Z V F C T X=>?_;have I:=F;exact aj C J J fun a C=>As.ql C I
       ·refine As.Qx1 1 J fun a w O G Z V F C T X=>?_;have I:=F;exact av C J J fun a C=>As.ql C I
       ·refine As.Qx1 2 J fun a w O G Z V F C T X=>?_;have I:=F;exact ac (f:=1) (o2:=1) T46 T37 J J J J C J J fun a C=>As.ql C I
       ·refine As.Qx1 3 J fun a w O G Z V F C T X=>?_;have I:=F;have F:=Step.dropN _ _ F;exact af (v:=(.slice f5 c8.length fl)) T37 J C J (F.blkL 5 J) J J fun a C=>As.ql C I
       ·refine As.Qx J fun a w O G Z V F C T X=>?_;have I:=F;have F:=Step.dropN _ _ F;exact al (vs:=(wL c0)) T35 J C J (F.blkL 1 J) J (ag J) J fun a C=>As.ql C I
       ·refine As.Qx1 5 J fun a w O G Z V F C T X=>?_;have I:=F;have c3:=Step.dropN _ _ F;refine id (aY (vs:= [(0,(.agg (wA c0)))]) (cells:=(wL c0)) T37.und T35 F C (C.evp J) J J J J fun tf a w F C=>?_);obtain⟨Dc,F,Ax,o3⟩:=F.give;exact As.qdone (s:=⟨O,G⟩) Ax C F ⟨_,rfl,o3⟩
       ·refine As.Qx1 4 J fun a w O G Z V F C T X=>?_;obtain⟨_,C,tf,rfl,o3⟩:=T.g C 6 J;have F: Step w0 H L w O (fo::_):=As.opn (s:=⟨O,G⟩) [] [7] [] [fo] J (As.con0s V J) F;obtain⟨u3,C9,vc,up,vx,r6,ww⟩:=(RowG.of_lit Wd.len ([c0]: List Wd) o3 j3 J).2.2;refine id (aJ (news:=(gfl Wd.cells ([c0]: List Wd))) (xs:=(gfl Wd.cells c8)) T37.und T35 J J F lq C J J (aw Wd.len _) (fun b9=>⟨u3,C9,vc,up,vx,(r6 (fun Y=>b9 (by rw [Y];rfl))).1,F.blkH (r6 (fun Y=>b9 (by rw [Y];rfl))).2,fun j u bg=>a8 Wd.len j4 ww bg⟩) (aT Wd.one' _) j0 J J fun H4 li a w hb F C=>?_);rw [<- aF] at hb;obtain⟨k3,l1,rfl⟩:=hb.slice;have b4:(c8.length+1)=(c8++([c0]: List Wd)).length:=by have Y:=hb.1;rw [aw Wd.len] at Y;omega
        rw [show Value.slice k3 (c8.length+1) l1=Value.slice k3 (c8++([c0]: List Wd)).length l1 from by rw [b4]] at C;rw [b4] at hb;exact As.qown (i:=7) (dst:=some 177) (s:=⟨O,G⟩) (E:= [li]) [] [7] [] J J V (Le.refl _) C.dfr (As.has_at C) F As.con1 ⟨_,_,_,rfl,rfl,hb⟩
       obtain⟨q4,G⟩:=ba;have G7: Le k6 q4:=X.le;dsimp only at a2 F;obtain⟨_,C,rfl⟩:=As.Dd C a2 0 J;obtain⟨_,C,k3,l1,li,p3,rfl,hb⟩:=As.Dd C a2 7 J;have p3: G 7=some [li]:=p3;have F: Step w0 H L w q4 (li::i8::kg::kf::a7::a9::(eO q 46 (hA p f5 c8.length fl g6 (((bs.eraseIdx a3)++([bk]: List Wd)).length) gl))::cj):=by
        have Y:=F;unfold As.aents at Y;simp only [List.flatMap_cons,List.flatMap_nil,As.conE,show sm 7=none from rfl,p3,Option.isSome_some,Option.getD_some,cond_true,cond_false,List.cons_append,List.nil_append,List.append_nil] at Y;exact Y
       refine any1 (i:=8) j1 J J (av C J J fun a C=>?_);refine any1 (i:=9) j1 J J (ac (f:=1) (o2:=1) T46 T37 J J J J C J J fun a C=>?_);refine any1 (i:=10) j1 J J (ak (cs':=(hA p k3 ((c8++([c0]: List Wd)).length) l1 g6 (((bs.eraseIdx a3)++([bk]: List Wd)).length) gl)) T37 F (i:=6) J C J J J J J J fun a w F C=>?_);refine any0 j1 ?_;refine aa (wp_ret (ai (aA (ret0r J C ?_))));have F:=F.fd [3,0,3,0,3,0,3,0,2,2,3] J;exact⟨_,_,_,_,_,SR.ins jb oj,by first | omega |(simp only [List.length_append,List.length_cons,List.length_nil];omega),by first | omega |(simp only [List.length_append,List.length_cons,List.length_nil];omega),⟨_,_,rfl,⟨_,_,_,_,_,_,rfl,hb,ha⟩,n6⟩,rfl,F⟩
      ·refine ah C J (wp_skip (aa (wp_seq ?_)));have yh:=hdi.bind_ok jb oj (by simpa using n2)
       let pg:=(As.il [(6,cj)])
       let m0:=(As.sl [])
       have F: Step w0 H L w g9 (cj++ gi):=Step.perm (show Step w0 H L w g9 (gi++cj) from F) (List.perm_append_comm (l₁:= gi) (l₂:=cj));have bo:=F;refine As.c_draw_head (ini:=pg) (sup:=m0) (als:= [6]) (s0:=⟨g9,fun _=>none⟩) (L:= gi) (N:=480) (E:= [(0,(pB q)),(8,(pB fc)),(9,(pB gj))]) 11 [FcV (pB q),FcV (pB q),FcV (pB q),FcV (pB p),FcV (.agg (wA bk)),FcV (.agg (wA c0)),fun s v=> ∃(A: Option Addr) (c: Nat) (en: Ent) (L': List Ent),s.ax 6=some (en::L')/\v=(.tuple #[(.slice A (([]: List Int).length) c),(iV 0)])/\Row (.slice A ([]: List Int).length c) en 3 1 ([]: List Int).length (ints ([]: List Int))/\HK p ((h.bind bk c0).1) L',fun s v=> ∃(A: Option Addr) (c: Nat) (en: Ent) (L': List Ent),s.ax 6=some (en::L')/\v=(.tuple #[(.slice A (([]: List Int).length) c),(iV 0)])/\Row (.slice A ([]: List Int).length c) en 3 1 ([]: List Int).length (ints ([]: List Int)),fun s v=> ∃(A: Option Addr) (c: Nat) (en: Ent) (L': List Ent),s.ax 6=some (en::L')/\v=(.slice A (([]: List Int).length) c)/\Row (.slice A ([]: List Int).length c) en 3 1 ([]: List Int).length (ints ([]: List Int)),FcV (iV 0),fun s v=> ∃(A: Option Addr) (c: Nat) (en: Ent) (L': List Ent),s.ax 6=some (en::L')/\v=(.slice A (([]: List Int).length) c)/\Row (.slice A ([]: List Int).length c) en 3 1 ([]: List Int).length (ints ([]: List Int))] mixed j1 j1 j1 j7 (fun _=>rfl) (show Step w0 H L w g9 ((cj++ [])++ gi) from by simpa only [List.nil_append,List.append_nil,List.cons_append,List.append_assoc] using F) (C.pk J) (As.QuietsI.c4 ?_ ?_ ?_ ?_ (As.QuietsI.c4 ?_ ?_ ?_ ?_ (As.QuietsI.c2 ?_ ?_ (As.QuietsI.cons ?_ (As.QuietsI.nil))))) (fun bm a w ba X F C a2=>?_)
       ·refine As.Qx J fun a w O G Z V F C T X=>?_;have I:=F;exact aj C J J fun a C=>As.ql C I
       ·refine As.Qx1 0 J fun a w O G Z V F C T X=>?_;have I:=F;exact av C J J fun a C=>As.ql C I
       ·refine As.Qx1 1 J fun a w O G Z V F C T X=>?_;have I:=F;exact ac (f:=0) (o2:=0) T46 T44 J J J J C J J fun a C=>As.ql C I
       ·refine As.Qx1 2 J fun a w O G Z V F C T X=>?_;have I:=F;have F:=Step.dropN _ _ F;exact af (v:=(pB p)) T44 J C J (F.blkL 4 J) J J fun a C=>As.ql C I
       ·refine As.Qx J fun a w O G Z V F C T X=>?_;have I:=F;have F:=Step.dropN _ _ F;exact al (vs:=(wL bk)) T35 J C J (F.blkL 1 J) J (ag J) J fun a C=>As.ql C I
       ·refine As.Qx J fun a w O G Z V F C T X=>?_;have I:=F;have F:=Step.dropN _ _ F;exact al (vs:=(wL c0)) T35 J C J (F.blkL 0 J) J (ag J) J fun a C=>As.ql C I
       ·refine As.Qx1 3 J fun a w O G Z V F C T X=>?_;obtain⟨_,C,rfl⟩:=T.g C 4 J;obtain⟨_,C,rfl⟩:=T.g C 5 J;have bi: As.aents pg m0 [6] G=(cj):=by
         unfold As.aents;simp only [List.flatMap_cons,List.flatMap_nil,As.conE,show m0 6=none from rfl,show pg 6=cj from rfl,V,Option.isSome_some,Option.isSome_none,Option.getD_some,Option.getD_none,cond_true,cond_false,List.append_nil,List.nil_append]
        have F: Step w0 H L w O ((cj)++_):=As.opn (s:=⟨O,G⟩) [] [6] [] (cj) J bi F;have F:=Step.perm F (List.perm_append_comm (l₁:=cj) (l₂:=_));have oe:=c_Bind (F.tail (_)) n6 hdi.ok (v:=bk) (x:=c0);rw [yh] at oe;dsimp only at oe;refine id (Co func28 C J (oe) ?_);rintro e w ⟨mg,f2,fh,gq,rfl,e2,xg,z6⟩;refine⟨_,rfl,fun a C=>?_⟩;have F:=Step.perm (F.frameR (_) z6) List.perm_middle;have F:=Step.perm F (List.Perm.cons _ (List.perm_append_comm (l₁:=_) (l₂:=mg)))
        skip
        exact As.qown (i:=6) (dst:=some 187) (s:=⟨O,G⟩) (E:=(gq::mg)) [] [6] [] J J V (Le.refl _) C.dfr (As.has_at C) F As.con1 ⟨f2,fh,gq,mg,rfl,rfl,e2,xg⟩
       ·refine As.Qx J fun a w O G Z V F C T X=>?_;obtain⟨_,C,f2,fh,gq,im,g2,rfl,e2,rb⟩:=T.g C 6 J;have g2: G 6=some (gq::im):=g2;have fx:=g2;have I:=F;refine id (aj C J J fun a C=>?_);exact As.qdone (s:=⟨O,G⟩) (Le.refl _) C I ⟨_,_,_,_,fx,rfl,e2⟩
       ·refine As.Qx J fun a w O G Z V F C T X=>?_;obtain⟨_,C,f2,fh,mx,mm,fx,rfl,e2⟩:=T.g C 7 J;have I:=F;refine id (ad (v:=(.slice f2 (([]: List Int).length) fh)) C J J J fun a C=>?_);exact As.qdone (s:=⟨O,G⟩) (Le.refl _) C I ⟨_,_,_,_,fx,rfl,e2⟩
       ·refine As.Qx J fun a w O G Z V F C T X=>?_;obtain⟨_,C,f2,fh,mx,mm,fx,rfl,e2⟩:=T.g C 7 J;have I:=F;exact ad (v:=(iV 0)) C J J J fun a C=>As.ql C I
       ·refine As.Qx J fun a w O G Z V F C T X=>?_;obtain⟨_,C,f2,fh,mx,mm,fx,rfl,e2⟩:=T.g C 8 J;have I:=F;refine id (aH C J J fun a C=>?_);exact As.qdone (s:=⟨O,G⟩) (Le.refl _) C I ⟨_,_,_,_,fx,rfl,e2⟩
       obtain⟨q5,G⟩:=ba;have G8: Le g9 q5:=X.le;dsimp only at a2 F;obtain⟨_,cd,f2,fh,gq,im,g2,rfl,e2,rb⟩:=a2 6 _ _ J J;have g2: G 6=some (gq::im):=g2;obtain⟨_,C,rfl⟩:=As.Dd C a2 9 J;obtain⟨_,C,f2,fh,mx,mm,fx,rfl,e2⟩:=As.Dd C a2 10 J;have ep:=Option.some.inj (fx.symm.trans g2);rw [(List.cons.inj ep).1] at e2;have F: Step w0 H L w q5 (gq::im++ gi):=by
        have Y:=F;unfold As.aents at Y;simp only [List.flatMap_cons,List.flatMap_nil,As.conE,show m0 6=none from rfl,g2,List.append_assoc,Option.isSome_some,Option.getD_some,cond_true,cond_false,List.cons_append,List.nil_append,List.append_nil] at Y;exact Y
       have F:=Step.perm F (List.Perm.cons _ (List.perm_append_comm (l₁:=im) (l₂:= gi)));refine any1 (i:=11) j1 J J (aH C J J fun a C=>?_);refine any0 j1 ?_;refine aa (wp_seq (ab (Lm J C fun a C=>?_)));refine lin J (bE (i:=0) (j:=0) C J J J fun a C=>?_);refine wpList_nil (aa (aQ (t:=191) C J (fun x0 C=>?_) (fun x0 C=>?_)))
       ·refine ap C J ?_
        exfalso
        omega
       ·refine ah C J (wp_skip (ao (ret0 J C ?_)));have F:=F.fd [0,0,0,0,0] J;exact⟨_,_,_,_,_,SR.bnd (lu.trans r8) jb oj (by simpa using n2),by first | omega |(simp only [List.length_append,List.length_cons,List.length_nil];omega),by first | omega |(simp only [List.length_append,List.length_cons,List.length_nil];omega),⟨_,_,rfl,⟨_,_,_,_,_,_,rfl,lq,lp⟩,rb⟩,rfl,F⟩
     ·refine ah C J (wp_skip (ao (ret0 J C ?_)));have F:=F.drop;exact⟨_,_,_,_,_,SR.same,by first | omega |(simp only [List.length_append,List.length_cons,List.length_nil];omega),by first | omega |(simp only [List.length_append,List.length_cons,List.length_nil];omega),⟨_,_,rfl,⟨_,_,_,_,_,_,rfl,d8,d0⟩,bj⟩,rfl,F⟩
    ·refine ah C J (wp_seq (ab (lin J (bn (i:=kk) (j:=4) C J J J fun a C=>?_))));refine Ls J C fun a C=>?_;refine wpList_nil (aa (an (t:=195) C J (fun x2 C=>?_) (fun x2 C=>?_)))
     ·refine ap C J (wp_seq (ab (Lm J C fun a C=>?_)));refine lin J (ac (f:=1) (o2:=1) T32 T3 J J J J C J J fun a C=>?_);refine lin J (af (v:=(iV x.a)) T3 J C J (F.blkL 0 J) J J fun a C=>?_);have yb: HM q p ws bs h (b1::ay::a9::b2):=⟨[b1,ay,a9],b2,rfl,⟨_,_,_,_,_,_,rfl,d8,d0⟩,bj⟩;obtain⟨⟨bc,bz⟩,lt⟩: ∃ bp,takeP ws x.a=bp:=⟨_,rfl⟩;have Ff: bz.length<=ws.length:=by have Y:=bw ws x.a;rw [lt] at Y;first | exact Y | exact Nat.le_of_eq Y
      have A4:=bS (F.tail [a7]) yb j0 j0 lt;refine lin J (Co func14 C J (A4) ?_);rintro e w ⟨Dl,rfl,yc,z7⟩;refine⟨_,rfl,fun a C=>?_⟩;have F:=F.frameR [a7] z7;obtain⟨_,eb,rfl,⟨f7,fm,g7,gm,gr,i7,rfl,ng,nf⟩,xh⟩:=yc;have F0:=Row.cap ng;have Eo:=Row.cap nf;refine lin J (aE (cs:= #[(iV 0),(iV 0),(.string (⟨#[]⟩)),(.bool false)]) T35 F C J J fun fe a w F C=>?_);refine lin J (ak (cs':=(wA bc)) T35 F (i:=0) J C J J J J J J fun a w F C=>?_);refine wpList_nil (aa (wp_seq ?_))
      let ph:=(As.il [(5,eb)])
      let m1:=(As.sl [])
      let mp:List Ent:=[(eO fe 35 (wA bc)),a7,(eO q 46 (hA p f7 bz.length fm g7 bs.length gm)),gr,i7];have F: Step w0 H L w H (eb++ mp):=Step.perm (show Step w0 H L w H (mp++eb) from F) (List.perm_append_comm (l₁:= mp) (l₂:=eb));have bo:=F;let q9:List Ent:=[(eO fe 35 (wA bc)),a7,(eO q 46 (hA p f7 bz.length fm g7 bs.length gm)),gr,i7];refine As.c_draw_head (ini:=ph) (sup:=m1) (als:= [5]) (s0:=⟨H,fun _=>none⟩) (L:= q9) (N:=480) (E:= [(0,(pB q)),(12,(pB fe))]) 10 [FcV (pB q),FcV (pB q),FcV (pB q),FcV (pB p),FcV (.agg (wA bc)),fun s v=> ∃(A: Option Addr) (c: Nat) (en: Ent) (L': List Ent),s.ax 5=some (en::L')/\v=(.tuple #[(.slice A (((h.free bc).2.1).length) c),(iV ((h.free bc).2.2))])/\Row (.slice A ((h.free bc).2.1).length c) en 35 4 ((h.free bc).2.1).length (gfl Wd.cells ((h.free bc).2.1))/\HK p ((h.free bc).1) L',fun s v=> ∃(A: Option Addr) (c: Nat) (en: Ent) (L': List Ent),s.ax 5=some (en::L')/\v=(.tuple #[(.slice A (((h.free bc).2.1).length) c),(iV ((h.free bc).2.2))])/\Row (.slice A ((h.free bc).2.1).length c) en 35 4 ((h.free bc).2.1).length (gfl Wd.cells ((h.free bc).2.1)),fun s v=> ∃(A: Option Addr) (c: Nat) (en: Ent) (L': List Ent),s.ax 5=some (en::L')/\v=(.slice A (((h.free bc).2.1).length) c)/\Row (.slice A ((h.free bc).2.1).length c) en 35 4 ((h.free bc).2.1).length (gfl Wd.cells ((h.free bc).2.1)),FcV (iV ((h.free bc).2.2)),fun s v=> ∃(A: Option Addr) (c: Nat) (en: Ent) (L': List Ent),s.ax 5=some (en::L')/\v=(.slice A (((h.free bc).2.1).length) c)/\Row (.slice A ((h.free bc).2.1).length c) en 35 4 ((h.free bc).2.1).length (gfl Wd.cells ((h.free bc).2.1))] mixed j1 j1 j1 j7 (fun _=>rfl) (show Step w0 H L w H ((eb++ [])++ q9) from by simpa only [List.nil_append,List.append_nil,List.cons_append,List.append_assoc] using F) (C.pk J) (As.QuietsI.c4 ?_ ?_ ?_ ?_ (As.QuietsI.c4 ?_ ?_ ?_ ?_ (As.QuietsI.c2 ?_ ?_ (As.QuietsI.nil)))) (fun bm a w ba X F C a2=>?_)
      ·refine As.Qx J fun a w O G Z V F C T X=>?_;have I:=F;exact aj C J J fun a C=>As.ql C I
      ·refine As.Qx1 0 J fun a w O G Z V F C T X=>?_;have I:=F;exact av C J J fun a C=>As.ql C I
      ·refine As.Qx1 1 J fun a w O G Z V F C T X=>?_;have I:=F;exact ac (f:=0) (o2:=0) T46 T44 J J J J C J J fun a C=>As.ql C I
      ·refine As.Qx1 2 J fun a w O G Z V F C T X=>?_;have I:=F;have F:=Step.dropN _ _ F;exact af (v:=(pB p)) T44 J C J (F.blkL 2 J) J J fun a C=>As.ql C I
      ·refine As.Qx J fun a w O G Z V F C T X=>?_;have I:=F;have F:=Step.dropN _ _ F;exact al (vs:=(wL bc)) T35 J C J (F.blkL 0 J) J (ag J) J fun a C=>As.ql C I
      ·refine As.Qx1 3 J fun a w O G Z V F C T X=>?_;obtain⟨_,C,rfl⟩:=T.g C 4 J;have bi: As.aents ph m1 [5] G=(eb):=by
        unfold As.aents;simp only [List.flatMap_cons,List.flatMap_nil,As.conE,show m1 5=none from rfl,show ph 5=eb from rfl,V,Option.isSome_some,Option.isSome_none,Option.getD_some,Option.getD_none,cond_true,cond_false,List.append_nil,List.nil_append]
       have F: Step w0 H L w O ((eb)++_):=As.opn (s:=⟨O,G⟩) [] [5] [] (eb) J bi F;have F:=Step.perm F (List.perm_append_comm (l₁:=eb) (l₂:=_));have A5:=gx (F.tail (_)) xh hdi.ok (x:=bc);refine id (Co func31 C J (A5) ?_);rintro e w ⟨mh,f3,fj,em,rfl,d7,xi,z8⟩;refine⟨_,rfl,fun a C=>?_⟩;have F:=Step.perm (F.frameR (_) z8) List.perm_middle;have F:=Step.perm F (List.Perm.cons _ (List.perm_append_comm (l₁:=_) (l₂:=mh)))
       skip
       exact As.qown (i:=5) (dst:=some 207) (s:=⟨O,G⟩) (E:=(em::mh)) [] [5] [] J J V (Le.refl _) C.dfr (As.has_at C) F As.con1 ⟨f3,fj,em,mh,rfl,rfl,d7,xi⟩
      ·refine As.Qx J fun a w O G Z V F C T X=>?_;obtain⟨_,C,f3,fj,em,gh,g3,rfl,d7,ln⟩:=T.g C 5 J;have g3: G 5=some (em::gh):=g3;have fy:=g3;have I:=F;refine id (aj C J J fun a C=>?_);exact As.qdone (s:=⟨O,G⟩) (Le.refl _) C I ⟨_,_,_,_,fy,rfl,d7⟩
      ·refine As.Qx J fun a w O G Z V F C T X=>?_;obtain⟨_,C,f3,fj,my,mn,fy,rfl,d7⟩:=T.g C 6 J;have I:=F;refine id (ad (v:=(.slice f3 (((h.free bc).2.1).length) fj)) C J J J fun a C=>?_);exact As.qdone (s:=⟨O,G⟩) (Le.refl _) C I ⟨_,_,_,_,fy,rfl,d7⟩
      ·refine As.Qx J fun a w O G Z V F C T X=>?_;obtain⟨_,C,f3,fj,my,mn,fy,rfl,d7⟩:=T.g C 6 J;have I:=F;exact ad (v:=(iV ((h.free bc).2.2))) C J J J fun a C=>As.ql C I
      ·refine As.Qx J fun a w O G Z V F C T X=>?_;obtain⟨_,C,f3,fj,my,mn,fy,rfl,d7⟩:=T.g C 7 J;have I:=F;refine id (aH C J J fun a C=>?_);exact As.qdone (s:=⟨O,G⟩) (Le.refl _) C I ⟨_,_,_,_,fy,rfl,d7⟩
      obtain⟨k7,G⟩:=ba;have G9: Le H k7:=X.le;dsimp only at a2 F;obtain⟨_,cd,f3,fj,em,gh,g3,rfl,d7,ln⟩:=a2 5 _ _ J J;have g3: G 5=some (em::gh):=g3;obtain⟨_,C,rfl⟩:=As.Dd C a2 8 J;obtain⟨_,C,f3,fj,my,mn,fy,rfl,d7⟩:=As.Dd C a2 9 J;have ep:=Option.some.inj (fy.symm.trans g3);rw [(List.cons.inj ep).1] at d7;have F: Step w0 H L w k7 (em::gh++ [(eO fe 35 (wA bc)),a7,(eO q 46 (hA p f7 bz.length fm g7 bs.length gm)),gr,i7]):=by
       have Y:=F;unfold As.aents at Y;simp only [List.flatMap_cons,List.flatMap_nil,As.conE,show m1 5=none from rfl,g3,List.append_assoc,Option.isSome_some,Option.getD_some,cond_true,cond_false,List.cons_append,List.nil_append,List.append_nil] at Y;exact Y
      have F:=Step.perm F (List.Perm.cons _ (List.perm_append_comm (l₁:=gh) (l₂:= [(eO fe 35 (wA bc)),a7,(eO q 46 (hA p f7 bz.length fm g7 bs.length gm)),gr,i7])));refine any1 (i:=10) j1 J J (aH C J J fun a C=>?_);refine any0 j1 ?_;refine aa (wp_seq (ab (Lm J C fun a C=>?_)));refine lin J (bn (i:=((h.free bc).2.2)) (j:=0) C J J J fun a C=>?_);let qg:=(eO q 46 (hA p f7 bz.length fm g7 bs.length gm));refine wpList_nil (aa (an (t:=211) C J (fun n3 C=>?_) (fun n3 C=>?_)))
      ·refine ap C J ?_;have za:=free_len lo bc;refine ab (Lm J C fun a C=>?_);refine Lm J C fun a C=>?_;refine lin J (av C J J fun a C=>?_);refine lin J (ac (f:=1) (o2:=1) T46 T37 J J J J C J J fun a C=>?_);refine lin J (af (v:=(.slice f7 bz.length fm)) T37 J C J (F.blkL 3 J) J J fun a C=>?_);refine Lm J C fun a C=>?_;have F:=F.front 4 J;refine lin J (aJ (news:=(gfl Wd.cells ((h.free bc).2.1))) (xs:=(gfl Wd.cells bz)) T37.und T35 J J F ng C J J (d7.1) (fi (i:=1) F.inv J d7) (aT Wd.one' _) j0 J J fun H5 E5 a w j5 F C=>?_);rw [<- aF] at j5;obtain⟨m6,mv,rfl⟩:=j5.slice;have b4:(bz.length+((h.free bc).2.1).length)=(bz++((h.free bc).2.1)).length:=by have Y:=j5.1;rw [aw Wd.len] at Y;omega
       rw [show Value.slice m6 (bz.length+((h.free bc).2.1).length) mv=Value.slice m6 (bz++((h.free bc).2.1)).length mv from by rw [b4]] at C;rw [b4] at j5;refine lin J (av C J J fun a C=>?_);refine lin J (ac (f:=1) (o2:=1) T46 T37 J J J J C J J fun a C=>?_);refine lin J (ak (cs':=(hA p m6 ((bz++((h.free bc).2.1)).length) mv g7 bs.length gm)) T37 F (i:=4) J C J J J J J J fun a w F C=>?_);refine wpList_nil (ao (ret0 J C ?_));have F:=F.fd [2,0,2,0,2,0,3,2,3] J;exact⟨_,_,_,_,_,SR.free x.a lt n3,by first | omega |(simp only [List.length_append,List.length_cons,List.length_nil];omega),by first | omega |(simp only [List.length_append,List.length_cons,List.length_nil];omega),⟨_,_,rfl,⟨_,_,_,_,_,_,rfl,j5,nf⟩,ln⟩,rfl,F⟩
      ·refine ah C J ?_;have F:=F.front 4 J
       let B5:=(As.il [(7, [gr])])
       let s5:=(As.sl [])
       have bo:=F;refine As.c_draw_head (ini:=B5) (sup:=s5) (als:= [7]) (s0:=⟨k7,fun _=>none⟩) (L:=(em::(eO fe 35 (wA bc))::a7::qg::i7::gh)) (N:=480) (E:= [(0,(pB q)),(12,(pB fe))]) 8 [FcV (pB q),FcV (pB q),FcV (pB q),FcV (.pointer (some ⟨q,1,none⟩)),FcV (.slice f7 bz.length fm),FcV (.agg (wA bc)),As.lf (fun H v=> ∃ b,v=.slice (some ⟨b,0,none⟩) 1 1/\H b=some (.cells (wA bc) 35 (0,0))),fun s v=> ∃(A: Option Addr) (c: Nat) (en: Ent),s.ax 7=some [en]/\v=.slice A ((bz++([bc]: List Wd)).length) c/\Row (.slice A ((bz++([bc]: List Wd)).length) c) en 35 4 ((bz++([bc]: List Wd)).length) (gfl Wd.cells (bz++([bc]: List Wd)))] mixed j1 j1 j1 j6 (fun _=>rfl) F (C.pk J) (As.QuietsI.c4 ?_ ?_ ?_ ?_ (As.QuietsI.c4 ?_ ?_ ?_ ?_ (As.QuietsI.nil))) (fun bm a w ba X F C a2=>?_)
       ·refine As.Qx J fun a w O G Z V F C T X=>?_;have I:=F;exact aj C J J fun a C=>As.ql C I
       ·refine As.Qx J fun a w O G Z V F C T X=>?_;have I:=F;exact aj C J J fun a C=>As.ql C I
       ·refine As.Qx1 1 J fun a w O G Z V F C T X=>?_;have I:=F;exact av C J J fun a C=>As.ql C I
       ·refine As.Qx1 2 J fun a w O G Z V F C T X=>?_;have I:=F;exact ac (f:=1) (o2:=1) T46 T37 J J J J C J J fun a C=>As.ql C I
       ·refine As.Qx1 3 J fun a w O G Z V F C T X=>?_;have I:=F;have F:=Step.dropN _ _ F;exact af (v:=(.slice f7 bz.length fm)) T37 J C J (F.blkL 3 J) J J fun a C=>As.ql C I
       ·refine As.Qx J fun a w O G Z V F C T X=>?_;have I:=F;have F:=Step.dropN _ _ F;exact al (vs:=(wL bc)) T35 J C J (F.blkL 1 J) J (ag J) J fun a C=>As.ql C I
       ·refine As.Qx1 5 J fun a w O G Z V F C T X=>?_;have I:=F;have c3:=Step.dropN _ _ F;refine id (aY (vs:= [(0,(.agg (wA bc)))]) (cells:=(wL bc)) T37.und T35 F C (C.evp J) J J J J fun ss a w F C=>?_);obtain⟨Ck,F,A7,nh⟩:=F.give;exact As.qdone (s:=⟨O,G⟩) A7 C F ⟨_,rfl,nh⟩
       ·refine As.Qx1 4 J fun a w O G Z V F C T X=>?_;obtain⟨_,C,ss,rfl,nh⟩:=T.g C 6 J;have F: Step w0 H L w O (gr::_):=As.opn (s:=⟨O,G⟩) [] [7] [] [gr] J (As.con0s V J) F;obtain⟨tg,Bq,ut,u6,vd,qn,wc⟩:=(RowG.of_lit Wd.len ([bc]: List Wd) nh j3 J).2.2;refine id (aJ (news:=(gfl Wd.cells ([bc]: List Wd))) (xs:=(gfl Wd.cells bz)) T37.und T35 J J F ng C J J (aw Wd.len _) (fun b9=>⟨tg,Bq,ut,u6,vd,(qn (fun Y=>b9 (by rw [Y];rfl))).1,F.blkH (qn (fun Y=>b9 (by rw [Y];rfl))).2,fun j u bg=>a8 Wd.len j4 wc bg⟩) (aT Wd.one' _) j0 J J fun Gi l2 a w gt F C=>?_);rw [<- aF] at gt;obtain⟨jn,kl,rfl⟩:=gt.slice;have b4:(bz.length+1)=(bz++([bc]: List Wd)).length:=by have Y:=gt.1;rw [aw Wd.len] at Y;omega
        rw [show Value.slice jn (bz.length+1) kl=Value.slice jn (bz++([bc]: List Wd)).length kl from by rw [b4]] at C;rw [b4] at gt;exact As.qown (i:=7) (dst:=some 228) (s:=⟨O,G⟩) (E:= [l2]) [] [7] [] J J V (Le.refl _) C.dfr (As.has_at C) F As.con1 ⟨_,_,_,rfl,rfl,gt⟩
       obtain⟨pm,G⟩:=ba;have Fh: Le k7 pm:=X.le;dsimp only at a2 F;obtain⟨_,C,rfl⟩:=As.Dd C a2 0 J;obtain⟨_,C,jn,kl,l2,ol,rfl,gt⟩:=As.Dd C a2 7 J;have ol: G 7=some [l2]:=ol;have F: Step w0 H L w pm (l2::em::(eO fe 35 (wA bc))::a7::qg::i7::gh):=by
        have Y:=F;unfold As.aents at Y;simp only [List.flatMap_cons,List.flatMap_nil,As.conE,show s5 7=none from rfl,ol,Option.isSome_some,Option.getD_some,cond_true,cond_false,List.cons_append,List.nil_append,List.append_nil] at Y;exact Y
       refine any1 (i:=8) j1 J J (av C J J fun a C=>?_);refine any1 (i:=9) j1 J J (ac (f:=1) (o2:=1) T46 T37 J J J J C J J fun a C=>?_);refine any1 (i:=10) j1 J J (ak (cs':=(hA p jn ((bz++([bc]: List Wd)).length) kl g7 bs.length gm)) T37 F (i:=4) J C J J J J J J fun a w F C=>?_);refine any0 j1 ?_;refine ao (ret0 J C ?_);have F:=F.fd [2,0,2,0,2,0,3,2,3] J;rw [free_no n3] at ln;exact⟨_,_,_,_,_,SR.back x.a lt,by first | omega |(simp only [List.length_append,List.length_cons,List.length_nil];omega),by first | omega |(simp only [List.length_append,List.length_cons,List.length_nil];omega),⟨_,_,rfl,⟨_,_,_,_,_,_,rfl,gt,nf⟩,ln⟩,rfl,F⟩
     ·refine ah C J (wp_seq (ab (lin J (bn (i:=kk) (j:=5) C J J J fun a C=>?_))));refine Ls J C fun a C=>?_;refine wpList_nil (aa (an (t:=231) C J (fun qk C=>?_) (fun qk C=>?_)))
      ·refine ap C J (wp_seq (ab (Lm J C fun a C=>?_)));refine lin J (ac (f:=1) (o2:=1) T32 T3 J J J J C J J fun a C=>?_);refine lin J (af (v:=(iV x.a)) T3 J C J (F.blkL 0 J) J J fun a C=>?_);have xk: HM q p ws bs h (b1::ay::a9::b2):=⟨[b1,ay,a9],b2,rfl,⟨_,_,_,_,_,_,rfl,d8,d0⟩,bj⟩;obtain⟨⟨a4,b6⟩,hh⟩: ∃ bp,takeP ws x.a=bp:=⟨_,rfl⟩;have F3: b6.length<=ws.length:=by have Y:=bw ws x.a;rw [hh] at Y;first | exact Y | exact Nat.le_of_eq Y
       have zd:=bS (F.tail [a7]) xk j0 j0 hh;refine lin J (Co func14 C J (zd) ?_);rintro e w ⟨De,rfl,xl,yi⟩;refine⟨_,rfl,fun a C=>?_⟩;have F:=F.frameR [a7] yi;obtain⟨_,e8,rfl,⟨dv,dz,f4,fk,cl,d3,rfl,ja,j9⟩,x4⟩:=xl;have Eq:=Row.cap ja;have Ef:=Row.cap j9;refine lin J (aE (cs:= #[(iV 0),(iV 0),(.string (⟨#[]⟩)),(.bool false)]) T35 F C J J fun dw a w F C=>?_);refine lin J (ak (cs':=(wA a4)) T35 F (i:=0) J C J J J J J J fun a w F C=>?_);refine wpList_nil (aa (wp_seq ?_))
       let pb:=(As.il [(5,e8)])
       let lx:=(As.sl [])
       let r:List Ent:=[(eO dw 35 (wA a4)),a7,(eO q 46 (hA p dv b6.length dz f4 bs.length fk)),cl,d3];have F: Step w0 H L w H (e8++ r):=Step.perm (show Step w0 H L w H (r++e8) from F) (List.perm_append_comm (l₁:= r) (l₂:=e8));have bo:=F;let q8:List Ent:=[(eO dw 35 (wA a4)),a7,(eO q 46 (hA p dv b6.length dz f4 bs.length fk)),cl,d3];refine As.c_draw_head (ini:=pb) (sup:=lx) (als:= [5]) (s0:=⟨H,fun _=>none⟩) (L:= q8) (N:=480) (E:= [(0,(pB q)),(3,(pB ct)),(15,(pB dw))]) 12 [FcV (pB q),FcV (pB q),FcV (pB q),FcV (pB p),FcV (.agg (wA a4)),fun s v=> ∃(A: Option Addr) (c: Nat) (en: Ent) (L': List Ent),s.ax 5=some (en::L')/\v=(.tuple #[(.string ((partsS (HS.S h) a4).1)),(.slice A (((partsS (HS.S h) a4).2.1).length) c),(iV ((partsS (HS.S h) a4).2.2))])/\Row (.slice A ((partsS (HS.S h) a4).2.1).length c) en 35 4 ((partsS (HS.S h) a4).2.1).length (gfl Wd.cells ((partsS (HS.S h) a4).2.1))/\HK p h L',fun s v=> ∃(A: Option Addr) (c: Nat) (en: Ent) (L': List Ent),s.ax 5=some (en::L')/\v=(.tuple #[(.string ((partsS (HS.S h) a4).1)),(.slice A (((partsS (HS.S h) a4).2.1).length) c),(iV ((partsS (HS.S h) a4).2.2))])/\Row (.slice A ((partsS (HS.S h) a4).2.1).length c) en 35 4 ((partsS (HS.S h) a4).2.1).length (gfl Wd.cells ((partsS (HS.S h) a4).2.1)),FcV (.string ((partsS (HS.S h) a4).1)),fun s v=> ∃(A: Option Addr) (c: Nat) (en: Ent) (L': List Ent),s.ax 5=some (en::L')/\v=(.slice A (((partsS (HS.S h) a4).2.1).length) c)/\Row (.slice A ((partsS (HS.S h) a4).2.1).length c) en 35 4 ((partsS (HS.S h) a4).2.1).length (gfl Wd.cells ((partsS (HS.S h) a4).2.1)),FcV (iV ((partsS (HS.S h) a4).2.2)),FcV (.string ((partsS (HS.S h) a4).1)),fun s v=> ∃(A: Option Addr) (c: Nat) (en: Ent) (L': List Ent),s.ax 5=some (en::L')/\v=(.slice A (((partsS (HS.S h) a4).2.1).length) c)/\Row (.slice A ((partsS (HS.S h) a4).2.1).length c) en 35 4 ((partsS (HS.S h) a4).2.1).length (gfl Wd.cells ((partsS (HS.S h) a4).2.1))] mixed j1 j1 j1 j7 (fun _=>rfl) (show Step w0 H L w H ((e8++ [])++ q8) from by simpa only [List.nil_append,List.append_nil,List.cons_append,List.append_assoc] using F) (C.pk J) (As.QuietsI.c4 ?_ ?_ ?_ ?_ (As.QuietsI.c4 ?_ ?_ ?_ ?_ (As.QuietsI.c4 ?_ ?_ ?_ ?_ (As.QuietsI.nil)))) (fun bm a w ba X F C a2=>?_)
       ·refine As.Qx J fun a w O G Z V F C T X=>?_;have I:=F;exact aj C J J fun a C=>As.ql C I
       ·refine As.Qx1 0 J fun a w O G Z V F C T X=>?_;have I:=F;exact av C J J fun a C=>As.ql C I
       ·refine As.Qx1 1 J fun a w O G Z V F C T X=>?_;have I:=F;exact ac (f:=0) (o2:=0) T46 T44 J J J J C J J fun a C=>As.ql C I
       ·refine As.Qx1 2 J fun a w O G Z V F C T X=>?_;have I:=F;have F:=Step.dropN _ _ F;exact af (v:=(pB p)) T44 J C J (F.blkL 2 J) J J fun a C=>As.ql C I
       ·refine As.Qx J fun a w O G Z V F C T X=>?_;have I:=F;have F:=Step.dropN _ _ F;exact al (vs:=(wL a4)) T35 J C J (F.blkL 0 J) J (ag J) J fun a C=>As.ql C I
       ·refine As.Qx1 3 J fun a w O G Z V F C T X=>?_;obtain⟨_,C,rfl⟩:=T.g C 4 J;have bi: As.aents pb lx [5] G=(e8):=by
         unfold As.aents;simp only [List.flatMap_cons,List.flatMap_nil,As.conE,show lx 5=none from rfl,show pb 5=e8 from rfl,V,Option.isSome_some,Option.isSome_none,Option.getD_some,Option.getD_none,cond_true,cond_false,List.append_nil,List.nil_append]
        have F: Step w0 H L w O ((e8)++_):=As.opn (s:=⟨O,G⟩) [] [5] [] (e8) J bi F;have F:=Step.perm F (List.perm_append_comm (l₁:=e8) (l₂:=_));have zf:=c_Parts (F.tail (_)) x4 hdi.ok (x:=a4);refine id (Co func49 C J (zf) ?_);rintro e w ⟨Cl,ma,dt,dx,bu,rfl,cz,x5,rq⟩;refine⟨_,rfl,fun a C=>?_⟩;have F:=Step.perm (F.frameR (_) rq) List.perm_middle;have F:=Step.perm F (List.Perm.cons _ (List.perm_append_comm (l₁:=_) (l₂:=ma)))
        skip
        exact As.qown (i:=5) (dst:=some 243) (s:=⟨O,G⟩) (E:=(bu::ma)) [] [5] [] J J V rq.le C.dfr (As.has_at C) F As.con1 ⟨dt,dx,bu,ma,rfl,rfl,cz,x5⟩
       ·refine As.Qx J fun a w O G Z V F C T X=>?_;obtain⟨_,C,dt,dx,bu,cx,fz,rfl,cz,iv⟩:=T.g C 5 J;have fz: G 5=some (bu::cx):=fz;have eq:=fz;have I:=F;refine id (aj C J J fun a C=>?_);exact As.qdone (s:=⟨O,G⟩) (Le.refl _) C I ⟨_,_,_,_,eq,rfl,cz⟩
       ·refine As.Qx J fun a w O G Z V F C T X=>?_;obtain⟨_,C,dt,dx,lj,k8,eq,rfl,cz⟩:=T.g C 6 J;have I:=F;exact ad (v:=(.string ((partsS (HS.S h) a4).1))) C J J J fun a C=>As.ql C I
       ·refine As.Qx J fun a w O G Z V F C T X=>?_;obtain⟨_,C,dt,dx,lj,k8,eq,rfl,cz⟩:=T.g C 6 J;have I:=F;refine id (ad (v:=(.slice dt (((partsS (HS.S h) a4).2.1).length) dx)) C J J J fun a C=>?_);exact As.qdone (s:=⟨O,G⟩) (Le.refl _) C I ⟨_,_,_,_,eq,rfl,cz⟩
       ·refine As.Qx J fun a w O G Z V F C T X=>?_;obtain⟨_,C,dt,dx,lj,k8,eq,rfl,cz⟩:=T.g C 6 J;have I:=F;exact ad (v:=(iV ((partsS (HS.S h) a4).2.2))) C J J J fun a C=>As.ql C I
       ·refine As.Qx1 7 J fun a w O G Z V F C T X=>?_;have I:=F;exact aH C J J fun a C=>As.ql C I
       ·refine As.Qx J fun a w O G Z V F C T X=>?_;obtain⟨_,C,dt,dx,lj,k8,eq,rfl,cz⟩:=T.g C 8 J;have I:=F;refine id (aH C J J fun a C=>?_);exact As.qdone (s:=⟨O,G⟩) (Le.refl _) C I ⟨_,_,_,_,eq,rfl,cz⟩
       obtain⟨e7,G⟩:=ba;have Fi: Le H e7:=X.le;dsimp only at a2 F;obtain⟨_,cd,dt,dx,bu,cx,fz,rfl,cz,iv⟩:=a2 5 _ _ J J;have fz: G 5=some (bu::cx):=fz;obtain⟨_,C,rfl⟩:=As.Dd C a2 9 J;obtain⟨_,C,rfl⟩:=As.Dd C a2 10 J;obtain⟨_,C,dt,dx,lj,k8,eq,rfl,cz⟩:=As.Dd C a2 11 J;have ep:=Option.some.inj (eq.symm.trans fz);rw [(List.cons.inj ep).1] at cz;have F: Step w0 H L w e7 (bu::cx++ [(eO dw 35 (wA a4)),a7,(eO q 46 (hA p dv b6.length dz f4 bs.length fk)),cl,d3]):=by
        have Y:=F;unfold As.aents at Y;simp only [List.flatMap_cons,List.flatMap_nil,As.conE,show lx 5=none from rfl,fz,List.append_assoc,Option.isSome_some,Option.getD_some,cond_true,cond_false,List.cons_append,List.nil_append,List.append_nil] at Y;exact Y
       have F:=Step.perm F (List.Perm.cons _ (List.perm_append_comm (l₁:=cx) (l₂:= [(eO dw 35 (wA a4)),a7,(eO q 46 (hA p dv b6.length dz f4 bs.length fk)),cl,d3])));refine any1 (i:=12) j1 J J (aH C J J fun a C=>?_);refine any0 j1 ?_;refine aa (wp_seq ?_);have Ay:=parts_len lo a4;refine ab (lin J (ac (f:=0) (o2:=0) T35 T3 J J J J C J J fun a C=>?_));refine lin J (af (v:=(iV a4.tag)) T3 J C J (F.blkL 1 J) J J fun a C=>?_);refine lin J (bn (i:=a4.tag) (j:=5) C J J J fun a C=>?_);refine Lm J C fun a C=>?_;let M:=(eO q 46 (hA p dv b6.length dz f4 bs.length fk));let cc:=(eO dw 35 (wA a4));refine an (t:=250) C J (fun vy C=>?_) (fun vy C=>?_)
       ·refine ae J C J J J (ac (f:=3) (o2:=3) T35 T4 J J J J C J J fun a C=>?_);refine ae J C J J J (af (v:=(.bool a4.one)) T4 J C J (F.blkL 1 J) J J fun a C=>?_);refine lin J (aq C J J J fun a C=>?_);refine Lm J C fun a C=>?_;refine au (t:=254) C J (fun mz C=>?_) (fun mz C=>?_)
        ·refine ae J C J J J (aj C J J fun a C=>?_);refine ae J C J J J (bn (i:=((partsS (HS.S h) a4).2.2)) (j:=0) C J J J fun a C=>?_);refine lin J (aq C J J J fun a C=>?_);refine wpList_nil (aa (an (t:=257) C J (fun vz C=>?_) (fun vz C=>?_)))
         ·refine ap C J (wp_seq (ab (Ls J C fun a C=>?_)));refine wpList_nil (aa (wp_seq (wp_seq ?_)));have xm: HM q p b6 bs h (M::cl::d3::cx):=⟨[M,cl,d3],cx,rfl,⟨_,_,_,_,_,_,rfl,ja,j9⟩,iv⟩;refine ab (Lm J C fun a C=>?_);refine lin J (aI T37.und C J J fun a C=>?_);refine Lm J C fun a C=>?_;refine wpList_nil (aa (wp_block ?_));have F:=F.cons_none (en:=noEnt) J;refine a6 (fun Bp a w=> ∃(m9: PHeap),∃(k: Nat),∃(bt: List Int),∃(mi: List Ent),∃(ca: List Wd),∃(iu: Ent),∃(ie: Option Addr),∃(ip: Nat),Le e7 m9/\Bp=(((partsS (HS.S h) a4).2.1).length) - k/\Has [] a 480 [(0,(pB q)),(3,(pB ct)),(15,(pB dw)),(17,(.slice dt (((partsS (HS.S h) a4).2.1).length) dx)),(19,(.slice ie ca.length ip)),(259,(iV ((((partsS (HS.S h) a4).2.1).length: Nat): Int))),(260,(iV ((k: Nat): Int)))]/\Step w0 H L w m9 (iu::bu::cc::a7::mi)/\(Row (.slice ie ca.length ip) iu 35 4 ca.length (gfl Wd.cells ca))/\(ca=(takeK b6 bt).1)/\(HM q p (takeK b6 bt).2 bs h mi)/\(bt.length=k)/\(k<=((partsS (HS.S h) a4).2.1).length)) _ ⟨e7,0, [],(M::cl::d3::cx), [],noEnt,none,0,Le.refl _,rfl,C.pk J,F,(Row.nil _ _),rfl,xm,rfl,j0⟩ ?_;intro Gh a w zb;obtain⟨m9,k,bt,mi,ca,iu,ie,ip,A8,Ge,C,F,rf,lr,hM,rv,F2⟩:=zb;have A6:=dP bt b6;have Gg: ca.length=k:=by rw [lr,A6.1,rv]
          refine wp_seq (ab (lin J (bl (i:=((k: Nat): Int)) (j:=((((partsS (HS.S h) a4).2.1).length: Nat): Int)) C J J J fun a C=>?_)));refine wpList_nil (aa (wp_seq (an (t:=261) C J (fun w1 C=>?_) (fun w1 C=>?_))))
          ·refine ap C J (wp_skip (aa (wp_seq (wp_block (wp_seq (ab (Lm J C fun a C=>?_)))))));refine Ls J C fun a C=>?_;refine wpList_nil (aa (ab (Lm J C fun a C=>?_)));refine Lm J C fun a C=>?_;refine lin J (ac (f:=2) (o2:=2) T32 T3 J J J J C J J fun a C=>?_);refine lin J (af (v:=(iV x.b)) T3 J C J (F.blkL 3 J) J J fun a C=>?_);refine Lm J C fun a C=>?_;refine lin J (o_addw (kk:=.i64) (i:=x.b) (j:=((k: Nat): Int)) C J J J fun a C=>?_);obtain⟨⟨hn,Cc⟩,ls⟩: ∃ bp,takeP ((takeK b6 bt).2) (IntKind.i64.wrap (x.b+((k: Nat): Int)))=bp:=⟨_,rfl⟩;have F4: Cc.length<=((takeK b6 bt).2).length:=by have Y:=bw ((takeK b6 bt).2) (IntKind.i64.wrap (x.b+((k: Nat): Int)));rw [ls] at Y;first | exact Y | exact Nat.le_of_eq Y
           have zg:=bS (F.tail [iu,bu,cc,a7]) hM j0 j0 ls;refine lin J (Co func14 C J (zg) ?_);rintro e w ⟨sr,rfl,xn,yj⟩;refine⟨_,rfl,fun a C=>?_⟩;have F:=F.frameR [iu,bu,cc,a7] yj;refine lin J (aY (vs:= [(0,(.agg (wA hn)))]) (cells:=(wL hn)) T37.und T35 F C (C.evp J) J J J J fun Dq a w F C=>?_);obtain⟨sq,F,A9,yg⟩:=F.give;obtain⟨th,Br,uu,u7,ve,qo,wd⟩:=(RowG.of_lit Wd.len ([hn]: List Wd) yg j3 J).2.2;refine lin J (aJ (news:=(gfl Wd.cells ([hn]: List Wd))) (xs:=(gfl Wd.cells ca)) T37.und T35 J J F rf C J J (aw Wd.len _) (fun b9=>⟨th,Br,uu,u7,ve,(qo (fun Y=>b9 (by rw [Y];rfl))).1,F.blkH (qo (fun Y=>b9 (by rw [Y];rfl))).2,fun j u bg=>a8 Wd.len j4 wd bg⟩) (aT Wd.one' _) j0 J J fun Gj us a w iy F C=>?_);rw [<- aF] at iy;obtain⟨m4,mt,rfl⟩:=iy.slice;have b4:(ca.length+1)=(ca++([hn]: List Wd)).length:=by have Y:=iy.1;rw [aw Wd.len] at Y;omega
           rw [show Value.slice m4 (ca.length+1) mt=Value.slice m4 (ca++([hn]: List Wd)).length mt from by rw [b4]] at C;rw [b4] at iy;refine Ls J C fun a C=>?_;refine wpList_nil (ao (aa (ab (lin J (aL (i:=((k: Nat): Int)) (j:=1) C J J J j0 fun a C=>?_)))));refine Lm J C fun a C=>?_;refine wpList_nil (aa (?_));exact⟨(((partsS (HS.S h) a4).2.1).length) - (k+1),by omega,sq,(k+1),(bt++ [(IntKind.i64.wrap (x.b+((k: Nat): Int)))]),sr,(ca++([hn]: List Wd)),us,m4,mt,(A8.trans (A9)),rfl,C.pk J,F,iy,(by rw [dZ,ls,lr]),(by rw [dZ,ls];exact xn),(by rw [List.length_append,rv];rfl),j0⟩
          ·refine ah C J (wp_exit (az (az (aN (aa (wp_seq ?_))))));obtain⟨_,e9,rfl,⟨ii,it,ig,iq,eo,ek,rfl,rl,rg⟩,x6⟩:=hM;have Er:=Row.cap rl;have Eg:=Row.cap rg;obtain⟨ik,F,Fj,n5⟩:=rowW_release rf (F.front 0 J) j0;have ry:=hdi.reuse_ok (l:=(partsS h.S a4).2.1) hh j0 (by simpa using mz) j0 J (show bt.length=(partsS h.S a4).2.1.length by omega);have oi:=ry;unfold gS at oi;rw [<- lr] at oi
           let pc:=(As.il [(6,e9)])
           let ic:=(As.sl [(10,11)])
           let mq:=(eO q 46 (hA p ii (((takeK b6 bt).2).length) it ig bs.length iq));have F: Step w0 H L w ik (e9++ [bu,cc,a7,mq,eo,ek]):=Step.perm (show Step w0 H L w ik ([bu,cc,a7,mq,eo,ek]++e9) from F) (List.perm_append_comm (l₁:= [bu,cc,a7,mq,eo,ek]) (l₂:=e9));have bo:=F;let qa:=(eO q 46 (hA p ii (((takeK b6 bt).2).length) it ig bs.length iq));refine As.c_draw_head (ini:=pc) (sup:=ic) (als:= [6,10,11]) (s0:=⟨ik,fun _=>none⟩) (L:= [bu,cc,a7,qa,eo,ek]) (N:=480) (E:= [(0,(pB q)),(15,(pB dw)),(17,(.slice dt (((partsS (HS.S h) a4).2.1).length) dx)),(19,(.slice ie ca.length ip))]) 12 [FcV (pB q),FcV (pB q),FcV (pB q),FcV (pB p),FcV (.agg (wA a4)),FcV (.slice ie ca.length ip),fun s v=> ∃ L',s.ax 6=some L'/\v=(.tuple #[(.agg (wA a4)),(iV 0)])/\HK p (h.reuse a4 (⟨#[103]⟩) ca).1 L',FcV (.tuple #[(.agg (wA a4)),(iV 0)]),FcV (.agg (wA a4)),FcV (iV 0),fun s v=> ∃ b,s.ax 10=some [(eO b 35 #[(iV 0),(iV 0),(.string (⟨#[]⟩)),(.bool false)])]/\v=.pointer (some ⟨b,0,none⟩),fun s _=> ∃(b: Nat),s.ax 10=some [(eO b 35 #[(iV 0),(iV 0),(.string (⟨#[]⟩)),(.bool false)])]/\s.ax 11=some [(eO b 35 (wA a4))]] mixed j1 j1 j1 (by repeat' (first | exact As.Monos.nil | refine As.Monos.cons ?_ ?_ |(intro _ _ _ hl h;exact h) |(rintro _ _ _ hl ⟨A,c,h,hr⟩;exact⟨A,c,h,hr.mono hl.le⟩) |(rintro _ _ _ hl ⟨b,h,e3⟩;exact⟨b,h,hl.le _ _ e3⟩) | exact fun _ _ _ hl ⟨L',h,e,bj⟩=>⟨L',hl.get h,e,bj⟩ | exact fun _ _ _ hl ⟨b,h,e⟩=>⟨b,hl.get h,e⟩ | exact fun _ _ _ hl ⟨b,h1,h2⟩=>⟨b,hl.get h1,hl.get h2⟩)) (fun _=>rfl) (show Step w0 H L w ik ((e9++([]++([]++ [])))++ [bu,cc,a7,qa,eo,ek]) from by simpa only [List.nil_append,List.append_nil,List.cons_append,List.append_assoc] using F) (C.pk J) (As.QuietsI.c4 ?_ ?_ ?_ ?_ (As.QuietsI.c4 ?_ ?_ ?_ ?_ (As.QuietsI.c4 ?_ ?_ ?_ ?_ (As.QuietsI.nil)))) (fun bm a w ba X F C a2=>?_)
           ·refine As.Qx J fun a w O G Z V F C T X=>?_;have I:=F;exact aj C J J fun a C=>As.ql C I
           ·refine As.Qx1 0 J fun a w O G Z V F C T X=>?_;have I:=F;exact av C J J fun a C=>As.ql C I
           ·refine As.Qx1 1 J fun a w O G Z V F C T X=>?_;have I:=F;exact ac (f:=0) (o2:=0) T46 T44 J J J J C J J fun a C=>As.ql C I
           ·refine As.Qx1 2 J fun a w O G Z V F C T X=>?_;have I:=F;have F:=Step.dropN _ _ F;exact af (v:=(pB p)) T44 J C J (F.blkL 3 J) J J fun a C=>As.ql C I
           ·refine As.Qx J fun a w O G Z V F C T X=>?_;have I:=F;have F:=Step.dropN _ _ F;exact al (vs:=(wL a4)) T35 J C J (F.blkL 1 J) J (ag J) J fun a C=>As.ql C I
           ·refine As.Qx J fun a w O G Z V F C T X=>?_;have I:=F;exact aj C J J fun a C=>As.ql C I
           ·refine As.Qx1 3 J fun a w O G Z V F C T X=>?_;obtain⟨_,C,rfl⟩:=T.g C 4 J;obtain⟨_,C,rfl⟩:=T.g C 5 J;have n5:=n5.mono Z;have bi: As.aents pc ic [6] G=(e9):=by
             unfold As.aents;simp only [List.flatMap_cons,List.flatMap_nil,As.conE,show ic 6=none from rfl,show pc 6=e9 from rfl,V,Option.isSome_some,Option.isSome_none,Option.getD_some,Option.getD_none,cond_true,cond_false,List.append_nil,List.nil_append]
            have F: Step w0 H L w O ((e9)++_):=As.opn (s:=⟨O,G⟩) [] [6] [10,11] (e9) J bi F;have F:=Step.perm F (List.perm_append_comm (l₁:=e9) (l₂:=_));have od:=c_Reuse (F.tail (_)) x6 hdi.ok ((RdG.of_data F.inv n5).fewer (bx (_))) (x:=a4) (s:=⟨#[103]⟩);rw [oi] at od;dsimp only at od;refine id (Co func50 C J (od) ?_);rintro e w ⟨mb,rfl,x7,yk⟩;refine⟨_,rfl,fun a C=>?_⟩;have F:=F.frameR (_) yk;have Ea: HS.Ok ((h.reuse a4 (⟨#[103]⟩) ca).1):=HS.Ok.reuse hdi.ok _ _ _;have F:=Step.perm F (List.perm_append_comm (l₁:=_) (l₂:=mb))
            skip
            exact As.qown (i:=6) (dst:=some 280) (s:=⟨O,G⟩) (E:=(mb)) [] [6] [10,11] J J V (Le.refl _) C.dfr (As.has_at C) F As.con1 ⟨mb,rfl,rfl,x7⟩
           ·refine As.Qx J fun a w O G Z V F C T X=>?_;obtain⟨_,C,hz,lv,rfl,r9⟩:=T.g C 6 J;have I:=F;exact aj C J J fun a C=>As.ql C I
           ·refine As.Qx1 7 J fun a w O G Z V F C T X=>?_;have I:=F;exact ad (v:=(.agg (wA a4))) C J J J fun a C=>As.ql C I
           ·refine As.Qx1 7 J fun a w O G Z V F C T X=>?_;have I:=F;exact ad (v:=(iV 0)) C J J J fun a C=>As.ql C I
           ·refine As.Qx J fun a w O G Z V F C T X=>?_;have F: Step w0 H L w O (_):=As.opn (s:=⟨O,G⟩) [6] [10] [11] [] J (As.con0 V J) F;refine aE (cs:= #[(iV 0),(iV 0),(.string (⟨#[]⟩)),(.bool false)]) T35 F C J J fun cp a w F C=>?_;exact As.qown (i:=10) (dst:=some 21) (s:=⟨O,G⟩) (E:= [(eO cp 35 #[(iV 0),(iV 0),(.string (⟨#[]⟩)),(.bool false)])]) [6] [10] [11] J J V (Le.refl _) C.dfr (As.has_at C) F As.con1 ⟨cp,rfl,rfl⟩
           ·refine As.Qx J fun a w O G Z V F C T X=>?_;obtain⟨_,C,cp,es,rfl⟩:=T.g C 10 J;have es: G 10=some [(eO cp 35 #[(iV 0),(iV 0),(.string (⟨#[]⟩)),(.bool false)])]:=es;obtain⟨_,C,rfl⟩:=T.g C 8 J;have F: Step w0 H L w O ((eO cp 35 #[(iV 0),(iV 0),(.string (⟨#[]⟩)),(.bool false)])::_):=As.opn (s:=⟨O,G⟩) [6] [10,11] [] [(eO cp 35 #[(iV 0),(iV 0),(.string (⟨#[]⟩)),(.bool false)])] J (As.con2 J J J es V) F;refine id (ak (cs':=(wA a4)) T35 F (i:=0) J C J J J J J J fun a w F C=>?_);exact As.qown (i:=11) (dst:=none) (s:=⟨O,G⟩) (E:= [(eO cp 35 (wA a4))]) [6] [10,11] [] J J V (Le.refl _) C.dfr (v:=undef) (fun _ h=>by cases h) F (.inl (As.con2' J J)) ⟨cp,es,rfl⟩
           obtain⟨pn,G⟩:=ba;have Fk: Le ik pn:=X.le;dsimp only at a2 F;obtain⟨_,cd,hz,lv,rfl,r9⟩:=a2 6 _ _ J J;have lv: G 6=some (hz):=lv;obtain⟨_,C,rfl⟩:=As.Dd C a2 9 J;obtain⟨_,C,cp,es,rfl⟩:=As.Dd C a2 10 J;have es: G 10=some [(eO cp 35 #[(iV 0),(iV 0),(.string (⟨#[]⟩)),(.bool false)])]:=es;obtain⟨_,cd,s1,Az,p7⟩:=a2 11 _ _ J J;have p7: G 11=some [(eO s1 35 (wA a4))]:=p7;obtain rfl: cp=s1:=by have Y:=(es).symm.trans Az;simpa using Y
           have F: Step w0 H L w pn (hz++ [(eO cp 35 (wA a4)),bu,cc,a7,(eO q 46 (hA p ii (((takeK b6 bt).2).length) it ig bs.length iq)),eo,ek]):=by
            have Y:=F;unfold As.aents at Y;simp only [List.flatMap_cons,List.flatMap_nil,As.conE,show ic 6=none from rfl,show ic 10=some 11 from rfl,show ic 11=none from rfl,lv,es,p7,List.append_assoc,Option.isSome_some,Option.getD_some,cond_true,cond_false,List.cons_append,List.nil_append,List.append_nil] at Y;exact Y
           have F:=Step.perm F (List.perm_append_comm (l₁:=hz) (l₂:= [(eO cp 35 (wA a4)),bu,cc,a7,(eO q 46 (hA p ii (((takeK b6 bt).2).length) it ig bs.length iq)),eo,ek]));have Eb: HS.Ok ((h.reuse a4 (⟨#[103]⟩) ca).1):=HS.Ok.reuse hdi.ok _ _ _;refine any1 (i:=12) j1 J J (aH C J J fun a C=>?_);refine any0 j1 ?_;refine aa (wp_seq (ab (Lm J C fun a C=>?_)));refine lin J (al (vs:=(wL a4)) T35 J C J (F.blkL 0 J) J (ag J) J fun a C=>?_);refine Lm J C fun a C=>?_;let qd:=(eO q 46 (hA p ii (((takeK b6 bt).2).length) it ig bs.length iq));have xo: HM q p ((takeK b6 bt).2) bs ((h.reuse a4 (⟨#[103]⟩) ca).1) (qd::eo::ek::hz):=⟨[qd,eo,ek],hz,rfl,⟨_,_,_,_,_,_,rfl,rl,rg⟩,r9⟩;have zh:=f6 (F.tail [(eO cp 35 (wA a4)),bu,cc,a7]) xo j0 j0 (x:=a4) (e0:=0);refine lin J (Co func44 C J (zh) ?_);rintro e w ⟨Cn,Df,rfl,xp,yl⟩;refine⟨_,rfl,fun a C=>?_⟩;have F:=F.frameR [(eO cp 35 (wA a4)),bu,cc,a7] yl;have Gb:=eM ((takeK b6 bt).2) a4 0;obtain⟨_,Dm,rfl,⟨sp,ur,pl,qi,E6,Dy,rfl,rm,rh⟩,x8⟩:=xp;have Et:=Row.cap rm;have Eh:=Row.cap rh;refine wpList_nil (aa (wp_seq (ab (Lm J C fun a C=>?_))));refine Lm J C fun a C=>?_;refine lin J (av C J J fun a C=>?_);refine lin J (ac (f:=1) (o2:=1) T46 T37 J J J J C J J fun a C=>?_);refine lin J (af (v:=(.slice sp ((holdP ((takeK b6 bt).2) a4 0).length) ur)) T37 J C J (F.blkL 4 J) J J fun a C=>?_);refine Lm J C fun a C=>?_;have F:=F.front 5 J;refine lin J (aJ (news:=(gfl Wd.cells ((partsS (HS.S h) a4).2.1))) (xs:=(gfl Wd.cells (holdP ((takeK b6 bt).2) a4 0))) T37.und T35 J J F rm C J J (cz.1) (fi (i:=2) F.inv J cz) (aT Wd.one' _) j0 J J fun Gl E2 a w iz F C=>?_);rw [<- aF] at iz;obtain⟨jo,km,rfl⟩:=iz.slice;have b4:((holdP ((takeK b6 bt).2) a4 0).length+((partsS (HS.S h) a4).2.1).length)=((holdP ((takeK b6 bt).2) a4 0)++((partsS (HS.S h) a4).2.1)).length:=by have Y:=iz.1;rw [aw Wd.len] at Y;omega
           rw [show Value.slice jo ((holdP ((takeK b6 bt).2) a4 0).length+((partsS (HS.S h) a4).2.1).length) km=Value.slice jo ((holdP ((takeK b6 bt).2) a4 0)++((partsS (HS.S h) a4).2.1)).length km from by rw [b4]] at C;rw [b4] at iz;refine lin J (av C J J fun a C=>?_);refine lin J (ac (f:=1) (o2:=1) T46 T37 J J J J C J J fun a C=>?_);refine lin J (ak (cs':=(hA p jo (((holdP ((takeK b6 bt).2) a4 0)++((partsS (HS.S h) a4).2.1)).length) km pl bs.length qi)) T37 F (i:=5) J C J J J J J J fun a w F C=>?_);refine wpList_nil (aa (ab (Lm J C fun a C=>?_)));refine Lm J C fun a C=>?_;refine lin J (av C J J fun a C=>?_);refine lin J (ac (f:=3) (o2:=3) T46 T4 J J J J C J J fun a C=>?_);refine lin J (af (v:=(.bool true)) T4 J C J (F.blkL 5 J) J J fun a C=>?_);refine Lm J C fun a C=>?_;refine ae J C J J J (aj C J J fun a C=>?_);refine ae J C J J J (bn (i:=0) (j:=0) C J J J fun a C=>?_);refine lin J (aq C J J J fun a C=>?_);refine lin J (av C J J fun a C=>?_);refine lin J (ac (f:=3) (o2:=3) T46 T4 J J J J C J J fun a C=>?_);refine lin J (ak (cs':= #[(pB p),(.slice jo (((holdP ((takeK b6 bt).2) a4 0)++((partsS (HS.S h) a4).2.1)).length) km),(.slice pl bs.length qi),(.bool (decide (0=0)))]) T4 F (i:=5) J C J J J J J J fun a w F C=>?_);refine wpList_nil (ao (ret0 J C ?_));have F:=F.fd [2,0,2,0,2,0,2,0,3,2,3] J;exact⟨_,_,_,_,_,(by have Y:=SR.reuse (x:=x) (h:=h) (bs:=bs) (l:=(partsS h.S a4).2.1) bt (lu.trans qk) x.a hh j0 (by simpa using mz) j0 J j0;rw [ry,ei,<- lr] at Y;rw [ei];exact Y),by first | omega |(simp only [List.length_append,List.length_cons,List.length_nil];omega),by first | omega |(simp only [List.length_append,List.length_cons,List.length_nil];omega),⟨_,_,rfl,⟨_,_,_,_,_,_,rfl,iz,rh⟩,x8⟩,rfl,F⟩
         ·refine ah C J ?_;have F:=F.front 4 J
          let B6:=(As.il [(7, [cl])])
          let s6:=(As.sl [])
          have bo:=F;refine As.c_draw_head (ini:=B6) (sup:=s6) (als:= [7]) (s0:=⟨e7,fun _=>none⟩) (L:=(bu::cc::a7::M::d3::cx)) (N:=480) (E:= [(0,(pB q)),(15,(pB dw))]) 8 [FcV (pB q),FcV (pB q),FcV (pB q),FcV (.pointer (some ⟨q,1,none⟩)),FcV (.slice dv b6.length dz),FcV (.agg (wA a4)),As.lf (fun H v=> ∃ b,v=.slice (some ⟨b,0,none⟩) 1 1/\H b=some (.cells (wA a4) 35 (0,0))),fun s v=> ∃(A: Option Addr) (c: Nat) (en: Ent),s.ax 7=some [en]/\v=.slice A ((b6++([a4]: List Wd)).length) c/\Row (.slice A ((b6++([a4]: List Wd)).length) c) en 35 4 ((b6++([a4]: List Wd)).length) (gfl Wd.cells (b6++([a4]: List Wd)))] mixed j1 j1 j1 j6 (fun _=>rfl) F (C.pk J) (As.QuietsI.c4 ?_ ?_ ?_ ?_ (As.QuietsI.c4 ?_ ?_ ?_ ?_ (As.QuietsI.nil))) (fun bm a w ba X F C a2=>?_)
          ·refine As.Qx J fun a w O G Z V F C T X=>?_;have I:=F;exact aj C J J fun a C=>As.ql C I
          ·refine As.Qx J fun a w O G Z V F C T X=>?_;have I:=F;exact aj C J J fun a C=>As.ql C I
          ·refine As.Qx1 1 J fun a w O G Z V F C T X=>?_;have I:=F;exact av C J J fun a C=>As.ql C I
          ·refine As.Qx1 2 J fun a w O G Z V F C T X=>?_;have I:=F;exact ac (f:=1) (o2:=1) T46 T37 J J J J C J J fun a C=>As.ql C I
          ·refine As.Qx1 3 J fun a w O G Z V F C T X=>?_;have I:=F;have F:=Step.dropN _ _ F;exact af (v:=(.slice dv b6.length dz)) T37 J C J (F.blkL 3 J) J J fun a C=>As.ql C I
          ·refine As.Qx J fun a w O G Z V F C T X=>?_;have I:=F;have F:=Step.dropN _ _ F;exact al (vs:=(wL a4)) T35 J C J (F.blkL 1 J) J (ag J) J fun a C=>As.ql C I
          ·refine As.Qx1 5 J fun a w O G Z V F C T X=>?_;have I:=F;have c3:=Step.dropN _ _ F;refine id (aY (vs:= [(0,(.agg (wA a4)))]) (cells:=(wL a4)) T37.und T35 F C (C.evp J) J J J J fun sv a w F C=>?_);obtain⟨Cp,F,Ac,nj⟩:=F.give;exact As.qdone (s:=⟨O,G⟩) Ac C F ⟨_,rfl,nj⟩
          ·refine As.Qx1 4 J fun a w O G Z V F C T X=>?_;obtain⟨_,C,sv,rfl,nj⟩:=T.g C 6 J;have F: Step w0 H L w O (cl::_):=As.opn (s:=⟨O,G⟩) [] [7] [] [cl] J (As.con0s V J) F;obtain⟨ti,Bs,uv,u8,vf,qp,we⟩:=(RowG.of_lit Wd.len ([a4]: List Wd) nj j3 J).2.2;refine id (aJ (news:=(gfl Wd.cells ([a4]: List Wd))) (xs:=(gfl Wd.cells b6)) T37.und T35 J J F ja C J J (aw Wd.len _) (fun b9=>⟨ti,Bs,uv,u8,vf,(qp (fun Y=>b9 (by rw [Y];rfl))).1,F.blkH (qp (fun Y=>b9 (by rw [Y];rfl))).2,fun j u bg=>a8 Wd.len j4 we bg⟩) (aT Wd.one' _) j0 J J fun Gm l3 a w gu F C=>?_);rw [<- aF] at gu;obtain⟨jp,kn,rfl⟩:=gu.slice;have b4:(b6.length+1)=(b6++([a4]: List Wd)).length:=by have Y:=gu.1;rw [aw Wd.len] at Y;omega
           rw [show Value.slice jp (b6.length+1) kn=Value.slice jp (b6++([a4]: List Wd)).length kn from by rw [b4]] at C;rw [b4] at gu;exact As.qown (i:=7) (dst:=some 314) (s:=⟨O,G⟩) (E:= [l3]) [] [7] [] J J V (Le.refl _) C.dfr (As.has_at C) F As.con1 ⟨_,_,_,rfl,rfl,gu⟩
          obtain⟨po,G⟩:=ba;have Fl: Le e7 po:=X.le;dsimp only at a2 F;obtain⟨_,C,rfl⟩:=As.Dd C a2 0 J;obtain⟨_,C,jp,kn,l3,om,rfl,gu⟩:=As.Dd C a2 7 J;have om: G 7=some [l3]:=om;have F: Step w0 H L w po (l3::bu::cc::a7::M::d3::cx):=by
           have Y:=F;unfold As.aents at Y;simp only [List.flatMap_cons,List.flatMap_nil,As.conE,show s6 7=none from rfl,om,Option.isSome_some,Option.getD_some,cond_true,cond_false,List.cons_append,List.nil_append,List.append_nil] at Y;exact Y
          refine any1 (i:=8) j1 J J (av C J J fun a C=>?_);refine any1 (i:=9) j1 J J (ac (f:=1) (o2:=1) T46 T37 J J J J C J J fun a C=>?_);refine any1 (i:=10) j1 J J (ak (cs':=(hA p jp ((b6++([a4]: List Wd)).length) kn f4 bs.length fk)) T37 F (i:=4) J C J J J J J J fun a w F C=>?_);refine any0 j1 ?_;refine ao (ret0 J C ?_);have F:=F.fd [2,0,2,0,2,0,3,2,3] J;exact⟨_,_,_,_,_,SR.back x.a hh,by first | omega |(simp only [List.length_append,List.length_cons,List.length_nil];omega),by first | omega |(simp only [List.length_append,List.length_cons,List.length_nil];omega),⟨_,_,rfl,⟨_,_,_,_,_,_,rfl,gu,j9⟩,iv⟩,rfl,F⟩
        ·refine Lf J C J J fun a C=>?_;refine Lf J C J J fun a C=>?_;refine lin J (am C J J J fun a C=>?_);refine wpList_nil (aa (ah C J ?_));have F:=F.front 4 J
         let B7:=(As.il [(7, [cl])])
         let s7:=(As.sl [])
         have bo:=F;refine As.c_draw_head (ini:=B7) (sup:=s7) (als:= [7]) (s0:=⟨e7,fun _=>none⟩) (L:=(bu::cc::a7::M::d3::cx)) (N:=480) (E:= [(0,(pB q)),(15,(pB dw))]) 8 [FcV (pB q),FcV (pB q),FcV (pB q),FcV (.pointer (some ⟨q,1,none⟩)),FcV (.slice dv b6.length dz),FcV (.agg (wA a4)),As.lf (fun H v=> ∃ b,v=.slice (some ⟨b,0,none⟩) 1 1/\H b=some (.cells (wA a4) 35 (0,0))),fun s v=> ∃(A: Option Addr) (c: Nat) (en: Ent),s.ax 7=some [en]/\v=.slice A ((b6++([a4]: List Wd)).length) c/\Row (.slice A ((b6++([a4]: List Wd)).length) c) en 35 4 ((b6++([a4]: List Wd)).length) (gfl Wd.cells (b6++([a4]: List Wd)))] mixed j1 j1 j1 j6 (fun _=>rfl) F (C.pk J) (As.QuietsI.c4 ?_ ?_ ?_ ?_ (As.QuietsI.c4 ?_ ?_ ?_ ?_ (As.QuietsI.nil))) (fun bm a w ba X F C a2=>?_)
         ·refine As.Qx J fun a w O G Z V F C T X=>?_;have I:=F;exact aj C J J fun a C=>As.ql C I
         ·refine As.Qx J fun a w O G Z V F C T X=>?_;have I:=F;exact aj C J J fun a C=>As.ql C I
         ·refine As.Qx1 1 J fun a w O G Z V F C T X=>?_;have I:=F;exact av C J J fun a C=>As.ql C I
         ·refine As.Qx1 2 J fun a w O G Z V F C T X=>?_;have I:=F;exact ac (f:=1) (o2:=1) T46 T37 J J J J C J J fun a C=>As.ql C I
         ·refine As.Qx1 3 J fun a w O G Z V F C T X=>?_;have I:=F;have F:=Step.dropN _ _ F;exact af (v:=(.slice dv b6.length dz)) T37 J C J (F.blkL 3 J) J J fun a C=>As.ql C I
         ·refine As.Qx J fun a w O G Z V F C T X=>?_;have I:=F;have F:=Step.dropN _ _ F;exact al (vs:=(wL a4)) T35 J C J (F.blkL 1 J) J (ag J) J fun a C=>As.ql C I
         ·refine As.Qx1 5 J fun a w O G Z V F C T X=>?_;have I:=F;have c3:=Step.dropN _ _ F;refine id (aY (vs:= [(0,(.agg (wA a4)))]) (cells:=(wL a4)) T37.und T35 F C (C.evp J) J J J J fun sw a w F C=>?_);obtain⟨Cq,F,Ad,nk⟩:=F.give;exact As.qdone (s:=⟨O,G⟩) Ad C F ⟨_,rfl,nk⟩
         ·refine As.Qx1 4 J fun a w O G Z V F C T X=>?_;obtain⟨_,C,sw,rfl,nk⟩:=T.g C 6 J;have F: Step w0 H L w O (cl::_):=As.opn (s:=⟨O,G⟩) [] [7] [] [cl] J (As.con0s V J) F;obtain⟨tl,Bu,ux,ua,vh,qr,wg⟩:=(RowG.of_lit Wd.len ([a4]: List Wd) nk j3 J).2.2;refine id (aJ (news:=(gfl Wd.cells ([a4]: List Wd))) (xs:=(gfl Wd.cells b6)) T37.und T35 J J F ja C J J (aw Wd.len _) (fun b9=>⟨tl,Bu,ux,ua,vh,(qr (fun Y=>b9 (by rw [Y];rfl))).1,F.blkH (qr (fun Y=>b9 (by rw [Y];rfl))).2,fun j u bg=>a8 Wd.len j4 wg bg⟩) (aT Wd.one' _) j0 J J fun Gn l4 a w gv F C=>?_);rw [<- aF] at gv;obtain⟨jq,ko,rfl⟩:=gv.slice;have b4:(b6.length+1)=(b6++([a4]: List Wd)).length:=by have Y:=gv.1;rw [aw Wd.len] at Y;omega
          rw [show Value.slice jq (b6.length+1) ko=Value.slice jq (b6++([a4]: List Wd)).length ko from by rw [b4]] at C;rw [b4] at gv;exact As.qown (i:=7) (dst:=some 314) (s:=⟨O,G⟩) (E:= [l4]) [] [7] [] J J V (Le.refl _) C.dfr (As.has_at C) F As.con1 ⟨_,_,_,rfl,rfl,gv⟩
         obtain⟨pp,G⟩:=ba;have Fm: Le e7 pp:=X.le;dsimp only at a2 F;obtain⟨_,C,rfl⟩:=As.Dd C a2 0 J;obtain⟨_,C,jq,ko,l4,oo,rfl,gv⟩:=As.Dd C a2 7 J;have oo: G 7=some [l4]:=oo;have F: Step w0 H L w pp (l4::bu::cc::a7::M::d3::cx):=by
          have Y:=F;unfold As.aents at Y;simp only [List.flatMap_cons,List.flatMap_nil,As.conE,show s7 7=none from rfl,oo,Option.isSome_some,Option.getD_some,cond_true,cond_false,List.cons_append,List.nil_append,List.append_nil] at Y;exact Y
         refine any1 (i:=8) j1 J J (av C J J fun a C=>?_);refine any1 (i:=9) j1 J J (ac (f:=1) (o2:=1) T46 T37 J J J J C J J fun a C=>?_);refine any1 (i:=10) j1 J J (ak (cs':=(hA p jq ((b6++([a4]: List Wd)).length) ko f4 bs.length fk)) T37 F (i:=4) J C J J J J J J fun a w F C=>?_);refine any0 j1 ?_;refine ao (ret0 J C ?_);have F:=F.fd [2,0,2,0,2,0,3,2,3] J;exact⟨_,_,_,_,_,SR.back x.a hh,by first | omega |(simp only [List.length_append,List.length_cons,List.length_nil];omega),by first | omega |(simp only [List.length_append,List.length_cons,List.length_nil];omega),⟨_,_,rfl,⟨_,_,_,_,_,_,rfl,gv,j9⟩,iv⟩,rfl,F⟩
       ·refine Lf J C J J fun a C=>?_;refine Lf J C J J fun a C=>?_;refine lin J (am C J J J fun a C=>?_);refine Lm J C fun a C=>?_;refine Lf J C J J fun a C=>?_;refine Lf J C J J fun a C=>?_;refine lin J (am C J J J fun a C=>?_);refine wpList_nil (aa (ah C J ?_));have F:=F.front 4 J
        let B8:=(As.il [(7, [cl])])
        let s8:=(As.sl [])
        have bo:=F;refine As.c_draw_head (ini:=B8) (sup:=s8) (als:= [7]) (s0:=⟨e7,fun _=>none⟩) (L:=(bu::cc::a7::M::d3::cx)) (N:=480) (E:= [(0,(pB q)),(15,(pB dw))]) 8 [FcV (pB q),FcV (pB q),FcV (pB q),FcV (.pointer (some ⟨q,1,none⟩)),FcV (.slice dv b6.length dz),FcV (.agg (wA a4)),As.lf (fun H v=> ∃ b,v=.slice (some ⟨b,0,none⟩) 1 1/\H b=some (.cells (wA a4) 35 (0,0))),fun s v=> ∃(A: Option Addr) (c: Nat) (en: Ent),s.ax 7=some [en]/\v=.slice A ((b6++([a4]: List Wd)).length) c/\Row (.slice A ((b6++([a4]: List Wd)).length) c) en 35 4 ((b6++([a4]: List Wd)).length) (gfl Wd.cells (b6++([a4]: List Wd)))] mixed j1 j1 j1 j6 (fun _=>rfl) F (C.pk J) (As.QuietsI.c4 ?_ ?_ ?_ ?_ (As.QuietsI.c4 ?_ ?_ ?_ ?_ (As.QuietsI.nil))) (fun bm a w ba X F C a2=>?_)
        ·refine As.Qx J fun a w O G Z V F C T X=>?_;have I:=F;exact aj C J J fun a C=>As.ql C I
        ·refine As.Qx J fun a w O G Z V F C T X=>?_;have I:=F;exact aj C J J fun a C=>As.ql C I
        ·refine As.Qx1 1 J fun a w O G Z V F C T X=>?_;have I:=F;exact av C J J fun a C=>As.ql C I
        ·refine As.Qx1 2 J fun a w O G Z V F C T X=>?_;have I:=F;exact ac (f:=1) (o2:=1) T46 T37 J J J J C J J fun a C=>As.ql C I
        ·refine As.Qx1 3 J fun a w O G Z V F C T X=>?_;have I:=F;have F:=Step.dropN _ _ F;exact af (v:=(.slice dv b6.length dz)) T37 J C J (F.blkL 3 J) J J fun a C=>As.ql C I
        ·refine As.Qx J fun a w O G Z V F C T X=>?_;have I:=F;have F:=Step.dropN _ _ F;exact al (vs:=(wL a4)) T35 J C J (F.blkL 1 J) J (ag J) J fun a C=>As.ql C I
        ·refine As.Qx1 5 J fun a w O G Z V F C T X=>?_;have I:=F;have c3:=Step.dropN _ _ F;refine id (aY (vs:= [(0,(.agg (wA a4)))]) (cells:=(wL a4)) T37.und T35 F C (C.evp J) J J J J fun sx a w F C=>?_);obtain⟨Cr,F,Ae,nl⟩:=F.give;exact As.qdone (s:=⟨O,G⟩) Ae C F ⟨_,rfl,nl⟩
        ·refine As.Qx1 4 J fun a w O G Z V F C T X=>?_;obtain⟨_,C,sx,rfl,nl⟩:=T.g C 6 J;have F: Step w0 H L w O (cl::_):=As.opn (s:=⟨O,G⟩) [] [7] [] [cl] J (As.con0s V J) F;obtain⟨tm,Bv,uy,ub,vi,qs,wh⟩:=(RowG.of_lit Wd.len ([a4]: List Wd) nl j3 J).2.2;refine id (aJ (news:=(gfl Wd.cells ([a4]: List Wd))) (xs:=(gfl Wd.cells b6)) T37.und T35 J J F ja C J J (aw Wd.len _) (fun b9=>⟨tm,Bv,uy,ub,vi,(qs (fun Y=>b9 (by rw [Y];rfl))).1,F.blkH (qs (fun Y=>b9 (by rw [Y];rfl))).2,fun j u bg=>a8 Wd.len j4 wh bg⟩) (aT Wd.one' _) j0 J J fun Go l5 a w gw F C=>?_);rw [<- aF] at gw;obtain⟨jr,kp,rfl⟩:=gw.slice;have b4:(b6.length+1)=(b6++([a4]: List Wd)).length:=by have Y:=gw.1;rw [aw Wd.len] at Y;omega
         rw [show Value.slice jr (b6.length+1) kp=Value.slice jr (b6++([a4]: List Wd)).length kp from by rw [b4]] at C;rw [b4] at gw;exact As.qown (i:=7) (dst:=some 314) (s:=⟨O,G⟩) (E:= [l5]) [] [7] [] J J V (Le.refl _) C.dfr (As.has_at C) F As.con1 ⟨_,_,_,rfl,rfl,gw⟩
        obtain⟨pq,G⟩:=ba;have Fn: Le e7 pq:=X.le;dsimp only at a2 F;obtain⟨_,C,rfl⟩:=As.Dd C a2 0 J;obtain⟨_,C,jr,kp,l5,op,rfl,gw⟩:=As.Dd C a2 7 J;have op: G 7=some [l5]:=op;have F: Step w0 H L w pq (l5::bu::cc::a7::M::d3::cx):=by
         have Y:=F;unfold As.aents at Y;simp only [List.flatMap_cons,List.flatMap_nil,As.conE,show s8 7=none from rfl,op,Option.isSome_some,Option.getD_some,cond_true,cond_false,List.cons_append,List.nil_append,List.append_nil] at Y;exact Y
        refine any1 (i:=8) j1 J J (av C J J fun a C=>?_);refine any1 (i:=9) j1 J J (ac (f:=1) (o2:=1) T46 T37 J J J J C J J fun a C=>?_);refine any1 (i:=10) j1 J J (ak (cs':=(hA p jr ((b6++([a4]: List Wd)).length) kp f4 bs.length fk)) T37 F (i:=4) J C J J J J J J fun a w F C=>?_);refine any0 j1 ?_;refine ao (ret0 J C ?_);have F:=F.fd [2,0,2,0,2,0,3,2,3] J;exact⟨_,_,_,_,_,SR.back x.a hh,by first | omega |(simp only [List.length_append,List.length_cons,List.length_nil];omega),by first | omega |(simp only [List.length_append,List.length_cons,List.length_nil];omega),⟨_,_,rfl,⟨_,_,_,_,_,_,rfl,gw,j9⟩,iv⟩,rfl,F⟩
      ·refine ah C J (wp_seq (ab (lin J (bn (i:=kk) (j:=6) C J J J fun a C=>?_))));refine Ls J C fun a C=>?_;refine wpList_nil (aa (an (t:=317) C J (fun qm C=>?_) (fun qm C=>?_)))
       ·refine ap C J (wp_seq ?_);obtain⟨⟨a0,jj⟩,fr⟩: ∃ bp,takeP ws x.a=bp:=⟨_,rfl⟩;have F5: jj.length<=ws.length:=by have Y:=bw ws x.a;rw [fr] at Y;first | exact Y | exact Nat.le_of_eq Y
        obtain⟨⟨a1,ar⟩,ft⟩: ∃ bp,takeP jj x.b=bp:=⟨_,rfl⟩;have F6: ar.length<=jj.length:=by have Y:=bw jj x.b;rw [ft] at Y;first | exact Y | exact Nat.le_of_eq Y
        have xq: HM q p ws bs h (b1::ay::a9::b2):=⟨[b1,ay,a9],b2,rfl,⟨_,_,_,_,_,_,rfl,d8,d0⟩,bj⟩
        let d9:=(As.il [(3,(b1::ay::a9::b2))])
        let ci:=(As.sl [(3,7)])
        have F: Step w0 H L w H ((b1::ay::a9::b2)++ [a7]):=Step.perm (show Step w0 H L w H ([a7]++(b1::ay::a9::b2)) from F) (List.perm_append_comm (l₁:= [a7]) (l₂:=(b1::ay::a9::b2)));have bo:=F;refine As.c_draw_head (ini:=d9) (sup:=ci) (als:= [3,7,8,9]) (s0:=⟨H,fun _=>none⟩) (L:= [a7]) (N:=480) (E:= kh) 10 [FcV (pB q),FcV (.pointer (some ⟨ct,1,none⟩)),FcV (iV x.a),fun s v=> ∃ L',s.ax 3=some L'/\v=(.agg (wA a0))/\HM q p jj bs h L',FcV (pB q),FcV (.pointer (some ⟨ct,2,none⟩)),FcV (iV x.b),fun s v=> ∃ L',s.ax 7=some L'/\v=(.agg (wA a1))/\HM q p ar bs h L'/\(s.ax 3).isSome=true,fun s v=> ∃ b,s.ax 8=some [(eO b 35 #[(iV 0),(iV 0),(.string (⟨#[]⟩)),(.bool false)])]/\v=.pointer (some ⟨b,0,none⟩),fun s v=> ∃ b,s.ax 9=some [(eO b 35 #[(iV 0),(iV 0),(.string (⟨#[]⟩)),(.bool false)])]/\v=.pointer (some ⟨b,0,none⟩)] mixed j1 j1 j1 (by repeat' (first | exact As.Monos.nil | refine As.Monos.cons ?_ ?_ |(intro _ _ _ hl h;exact h) |(rintro _ _ _ hl ⟨A,c,h,hr⟩;exact⟨A,c,h,hr.mono hl.le⟩) |(rintro _ _ _ hl ⟨b,h,e3⟩;exact⟨b,h,hl.le _ _ e3⟩) | exact fun _ _ _ hl ⟨L',h,e,bj,Cb⟩=>⟨L',hl.get h,e,bj,hl.some Cb⟩ | exact fun _ _ _ hl ⟨L',h,e,bj⟩=>⟨L',hl.get h,e,bj⟩ | exact fun _ _ _ hl ⟨b,h,e⟩=>⟨b,hl.get h,e⟩)) (fun _=>rfl) (show Step w0 H L w H (((b1::ay::a9::b2)++([]++([]++([]++ []))))++ [a7]) from by simpa only [List.nil_append,List.append_nil,List.cons_append,List.append_assoc] using F) (C.pk J) (As.QuietsI.c4 ?_ ?_ ?_ ?_ (As.QuietsI.c4 ?_ ?_ ?_ ?_ (As.QuietsI.c2 ?_ ?_ (As.QuietsI.nil)))) (fun bm a w ba X F C a2=>?_)
        ·refine As.Qx J fun a w O G Z V F C T X=>?_;have I:=F;exact aj C J J fun a C=>As.ql C I
        ·refine As.Qx J fun a w O G Z V F C T X=>?_;have I:=F;exact ac (f:=1) (o2:=1) T32 T3 J J J J C J J fun a C=>As.ql C I
        ·refine As.Qx1 1 J fun a w O G Z V F C T X=>?_;have I:=F;have F:=Step.dropN _ _ F;exact af (v:=(iV x.a)) T3 J C J (F.blkL 0 J) J J fun a C=>As.ql C I
        ·refine As.Qx1 0 J fun a w O G Z V F C T X=>?_;obtain⟨_,C,rfl⟩:=T.g C 2 J;have rx: G 7=none:=T.late 2 7 j1;have bi: As.aents d9 ci [3,7] G=((b1::ay::a9::b2)):=by
          unfold As.aents;simp only [List.flatMap_cons,List.flatMap_nil,As.conE,show ci 3=some 7 from rfl,show ci 7=none from rfl,show d9 3=(b1::ay::a9::b2) from rfl,show d9 7= [] from rfl,V,rx,Option.isSome_some,Option.isSome_none,Option.getD_some,Option.getD_none,cond_true,cond_false,List.append_nil,List.nil_append]
         have F: Step w0 H L w O (((b1::ay::a9::b2))++_):=As.opn (s:=⟨O,G⟩) [] [3,7] [8,9] ((b1::ay::a9::b2)) J bi F;have F:=Step.perm F (List.perm_append_comm (l₁:=(b1::ay::a9::b2)) (l₂:=_));have zi:=bS (F.tail (_)) xq j0 j0 fr;refine id (Co func14 C J (zi) ?_);rintro e w ⟨hw,rfl,xr,ym⟩;refine⟨_,rfl,fun a C=>?_⟩;have F:=F.frameR (_) ym;have F:=Step.perm F (List.perm_append_comm (l₁:=_) (l₂:=hw));have cf: As.aents d9 ci [3,7] (As.upd G 3 (hw))=(hw):=by
          unfold As.aents;simp only [List.flatMap_cons,List.flatMap_nil,As.conE,show ci 3=some 7 from rfl,show ci 7=none from rfl,show d9 3=(b1::ay::a9::b2) from rfl,show d9 7= [] from rfl,As.upd_at,show As.upd G 3 (hw) 7=G 7 from rfl,rx,Option.isSome_some,Option.isSome_none,Option.getD_some,Option.getD_none,cond_true,cond_false,List.append_nil,List.nil_append]
         exact As.qown (i:=3) (dst:=some 322) (s:=⟨O,G⟩) (E:=(hw)) [] [3,7] [8,9] J J V (Le.refl _) C.dfr (As.has_at C) F (.inl cf) ⟨hw,rfl,rfl,xr⟩
        ·refine As.Qx J fun a w O G Z V F C T X=>?_;have I:=F;exact aj C J J fun a C=>As.ql C I
        ·refine As.Qx J fun a w O G Z V F C T X=>?_;have I:=F;exact ac (f:=2) (o2:=2) T32 T3 J J J J C J J fun a C=>As.ql C I
        ·refine As.Qx1 5 J fun a w O G Z V F C T X=>?_;have I:=F;have F:=Step.dropN _ _ F;exact af (v:=(iV x.b)) T3 J C J (F.blkL 0 J) J J fun a C=>As.ql C I
        ·refine As.Qx1 4 J fun a w O G Z V F C T X=>?_;obtain⟨_,C,rfl⟩:=T.g C 6 J;obtain⟨_,C,gd,ew,rfl,ra⟩:=T.g C 3 J;have ew: G 3=some gd:=ew;have bi: As.aents d9 ci [3,7] G=(gd):=by
          unfold As.aents;simp only [List.flatMap_cons,List.flatMap_nil,As.conE,show ci 3=some 7 from rfl,show ci 7=none from rfl,show d9 3=(b1::ay::a9::b2) from rfl,show d9 7= [] from rfl,V,ew,Option.isSome_some,Option.isSome_none,Option.getD_some,Option.getD_none,cond_true,cond_false,List.append_nil,List.nil_append]
         have F: Step w0 H L w O ((gd)++_):=As.opn (s:=⟨O,G⟩) [] [3,7] [8,9] (gd) J bi F;have F:=Step.perm F (List.perm_append_comm (l₁:=gd) (l₂:=_));have zj:=bS (F.tail (_)) ra j0 j0 ft;refine id (Co func14 C J (zj) ?_);rintro e w ⟨hx,rfl,xt,yn⟩;refine⟨_,rfl,fun a C=>?_⟩;have F:=F.frameR (_) yn;have F:=Step.perm F (List.perm_append_comm (l₁:=_) (l₂:=hx));have cf: As.aents d9 ci [3,7] (As.upd G 7 (hx))=(hx):=by
          unfold As.aents;simp only [List.flatMap_cons,List.flatMap_nil,As.conE,show ci 3=some 7 from rfl,show ci 7=none from rfl,show d9 3=(b1::ay::a9::b2) from rfl,show d9 7= [] from rfl,As.upd_at,show As.upd G 7 (hx) 3=G 3 from rfl,ew,Option.isSome_some,Option.isSome_none,Option.getD_some,Option.getD_none,cond_true,cond_false,List.append_nil,List.nil_append]
         exact As.qown (i:=7) (dst:=some 326) (s:=⟨O,G⟩) (E:=(hx)) [] [3,7] [8,9] J J V (Le.refl _) C.dfr (As.has_at C) F (.inl cf) ⟨hx,rfl,rfl,xt,(congrArg Option.isSome ew)⟩
        ·refine As.Qx J fun a w O G Z V F C T X=>?_;have F: Step w0 H L w O (_):=As.opn (s:=⟨O,G⟩) [3,7] [8] [9] [] J (As.con0 V J) F;refine aE (cs:= #[(iV 0),(iV 0),(.string (⟨#[]⟩)),(.bool false)]) T35 F C J J fun ck a w F C=>?_;exact As.qown (i:=8) (dst:=some 23) (s:=⟨O,G⟩) (E:= [(eO ck 35 #[(iV 0),(iV 0),(.string (⟨#[]⟩)),(.bool false)])]) [3,7] [8] [9] J J V (Le.refl _) C.dfr (As.has_at C) F As.con1 ⟨ck,rfl,rfl⟩
        ·refine As.Qx J fun a w O G Z V F C T X=>?_;have F: Step w0 H L w O (_):=As.opn (s:=⟨O,G⟩) [3,7,8] [9] [] [] J (As.con0 V J) F;refine aE (cs:= #[(iV 0),(iV 0),(.string (⟨#[]⟩)),(.bool false)]) T35 F C J J fun cy a w F C=>?_;exact As.qown (i:=9) (dst:=some 24) (s:=⟨O,G⟩) (E:= [(eO cy 35 #[(iV 0),(iV 0),(.string (⟨#[]⟩)),(.bool false)])]) [3,7,8] [9] [] J J V (Le.refl _) C.dfr (As.has_at C) F As.con1 ⟨cy,rfl,rfl⟩
        obtain⟨g8,G⟩:=ba;have Fo: Le H g8:=X.le;dsimp only at a2 F;obtain⟨_,C,gd,ew,rfl,ra⟩:=As.Dd C a2 3 J;have ew: G 3=some (gd):=ew;obtain⟨_,C,mj,p6,rfl,xj,Gf⟩:=As.Dd C a2 7 J;have p6: G 7=some (mj):=p6;obtain⟨_,C,ck,p4,rfl⟩:=As.Dd C a2 8 J;have p4: G 8=some [(eO ck 35 #[(iV 0),(iV 0),(.string (⟨#[]⟩)),(.bool false)])]:=p4;obtain⟨_,C,cy,p5,rfl⟩:=As.Dd C a2 9 J;have p5: G 9=some [(eO cy 35 #[(iV 0),(iV 0),(.string (⟨#[]⟩)),(.bool false)])]:=p5;have F: Step w0 H L w g8 (mj++ [(eO ck 35 #[(iV 0),(iV 0),(.string (⟨#[]⟩)),(.bool false)]),(eO cy 35 #[(iV 0),(iV 0),(.string (⟨#[]⟩)),(.bool false)]),a7]):=by
         have Y:=F;unfold As.aents at Y;simp only [List.flatMap_cons,List.flatMap_nil,As.conE,show ci 3=some 7 from rfl,show ci 7=none from rfl,show ci 8=none from rfl,show ci 9=none from rfl,ew,p6,p4,p5,List.append_assoc,Option.isSome_some,Option.getD_some,cond_true,cond_false,List.cons_append,List.nil_append,List.append_nil] at Y;exact Y
        have F:=Step.perm F (List.perm_append_comm (l₁:=mj) (l₂:= [(eO ck 35 #[(iV 0),(iV 0),(.string (⟨#[]⟩)),(.bool false)]),(eO cy 35 #[(iV 0),(iV 0),(.string (⟨#[]⟩)),(.bool false)]),a7]));refine any1 (i:=10) j1 J J (ak (cs':=(wA a0)) T35 F (i:=0) J C J J J J J J fun a w F C=>?_);refine any1 (i:=11) j1 J J (ak (cs':=(wA a1)) T35 F (i:=1) J C J J J J J J fun a w F C=>?_);refine any0 j1 ?_;refine aa (wp_seq ?_);obtain⟨_,ea,rfl,⟨cm,cu,dh,di,br,c1,rfl,ib,hc⟩,x9⟩:=xj;have Eu:=Row.cap ib;have Ei:=Row.cap hc
        let pd:=(As.il [(5,ea)])
        let ly:=(As.sl [])
        let m7:List Ent:=[(eO ck 35 (wA a0)),(eO cy 35 (wA a1)),a7,(eO q 46 (hA p cm ar.length cu dh bs.length di)),br,c1];have F: Step w0 H L w g8 (ea++ m7):=Step.perm (show Step w0 H L w g8 (m7++ea) from F) (List.perm_append_comm (l₁:= m7) (l₂:=ea));have bo:=F;let q7:List Ent:=[(eO ck 35 (wA a0)),(eO cy 35 (wA a1)),a7,(eO q 46 (hA p cm ar.length cu dh bs.length di)),br,c1];refine As.c_draw_head (ini:=pd) (sup:=ly) (als:= [5]) (s0:=⟨g8,fun _=>none⟩) (L:= q7) (N:=480) (E:= [(0,(pB q)),(3,(pB ct)),(23,(pB ck)),(24,(pB cy))]) 12 [FcV (pB q),FcV (pB q),FcV (pB q),FcV (pB p),FcV (.agg (wA a0)),fun s v=> ∃(A: Option Addr) (c: Nat) (en: Ent) (L': List Ent),s.ax 5=some (en::L')/\v=(.tuple #[(.string ((partsS (HS.S h) a0).1)),(.slice A (((partsS (HS.S h) a0).2.1).length) c),(iV ((partsS (HS.S h) a0).2.2))])/\Row (.slice A ((partsS (HS.S h) a0).2.1).length c) en 35 4 ((partsS (HS.S h) a0).2.1).length (gfl Wd.cells ((partsS (HS.S h) a0).2.1))/\HK p h L',fun s v=> ∃(A: Option Addr) (c: Nat) (en: Ent) (L': List Ent),s.ax 5=some (en::L')/\v=(.tuple #[(.string ((partsS (HS.S h) a0).1)),(.slice A (((partsS (HS.S h) a0).2.1).length) c),(iV ((partsS (HS.S h) a0).2.2))])/\Row (.slice A ((partsS (HS.S h) a0).2.1).length c) en 35 4 ((partsS (HS.S h) a0).2.1).length (gfl Wd.cells ((partsS (HS.S h) a0).2.1)),FcV (.string ((partsS (HS.S h) a0).1)),fun s v=> ∃(A: Option Addr) (c: Nat) (en: Ent) (L': List Ent),s.ax 5=some (en::L')/\v=(.slice A (((partsS (HS.S h) a0).2.1).length) c)/\Row (.slice A ((partsS (HS.S h) a0).2.1).length c) en 35 4 ((partsS (HS.S h) a0).2.1).length (gfl Wd.cells ((partsS (HS.S h) a0).2.1)),FcV (iV ((partsS (HS.S h) a0).2.2)),FcV (.string ((partsS (HS.S h) a0).1)),fun s v=> ∃(A: Option Addr) (c: Nat) (en: Ent) (L': List Ent),s.ax 5=some (en::L')/\v=(.slice A (((partsS (HS.S h) a0).2.1).length) c)/\Row (.slice A ((partsS (HS.S h) a0).2.1).length c) en 35 4 ((partsS (HS.S h) a0).2.1).length (gfl Wd.cells ((partsS (HS.S h) a0).2.1))] mixed j1 j1 j1 j7 (fun _=>rfl) (show Step w0 H L w g8 ((ea++ [])++ q7) from by simpa only [List.nil_append,List.append_nil,List.cons_append,List.append_assoc] using F) (C.pk J) (As.QuietsI.c4 ?_ ?_ ?_ ?_ (As.QuietsI.c4 ?_ ?_ ?_ ?_ (As.QuietsI.c4 ?_ ?_ ?_ ?_ (As.QuietsI.nil)))) (fun bm a w ba X F C a2=>?_)
        ·refine As.Qx J fun a w O G Z V F C T X=>?_;have I:=F;exact aj C J J fun a C=>As.ql C I
        ·refine As.Qx1 0 J fun a w O G Z V F C T X=>?_;have I:=F;exact av C J J fun a C=>As.ql C I
        ·refine As.Qx1 1 J fun a w O G Z V F C T X=>?_;have I:=F;exact ac (f:=0) (o2:=0) T46 T44 J J J J C J J fun a C=>As.ql C I
        ·refine As.Qx1 2 J fun a w O G Z V F C T X=>?_;have I:=F;have F:=Step.dropN _ _ F;exact af (v:=(pB p)) T44 J C J (F.blkL 3 J) J J fun a C=>As.ql C I
        ·refine As.Qx J fun a w O G Z V F C T X=>?_;have I:=F;have F:=Step.dropN _ _ F;exact al (vs:=(wL a0)) T35 J C J (F.blkL 0 J) J (ag J) J fun a C=>As.ql C I
        ·refine As.Qx1 3 J fun a w O G Z V F C T X=>?_;obtain⟨_,C,rfl⟩:=T.g C 4 J;have bi: As.aents pd ly [5] G=(ea):=by
          unfold As.aents;simp only [List.flatMap_cons,List.flatMap_nil,As.conE,show ly 5=none from rfl,show pd 5=ea from rfl,V,Option.isSome_some,Option.isSome_none,Option.getD_some,Option.getD_none,cond_true,cond_false,List.append_nil,List.nil_append]
         have F: Step w0 H L w O ((ea)++_):=As.opn (s:=⟨O,G⟩) [] [5] [] (ea) J bi F;have F:=Step.perm F (List.perm_append_comm (l₁:=ea) (l₂:=_));have zk:=c_Parts (F.tail (_)) x9 hdi.ok (x:=a0);refine id (Co func49 C J (zk) ?_);rintro e w ⟨Cu,mc,du,dy,bq,rfl,dm,xa,rr⟩;refine⟨_,rfl,fun a C=>?_⟩;have F:=Step.perm (F.frameR (_) rr) List.perm_middle;have F:=Step.perm F (List.Perm.cons _ (List.perm_append_comm (l₁:=_) (l₂:=mc)))
         skip
         exact As.qown (i:=5) (dst:=some 333) (s:=⟨O,G⟩) (E:=(bq::mc)) [] [5] [] J J V rr.le C.dfr (As.has_at C) F As.con1 ⟨du,dy,bq,mc,rfl,rfl,dm,xa⟩
        ·refine As.Qx J fun a w O G Z V F C T X=>?_;obtain⟨_,C,du,dy,bq,c6,g0,rfl,dm,iw⟩:=T.g C 5 J;have g0: G 5=some (bq::c6):=g0;have er:=g0;have I:=F;refine id (aj C J J fun a C=>?_);exact As.qdone (s:=⟨O,G⟩) (Le.refl _) C I ⟨_,_,_,_,er,rfl,dm⟩
        ·refine As.Qx J fun a w O G Z V F C T X=>?_;obtain⟨_,C,du,dy,ll,k9,er,rfl,dm⟩:=T.g C 6 J;have I:=F;exact ad (v:=(.string ((partsS (HS.S h) a0).1))) C J J J fun a C=>As.ql C I
        ·refine As.Qx J fun a w O G Z V F C T X=>?_;obtain⟨_,C,du,dy,ll,k9,er,rfl,dm⟩:=T.g C 6 J;have I:=F;refine id (ad (v:=(.slice du (((partsS (HS.S h) a0).2.1).length) dy)) C J J J fun a C=>?_);exact As.qdone (s:=⟨O,G⟩) (Le.refl _) C I ⟨_,_,_,_,er,rfl,dm⟩
        ·refine As.Qx J fun a w O G Z V F C T X=>?_;obtain⟨_,C,du,dy,ll,k9,er,rfl,dm⟩:=T.g C 6 J;have I:=F;exact ad (v:=(iV ((partsS (HS.S h) a0).2.2))) C J J J fun a C=>As.ql C I
        ·refine As.Qx1 7 J fun a w O G Z V F C T X=>?_;have I:=F;exact aH C J J fun a C=>As.ql C I
        ·refine As.Qx J fun a w O G Z V F C T X=>?_;obtain⟨_,C,du,dy,ll,k9,er,rfl,dm⟩:=T.g C 8 J;have I:=F;refine id (aH C J J fun a C=>?_);exact As.qdone (s:=⟨O,G⟩) (Le.refl _) C I ⟨_,_,_,_,er,rfl,dm⟩
        obtain⟨d1,G⟩:=ba;have Fp: Le g8 d1:=X.le;dsimp only at a2 F;obtain⟨_,cd,du,dy,bq,c6,g0,rfl,dm,iw⟩:=a2 5 _ _ J J;have g0: G 5=some (bq::c6):=g0;obtain⟨_,C,rfl⟩:=As.Dd C a2 9 J;obtain⟨_,C,rfl⟩:=As.Dd C a2 10 J;obtain⟨_,C,du,dy,ll,k9,er,rfl,dm⟩:=As.Dd C a2 11 J;have ep:=Option.some.inj (er.symm.trans g0);rw [(List.cons.inj ep).1] at dm;have F: Step w0 H L w d1 (bq::c6++ [(eO ck 35 (wA a0)),(eO cy 35 (wA a1)),a7,(eO q 46 (hA p cm ar.length cu dh bs.length di)),br,c1]):=by
         have Y:=F;unfold As.aents at Y;simp only [List.flatMap_cons,List.flatMap_nil,As.conE,show ly 5=none from rfl,g0,List.append_assoc,Option.isSome_some,Option.getD_some,cond_true,cond_false,List.cons_append,List.nil_append,List.append_nil] at Y;exact Y
        have F:=Step.perm F (List.Perm.cons _ (List.perm_append_comm (l₁:=c6) (l₂:= [(eO ck 35 (wA a0)),(eO cy 35 (wA a1)),a7,(eO q 46 (hA p cm ar.length cu dh bs.length di)),br,c1])));refine any1 (i:=12) j1 J J (aH C J J fun a C=>?_);refine any0 j1 ?_;refine aa (wp_seq (wp_seq ?_));have Ay:=parts_len lo a0;refine ab (lin J (ac (f:=0) (o2:=0) T35 T3 J J J J C J J fun a C=>?_));refine lin J (af (v:=(iV a0.tag)) T3 J C J (F.blkL 1 J) J J fun a C=>?_);refine lin J (bE (i:=a0.tag) (j:=6) C J J J fun a C=>?_);refine Lm J C fun a C=>?_;let K:=(eO q 46 (hA p cm ar.length cu dh bs.length di));let ka:Array Value:=#[(iV a0.tag),(iV a0.n),(.string a0.s),(.bool a0.one),(iV a1.tag),(iV a1.n),(.string a1.s),(.bool a1.one)];let P:=(eO cy 35 (wA a1));let c9:=(eO ck 35 (wA a0));let kc:List (Nat×Value):=[(0,(.agg (wA a0))),(1,(.agg (wA a1)))];let kb:List (Nat×Value):=[(0,(pB q)),(23,(pB ck)),(24,(pB cy))];refine aQ (t:=340) C J (fun w2 C=>?_) (fun w2 C=>?_)
        ·refine Lf J C J J fun a C=>?_;refine Lf J C J J fun a C=>?_;refine lin J (aq C J J J fun a C=>?_);refine Lm J C fun a C=>?_;refine Lf J C J J fun a C=>?_;refine Lf J C J J fun a C=>?_;refine Lf J C J J fun a C=>?_;refine lin J (aq C J J J fun a C=>?_);refine wpList_nil (aa (ap C J (wp_seq ?_)));have F:=F.front 5 J
         let B9:=(As.il [(8, [br])])
         let s9:=(As.sl [])
         have bo:=F;refine As.c_draw_head (ini:=B9) (sup:=s9) (als:= [8]) (s0:=⟨d1,fun _=>none⟩) (L:=(bq::c9::P::a7::K::c1::c6)) (N:=480) (E:= kb) 9 [FcV (pB q),FcV (pB q),FcV (pB q),FcV (.pointer (some ⟨q,1,none⟩)),FcV (.slice cm ar.length cu),FcV (.agg (wA a0)),FcV (.agg (wA a1)),As.lf (fun H v=> ∃ b,v=.slice (some ⟨b,0,none⟩) 2 2/\H b=some (.cells ka 35 (0,0))),fun s v=> ∃(A: Option Addr) (c: Nat) (en: Ent),s.ax 8=some [en]/\v=.slice A ((ar++([a0,a1]: List Wd)).length) c/\Row (.slice A ((ar++([a0,a1]: List Wd)).length) c) en 35 4 ((ar++([a0,a1]: List Wd)).length) (gfl Wd.cells (ar++([a0,a1]: List Wd)))] mixed j1 j1 j1 j6 (fun _=>rfl) F (C.pk J) (As.QuietsI.c4 ?_ ?_ ?_ ?_ (As.QuietsI.c4 ?_ ?_ ?_ ?_ (As.QuietsI.cons ?_ (As.QuietsI.nil)))) (fun bm a w ba X F C a2=>?_)
         ·refine As.Qx J fun a w O G Z V F C T X=>?_;have I:=F;exact aj C J J fun a C=>As.ql C I
         ·refine As.Qx J fun a w O G Z V F C T X=>?_;have I:=F;exact aj C J J fun a C=>As.ql C I
         ·refine As.Qx1 1 J fun a w O G Z V F C T X=>?_;have I:=F;exact av C J J fun a C=>As.ql C I
         ·refine As.Qx1 2 J fun a w O G Z V F C T X=>?_;have I:=F;exact ac (f:=1) (o2:=1) T46 T37 J J J J C J J fun a C=>As.ql C I
         ·refine As.Qx1 3 J fun a w O G Z V F C T X=>?_;have I:=F;have F:=Step.dropN _ _ F;exact af (v:=(.slice cm ar.length cu)) T37 J C J (F.blkL 4 J) J J fun a C=>As.ql C I
         ·refine As.Qx J fun a w O G Z V F C T X=>?_;have I:=F;have F:=Step.dropN _ _ F;exact al (vs:=(wL a0)) T35 J C J (F.blkL 1 J) J (ag J) J fun a C=>As.ql C I
         ·refine As.Qx J fun a w O G Z V F C T X=>?_;have I:=F;have F:=Step.dropN _ _ F;exact al (vs:=(wL a1)) T35 J C J (F.blkL 2 J) J (ag J) J fun a C=>As.ql C I
         ·refine As.Qx1 5 J fun a w O G Z V F C T X=>?_;obtain⟨_,C,rfl⟩:=T.g C 6 J;have I:=F;have c3:=Step.dropN _ _ F;refine id (aY (vs:= kc) (cells:= [(iV a0.tag),(iV a0.n),(.string a0.s),(.bool a0.one),(iV a1.tag),(iV a1.n),(.string a1.s),(.bool a1.one)]) T37.und T35 F C (C.evp J) J J J J fun t0 a w F C=>?_);obtain⟨Cv,F,Ag,no⟩:=F.give;exact As.qdone (s:=⟨O,G⟩) Ag C F ⟨_,rfl,no⟩
         ·refine As.Qx1 4 J fun a w O G Z V F C T X=>?_;obtain⟨_,C,t0,rfl,no⟩:=T.g C 7 J;have F: Step w0 H L w O (br::_):=As.opn (s:=⟨O,G⟩) [] [8] [] [br] J (As.con0s V J) F;obtain⟨tn,Bw,uz,uc,vj,qt,wi⟩:=(RowG.of_lit Wd.len ([a0,a1]: List Wd) no j3 J).2.2;refine id (aJ (news:=(gfl Wd.cells ([a0,a1]: List Wd))) (xs:=(gfl Wd.cells ar)) T37.und T35 J J F ib C J J (aw Wd.len _) (fun b9=>⟨tn,Bw,uz,uc,vj,(qt (fun Y=>b9 (by rw [Y];rfl))).1,F.blkH (qt (fun Y=>b9 (by rw [Y];rfl))).2,fun j u bg=>a8 Wd.len j4 wi bg⟩) (aT Wd.one' _) j0 J J fun Gq l6 a w gy F C=>?_);rw [<- aF] at gy;obtain⟨jt,kq,rfl⟩:=gy.slice;have b4:(ar.length+2)=(ar++([a0,a1]: List Wd)).length:=by have Y:=gy.1;rw [aw Wd.len] at Y;omega
          rw [show Value.slice jt (ar.length+2) kq=Value.slice jt (ar++([a0,a1]: List Wd)).length kq from by rw [b4]] at C;rw [b4] at gy;exact As.qown (i:=8) (dst:=some 357) (s:=⟨O,G⟩) (E:= [l6]) [] [8] [] J J V (Le.refl _) C.dfr (As.has_at C) F As.con1 ⟨_,_,_,rfl,rfl,gy⟩
         obtain⟨pr,G⟩:=ba;have Fq: Le d1 pr:=X.le;dsimp only at a2 F;obtain⟨_,C,rfl⟩:=As.Dd C a2 0 J;obtain⟨_,C,jt,kq,l6,oq,rfl,gy⟩:=As.Dd C a2 8 J;have oq: G 8=some [l6]:=oq;have F: Step w0 H L w pr (l6::bq::c9::P::a7::K::c1::c6):=by
          have Y:=F;unfold As.aents at Y;simp only [List.flatMap_cons,List.flatMap_nil,As.conE,show s9 8=none from rfl,oq,Option.isSome_some,Option.getD_some,cond_true,cond_false,List.cons_append,List.nil_append,List.append_nil] at Y;exact Y
         refine any1 (i:=9) j1 J J (av C J J fun a C=>?_);refine any1 (i:=10) j1 J J (ac (f:=1) (o2:=1) T46 T37 J J J J C J J fun a C=>?_);refine any1 (i:=11) j1 J J (ak (cs':=(hA p jt ((ar++([a0,a1]: List Wd)).length) kq dh bs.length di)) T37 F (i:=5) J C J J J J J J fun a w F C=>?_);refine any0 j1 ?_;refine aa (wp_ret (ai (aA (ret0r J C ?_))));have F:=F.fd [2,0,2,0,2,0,2,0,3,2,3] J;exact⟨_,_,_,_,_,SR.back2 fr ft,by first | omega |(simp only [List.length_append,List.length_cons,List.length_nil];omega),by first | omega |(simp only [List.length_append,List.length_cons,List.length_nil];omega),⟨_,_,rfl,⟨_,_,_,_,_,_,rfl,gy,hc⟩,iw⟩,rfl,F⟩
        ·refine ae J C J J J (aj C J J fun a C=>?_);refine ae J C J J J (bE (i:=((partsS (HS.S h) a0).2.2)) (j:=0) C J J J fun a C=>?_);refine lin J (am C J J J fun a C=>?_);refine Lm J C fun a C=>?_;refine aQ (t:=344) C J (fun w3 C=>?_) (fun w3 C=>?_)
         ·refine Lf J C J J fun a C=>?_;refine Lf J C J J fun a C=>?_;refine Lf J C J J fun a C=>?_;refine lin J (aq C J J J fun a C=>?_);refine wpList_nil (aa (ap C J (wp_seq ?_)));have F:=F.front 5 J
          let Ba:=(As.il [(8, [br])])
          let sa:=(As.sl [])
          have bo:=F;refine As.c_draw_head (ini:=Ba) (sup:=sa) (als:= [8]) (s0:=⟨d1,fun _=>none⟩) (L:=(bq::c9::P::a7::K::c1::c6)) (N:=480) (E:= kb) 9 [FcV (pB q),FcV (pB q),FcV (pB q),FcV (.pointer (some ⟨q,1,none⟩)),FcV (.slice cm ar.length cu),FcV (.agg (wA a0)),FcV (.agg (wA a1)),As.lf (fun H v=> ∃ b,v=.slice (some ⟨b,0,none⟩) 2 2/\H b=some (.cells ka 35 (0,0))),fun s v=> ∃(A: Option Addr) (c: Nat) (en: Ent),s.ax 8=some [en]/\v=.slice A ((ar++([a0,a1]: List Wd)).length) c/\Row (.slice A ((ar++([a0,a1]: List Wd)).length) c) en 35 4 ((ar++([a0,a1]: List Wd)).length) (gfl Wd.cells (ar++([a0,a1]: List Wd)))] mixed j1 j1 j1 j6 (fun _=>rfl) F (C.pk J) (As.QuietsI.c4 ?_ ?_ ?_ ?_ (As.QuietsI.c4 ?_ ?_ ?_ ?_ (As.QuietsI.cons ?_ (As.QuietsI.nil)))) (fun bm a w ba X F C a2=>?_)
          ·refine As.Qx J fun a w O G Z V F C T X=>?_;have I:=F;exact aj C J J fun a C=>As.ql C I
          ·refine As.Qx J fun a w O G Z V F C T X=>?_;have I:=F;exact aj C J J fun a C=>As.ql C I
          ·refine As.Qx1 1 J fun a w O G Z V F C T X=>?_;have I:=F;exact av C J J fun a C=>As.ql C I
          ·refine As.Qx1 2 J fun a w O G Z V F C T X=>?_;have I:=F;exact ac (f:=1) (o2:=1) T46 T37 J J J J C J J fun a C=>As.ql C I
          ·refine As.Qx1 3 J fun a w O G Z V F C T X=>?_;have I:=F;have F:=Step.dropN _ _ F;exact af (v:=(.slice cm ar.length cu)) T37 J C J (F.blkL 4 J) J J fun a C=>As.ql C I
          ·refine As.Qx J fun a w O G Z V F C T X=>?_;have I:=F;have F:=Step.dropN _ _ F;exact al (vs:=(wL a0)) T35 J C J (F.blkL 1 J) J (ag J) J fun a C=>As.ql C I
          ·refine As.Qx J fun a w O G Z V F C T X=>?_;have I:=F;have F:=Step.dropN _ _ F;exact al (vs:=(wL a1)) T35 J C J (F.blkL 2 J) J (ag J) J fun a C=>As.ql C I
          ·refine As.Qx1 5 J fun a w O G Z V F C T X=>?_;obtain⟨_,C,rfl⟩:=T.g C 6 J;have I:=F;have c3:=Step.dropN _ _ F;refine id (aY (vs:= kc) (cells:= [(iV a0.tag),(iV a0.n),(.string a0.s),(.bool a0.one),(iV a1.tag),(iV a1.n),(.string a1.s),(.bool a1.one)]) T37.und T35 F C (C.evp J) J J J J fun t1 a w F C=>?_);obtain⟨Cw,F,Ah,np⟩:=F.give;exact As.qdone (s:=⟨O,G⟩) Ah C F ⟨_,rfl,np⟩
          ·refine As.Qx1 4 J fun a w O G Z V F C T X=>?_;obtain⟨_,C,t1,rfl,np⟩:=T.g C 7 J;have F: Step w0 H L w O (br::_):=As.opn (s:=⟨O,G⟩) [] [8] [] [br] J (As.con0s V J) F;obtain⟨tp,By,v1,ue,vl,qv,wk⟩:=(RowG.of_lit Wd.len ([a0,a1]: List Wd) np j3 J).2.2;refine id (aJ (news:=(gfl Wd.cells ([a0,a1]: List Wd))) (xs:=(gfl Wd.cells ar)) T37.und T35 J J F ib C J J (aw Wd.len _) (fun b9=>⟨tp,By,v1,ue,vl,(qv (fun Y=>b9 (by rw [Y];rfl))).1,F.blkH (qv (fun Y=>b9 (by rw [Y];rfl))).2,fun j u bg=>a8 Wd.len j4 wk bg⟩) (aT Wd.one' _) j0 J J fun Gr l7 a w gz F C=>?_);rw [<- aF] at gz;obtain⟨ju,kr,rfl⟩:=gz.slice;have b4:(ar.length+2)=(ar++([a0,a1]: List Wd)).length:=by have Y:=gz.1;rw [aw Wd.len] at Y;omega
           rw [show Value.slice ju (ar.length+2) kr=Value.slice ju (ar++([a0,a1]: List Wd)).length kr from by rw [b4]] at C;rw [b4] at gz;exact As.qown (i:=8) (dst:=some 357) (s:=⟨O,G⟩) (E:= [l7]) [] [8] [] J J V (Le.refl _) C.dfr (As.has_at C) F As.con1 ⟨_,_,_,rfl,rfl,gz⟩
          obtain⟨pt,G⟩:=ba;have Fr: Le d1 pt:=X.le;dsimp only at a2 F;obtain⟨_,C,rfl⟩:=As.Dd C a2 0 J;obtain⟨_,C,ju,kr,l7,os,rfl,gz⟩:=As.Dd C a2 8 J;have os: G 8=some [l7]:=os;have F: Step w0 H L w pt (l7::bq::c9::P::a7::K::c1::c6):=by
           have Y:=F;unfold As.aents at Y;simp only [List.flatMap_cons,List.flatMap_nil,As.conE,show sa 8=none from rfl,os,Option.isSome_some,Option.getD_some,cond_true,cond_false,List.cons_append,List.nil_append,List.append_nil] at Y;exact Y
          refine any1 (i:=9) j1 J J (av C J J fun a C=>?_);refine any1 (i:=10) j1 J J (ac (f:=1) (o2:=1) T46 T37 J J J J C J J fun a C=>?_);refine any1 (i:=11) j1 J J (ak (cs':=(hA p ju ((ar++([a0,a1]: List Wd)).length) kr dh bs.length di)) T37 F (i:=5) J C J J J J J J fun a w F C=>?_);refine any0 j1 ?_;refine aa (wp_ret (ai (aA (ret0r J C ?_))));have F:=F.fd [2,0,2,0,2,0,2,0,3,2,3] J;exact⟨_,_,_,_,_,SR.back2 fr ft,by first | omega |(simp only [List.length_append,List.length_cons,List.length_nil];omega),by first | omega |(simp only [List.length_append,List.length_cons,List.length_nil];omega),⟨_,_,rfl,⟨_,_,_,_,_,_,rfl,gz,hc⟩,iw⟩,rfl,F⟩
         ·refine ae J C J J J (aj C J J fun a C=>?_);refine ae J C J J J (aI T37.und C J J fun a C=>?_);refine ae J C J J J (bn (i:=((((partsS (HS.S h) a0).2.1).length: Nat): Int)) (j:=0) C J J J fun a C=>?_);refine lin J (am C J J J fun a C=>?_);refine wpList_nil (aa (an (t:=348) C J (fun w4 C=>?_) (fun w4 C=>?_)))
          ·refine ap C J (wp_seq ?_);have F:=F.front 5 J
           let Bc:=(As.il [(8, [br])])
           let sb:=(As.sl [])
           have bo:=F;refine As.c_draw_head (ini:=Bc) (sup:=sb) (als:= [8]) (s0:=⟨d1,fun _=>none⟩) (L:=(bq::c9::P::a7::K::c1::c6)) (N:=480) (E:= kb) 9 [FcV (pB q),FcV (pB q),FcV (pB q),FcV (.pointer (some ⟨q,1,none⟩)),FcV (.slice cm ar.length cu),FcV (.agg (wA a0)),FcV (.agg (wA a1)),As.lf (fun H v=> ∃ b,v=.slice (some ⟨b,0,none⟩) 2 2/\H b=some (.cells ka 35 (0,0))),fun s v=> ∃(A: Option Addr) (c: Nat) (en: Ent),s.ax 8=some [en]/\v=.slice A ((ar++([a0,a1]: List Wd)).length) c/\Row (.slice A ((ar++([a0,a1]: List Wd)).length) c) en 35 4 ((ar++([a0,a1]: List Wd)).length) (gfl Wd.cells (ar++([a0,a1]: List Wd)))] mixed j1 j1 j1 j6 (fun _=>rfl) F (C.pk J) (As.QuietsI.c4 ?_ ?_ ?_ ?_ (As.QuietsI.c4 ?_ ?_ ?_ ?_ (As.QuietsI.cons ?_ (As.QuietsI.nil)))) (fun bm a w ba X F C a2=>?_)
           ·refine As.Qx J fun a w O G Z V F C T X=>?_;have I:=F;exact aj C J J fun a C=>As.ql C I
           ·refine As.Qx J fun a w O G Z V F C T X=>?_;have I:=F;exact aj C J J fun a C=>As.ql C I
           ·refine As.Qx1 1 J fun a w O G Z V F C T X=>?_;have I:=F;exact av C J J fun a C=>As.ql C I
           ·refine As.Qx1 2 J fun a w O G Z V F C T X=>?_;have I:=F;exact ac (f:=1) (o2:=1) T46 T37 J J J J C J J fun a C=>As.ql C I
           ·refine As.Qx1 3 J fun a w O G Z V F C T X=>?_;have I:=F;have F:=Step.dropN _ _ F;exact af (v:=(.slice cm ar.length cu)) T37 J C J (F.blkL 4 J) J J fun a C=>As.ql C I
           ·refine As.Qx J fun a w O G Z V F C T X=>?_;have I:=F;have F:=Step.dropN _ _ F;exact al (vs:=(wL a0)) T35 J C J (F.blkL 1 J) J (ag J) J fun a C=>As.ql C I
           ·refine As.Qx J fun a w O G Z V F C T X=>?_;have I:=F;have F:=Step.dropN _ _ F;exact al (vs:=(wL a1)) T35 J C J (F.blkL 2 J) J (ag J) J fun a C=>As.ql C I
           ·refine As.Qx1 5 J fun a w O G Z V F C T X=>?_;obtain⟨_,C,rfl⟩:=T.g C 6 J;have I:=F;have c3:=Step.dropN _ _ F;refine id (aY (vs:= kc) (cells:= [(iV a0.tag),(iV a0.n),(.string a0.s),(.bool a0.one),(iV a1.tag),(iV a1.n),(.string a1.s),(.bool a1.one)]) T37.und T35 F C (C.evp J) J J J J fun t2 a w F C=>?_);obtain⟨Cx,F,Ai,nq⟩:=F.give;exact As.qdone (s:=⟨O,G⟩) Ai C F ⟨_,rfl,nq⟩
           ·refine As.Qx1 4 J fun a w O G Z V F C T X=>?_;obtain⟨_,C,t2,rfl,nq⟩:=T.g C 7 J;have F: Step w0 H L w O (br::_):=As.opn (s:=⟨O,G⟩) [] [8] [] [br] J (As.con0s V J) F;obtain⟨tq,Bz,v2,uf,vm,qw,wl⟩:=(RowG.of_lit Wd.len ([a0,a1]: List Wd) nq j3 J).2.2;refine id (aJ (news:=(gfl Wd.cells ([a0,a1]: List Wd))) (xs:=(gfl Wd.cells ar)) T37.und T35 J J F ib C J J (aw Wd.len _) (fun b9=>⟨tq,Bz,v2,uf,vm,(qw (fun Y=>b9 (by rw [Y];rfl))).1,F.blkH (qw (fun Y=>b9 (by rw [Y];rfl))).2,fun j u bg=>a8 Wd.len j4 wl bg⟩) (aT Wd.one' _) j0 J J fun Gs l8 a w h0 F C=>?_);rw [<- aF] at h0;obtain⟨jv,ks,rfl⟩:=h0.slice;have b4:(ar.length+2)=(ar++([a0,a1]: List Wd)).length:=by have Y:=h0.1;rw [aw Wd.len] at Y;omega
            rw [show Value.slice jv (ar.length+2) ks=Value.slice jv (ar++([a0,a1]: List Wd)).length ks from by rw [b4]] at C;rw [b4] at h0;exact As.qown (i:=8) (dst:=some 357) (s:=⟨O,G⟩) (E:= [l8]) [] [8] [] J J V (Le.refl _) C.dfr (As.has_at C) F As.con1 ⟨_,_,_,rfl,rfl,h0⟩
           obtain⟨pu,G⟩:=ba;have Fs: Le d1 pu:=X.le;dsimp only at a2 F;obtain⟨_,C,rfl⟩:=As.Dd C a2 0 J;obtain⟨_,C,jv,ks,l8,ot,rfl,h0⟩:=As.Dd C a2 8 J;have ot: G 8=some [l8]:=ot;have F: Step w0 H L w pu (l8::bq::c9::P::a7::K::c1::c6):=by
            have Y:=F;unfold As.aents at Y;simp only [List.flatMap_cons,List.flatMap_nil,As.conE,show sb 8=none from rfl,ot,Option.isSome_some,Option.getD_some,cond_true,cond_false,List.cons_append,List.nil_append,List.append_nil] at Y;exact Y
           refine any1 (i:=9) j1 J J (av C J J fun a C=>?_);refine any1 (i:=10) j1 J J (ac (f:=1) (o2:=1) T46 T37 J J J J C J J fun a C=>?_);refine any1 (i:=11) j1 J J (ak (cs':=(hA p jv ((ar++([a0,a1]: List Wd)).length) ks dh bs.length di)) T37 F (i:=5) J C J J J J J J fun a w F C=>?_);refine any0 j1 ?_;refine aa (wp_ret (ai (aA (ret0r J C ?_))));have F:=F.fd [2,0,2,0,2,0,2,0,3,2,3] J;exact⟨_,_,_,_,_,SR.back2 fr ft,by first | omega |(simp only [List.length_append,List.length_cons,List.length_nil];omega),by first | omega |(simp only [List.length_append,List.length_cons,List.length_nil];omega),⟨_,_,rfl,⟨_,_,_,_,_,_,rfl,h0,hc⟩,iw⟩,rfl,F⟩
          ·refine ah C J (wp_skip (aa (wp_seq ?_)));obtain⟨a3,oc,zc⟩:=cI (k:=x.c) (n:=(((partsS (HS.S h) a0).2.1).length: Int)) (m:=((partsS (HS.S h) a0).2.1).length) J j0
           let pe:=(As.il [(11,c6)])
           let g4:=(As.sl [(17,19),(18,20)])
           have F: Step w0 H L w d1 (c6++ [bq,c9,P,a7,K,br,c1]):=Step.perm (show Step w0 H L w d1 ([bq,c9,P,a7,K,br,c1]++c6) from F) (List.perm_append_comm (l₁:= [bq,c9,P,a7,K,br,c1]) (l₂:=c6));have bo:=F;let z:Array Value:=#[(.agg (wA ((h.update a0 ((a3: Nat): Int) a1).2.1))),(.agg (wA ((h.update a0 ((a3: Nat): Int) a1).2.2.1))),(.bool ((h.update a0 ((a3: Nat): Int) a1).2.2.2.1)),(iV ((h.update a0 ((a3: Nat): Int) a1).2.2.2.2))];refine As.c_draw_head (ini:=pe) (sup:=g4) (als:= [11,17,19,18,20]) (s0:=⟨d1,fun _=>none⟩) (L:= [bq,c9,P,a7,K,br,c1]) (N:=480) (E:= [(0,(pB q)),(3,(pB ct)),(23,(pB ck)),(24,(pB cy)),(26,(.slice du (((partsS (HS.S h) a0).2.1).length) dy))]) 22 [FcV (pB q),FcV (pB q),FcV (pB q),FcV (pB p),FcV (.agg (wA a0)),FcV (.pointer (some ⟨ct,3,none⟩)),FcV (iV x.c),FcV (.slice du (((partsS (HS.S h) a0).2.1).length) dy),FcV (iV ((((partsS (HS.S h) a0).2.1).length: Nat): Int)),FcV (iV ((a3: Nat): Int)),FcV (.agg (wA a1)),fun s v=> ∃ L',s.ax 11=some L'/\v=(.tuple z)/\HK p (h.update a0 ((a3: Nat): Int) a1).1 L',FcV (.tuple z),FcV (.agg (wA ((h.update a0 ((a3: Nat): Int) a1).2.1))),FcV (.agg (wA ((h.update a0 ((a3: Nat): Int) a1).2.2.1))),FcV (.bool ((h.update a0 ((a3: Nat): Int) a1).2.2.2.1)),FcV (iV ((h.update a0 ((a3: Nat): Int) a1).2.2.2.2)),fun s v=> ∃ b,s.ax 17=some [(eO b 35 #[(iV 0),(iV 0),(.string (⟨#[]⟩)),(.bool false)])]/\v=.pointer (some ⟨b,0,none⟩),fun s v=> ∃ b,s.ax 18=some [(eO b 35 #[(iV 0),(iV 0),(.string (⟨#[]⟩)),(.bool false)])]/\v=.pointer (some ⟨b,0,none⟩),fun s _=> ∃(b: Nat),s.ax 17=some [(eO b 35 #[(iV 0),(iV 0),(.string (⟨#[]⟩)),(.bool false)])]/\s.ax 19=some [(eO b 35 (wA ((h.update a0 ((a3: Nat): Int) a1).2.1)))],fun s _=> ∃(b: Nat),s.ax 18=some [(eO b 35 #[(iV 0),(iV 0),(.string (⟨#[]⟩)),(.bool false)])]/\s.ax 20=some [(eO b 35 (wA ((h.update a0 ((a3: Nat): Int) a1).2.2.1)))],FcV (.bool ((h.update a0 ((a3: Nat): Int) a1).2.2.2.1))] mixed j1 j1 j1 (by repeat' (first | exact As.Monos.nil | refine As.Monos.cons ?_ ?_ |(intro _ _ _ hl h;exact h) |(rintro _ _ _ hl ⟨A,c,h,hr⟩;exact⟨A,c,h,hr.mono hl.le⟩) |(rintro _ _ _ hl ⟨b,h,e3⟩;exact⟨b,h,hl.le _ _ e3⟩) | exact fun _ _ _ hl ⟨A,c,en,L',h,e,ye⟩=>⟨A,c,en,L',hl.get h,e,ye⟩ | exact fun _ _ _ hl ⟨L',h,e,bj⟩=>⟨L',hl.get h,e,bj⟩ | exact fun _ _ _ hl ⟨b,h,e⟩=>⟨b,hl.get h,e⟩ | exact fun _ _ _ hl ⟨b,h1,h2⟩=>⟨b,hl.get h1,hl.get h2⟩)) (fun _=>rfl) (show Step w0 H L w d1 ((c6++([]++([]++([]++([]++ [])))))++ [bq,c9,P,a7,K,br,c1]) from by simpa only [List.nil_append,List.append_nil,List.cons_append,List.append_assoc] using F) (C.pk J) (As.QuietsI.c4 ?_ ?_ ?_ ?_ (As.QuietsI.c4 ?_ ?_ ?_ ?_ (As.QuietsI.c4 ?_ ?_ ?_ ?_ (As.QuietsI.c4 ?_ ?_ ?_ ?_ (As.QuietsI.c4 ?_ ?_ ?_ ?_ (As.QuietsI.c2 ?_ ?_ (As.QuietsI.nil))))))) (fun bm a w ba X F C a2=>?_)
           ·refine As.Qx J fun a w O G Z V F C T X=>?_;have I:=F;exact aj C J J fun a C=>As.ql C I
           ·refine As.Qx1 0 J fun a w O G Z V F C T X=>?_;have I:=F;exact av C J J fun a C=>As.ql C I
           ·refine As.Qx1 1 J fun a w O G Z V F C T X=>?_;have I:=F;exact ac (f:=0) (o2:=0) T46 T44 J J J J C J J fun a C=>As.ql C I
           ·refine As.Qx1 2 J fun a w O G Z V F C T X=>?_;have I:=F;have F:=Step.dropN _ _ F;exact af (v:=(pB p)) T44 J C J (F.blkL 4 J) J J fun a C=>As.ql C I
           ·refine As.Qx J fun a w O G Z V F C T X=>?_;have I:=F;have F:=Step.dropN _ _ F;exact al (vs:=(wL a0)) T35 J C J (F.blkL 1 J) J (ag J) J fun a C=>As.ql C I
           ·refine As.Qx J fun a w O G Z V F C T X=>?_;have I:=F;exact ac (f:=3) (o2:=3) T32 T3 J J J J C J J fun a C=>As.ql C I
           ·refine As.Qx1 5 J fun a w O G Z V F C T X=>?_;have I:=F;have F:=Step.dropN _ _ F;exact af (v:=(iV x.c)) T3 J C J (F.blkL 3 J) J J fun a C=>As.ql C I
           ·refine As.Qx J fun a w O G Z V F C T X=>?_;have I:=F;exact aj C J J fun a C=>As.ql C I
           ·refine As.Qx1 7 J fun a w O G Z V F C T X=>?_;have I:=F;have c3:=Step.dropN _ _ F;exact aI T37.und C J J fun a C=>As.ql C F
           ·refine As.Qx1 6 J fun a w O G Z V F C T X=>?_;obtain⟨_,C,rfl⟩:=T.g C 8 J;have I:=F;have c3:=Step.dropN _ _ F;have rs:=dI (k:=x.c) (n:=((((partsS (HS.S h) a0).2.1).length: Nat): Int)) F.inv.nil j0;rw [oc] at rs;exact Cs func43 C J (rs) F fun a w C F=>As.ql C F
           ·refine As.Qx J fun a w O G Z V F C T X=>?_;have I:=F;have F:=Step.dropN _ _ F;exact al (vs:=(wL a1)) T35 J C J (F.blkL 2 J) J (ag J) J fun a C=>As.ql C I
           ·refine As.Qx1 3 J fun a w O G Z V F C T X=>?_;obtain⟨_,C,rfl⟩:=T.g C 4 J;obtain⟨_,C,rfl⟩:=T.g C 9 J;obtain⟨_,C,rfl⟩:=T.g C 10 J;have bi: As.aents pe g4 [11] G=(c6):=by
             unfold As.aents;simp only [List.flatMap_cons,List.flatMap_nil,As.conE,show g4 11=none from rfl,show pe 11=c6 from rfl,V,Option.isSome_some,Option.isSome_none,Option.getD_some,Option.getD_none,cond_true,cond_false,List.append_nil,List.nil_append]
            have F: Step w0 H L w O ((c6)++_):=As.opn (s:=⟨O,G⟩) [] [11] [17,19,18,20] (c6) J bi F;have F:=Step.perm F (List.perm_append_comm (l₁:=c6) (l₂:=_));have zl:=c_Update (F.tail (_)) iw hdi.ok (x:=a0) (i:=((a3: Nat): Int)) (y:=a1);refine id (Co func51 C J (zl) ?_);rintro e w ⟨md,rfl,xb,yo⟩;refine⟨_,rfl,fun a C=>?_⟩;have F:=F.frameR (_) yo;have Ec: HS.Ok ((h.update a0 ((a3: Nat): Int) a1).1):=HS.Ok.update hdi.ok _ _ _;have F:=Step.perm F (List.perm_append_comm (l₁:=_) (l₂:=md))
            skip
            exact As.qown (i:=11) (dst:=some 372) (s:=⟨O,G⟩) (E:=(md)) [] [11] [17,19,18,20] J J V (Le.refl _) C.dfr (As.has_at C) F As.con1 ⟨md,rfl,rfl,xb⟩
           ·refine As.Qx J fun a w O G Z V F C T X=>?_;obtain⟨_,C,ec,lw,rfl,ix⟩:=T.g C 11 J;have I:=F;exact aj C J J fun a C=>As.ql C I
           ·refine As.Qx1 12 J fun a w O G Z V F C T X=>?_;have I:=F;exact ad (v:=(.agg (wA ((h.update a0 ((a3: Nat): Int) a1).2.1)))) C J J J fun a C=>As.ql C I
           ·refine As.Qx1 12 J fun a w O G Z V F C T X=>?_;have I:=F;exact ad (v:=(.agg (wA ((h.update a0 ((a3: Nat): Int) a1).2.2.1)))) C J J J fun a C=>As.ql C I
           ·refine As.Qx1 12 J fun a w O G Z V F C T X=>?_;have I:=F;exact ad (v:=(.bool ((h.update a0 ((a3: Nat): Int) a1).2.2.2.1))) C J J J fun a C=>As.ql C I
           ·refine As.Qx1 12 J fun a w O G Z V F C T X=>?_;have I:=F;exact ad (v:=(iV ((h.update a0 ((a3: Nat): Int) a1).2.2.2.2))) C J J J fun a C=>As.ql C I
           ·refine As.Qx J fun a w O G Z V F C T X=>?_;have F: Step w0 H L w O (_):=As.opn (s:=⟨O,G⟩) [11] [17] [19,18,20] [] J (As.con0 V J) F;refine aE (cs:= #[(iV 0),(iV 0),(.string (⟨#[]⟩)),(.bool false)]) T35 F C J J fun cq a w F C=>?_;exact As.qown (i:=17) (dst:=some 28) (s:=⟨O,G⟩) (E:= [(eO cq 35 #[(iV 0),(iV 0),(.string (⟨#[]⟩)),(.bool false)])]) [11] [17] [19,18,20] J J V (Le.refl _) C.dfr (As.has_at C) F As.con1 ⟨cq,rfl,rfl⟩
           ·refine As.Qx J fun a w O G Z V F C T X=>?_;have F: Step w0 H L w O (_):=As.opn (s:=⟨O,G⟩) [11,17,19] [18] [20] [] J (As.con0 V J) F;refine aE (cs:= #[(iV 0),(iV 0),(.string (⟨#[]⟩)),(.bool false)]) T35 F C J J fun cr a w F C=>?_;exact As.qown (i:=18) (dst:=some 29) (s:=⟨O,G⟩) (E:= [(eO cr 35 #[(iV 0),(iV 0),(.string (⟨#[]⟩)),(.bool false)])]) [11,17,19] [18] [20] J J V (Le.refl _) C.dfr (As.has_at C) F As.con1 ⟨cr,rfl,rfl⟩
           ·refine As.Qx J fun a w O G Z V F C T X=>?_;obtain⟨_,C,cq,et,rfl⟩:=T.g C 17 J;have et: G 17=some [(eO cq 35 #[(iV 0),(iV 0),(.string (⟨#[]⟩)),(.bool false)])]:=et;obtain⟨_,C,rfl⟩:=T.g C 13 J;have F: Step w0 H L w O ((eO cq 35 #[(iV 0),(iV 0),(.string (⟨#[]⟩)),(.bool false)])::_):=As.opn (s:=⟨O,G⟩) [11] [17,19] [18,20] [(eO cq 35 #[(iV 0),(iV 0),(.string (⟨#[]⟩)),(.bool false)])] J (As.con2 J J J et V) F;refine id (ak (cs':=(wA ((h.update a0 ((a3: Nat): Int) a1).2.1))) T35 F (i:=0) J C J J J J J J fun a w F C=>?_);exact As.qown (i:=19) (dst:=none) (s:=⟨O,G⟩) (E:= [(eO cq 35 (wA ((h.update a0 ((a3: Nat): Int) a1).2.1)))]) [11] [17,19] [18,20] J J V (Le.refl _) C.dfr (v:=undef) (fun _ h=>by cases h) F (.inl (As.con2' J J)) ⟨cq,et,rfl⟩
           ·refine As.Qx J fun a w O G Z V F C T X=>?_;obtain⟨_,C,cr,eu,rfl⟩:=T.g C 18 J;have eu: G 18=some [(eO cr 35 #[(iV 0),(iV 0),(.string (⟨#[]⟩)),(.bool false)])]:=eu;obtain⟨_,C,rfl⟩:=T.g C 14 J;have F: Step w0 H L w O ((eO cr 35 #[(iV 0),(iV 0),(.string (⟨#[]⟩)),(.bool false)])::_):=As.opn (s:=⟨O,G⟩) [11,17,19] [18,20] [] [(eO cr 35 #[(iV 0),(iV 0),(.string (⟨#[]⟩)),(.bool false)])] J (As.con2 J J J eu V) F;refine id (ak (cs':=(wA ((h.update a0 ((a3: Nat): Int) a1).2.2.1))) T35 F (i:=0) J C J J J J J J fun a w F C=>?_);exact As.qown (i:=20) (dst:=none) (s:=⟨O,G⟩) (E:= [(eO cr 35 (wA ((h.update a0 ((a3: Nat): Int) a1).2.2.1)))]) [11,17,19] [18,20] [] J J V (Le.refl _) C.dfr (v:=undef) (fun _ h=>by cases h) F (.inl (As.con2' J J)) ⟨cr,eu,rfl⟩
           ·refine As.Qx1 15 J fun a w O G Z V F C T X=>?_;have I:=F;exact aH C J J fun a C=>As.ql C I
           obtain⟨hv,G⟩:=ba;have Ft: Le d1 hv:=X.le;dsimp only at a2 F;obtain⟨_,cd,ec,lw,rfl,ix⟩:=a2 11 _ _ J J;have lw: G 11=some (ec):=lw;obtain⟨_,C,rfl⟩:=As.Dd C a2 16 J;obtain⟨_,C,cq,et,rfl⟩:=As.Dd C a2 17 J;have et: G 17=some [(eO cq 35 #[(iV 0),(iV 0),(.string (⟨#[]⟩)),(.bool false)])]:=et;obtain⟨_,C,cr,eu,rfl⟩:=As.Dd C a2 18 J;have eu: G 18=some [(eO cr 35 #[(iV 0),(iV 0),(.string (⟨#[]⟩)),(.bool false)])]:=eu;obtain⟨_,cd,s2,B0,p8⟩:=a2 19 _ _ J J;have p8: G 19=some [(eO s2 35 (wA ((h.update a0 ((a3: Nat): Int) a1).2.1)))]:=p8;obtain rfl: cq=s2:=by have Y:=(et).symm.trans B0;simpa using Y
           obtain⟨_,cd,s3,B1,p9⟩:=a2 20 _ _ J J;have p9: G 20=some [(eO s3 35 (wA ((h.update a0 ((a3: Nat): Int) a1).2.2.1)))]:=p9;obtain rfl: cr=s3:=by have Y:=(eu).symm.trans B1;simpa using Y
           obtain⟨_,C,rfl⟩:=As.Dd C a2 21 J;have F: Step w0 H L w hv (ec++ [(eO cq 35 (wA ((h.update a0 ((a3: Nat): Int) a1).2.1))),(eO cr 35 (wA ((h.update a0 ((a3: Nat): Int) a1).2.2.1))),bq,c9,P,a7,K,br,c1]):=by
            have Y:=F;unfold As.aents at Y;simp only [List.flatMap_cons,List.flatMap_nil,As.conE,show g4 11=none from rfl,show g4 17=some 19 from rfl,show g4 19=none from rfl,show g4 18=some 20 from rfl,show g4 20=none from rfl,lw,et,eu,p8,p9,List.append_assoc,Option.isSome_some,Option.getD_some,cond_true,cond_false,List.cons_append,List.nil_append,List.append_nil] at Y;exact Y
           have F:=Step.perm F (List.perm_append_comm (l₁:=ec) (l₂:= [(eO cq 35 (wA ((h.update a0 ((a3: Nat): Int) a1).2.1))),(eO cr 35 (wA ((h.update a0 ((a3: Nat): Int) a1).2.2.1))),bq,c9,P,a7,K,br,c1]));have Ed: HS.Ok ((h.update a0 ((a3: Nat): Int) a1).1):=HS.Ok.update hdi.ok _ _ _;refine any1 (i:=22) j1 J J (aH C J J fun a C=>?_);refine any0 j1 ?_;refine aa (wp_seq (wp_seq (ab (Lm J C fun a C=>?_))));refine lin J (bE (i:=((h.update a0 ((a3: Nat): Int) a1).2.2.2.2)) (j:=0) C J J J fun a C=>?_);let D:=(wA ((h.update a0 ((a3: Nat): Int) a1).2.1));let m8:=(wA ((h.update a0 ((a3: Nat): Int) a1).2.2.1));let i2:=(eO cr 35 m8);let i1:=(eO cq 35 D);refine wpList_nil (aa (aQ (t:=378) C J (fun r7 C=>?_) (fun r7 C=>?_)))
           ·refine ap C J (wp_seq ?_);have F:=F.front 7 J
            let Bd:=(As.il [(8, [br])])
            let sc:=(As.sl [])
            have bo:=F;refine As.c_draw_head (ini:=Bd) (sup:=sc) (als:= [8]) (s0:=⟨hv,fun _=>none⟩) (L:=(i1::i2::bq::c9::P::a7::K::c1::ec)) (N:=480) (E:= kb) 9 [FcV (pB q),FcV (pB q),FcV (pB q),FcV (.pointer (some ⟨q,1,none⟩)),FcV (.slice cm ar.length cu),FcV (.agg (wA a0)),FcV (.agg (wA a1)),As.lf (fun H v=> ∃ b,v=.slice (some ⟨b,0,none⟩) 2 2/\H b=some (.cells ka 35 (0,0))),fun s v=> ∃(A: Option Addr) (c: Nat) (en: Ent),s.ax 8=some [en]/\v=.slice A ((ar++([a0,a1]: List Wd)).length) c/\Row (.slice A ((ar++([a0,a1]: List Wd)).length) c) en 35 4 ((ar++([a0,a1]: List Wd)).length) (gfl Wd.cells (ar++([a0,a1]: List Wd)))] mixed j1 j1 j1 j6 (fun _=>rfl) F (C.pk J) (As.QuietsI.c4 ?_ ?_ ?_ ?_ (As.QuietsI.c4 ?_ ?_ ?_ ?_ (As.QuietsI.cons ?_ (As.QuietsI.nil)))) (fun bm a w ba X F C a2=>?_)
            ·refine As.Qx J fun a w O G Z V F C T X=>?_;have I:=F;exact aj C J J fun a C=>As.ql C I
            ·refine As.Qx J fun a w O G Z V F C T X=>?_;have I:=F;exact aj C J J fun a C=>As.ql C I
            ·refine As.Qx1 1 J fun a w O G Z V F C T X=>?_;have I:=F;exact av C J J fun a C=>As.ql C I
            ·refine As.Qx1 2 J fun a w O G Z V F C T X=>?_;have I:=F;exact ac (f:=1) (o2:=1) T46 T37 J J J J C J J fun a C=>As.ql C I
            ·refine As.Qx1 3 J fun a w O G Z V F C T X=>?_;have I:=F;have F:=Step.dropN _ _ F;exact af (v:=(.slice cm ar.length cu)) T37 J C J (F.blkL 6 J) J J fun a C=>As.ql C I
            ·refine As.Qx J fun a w O G Z V F C T X=>?_;have I:=F;have F:=Step.dropN _ _ F;exact al (vs:=(wL a0)) T35 J C J (F.blkL 3 J) J (ag J) J fun a C=>As.ql C I
            ·refine As.Qx J fun a w O G Z V F C T X=>?_;have I:=F;have F:=Step.dropN _ _ F;exact al (vs:=(wL a1)) T35 J C J (F.blkL 4 J) J (ag J) J fun a C=>As.ql C I
            ·refine As.Qx1 5 J fun a w O G Z V F C T X=>?_;obtain⟨_,C,rfl⟩:=T.g C 6 J;have I:=F;have c3:=Step.dropN _ _ F;refine id (aY (vs:= kc) (cells:= [(iV a0.tag),(iV a0.n),(.string a0.s),(.bool a0.one),(iV a1.tag),(iV a1.n),(.string a1.s),(.bool a1.one)]) T37.und T35 F C (C.evp J) J J J J fun t3 a w F C=>?_);obtain⟨Cy,F,Ak,nr⟩:=F.give;exact As.qdone (s:=⟨O,G⟩) Ak C F ⟨_,rfl,nr⟩
            ·refine As.Qx1 4 J fun a w O G Z V F C T X=>?_;obtain⟨_,C,t3,rfl,nr⟩:=T.g C 7 J;have F: Step w0 H L w O (br::_):=As.opn (s:=⟨O,G⟩) [] [8] [] [br] J (As.con0s V J) F;obtain⟨tr,C0,v3,ug,vn,qx,wm⟩:=(RowG.of_lit Wd.len ([a0,a1]: List Wd) nr j3 J).2.2;refine id (aJ (news:=(gfl Wd.cells ([a0,a1]: List Wd))) (xs:=(gfl Wd.cells ar)) T37.und T35 J J F ib C J J (aw Wd.len _) (fun b9=>⟨tr,C0,v3,ug,vn,(qx (fun Y=>b9 (by rw [Y];rfl))).1,F.blkH (qx (fun Y=>b9 (by rw [Y];rfl))).2,fun j u bg=>a8 Wd.len j4 wm bg⟩) (aT Wd.one' _) j0 J J fun Gt l9 a w h3 F C=>?_);rw [<- aF] at h3;obtain⟨jw,kt,rfl⟩:=h3.slice;have b4:(ar.length+2)=(ar++([a0,a1]: List Wd)).length:=by have Y:=h3.1;rw [aw Wd.len] at Y;omega
             rw [show Value.slice jw (ar.length+2) kt=Value.slice jw (ar++([a0,a1]: List Wd)).length kt from by rw [b4]] at C;rw [b4] at h3;exact As.qown (i:=8) (dst:=some 387) (s:=⟨O,G⟩) (E:= [l9]) [] [8] [] J J V (Le.refl _) C.dfr (As.has_at C) F As.con1 ⟨_,_,_,rfl,rfl,h3⟩
            obtain⟨pv,G⟩:=ba;have Fu: Le hv pv:=X.le;dsimp only at a2 F;obtain⟨_,C,rfl⟩:=As.Dd C a2 0 J;obtain⟨_,C,jw,kt,l9,ou,rfl,h3⟩:=As.Dd C a2 8 J;have ou: G 8=some [l9]:=ou;have F: Step w0 H L w pv (l9::i1::i2::bq::c9::P::a7::K::c1::ec):=by
             have Y:=F;unfold As.aents at Y;simp only [List.flatMap_cons,List.flatMap_nil,As.conE,show sc 8=none from rfl,ou,Option.isSome_some,Option.getD_some,cond_true,cond_false,List.cons_append,List.nil_append,List.append_nil] at Y;exact Y
            refine any1 (i:=9) j1 J J (av C J J fun a C=>?_);refine any1 (i:=10) j1 J J (ac (f:=1) (o2:=1) T46 T37 J J J J C J J fun a C=>?_);refine any1 (i:=11) j1 J J (ak (cs':=(hA p jw ((ar++([a0,a1]: List Wd)).length) kt dh bs.length di)) T37 F (i:=7) J C J J J J J J fun a w F C=>?_);refine any0 j1 ?_;refine aa (wp_ret (ai (aA (ret0r J C ?_))));have F:=F.fd [2,0,2,0,2,0,2,0,2,0,2,0,3,2,3] J;rw [update_no r7] at ix;exact⟨_,_,_,_,_,SR.back2 fr ft,by first | omega |(simp only [List.length_append,List.length_cons,List.length_nil];omega),by first | omega |(simp only [List.length_append,List.length_cons,List.length_nil];omega),⟨_,_,rfl,⟨_,_,_,_,_,_,rfl,h3,hc⟩,ix⟩,rfl,F⟩
           ·refine ah C J (wp_skip (aa (wp_seq ?_)));have F:=F.front 7 J
            let Be:=(As.il [(8, [br])])
            let sd:=(As.sl [])
            have bo:=F;refine As.c_draw_head (ini:=Be) (sup:=sd) (als:= [8]) (s0:=⟨hv,fun _=>none⟩) (L:=(i1::i2::bq::c9::P::a7::K::c1::ec)) (N:=480) (E:= [(0,(pB q)),(23,(pB ck)),(28,(pB cq)),(29,(pB cr)),(30,(.bool ((h.update a0 ((a3: Nat): Int) a1).2.2.2.1)))]) 9 [FcV (pB q),FcV (pB q),FcV (pB q),FcV (.pointer (some ⟨q,1,none⟩)),FcV (.slice cm ar.length cu),FcV (.agg D),FcV (.agg m8),As.lf (fun H v=> ∃ b,v=.slice (some ⟨b,0,none⟩) 2 2/\H b=some (.cells #[(iV ((((h.update a0 ((a3: Nat): Int) a1).2.1)).tag)),(iV ((((h.update a0 ((a3: Nat): Int) a1).2.1)).n)),(.string ((((h.update a0 ((a3: Nat): Int) a1).2.1)).s)),(.bool ((((h.update a0 ((a3: Nat): Int) a1).2.1)).one)),(iV ((((h.update a0 ((a3: Nat): Int) a1).2.2.1)).tag)),(iV ((((h.update a0 ((a3: Nat): Int) a1).2.2.1)).n)),(.string ((((h.update a0 ((a3: Nat): Int) a1).2.2.1)).s)),(.bool ((((h.update a0 ((a3: Nat): Int) a1).2.2.1)).one))] 35 (0,0))),fun s v=> ∃(A: Option Addr) (c: Nat) (en: Ent),s.ax 8=some [en]/\v=.slice A ((ar++([((h.update a0 ((a3: Nat): Int) a1).2.1),((h.update a0 ((a3: Nat): Int) a1).2.2.1)]: List Wd)).length) c/\Row (.slice A ((ar++([((h.update a0 ((a3: Nat): Int) a1).2.1),((h.update a0 ((a3: Nat): Int) a1).2.2.1)]: List Wd)).length) c) en 35 4 ((ar++([((h.update a0 ((a3: Nat): Int) a1).2.1),((h.update a0 ((a3: Nat): Int) a1).2.2.1)]: List Wd)).length) (gfl Wd.cells (ar++([((h.update a0 ((a3: Nat): Int) a1).2.1),((h.update a0 ((a3: Nat): Int) a1).2.2.1)]: List Wd)))] mixed j1 j1 j1 j6 (fun _=>rfl) F (C.pk J) (As.QuietsI.c4 ?_ ?_ ?_ ?_ (As.QuietsI.c4 ?_ ?_ ?_ ?_ (As.QuietsI.cons ?_ (As.QuietsI.nil)))) (fun bm a w ba X F C a2=>?_)
            ·refine As.Qx J fun a w O G Z V F C T X=>?_;have I:=F;exact aj C J J fun a C=>As.ql C I
            ·refine As.Qx J fun a w O G Z V F C T X=>?_;have I:=F;exact aj C J J fun a C=>As.ql C I
            ·refine As.Qx1 1 J fun a w O G Z V F C T X=>?_;have I:=F;exact av C J J fun a C=>As.ql C I
            ·refine As.Qx1 2 J fun a w O G Z V F C T X=>?_;have I:=F;exact ac (f:=1) (o2:=1) T46 T37 J J J J C J J fun a C=>As.ql C I
            ·refine As.Qx1 3 J fun a w O G Z V F C T X=>?_;have I:=F;have F:=Step.dropN _ _ F;exact af (v:=(.slice cm ar.length cu)) T37 J C J (F.blkL 6 J) J J fun a C=>As.ql C I
            ·refine As.Qx J fun a w O G Z V F C T X=>?_;have I:=F;have F:=Step.dropN _ _ F;exact al (vs:=(wL ((h.update a0 ((a3: Nat): Int) a1).2.1))) T35 J C J (F.blkL 0 J) J (ag J) J fun a C=>As.ql C I
            ·refine As.Qx J fun a w O G Z V F C T X=>?_;have I:=F;have F:=Step.dropN _ _ F;exact al (vs:=(wL ((h.update a0 ((a3: Nat): Int) a1).2.2.1))) T35 J C J (F.blkL 1 J) J (ag J) J fun a C=>As.ql C I
            ·refine As.Qx1 5 J fun a w O G Z V F C T X=>?_;obtain⟨_,C,rfl⟩:=T.g C 6 J;have I:=F;have c3:=Step.dropN _ _ F;refine id (aY (vs:= [(0,(.agg D)),(1,(.agg m8))]) (cells:= [(iV ((((h.update a0 ((a3: Nat): Int) a1).2.1)).tag)),(iV ((((h.update a0 ((a3: Nat): Int) a1).2.1)).n)),(.string ((((h.update a0 ((a3: Nat): Int) a1).2.1)).s)),(.bool ((((h.update a0 ((a3: Nat): Int) a1).2.1)).one)),(iV ((((h.update a0 ((a3: Nat): Int) a1).2.2.1)).tag)),(iV ((((h.update a0 ((a3: Nat): Int) a1).2.2.1)).n)),(.string ((((h.update a0 ((a3: Nat): Int) a1).2.2.1)).s)),(.bool ((((h.update a0 ((a3: Nat): Int) a1).2.2.1)).one))]) T37.und T35 F C (C.evp J) J J J J fun t4 a w F C=>?_);obtain⟨Cz,F,Al,ns⟩:=F.give;exact As.qdone (s:=⟨O,G⟩) Al C F ⟨_,rfl,ns⟩
            ·refine As.Qx1 4 J fun a w O G Z V F C T X=>?_;obtain⟨_,C,t4,rfl,ns⟩:=T.g C 7 J;have F: Step w0 H L w O (br::_):=As.opn (s:=⟨O,G⟩) [] [8] [] [br] J (As.con0s V J) F;obtain⟨tt,C1,v4,uh,vo,qy,wn⟩:=(RowG.of_lit Wd.len ([((h.update a0 ((a3: Nat): Int) a1).2.1),((h.update a0 ((a3: Nat): Int) a1).2.2.1)]: List Wd) ns j3 J).2.2;refine id (aJ (news:=(gfl Wd.cells ([((h.update a0 ((a3: Nat): Int) a1).2.1),((h.update a0 ((a3: Nat): Int) a1).2.2.1)]: List Wd))) (xs:=(gfl Wd.cells ar)) T37.und T35 J J F ib C J J (aw Wd.len _) (fun b9=>⟨tt,C1,v4,uh,vo,(qy (fun Y=>b9 (by rw [Y];rfl))).1,F.blkH (qy (fun Y=>b9 (by rw [Y];rfl))).2,fun j u bg=>a8 Wd.len j4 wn bg⟩) (aT Wd.one' _) j0 J J fun Gu gp a w fp F C=>?_);rw [<- aF] at fp;obtain⟨g5,gk,rfl⟩:=fp.slice;have b4:(ar.length+2)=(ar++([((h.update a0 ((a3: Nat): Int) a1).2.1),((h.update a0 ((a3: Nat): Int) a1).2.2.1)]: List Wd)).length:=by have Y:=fp.1;rw [aw Wd.len] at Y;omega
             rw [show Value.slice g5 (ar.length+2) gk=Value.slice g5 (ar++([((h.update a0 ((a3: Nat): Int) a1).2.1),((h.update a0 ((a3: Nat): Int) a1).2.2.1)]: List Wd)).length gk from by rw [b4]] at C;rw [b4] at fp;exact As.qown (i:=8) (dst:=some 398) (s:=⟨O,G⟩) (E:= [gp]) [] [8] [] J J V (Le.refl _) C.dfr (As.has_at C) F As.con1 ⟨_,_,_,rfl,rfl,fp⟩
            obtain⟨k4,G⟩:=ba;have Fv: Le hv k4:=X.le;dsimp only at a2 F;obtain⟨_,C,rfl⟩:=As.Dd C a2 0 J;obtain⟨_,C,g5,gk,gp,ov,rfl,fp⟩:=As.Dd C a2 8 J;have ov: G 8=some [gp]:=ov;have F: Step w0 H L w k4 (gp::i1::i2::bq::c9::P::a7::K::c1::ec):=by
             have Y:=F;unfold As.aents at Y;simp only [List.flatMap_cons,List.flatMap_nil,As.conE,show sd 8=none from rfl,ov,Option.isSome_some,Option.getD_some,cond_true,cond_false,List.cons_append,List.nil_append,List.append_nil] at Y;exact Y
            refine any1 (i:=9) j1 J J (av C J J fun a C=>?_);refine any1 (i:=10) j1 J J (ac (f:=1) (o2:=1) T46 T37 J J J J C J J fun a C=>?_);refine any1 (i:=11) j1 J J (ak (cs':=(hA p g5 ((ar++([((h.update a0 ((a3: Nat): Int) a1).2.1),((h.update a0 ((a3: Nat): Int) a1).2.2.1)]: List Wd)).length) gk dh bs.length di)) T37 F (i:=7) J C J J J J J J fun a w F C=>?_);refine any0 j1 ?_;refine aa (wp_seq (ab (Lm J C fun a C=>?_)));refine lin J (aS C J J fun a C=>?_);let q6:=(eO q 46 (hA p g5 ((ar++([((h.update a0 ((a3: Nat): Int) a1).2.1),((h.update a0 ((a3: Nat): Int) a1).2.2.1)]: List Wd)).length) gk dh bs.length di));refine wpList_nil (aa (au (t:=402) C J (fun n0 C=>?_) (fun n0 C=>?_)))
            ·refine ap C J ?_;have Fg:(ar++([((h.update a0 ((a3: Nat): Int) a1).2.1),((h.update a0 ((a3: Nat): Int) a1).2.2.1)]: List Wd)).length=ar.length+2:=by simp
             let Bf:=(As.il [(7, [gp])])
             let se:=(As.sl [])
             have bo:=F;refine As.c_draw_head (ini:=Bf) (sup:=se) (als:= [7]) (s0:=⟨k4,fun _=>none⟩) (L:=(i1::i2::bq::c9::P::a7::q6::c1::ec)) (N:=480) (E:= [(0,(pB q)),(23,(pB ck))]) 8 [FcV (pB q),FcV (pB q),FcV (pB q),FcV (.pointer (some ⟨q,1,none⟩)),FcV (.slice g5 ((ar++([((h.update a0 ((a3: Nat): Int) a1).2.1),((h.update a0 ((a3: Nat): Int) a1).2.2.1)]: List Wd)).length) gk),FcV (.agg (wA a0)),As.lf (fun H v=> ∃ b,v=.slice (some ⟨b,0,none⟩) 1 1/\H b=some (.cells (wA a0) 35 (0,0))),fun s v=> ∃(A: Option Addr) (c: Nat) (en: Ent),s.ax 7=some [en]/\v=.slice A (((ar++([((h.update a0 ((a3: Nat): Int) a1).2.1),((h.update a0 ((a3: Nat): Int) a1).2.2.1)]: List Wd))++([a0]: List Wd)).length) c/\Row (.slice A (((ar++([((h.update a0 ((a3: Nat): Int) a1).2.1),((h.update a0 ((a3: Nat): Int) a1).2.2.1)]: List Wd))++([a0]: List Wd)).length) c) en 35 4 (((ar++([((h.update a0 ((a3: Nat): Int) a1).2.1),((h.update a0 ((a3: Nat): Int) a1).2.2.1)]: List Wd))++([a0]: List Wd)).length) (gfl Wd.cells ((ar++([((h.update a0 ((a3: Nat): Int) a1).2.1),((h.update a0 ((a3: Nat): Int) a1).2.2.1)]: List Wd))++([a0]: List Wd)))] mixed j1 j1 j1 j6 (fun _=>rfl) F (C.pk J) (As.QuietsI.c4 ?_ ?_ ?_ ?_ (As.QuietsI.c4 ?_ ?_ ?_ ?_ (As.QuietsI.nil))) (fun bm a w ba X F C a2=>?_)
             ·refine As.Qx J fun a w O G Z V F C T X=>?_;have I:=F;exact aj C J J fun a C=>As.ql C I
             ·refine As.Qx J fun a w O G Z V F C T X=>?_;have I:=F;exact aj C J J fun a C=>As.ql C I
             ·refine As.Qx1 1 J fun a w O G Z V F C T X=>?_;have I:=F;exact av C J J fun a C=>As.ql C I
             ·refine As.Qx1 2 J fun a w O G Z V F C T X=>?_;have I:=F;exact ac (f:=1) (o2:=1) T46 T37 J J J J C J J fun a C=>As.ql C I
             ·refine As.Qx1 3 J fun a w O G Z V F C T X=>?_;have I:=F;have F:=Step.dropN _ _ F;exact af (v:=(.slice g5 ((ar++([((h.update a0 ((a3: Nat): Int) a1).2.1),((h.update a0 ((a3: Nat): Int) a1).2.2.1)]: List Wd)).length) gk)) T37 J C J (F.blkL 6 J) J J fun a C=>As.ql C I
             ·refine As.Qx J fun a w O G Z V F C T X=>?_;have I:=F;have F:=Step.dropN _ _ F;exact al (vs:=(wL a0)) T35 J C J (F.blkL 3 J) J (ag J) J fun a C=>As.ql C I
             ·refine As.Qx1 5 J fun a w O G Z V F C T X=>?_;have I:=F;have c3:=Step.dropN _ _ F;refine id (aY (vs:= [(0,(.agg (wA a0)))]) (cells:=(wL a0)) T37.und T35 F C (C.evp J) J J J J fun t5 a w F C=>?_);obtain⟨D0,F,Am,nt⟩:=F.give;exact As.qdone (s:=⟨O,G⟩) Am C F ⟨_,rfl,nt⟩
             ·refine As.Qx1 4 J fun a w O G Z V F C T X=>?_;obtain⟨_,C,t5,rfl,nt⟩:=T.g C 6 J;have F: Step w0 H L w O (gp::_):=As.opn (s:=⟨O,G⟩) [] [7] [] [gp] J (As.con0s V J) F;obtain⟨tu,C2,v5,ui,vp,qz,wo⟩:=(RowG.of_lit Wd.len ([a0]: List Wd) nt j3 J).2.2;refine id (aJ (news:=(gfl Wd.cells ([a0]: List Wd))) (xs:=(gfl Wd.cells (ar++([((h.update a0 ((a3: Nat): Int) a1).2.1),((h.update a0 ((a3: Nat): Int) a1).2.2.1)]: List Wd)))) T37.und T35 J J F fp C J J (aw Wd.len _) (fun b9=>⟨tu,C2,v5,ui,vp,(qz (fun Y=>b9 (by rw [Y];rfl))).1,F.blkH (qz (fun Y=>b9 (by rw [Y];rfl))).2,fun j u bg=>a8 Wd.len j4 wo bg⟩) (aT Wd.one' _) j0 J J fun Gv la a w h4 F C=>?_);rw [<- aF] at h4;obtain⟨jx,ku,rfl⟩:=h4.slice;have b4:((ar++([((h.update a0 ((a3: Nat): Int) a1).2.1),((h.update a0 ((a3: Nat): Int) a1).2.2.1)]: List Wd)).length+1)=((ar++([((h.update a0 ((a3: Nat): Int) a1).2.1),((h.update a0 ((a3: Nat): Int) a1).2.2.1)]: List Wd))++([a0]: List Wd)).length:=by have Y:=h4.1;rw [aw Wd.len] at Y;omega
              rw [show Value.slice jx ((ar++([((h.update a0 ((a3: Nat): Int) a1).2.1),((h.update a0 ((a3: Nat): Int) a1).2.2.1)]: List Wd)).length+1) ku=Value.slice jx ((ar++([((h.update a0 ((a3: Nat): Int) a1).2.1),((h.update a0 ((a3: Nat): Int) a1).2.2.1)]: List Wd))++([a0]: List Wd)).length ku from by rw [b4]] at C;rw [b4] at h4;exact As.qown (i:=7) (dst:=some 410) (s:=⟨O,G⟩) (E:= [la]) [] [7] [] J J V (Le.refl _) C.dfr (As.has_at C) F As.con1 ⟨_,_,_,rfl,rfl,h4⟩
             obtain⟨pw,G⟩:=ba;have Fw: Le k4 pw:=X.le;dsimp only at a2 F;obtain⟨_,C,rfl⟩:=As.Dd C a2 0 J;obtain⟨_,C,jx,ku,la,ow,rfl,h4⟩:=As.Dd C a2 7 J;have ow: G 7=some [la]:=ow;have F: Step w0 H L w pw (la::i1::i2::bq::c9::P::a7::q6::c1::ec):=by
              have Y:=F;unfold As.aents at Y;simp only [List.flatMap_cons,List.flatMap_nil,As.conE,show se 7=none from rfl,ow,Option.isSome_some,Option.getD_some,cond_true,cond_false,List.cons_append,List.nil_append,List.append_nil] at Y;exact Y
             refine any1 (i:=8) j1 J J (av C J J fun a C=>?_);refine any1 (i:=9) j1 J J (ac (f:=1) (o2:=1) T46 T37 J J J J C J J fun a C=>?_);refine any1 (i:=10) j1 J J (ak (cs':=(hA p jx (((ar++([((h.update a0 ((a3: Nat): Int) a1).2.1),((h.update a0 ((a3: Nat): Int) a1).2.2.1)]: List Wd))++([a0]: List Wd)).length) ku dh bs.length di)) T37 F (i:=7) J C J J J J J J fun a w F C=>?_);refine any0 j1 ?_;refine ao (ret0 J C ?_);have F:=F.fd [2,0,2,0,2,0,2,0,2,0,2,0,3,2,3] J;exact⟨_,_,_,_,_,SR.updc fr ft j0 j0 J j0 j0 (by simpa using n0),by first | omega |(simp only [List.length_append,List.length_cons,List.length_nil];omega),by first | omega |(simp only [List.length_append,List.length_cons,List.length_nil];omega),⟨_,_,rfl,⟨_,_,_,_,_,_,rfl,h4,hc⟩,ix⟩,rfl,F⟩
            ·refine ah C J (wp_skip (ao (ret0 J C ?_)));have F:=F.fd [2,0,2,0,2,0,2,0,2,0,2,0,3,2,3] J;exact⟨_,_,_,_,_,SR.updi (lu.trans qm) fr ft j0 j0 J j0 j0 (by simpa using n0),by first | omega |(simp only [List.length_append,List.length_cons,List.length_nil];omega),by first | omega |(simp only [List.length_append,List.length_cons,List.length_nil];omega),⟨_,_,rfl,⟨_,_,_,_,_,_,rfl,fp,hc⟩,ix⟩,rfl,F⟩
       ·refine ah C J (wp_seq (ab (lin J (bn (i:=kk) (j:=7) C J J J fun a C=>?_))));refine Ls J C fun a C=>?_;refine wpList_nil (aa (an (t:=413) C J (fun w6 C=>?_) (fun w6 C=>?_)))
        ·refine ap C J (ab (Lm J C fun a C=>?_));refine lin J (ac (f:=1) (o2:=1) T32 T3 J J J J C J J fun a C=>?_);refine lin J (af (v:=(iV x.a)) T3 J C J (F.blkL 0 J) J J fun a C=>?_);have xu: HM q p ws bs h (b1::ay::a9::b2):=⟨[b1,ay,a9],b2,rfl,⟨_,_,_,_,_,_,rfl,d8,d0⟩,bj⟩;obtain⟨⟨H6,Cd⟩,o6⟩: ∃ bp,shareP ws x.a=bp:=⟨_,rfl⟩;have F8: Cd.length<=ws.length:=by have Y:=shareP_len ws x.a;rw [o6] at Y;first | exact Y | exact Nat.le_of_eq Y
         have zm:=c_mshared (F.tail [a7]) xu j0 j0 o6;refine lin J (Co func45 C J (zm) ?_);rintro e w ⟨Dg,rfl,xv,yp⟩;refine⟨_,rfl,fun a C=>?_⟩;have F:=F.frameR [a7] yp;obtain⟨_,Dn,rfl,⟨Ch,Dv,Ce,Ds,E7,Dz,rfl,rn,ri⟩,xc⟩:=xv;have Ev:=Row.cap rn;have Ej:=Row.cap ri;refine wpList_nil (ao (ret0 J C ?_));have F:=F.drop;have B3:=o6;exact⟨_,_,_,_,_,(by have Y:=SR.shr (x:=x) (h:=h) (ws:=ws) (bs:=bs);rw [B3] at Y;exact Y),by first | omega |(simp only [List.length_append,List.length_cons,List.length_nil];omega),by first | omega |(simp only [List.length_append,List.length_cons,List.length_nil];omega),⟨_,_,rfl,⟨_,_,_,_,_,_,rfl,rn,ri⟩,xc⟩,rfl,F⟩
        ·refine ah C J (wp_seq (ab (lin J (bn (i:=kk) (j:=8) C J J J fun a C=>?_))));refine Ls J C fun a C=>?_;refine wpList_nil (aa (an (t:=419) C J (fun w7 C=>?_) (fun w7 C=>?_)))
         ·refine ap C J (wp_seq (ab (Lm J C fun a C=>?_)));refine lin J (ac (f:=1) (o2:=1) T32 T3 J J J J C J J fun a C=>?_);refine lin J (af (v:=(iV x.a)) T3 J C J (F.blkL 0 J) J J fun a C=>?_);have xw: HM q p ws bs h (b1::ay::a9::b2):=⟨[b1,ay,a9],b2,rfl,⟨_,_,_,_,_,_,rfl,d8,d0⟩,bj⟩;obtain⟨⟨a5,b3⟩,fu⟩: ∃ bp,takeP ws x.a=bp:=⟨_,rfl⟩;have Fa: b3.length<=ws.length:=by have Y:=bw ws x.a;rw [fu] at Y;first | exact Y | exact Nat.le_of_eq Y
          have zn:=bS (F.tail [a7]) xw j0 j0 fu;refine lin J (Co func14 C J (zn) ?_);rintro e w ⟨Dh,rfl,xx,yq⟩;refine⟨_,rfl,fun a C=>?_⟩;have F:=F.frameR [a7] yq;obtain⟨_,c5,rfl,⟨cn,cv,e6,ed,bv,c7,rfl,hg,hd⟩,i9⟩:=xx;have Ew:=Row.cap hg;have Ek:=Row.cap hd;refine lin J (aE (cs:= #[(iV 0),(iV 0),(.string (⟨#[]⟩)),(.bool false)]) T35 F C J J fun i3 a w F C=>?_);refine lin J (ak (cs':=(wA a5)) T35 F (i:=0) J C J J J J J J fun a w F C=>?_);refine wpList_nil (aa (wp_seq (wp_seq ?_)))
          let jg:=(As.il [])
          let hm:=(As.sl [(9,10)])
          have bo:=F;let B:List Ent:=[(eO i3 35 (wA a5)),a7,(eO q 46 (hA p cn b3.length cv e6 bs.length ed)),bv,c7];let ke:=(wA ((valueS (HS.S h) a5).1));refine As.c_draw_head (ini:=jg) (sup:=hm) (als:= [9,10]) (s0:=⟨H,fun _=>none⟩) (L:=((eO i3 35 (wA a5))::a7::(eO q 46 (hA p cn b3.length cv e6 bs.length ed))::bv::c7::c5)) (N:=480) (E:= [(0,(pB q)),(31,(pB i3))]) 11 [FcV (pB q),FcV (pB q),FcV (pB q),FcV (pB p),FcV (.agg (wA a5)),FcV (.tuple #[(.agg ke),(iV ((valueS (HS.S h) a5).2))]),FcV (.tuple #[(.agg ke),(iV ((valueS (HS.S h) a5).2))]),FcV (.agg ke),FcV (iV ((valueS (HS.S h) a5).2)),fun s v=> ∃ b,s.ax 9=some [(eO b 35 #[(iV 0),(iV 0),(.string (⟨#[]⟩)),(.bool false)])]/\v=.pointer (some ⟨b,0,none⟩),fun s _=> ∃(b: Nat),s.ax 9=some [(eO b 35 #[(iV 0),(iV 0),(.string (⟨#[]⟩)),(.bool false)])]/\s.ax 10=some [(eO b 35 ke)]] mixed j1 j1 j1 (by repeat' (first | exact As.Monos.nil | refine As.Monos.cons ?_ ?_ |(intro _ _ _ hl h;exact h) |(rintro _ _ _ hl ⟨A,c,h,hr⟩;exact⟨A,c,h,hr.mono hl.le⟩) |(rintro _ _ _ hl ⟨b,h,e3⟩;exact⟨b,h,hl.le _ _ e3⟩) | exact fun _ _ _ hl ⟨b,h,e⟩=>⟨b,hl.get h,e⟩ | exact fun _ _ _ hl ⟨b,h1,h2⟩=>⟨b,hl.get h1,hl.get h2⟩)) (fun _=>rfl) F (C.pk J) (As.QuietsI.c4 ?_ ?_ ?_ ?_ (As.QuietsI.c4 ?_ ?_ ?_ ?_ (As.QuietsI.c2 ?_ ?_ (As.QuietsI.cons ?_ (As.QuietsI.nil))))) (fun bm a w ba X F C a2=>?_)
          ·refine As.Qx J fun a w O G Z V F C T X=>?_;have I:=F;exact aj C J J fun a C=>As.ql C I
          ·refine As.Qx1 0 J fun a w O G Z V F C T X=>?_;have I:=F;exact av C J J fun a C=>As.ql C I
          ·refine As.Qx1 1 J fun a w O G Z V F C T X=>?_;have I:=F;exact ac (f:=0) (o2:=0) T46 T44 J J J J C J J fun a C=>As.ql C I
          ·refine As.Qx1 2 J fun a w O G Z V F C T X=>?_;have I:=F;have F:=Step.dropN _ _ F;exact af (v:=(pB p)) T44 J C J (F.blkL 2 J) J J fun a C=>As.ql C I
          ·refine As.Qx J fun a w O G Z V F C T X=>?_;have I:=F;have F:=Step.dropN _ _ F;exact al (vs:=(wL a5)) T35 J C J (F.blkL 0 J) J (ag J) J fun a C=>As.ql C I
          ·refine As.Qx1 3 J fun a w O G Z V F C T X=>?_;obtain⟨_,C,rfl⟩:=T.g C 4 J;have I:=F;have c3:=Step.dropN _ _ F;have F:=Step.perm F (List.Perm.of_eq (List.append_assoc (As.aents jg hm [9,10] G) B c5).symm);have zo:=c_Deref (F.tail ((As.aents jg hm [9,10] G)++ B)) i9 (x:=a5);refine id (Co func29 C J (zo) ?_);rintro e w ⟨rfl,yr⟩;refine⟨_,rfl,fun a C=>?_⟩;have F:=F.frameR ((As.aents jg hm [9,10] G)++ B) yr;have F:=Step.perm F (List.Perm.of_eq (List.append_assoc (As.aents jg hm [9,10] G) B c5));exact As.qdone (s:=⟨O,G⟩) (Le.refl _) C F J
          ·refine As.Qx1 5 J fun a w O G Z V F C T X=>?_;have I:=F;exact aj C J J fun a C=>As.ql C I
          ·refine As.Qx1 6 J fun a w O G Z V F C T X=>?_;have I:=F;exact ad (v:=(.agg (wA ((valueS (HS.S h) a5).1)))) C J J J fun a C=>As.ql C I
          ·refine As.Qx1 6 J fun a w O G Z V F C T X=>?_;have I:=F;exact ad (v:=(iV ((valueS (HS.S h) a5).2))) C J J J fun a C=>As.ql C I
          ·refine As.Qx J fun a w O G Z V F C T X=>?_;have F: Step w0 H L w O (_):=As.opn (s:=⟨O,G⟩) [] [9] [10] [] J (As.con0 V J) F;refine aE (cs:= #[(iV 0),(iV 0),(.string (⟨#[]⟩)),(.bool false)]) T35 F C J J fun d2 a w F C=>?_;exact As.qown (i:=9) (dst:=some 32) (s:=⟨O,G⟩) (E:= [(eO d2 35 #[(iV 0),(iV 0),(.string (⟨#[]⟩)),(.bool false)])]) [] [9] [10] J J V (Le.refl _) C.dfr (As.has_at C) F As.con1 ⟨d2,rfl,rfl⟩
          ·refine As.Qx J fun a w O G Z V F C T X=>?_;obtain⟨_,C,d2,ev,rfl⟩:=T.g C 9 J;have ev: G 9=some [(eO d2 35 #[(iV 0),(iV 0),(.string (⟨#[]⟩)),(.bool false)])]:=ev;obtain⟨_,C,rfl⟩:=T.g C 7 J;have F: Step w0 H L w O ((eO d2 35 #[(iV 0),(iV 0),(.string (⟨#[]⟩)),(.bool false)])::_):=As.opn (s:=⟨O,G⟩) [] [9,10] [] [(eO d2 35 #[(iV 0),(iV 0),(.string (⟨#[]⟩)),(.bool false)])] J (As.con2 J J J ev V) F;refine id (ak (cs':=(wA ((valueS (HS.S h) a5).1))) T35 F (i:=0) J C J J J J J J fun a w F C=>?_);exact As.qown (i:=10) (dst:=none) (s:=⟨O,G⟩) (E:= [(eO d2 35 (wA ((valueS (HS.S h) a5).1)))]) [] [9,10] [] J J V (Le.refl _) C.dfr (v:=undef) (fun _ h=>by cases h) F (.inl (As.con2' J J)) ⟨d2,ev,rfl⟩
          obtain⟨co,G⟩:=ba;have Fx: Le H co:=X.le;dsimp only at a2 F;obtain⟨_,C,rfl⟩:=As.Dd C a2 8 J;obtain⟨_,C,d2,ev,rfl⟩:=As.Dd C a2 9 J;have ev: G 9=some [(eO d2 35 #[(iV 0),(iV 0),(.string (⟨#[]⟩)),(.bool false)])]:=ev;obtain⟨_,cd,s4,B2,pa⟩:=a2 10 _ _ J J;have pa: G 10=some [(eO s4 35 (wA ((valueS (HS.S h) a5).1)))]:=pa;obtain rfl: d2=s4:=by have Y:=(ev).symm.trans B2;simpa using Y
          have F: Step w0 H L w co ((eO d2 35 (wA ((valueS (HS.S h) a5).1)))::(eO i3 35 (wA a5))::a7::(eO q 46 (hA p cn b3.length cv e6 bs.length ed))::bv::c7::c5):=by
           have Y:=F;unfold As.aents at Y;simp only [List.flatMap_cons,List.flatMap_nil,As.conE,show hm 9=some 10 from rfl,show hm 10=none from rfl,ev,pa,Option.isSome_some,Option.getD_some,cond_true,cond_false,List.cons_append,List.nil_append,List.append_nil] at Y;exact Y
          refine any1 (i:=11) j1 J J (aH C J J fun a C=>?_);refine any0 j1 ?_;refine aa (wp_seq (ab (lin J (ac (f:=0) (o2:=0) T35 T3 J J J J C J J fun a C=>?_))));refine lin J (af (v:=(iV a5.tag)) T3 J C J (F.blkL 1 J) J J fun a C=>?_);refine lin J (bn (i:=a5.tag) (j:=4) C J J J fun a C=>?_);refine Lm J C fun a C=>?_;let W:=(eO d2 35 (wA ((valueS (HS.S h) a5).1)));let U:=(eO q 46 (hA p cn b3.length cv e6 bs.length ed));let ce:=(eO i3 35 (wA a5));let i0:List (Nat×Value):=[(0,(pB q)),(31,(pB i3))];let io:List (Nat×Value):=[(0,(.agg (wA a5)))];refine an (t:=437) C J (fun w8 C=>?_) (fun w8 C=>?_)
          ·refine ae J C J J J (ac (f:=3) (o2:=3) T35 T4 J J J J C J J fun a C=>?_);refine ae J C J J J (af (v:=(.bool a5.one)) T4 J C J (F.blkL 1 J) J J fun a C=>?_);refine lin J (aq C J J J fun a C=>?_);refine Lm J C fun a C=>?_;refine au (t:=441) C J (fun w9 C=>?_) (fun w9 C=>?_)
           ·refine ae J C J J J (aj C J J fun a C=>?_);refine ae J C J J J (bn (i:=((valueS (HS.S h) a5).2)) (j:=0) C J J J fun a C=>?_);refine lin J (aq C J J J fun a C=>?_);refine Lm J C fun a C=>?_;refine an (t:=445) C J (fun wa C=>?_) (fun wa C=>?_)
            ·refine ae J C J J J (al (vs:=(wL ((valueS (HS.S h) a5).1))) T35 J C J (F.blkL 0 J) J (ag J) J fun a C=>?_);refine ae J C J J J (al (vs:=(wL a5)) T35 J C J (F.blkL 1 J) J (ag J) J fun a C=>?_);refine ae J C J J J (fF (x1:=((valueS (HS.S h) a5).1)) (y1:=a5) C J J J fun a C=>?_);refine lin J (aq C J J J fun a C=>?_);refine wpList_nil (aa (aQ (t:=449) C J (fun wb C=>?_) (fun wb C=>?_)))
             ·refine ap C J (wp_seq ?_)
              let pf:=(As.il [(5,c5)])
              let lz:=(As.sl [])
              have F: Step w0 H L w co (c5++ [W,ce,a7,U,bv,c7]):=Step.perm (show Step w0 H L w co ([W,ce,a7,U,bv,c7]++c5) from F) (List.perm_append_comm (l₁:= [W,ce,a7,U,bv,c7]) (l₂:=c5));have bo:=F;refine As.c_draw_head (ini:=pf) (sup:=lz) (als:= [5]) (s0:=⟨co,fun _=>none⟩) (L:= [W,ce,a7,U,bv,c7]) (N:=480) (E:= i0) 10 [FcV (pB q),FcV (pB q),FcV (pB q),FcV (pB p),FcV (.agg (wA a5)),fun s v=> ∃(A: Option Addr) (c: Nat) (en: Ent) (L': List Ent),s.ax 5=some (en::L')/\v=(.tuple #[(.slice A (((h.free a5).2.1).length) c),(iV ((h.free a5).2.2))])/\Row (.slice A ((h.free a5).2.1).length c) en 35 4 ((h.free a5).2.1).length (gfl Wd.cells ((h.free a5).2.1))/\HK p ((h.free a5).1) L',fun s v=> ∃(A: Option Addr) (c: Nat) (en: Ent) (L': List Ent),s.ax 5=some (en::L')/\v=(.tuple #[(.slice A (((h.free a5).2.1).length) c),(iV ((h.free a5).2.2))])/\Row (.slice A ((h.free a5).2.1).length c) en 35 4 ((h.free a5).2.1).length (gfl Wd.cells ((h.free a5).2.1)),fun s v=> ∃(A: Option Addr) (c: Nat) (en: Ent) (L': List Ent),s.ax 5=some (en::L')/\v=(.slice A (((h.free a5).2.1).length) c)/\Row (.slice A ((h.free a5).2.1).length c) en 35 4 ((h.free a5).2.1).length (gfl Wd.cells ((h.free a5).2.1)),FcV (iV ((h.free a5).2.2)),fun s v=> ∃(A: Option Addr) (c: Nat) (en: Ent) (L': List Ent),s.ax 5=some (en::L')/\v=(.slice A (((h.free a5).2.1).length) c)/\Row (.slice A ((h.free a5).2.1).length c) en 35 4 ((h.free a5).2.1).length (gfl Wd.cells ((h.free a5).2.1))] mixed j1 j1 j1 j7 (fun _=>rfl) (show Step w0 H L w co ((c5++ [])++ [W,ce,a7,U,bv,c7]) from by simpa only [List.nil_append,List.append_nil,List.cons_append,List.append_assoc] using F) (C.pk J) (As.QuietsI.c4 ?_ ?_ ?_ ?_ (As.QuietsI.c4 ?_ ?_ ?_ ?_ (As.QuietsI.c2 ?_ ?_ (As.QuietsI.nil)))) (fun bm a w ba X F C a2=>?_)
              ·refine As.Qx J fun a w O G Z V F C T X=>?_;have I:=F;exact aj C J J fun a C=>As.ql C I
              ·refine As.Qx1 0 J fun a w O G Z V F C T X=>?_;have I:=F;exact av C J J fun a C=>As.ql C I
              ·refine As.Qx1 1 J fun a w O G Z V F C T X=>?_;have I:=F;exact ac (f:=0) (o2:=0) T46 T44 J J J J C J J fun a C=>As.ql C I
              ·refine As.Qx1 2 J fun a w O G Z V F C T X=>?_;have I:=F;have F:=Step.dropN _ _ F;exact af (v:=(pB p)) T44 J C J (F.blkL 3 J) J J fun a C=>As.ql C I
              ·refine As.Qx J fun a w O G Z V F C T X=>?_;have I:=F;have F:=Step.dropN _ _ F;exact al (vs:=(wL a5)) T35 J C J (F.blkL 1 J) J (ag J) J fun a C=>As.ql C I
              ·refine As.Qx1 3 J fun a w O G Z V F C T X=>?_;obtain⟨_,C,rfl⟩:=T.g C 4 J;have bi: As.aents pf lz [5] G=(c5):=by
                unfold As.aents;simp only [List.flatMap_cons,List.flatMap_nil,As.conE,show lz 5=none from rfl,show pf 5=c5 from rfl,V,Option.isSome_some,Option.isSome_none,Option.getD_some,Option.getD_none,cond_true,cond_false,List.append_nil,List.nil_append]
               have F: Step w0 H L w O ((c5)++_):=As.opn (s:=⟨O,G⟩) [] [5] [] (c5) J bi F;have F:=Step.perm F (List.perm_append_comm (l₁:=c5) (l₂:=_));have zp:=gx (F.tail (_)) i9 hdi.ok (x:=a5);refine id (Co func31 C J (zp) ?_);rintro e w ⟨me,f1,fg,el,rfl,d6,xd,yt⟩;refine⟨_,rfl,fun a C=>?_⟩;have F:=Step.perm (F.frameR (_) yt) List.perm_middle;have F:=Step.perm F (List.Perm.cons _ (List.perm_append_comm (l₁:=_) (l₂:=me)))
               skip
               exact As.qown (i:=5) (dst:=some 456) (s:=⟨O,G⟩) (E:=(el::me)) [] [5] [] J J V (Le.refl _) C.dfr (As.has_at C) F As.con1 ⟨f1,fg,el,me,rfl,rfl,d6,xd⟩
              ·refine As.Qx J fun a w O G Z V F C T X=>?_;obtain⟨_,C,f1,fg,el,ge,g1,rfl,d6,lm⟩:=T.g C 5 J;have g1: G 5=some (el::ge):=g1;have fw:=g1;have I:=F;refine id (aj C J J fun a C=>?_);exact As.qdone (s:=⟨O,G⟩) (Le.refl _) C I ⟨_,_,_,_,fw,rfl,d6⟩
              ·refine As.Qx J fun a w O G Z V F C T X=>?_;obtain⟨_,C,f1,fg,mw,ml,fw,rfl,d6⟩:=T.g C 6 J;have I:=F;refine id (ad (v:=(.slice f1 (((h.free a5).2.1).length) fg)) C J J J fun a C=>?_);exact As.qdone (s:=⟨O,G⟩) (Le.refl _) C I ⟨_,_,_,_,fw,rfl,d6⟩
              ·refine As.Qx J fun a w O G Z V F C T X=>?_;obtain⟨_,C,f1,fg,mw,ml,fw,rfl,d6⟩:=T.g C 6 J;have I:=F;exact ad (v:=(iV ((h.free a5).2.2))) C J J J fun a C=>As.ql C I
              ·refine As.Qx J fun a w O G Z V F C T X=>?_;obtain⟨_,C,f1,fg,mw,ml,fw,rfl,d6⟩:=T.g C 7 J;have I:=F;refine id (aH C J J fun a C=>?_);exact As.qdone (s:=⟨O,G⟩) (Le.refl _) C I ⟨_,_,_,_,fw,rfl,d6⟩
              obtain⟨k5,G⟩:=ba;have Fy: Le co k5:=X.le;dsimp only at a2 F;obtain⟨_,cd,f1,fg,el,ge,g1,rfl,d6,lm⟩:=a2 5 _ _ J J;have g1: G 5=some (el::ge):=g1;obtain⟨_,C,rfl⟩:=As.Dd C a2 8 J;obtain⟨_,C,f1,fg,mw,ml,fw,rfl,d6⟩:=As.Dd C a2 9 J;have ep:=Option.some.inj (fw.symm.trans g1);rw [(List.cons.inj ep).1] at d6;have F: Step w0 H L w k5 (el::ge++ [W,ce,a7,U,bv,c7]):=by
               have Y:=F;unfold As.aents at Y;simp only [List.flatMap_cons,List.flatMap_nil,As.conE,show lz 5=none from rfl,g1,List.append_assoc,Option.isSome_some,Option.getD_some,cond_true,cond_false,List.cons_append,List.nil_append,List.append_nil] at Y;exact Y
              have F:=Step.perm F (List.Perm.cons _ (List.perm_append_comm (l₁:=ge) (l₂:= [W,ce,a7,U,bv,c7])));refine any1 (i:=10) j1 J J (aH C J J fun a C=>?_);refine any0 j1 ?_;refine aa (wp_seq (ab (Lm J C fun a C=>?_)));refine lin J (bn (i:=((h.free a5).2.2)) (j:=0) C J J J fun a C=>?_);refine wpList_nil (aa (an (t:=460) C J (fun n1 C=>?_) (fun n1 C=>?_)))
              ·refine ap C J (wp_seq ?_);have za:=free_len lo a5;refine ab (Lm J C fun a C=>?_);refine Lm J C fun a C=>?_;refine lin J (av C J J fun a C=>?_);refine lin J (ac (f:=1) (o2:=1) T46 T37 J J J J C J J fun a C=>?_);refine lin J (af (v:=(.slice cn b3.length cv)) T37 J C J (F.blkL 4 J) J J fun a C=>?_);refine Lm J C fun a C=>?_;have F:=F.front 5 J;refine lin J (aJ (news:=(gfl Wd.cells ((h.free a5).2.1))) (xs:=(gfl Wd.cells b3)) T37.und T35 J J F hg C J J (d6.1) (fi (i:=1) F.inv J d6) (aT Wd.one' _) j0 J J fun Gw E3 a w j2 F C=>?_);rw [<- aF] at j2;obtain⟨m5,mu,rfl⟩:=j2.slice;have b4:(b3.length+((h.free a5).2.1).length)=(b3++((h.free a5).2.1)).length:=by have Y:=j2.1;rw [aw Wd.len] at Y;omega
               rw [show Value.slice m5 (b3.length+((h.free a5).2.1).length) mu=Value.slice m5 (b3++((h.free a5).2.1)).length mu from by rw [b4]] at C;rw [b4] at j2;refine lin J (av C J J fun a C=>?_);refine lin J (ac (f:=1) (o2:=1) T46 T37 J J J J C J J fun a C=>?_);refine lin J (ak (cs':=(hA p m5 ((b3++((h.free a5).2.1)).length) mu e6 bs.length ed)) T37 F (i:=5) J C J J J J J J fun a w F C=>?_);refine wpList_nil (aa (wp_ret (ai (aA (ret0r J C ?_)))));have F:=F.fd [2,0,2,0,2,0,2,0,3,2,3] J;exact⟨_,_,_,_,_,SR.free x.a fu n1,by first | omega |(simp only [List.length_append,List.length_cons,List.length_nil];omega),by first | omega |(simp only [List.length_append,List.length_cons,List.length_nil];omega),⟨_,_,rfl,⟨_,_,_,_,_,_,rfl,j2,hd⟩,lm⟩,rfl,F⟩
              ·refine ah C J (wp_skip (aa (?_)));have F:=F.front 5 J
               let Bg:=(As.il [(7, [bv])])
               let sf:=(As.sl [])
               have bo:=F;refine As.c_draw_head (ini:=Bg) (sup:=sf) (als:= [7]) (s0:=⟨k5,fun _=>none⟩) (L:=(el::W::ce::a7::U::c7::ge)) (N:=480) (E:= i0) 8 [FcV (pB q),FcV (pB q),FcV (pB q),FcV (.pointer (some ⟨q,1,none⟩)),FcV (.slice cn b3.length cv),FcV (.agg (wA a5)),As.lf (fun H v=> ∃ b,v=.slice (some ⟨b,0,none⟩) 1 1/\H b=some (.cells (wA a5) 35 (0,0))),fun s v=> ∃(A: Option Addr) (c: Nat) (en: Ent),s.ax 7=some [en]/\v=.slice A ((b3++([a5]: List Wd)).length) c/\Row (.slice A ((b3++([a5]: List Wd)).length) c) en 35 4 ((b3++([a5]: List Wd)).length) (gfl Wd.cells (b3++([a5]: List Wd)))] mixed j1 j1 j1 j6 (fun _=>rfl) F (C.pk J) (As.QuietsI.c4 ?_ ?_ ?_ ?_ (As.QuietsI.c4 ?_ ?_ ?_ ?_ (As.QuietsI.nil))) (fun bm a w ba X F C a2=>?_)
               ·refine As.Qx J fun a w O G Z V F C T X=>?_;have I:=F;exact aj C J J fun a C=>As.ql C I
               ·refine As.Qx J fun a w O G Z V F C T X=>?_;have I:=F;exact aj C J J fun a C=>As.ql C I
               ·refine As.Qx1 1 J fun a w O G Z V F C T X=>?_;have I:=F;exact av C J J fun a C=>As.ql C I
               ·refine As.Qx1 2 J fun a w O G Z V F C T X=>?_;have I:=F;exact ac (f:=1) (o2:=1) T46 T37 J J J J C J J fun a C=>As.ql C I
               ·refine As.Qx1 3 J fun a w O G Z V F C T X=>?_;have I:=F;have F:=Step.dropN _ _ F;exact af (v:=(.slice cn b3.length cv)) T37 J C J (F.blkL 4 J) J J fun a C=>As.ql C I
               ·refine As.Qx J fun a w O G Z V F C T X=>?_;have I:=F;have F:=Step.dropN _ _ F;exact al (vs:=(wL a5)) T35 J C J (F.blkL 2 J) J (ag J) J fun a C=>As.ql C I
               ·refine As.Qx1 5 J fun a w O G Z V F C T X=>?_;have I:=F;have c3:=Step.dropN _ _ F;refine id (aY (vs:= io) (cells:=(wL a5)) T37.und T35 F C (C.evp J) J J J J fun t6 a w F C=>?_);obtain⟨D1,F,An,nu⟩:=F.give;exact As.qdone (s:=⟨O,G⟩) An C F ⟨_,rfl,nu⟩
               ·refine As.Qx1 4 J fun a w O G Z V F C T X=>?_;obtain⟨_,C,t6,rfl,nu⟩:=T.g C 6 J;have F: Step w0 H L w O (bv::_):=As.opn (s:=⟨O,G⟩) [] [7] [] [bv] J (As.con0s V J) F;obtain⟨tv,C3,v6,uj,vq,r0,wp⟩:=(RowG.of_lit Wd.len ([a5]: List Wd) nu j3 J).2.2;refine id (aJ (news:=(gfl Wd.cells ([a5]: List Wd))) (xs:=(gfl Wd.cells b3)) T37.und T35 J J F hg C J J (aw Wd.len _) (fun b9=>⟨tv,C3,v6,uj,vq,(r0 (fun Y=>b9 (by rw [Y];rfl))).1,F.blkH (r0 (fun Y=>b9 (by rw [Y];rfl))).2,fun j u bg=>a8 Wd.len j4 wp bg⟩) (aT Wd.one' _) j0 J J fun Gx lb a w h5 F C=>?_);rw [<- aF] at h5;obtain⟨jy,kv,rfl⟩:=h5.slice;have b4:(b3.length+1)=(b3++([a5]: List Wd)).length:=by have Y:=h5.1;rw [aw Wd.len] at Y;omega
                rw [show Value.slice jy (b3.length+1) kv=Value.slice jy (b3++([a5]: List Wd)).length kv from by rw [b4]] at C;rw [b4] at h5;exact As.qown (i:=7) (dst:=some 477) (s:=⟨O,G⟩) (E:= [lb]) [] [7] [] J J V (Le.refl _) C.dfr (As.has_at C) F As.con1 ⟨_,_,_,rfl,rfl,h5⟩
               obtain⟨px,G⟩:=ba;have Fz: Le k5 px:=X.le;dsimp only at a2 F;obtain⟨_,C,rfl⟩:=As.Dd C a2 0 J;obtain⟨_,C,jy,kv,lb,ox,rfl,h5⟩:=As.Dd C a2 7 J;have ox: G 7=some [lb]:=ox;have F: Step w0 H L w px (lb::el::W::ce::a7::U::c7::ge):=by
                have Y:=F;unfold As.aents at Y;simp only [List.flatMap_cons,List.flatMap_nil,As.conE,show sf 7=none from rfl,ox,Option.isSome_some,Option.getD_some,cond_true,cond_false,List.cons_append,List.nil_append,List.append_nil] at Y;exact Y
               refine any1 (i:=8) j1 J J (av C J J fun a C=>?_);refine any1 (i:=9) j1 J J (ac (f:=1) (o2:=1) T46 T37 J J J J C J J fun a C=>?_);refine any1 (i:=10) j1 J J (ak (cs':=(hA p jy ((b3++([a5]: List Wd)).length) kv e6 bs.length ed)) T37 F (i:=5) J C J J J J J J fun a w F C=>?_);refine any0 j1 ?_;refine ao (ret0 J C ?_);have F:=F.fd [2,0,2,0,2,0,2,0,3,2,3] J;rw [free_no n1] at lm;exact⟨_,_,_,_,_,SR.back x.a fu,by first | omega |(simp only [List.length_append,List.length_cons,List.length_nil];omega),by first | omega |(simp only [List.length_append,List.length_cons,List.length_nil];omega),⟨_,_,rfl,⟨_,_,_,_,_,_,rfl,h5,hd⟩,lm⟩,rfl,F⟩
             ·refine ah C J (wp_skip (aa (?_)));have F:=F.front 4 J
              let Bh:=(As.il [(7, [bv])])
              let sg:=(As.sl [])
              have bo:=F;refine As.c_draw_head (ini:=Bh) (sup:=sg) (als:= [7]) (s0:=⟨co,fun _=>none⟩) (L:=(W::ce::a7::U::c7::c5)) (N:=480) (E:= i0) 8 [FcV (pB q),FcV (pB q),FcV (pB q),FcV (.pointer (some ⟨q,1,none⟩)),FcV (.slice cn b3.length cv),FcV (.agg (wA a5)),As.lf (fun H v=> ∃ b,v=.slice (some ⟨b,0,none⟩) 1 1/\H b=some (.cells (wA a5) 35 (0,0))),fun s v=> ∃(A: Option Addr) (c: Nat) (en: Ent),s.ax 7=some [en]/\v=.slice A ((b3++([a5]: List Wd)).length) c/\Row (.slice A ((b3++([a5]: List Wd)).length) c) en 35 4 ((b3++([a5]: List Wd)).length) (gfl Wd.cells (b3++([a5]: List Wd)))] mixed j1 j1 j1 j6 (fun _=>rfl) F (C.pk J) (As.QuietsI.c4 ?_ ?_ ?_ ?_ (As.QuietsI.c4 ?_ ?_ ?_ ?_ (As.QuietsI.nil))) (fun bm a w ba X F C a2=>?_)
              ·refine As.Qx J fun a w O G Z V F C T X=>?_;have I:=F;exact aj C J J fun a C=>As.ql C I
              ·refine As.Qx J fun a w O G Z V F C T X=>?_;have I:=F;exact aj C J J fun a C=>As.ql C I
              ·refine As.Qx1 1 J fun a w O G Z V F C T X=>?_;have I:=F;exact av C J J fun a C=>As.ql C I
              ·refine As.Qx1 2 J fun a w O G Z V F C T X=>?_;have I:=F;exact ac (f:=1) (o2:=1) T46 T37 J J J J C J J fun a C=>As.ql C I
              ·refine As.Qx1 3 J fun a w O G Z V F C T X=>?_;have I:=F;have F:=Step.dropN _ _ F;exact af (v:=(.slice cn b3.length cv)) T37 J C J (F.blkL 3 J) J J fun a C=>As.ql C I
              ·refine As.Qx J fun a w O G Z V F C T X=>?_;have I:=F;have F:=Step.dropN _ _ F;exact al (vs:=(wL a5)) T35 J C J (F.blkL 1 J) J (ag J) J fun a C=>As.ql C I
              ·refine As.Qx1 5 J fun a w O G Z V F C T X=>?_;have I:=F;have c3:=Step.dropN _ _ F;refine id (aY (vs:= io) (cells:=(wL a5)) T37.und T35 F C (C.evp J) J J J J fun t7 a w F C=>?_);obtain⟨D2,F,Ao,nv⟩:=F.give;exact As.qdone (s:=⟨O,G⟩) Ao C F ⟨_,rfl,nv⟩
              ·refine As.Qx1 4 J fun a w O G Z V F C T X=>?_;obtain⟨_,C,t7,rfl,nv⟩:=T.g C 6 J;have F: Step w0 H L w O (bv::_):=As.opn (s:=⟨O,G⟩) [] [7] [] [bv] J (As.con0s V J) F;obtain⟨tw,C4,v7,uk,vr,r1,wq⟩:=(RowG.of_lit Wd.len ([a5]: List Wd) nv j3 J).2.2;refine id (aJ (news:=(gfl Wd.cells ([a5]: List Wd))) (xs:=(gfl Wd.cells b3)) T37.und T35 J J F hg C J J (aw Wd.len _) (fun b9=>⟨tw,C4,v7,uk,vr,(r1 (fun Y=>b9 (by rw [Y];rfl))).1,F.blkH (r1 (fun Y=>b9 (by rw [Y];rfl))).2,fun j u bg=>a8 Wd.len j4 wq bg⟩) (aT Wd.one' _) j0 J J fun Gy lc a w h6 F C=>?_);rw [<- aF] at h6;obtain⟨jz,kw,rfl⟩:=h6.slice;have b4:(b3.length+1)=(b3++([a5]: List Wd)).length:=by have Y:=h6.1;rw [aw Wd.len] at Y;omega
               rw [show Value.slice jz (b3.length+1) kw=Value.slice jz (b3++([a5]: List Wd)).length kw from by rw [b4]] at C;rw [b4] at h6;exact As.qown (i:=7) (dst:=some 477) (s:=⟨O,G⟩) (E:= [lc]) [] [7] [] J J V (Le.refl _) C.dfr (As.has_at C) F As.con1 ⟨_,_,_,rfl,rfl,h6⟩
              obtain⟨py,G⟩:=ba;have G0: Le co py:=X.le;dsimp only at a2 F;obtain⟨_,C,rfl⟩:=As.Dd C a2 0 J;obtain⟨_,C,jz,kw,lc,oy,rfl,h6⟩:=As.Dd C a2 7 J;have oy: G 7=some [lc]:=oy;have F: Step w0 H L w py (lc::W::ce::a7::U::c7::c5):=by
               have Y:=F;unfold As.aents at Y;simp only [List.flatMap_cons,List.flatMap_nil,As.conE,show sg 7=none from rfl,oy,Option.isSome_some,Option.getD_some,cond_true,cond_false,List.cons_append,List.nil_append,List.append_nil] at Y;exact Y
              refine any1 (i:=8) j1 J J (av C J J fun a C=>?_);refine any1 (i:=9) j1 J J (ac (f:=1) (o2:=1) T46 T37 J J J J C J J fun a C=>?_);refine any1 (i:=10) j1 J J (ak (cs':=(hA p jz ((b3++([a5]: List Wd)).length) kw e6 bs.length ed)) T37 F (i:=4) J C J J J J J J fun a w F C=>?_);refine any0 j1 ?_;refine ao (ret0 J C ?_);have F:=F.fd [2,0,2,0,2,0,3,2,3] J;exact⟨_,_,_,_,_,SR.back x.a fu,by first | omega |(simp only [List.length_append,List.length_cons,List.length_nil];omega),by first | omega |(simp only [List.length_append,List.length_cons,List.length_nil];omega),⟨_,_,rfl,⟨_,_,_,_,_,_,rfl,h6,hd⟩,i9⟩,rfl,F⟩
            ·refine Lf J C J J fun a C=>?_;refine Lf J C J J fun a C=>?_;refine Lf J C J J fun a C=>?_;refine lin J (am C J J J fun a C=>?_);refine wpList_nil (aa (ah C J (wp_skip (aa (?_)))));have F:=F.front 4 J
             let Bi:=(As.il [(7, [bv])])
             let sh:=(As.sl [])
             have bo:=F;refine As.c_draw_head (ini:=Bi) (sup:=sh) (als:= [7]) (s0:=⟨co,fun _=>none⟩) (L:=(W::ce::a7::U::c7::c5)) (N:=480) (E:= i0) 8 [FcV (pB q),FcV (pB q),FcV (pB q),FcV (.pointer (some ⟨q,1,none⟩)),FcV (.slice cn b3.length cv),FcV (.agg (wA a5)),As.lf (fun H v=> ∃ b,v=.slice (some ⟨b,0,none⟩) 1 1/\H b=some (.cells (wA a5) 35 (0,0))),fun s v=> ∃(A: Option Addr) (c: Nat) (en: Ent),s.ax 7=some [en]/\v=.slice A ((b3++([a5]: List Wd)).length) c/\Row (.slice A ((b3++([a5]: List Wd)).length) c) en 35 4 ((b3++([a5]: List Wd)).length) (gfl Wd.cells (b3++([a5]: List Wd)))] mixed j1 j1 j1 j6 (fun _=>rfl) F (C.pk J) (As.QuietsI.c4 ?_ ?_ ?_ ?_ (As.QuietsI.c4 ?_ ?_ ?_ ?_ (As.QuietsI.nil))) (fun bm a w ba X F C a2=>?_)
             ·refine As.Qx J fun a w O G Z V F C T X=>?_;have I:=F;exact aj C J J fun a C=>As.ql C I
             ·refine As.Qx J fun a w O G Z V F C T X=>?_;have I:=F;exact aj C J J fun a C=>As.ql C I
             ·refine As.Qx1 1 J fun a w O G Z V F C T X=>?_;have I:=F;exact av C J J fun a C=>As.ql C I
             ·refine As.Qx1 2 J fun a w O G Z V F C T X=>?_;have I:=F;exact ac (f:=1) (o2:=1) T46 T37 J J J J C J J fun a C=>As.ql C I
             ·refine As.Qx1 3 J fun a w O G Z V F C T X=>?_;have I:=F;have F:=Step.dropN _ _ F;exact af (v:=(.slice cn b3.length cv)) T37 J C J (F.blkL 3 J) J J fun a C=>As.ql C I
             ·refine As.Qx J fun a w O G Z V F C T X=>?_;have I:=F;have F:=Step.dropN _ _ F;exact al (vs:=(wL a5)) T35 J C J (F.blkL 1 J) J (ag J) J fun a C=>As.ql C I
             ·refine As.Qx1 5 J fun a w O G Z V F C T X=>?_;have I:=F;have c3:=Step.dropN _ _ F;refine id (aY (vs:= io) (cells:=(wL a5)) T37.und T35 F C (C.evp J) J J J J fun t8 a w F C=>?_);obtain⟨D3,F,Ap,nw⟩:=F.give;exact As.qdone (s:=⟨O,G⟩) Ap C F ⟨_,rfl,nw⟩
             ·refine As.Qx1 4 J fun a w O G Z V F C T X=>?_;obtain⟨_,C,t8,rfl,nw⟩:=T.g C 6 J;have F: Step w0 H L w O (bv::_):=As.opn (s:=⟨O,G⟩) [] [7] [] [bv] J (As.con0s V J) F;obtain⟨tz,C5,v8,ul,vt,r2,wr⟩:=(RowG.of_lit Wd.len ([a5]: List Wd) nw j3 J).2.2;refine id (aJ (news:=(gfl Wd.cells ([a5]: List Wd))) (xs:=(gfl Wd.cells b3)) T37.und T35 J J F hg C J J (aw Wd.len _) (fun b9=>⟨tz,C5,v8,ul,vt,(r2 (fun Y=>b9 (by rw [Y];rfl))).1,F.blkH (r2 (fun Y=>b9 (by rw [Y];rfl))).2,fun j u bg=>a8 Wd.len j4 wr bg⟩) (aT Wd.one' _) j0 J J fun Gz ld a w h7 F C=>?_);rw [<- aF] at h7;obtain⟨k0,kx,rfl⟩:=h7.slice;have b4:(b3.length+1)=(b3++([a5]: List Wd)).length:=by have Y:=h7.1;rw [aw Wd.len] at Y;omega
              rw [show Value.slice k0 (b3.length+1) kx=Value.slice k0 (b3++([a5]: List Wd)).length kx from by rw [b4]] at C;rw [b4] at h7;exact As.qown (i:=7) (dst:=some 477) (s:=⟨O,G⟩) (E:= [ld]) [] [7] [] J J V (Le.refl _) C.dfr (As.has_at C) F As.con1 ⟨_,_,_,rfl,rfl,h7⟩
             obtain⟨pz,G⟩:=ba;have G1: Le co pz:=X.le;dsimp only at a2 F;obtain⟨_,C,rfl⟩:=As.Dd C a2 0 J;obtain⟨_,C,k0,kx,ld,oz,rfl,h7⟩:=As.Dd C a2 7 J;have oz: G 7=some [ld]:=oz;have F: Step w0 H L w pz (ld::W::ce::a7::U::c7::c5):=by
              have Y:=F;unfold As.aents at Y;simp only [List.flatMap_cons,List.flatMap_nil,As.conE,show sh 7=none from rfl,oz,Option.isSome_some,Option.getD_some,cond_true,cond_false,List.cons_append,List.nil_append,List.append_nil] at Y;exact Y
             refine any1 (i:=8) j1 J J (av C J J fun a C=>?_);refine any1 (i:=9) j1 J J (ac (f:=1) (o2:=1) T46 T37 J J J J C J J fun a C=>?_);refine any1 (i:=10) j1 J J (ak (cs':=(hA p k0 ((b3++([a5]: List Wd)).length) kx e6 bs.length ed)) T37 F (i:=4) J C J J J J J J fun a w F C=>?_);refine any0 j1 ?_;refine ao (ret0 J C ?_);have F:=F.fd [2,0,2,0,2,0,3,2,3] J;exact⟨_,_,_,_,_,SR.back x.a fu,by first | omega |(simp only [List.length_append,List.length_cons,List.length_nil];omega),by first | omega |(simp only [List.length_append,List.length_cons,List.length_nil];omega),⟨_,_,rfl,⟨_,_,_,_,_,_,rfl,h7,hd⟩,i9⟩,rfl,F⟩
           ·refine Lf J C J J fun a C=>?_;refine Lf J C J J fun a C=>?_;refine lin J (am C J J J fun a C=>?_);refine Lm J C fun a C=>?_;refine Lf J C J J fun a C=>?_;refine Lf J C J J fun a C=>?_;refine Lf J C J J fun a C=>?_;refine lin J (am C J J J fun a C=>?_);refine wpList_nil (aa (ah C J (wp_skip (aa (?_)))));have F:=F.front 4 J
            let Bj:=(As.il [(7, [bv])])
            let si:=(As.sl [])
            have bo:=F;refine As.c_draw_head (ini:=Bj) (sup:=si) (als:= [7]) (s0:=⟨co,fun _=>none⟩) (L:=(W::ce::a7::U::c7::c5)) (N:=480) (E:= i0) 8 [FcV (pB q),FcV (pB q),FcV (pB q),FcV (.pointer (some ⟨q,1,none⟩)),FcV (.slice cn b3.length cv),FcV (.agg (wA a5)),As.lf (fun H v=> ∃ b,v=.slice (some ⟨b,0,none⟩) 1 1/\H b=some (.cells (wA a5) 35 (0,0))),fun s v=> ∃(A: Option Addr) (c: Nat) (en: Ent),s.ax 7=some [en]/\v=.slice A ((b3++([a5]: List Wd)).length) c/\Row (.slice A ((b3++([a5]: List Wd)).length) c) en 35 4 ((b3++([a5]: List Wd)).length) (gfl Wd.cells (b3++([a5]: List Wd)))] mixed j1 j1 j1 j6 (fun _=>rfl) F (C.pk J) (As.QuietsI.c4 ?_ ?_ ?_ ?_ (As.QuietsI.c4 ?_ ?_ ?_ ?_ (As.QuietsI.nil))) (fun bm a w ba X F C a2=>?_)
            ·refine As.Qx J fun a w O G Z V F C T X=>?_;have I:=F;exact aj C J J fun a C=>As.ql C I
            ·refine As.Qx J fun a w O G Z V F C T X=>?_;have I:=F;exact aj C J J fun a C=>As.ql C I
            ·refine As.Qx1 1 J fun a w O G Z V F C T X=>?_;have I:=F;exact av C J J fun a C=>As.ql C I
            ·refine As.Qx1 2 J fun a w O G Z V F C T X=>?_;have I:=F;exact ac (f:=1) (o2:=1) T46 T37 J J J J C J J fun a C=>As.ql C I
            ·refine As.Qx1 3 J fun a w O G Z V F C T X=>?_;have I:=F;have F:=Step.dropN _ _ F;exact af (v:=(.slice cn b3.length cv)) T37 J C J (F.blkL 3 J) J J fun a C=>As.ql C I
            ·refine As.Qx J fun a w O G Z V F C T X=>?_;have I:=F;have F:=Step.dropN _ _ F;exact al (vs:=(wL a5)) T35 J C J (F.blkL 1 J) J (ag J) J fun a C=>As.ql C I
            ·refine As.Qx1 5 J fun a w O G Z V F C T X=>?_;have I:=F;have c3:=Step.dropN _ _ F;refine id (aY (vs:= io) (cells:=(wL a5)) T37.und T35 F C (C.evp J) J J J J fun ta a w F C=>?_);obtain⟨D5,F,Ar,ny⟩:=F.give;exact As.qdone (s:=⟨O,G⟩) Ar C F ⟨_,rfl,ny⟩
            ·refine As.Qx1 4 J fun a w O G Z V F C T X=>?_;obtain⟨_,C,ta,rfl,ny⟩:=T.g C 6 J;have F: Step w0 H L w O (bv::_):=As.opn (s:=⟨O,G⟩) [] [7] [] [bv] J (As.con0s V J) F;obtain⟨u0,C6,v9,um,vu,r3,wt⟩:=(RowG.of_lit Wd.len ([a5]: List Wd) ny j3 J).2.2;refine id (aJ (news:=(gfl Wd.cells ([a5]: List Wd))) (xs:=(gfl Wd.cells b3)) T37.und T35 J J F hg C J J (aw Wd.len _) (fun b9=>⟨u0,C6,v9,um,vu,(r3 (fun Y=>b9 (by rw [Y];rfl))).1,F.blkH (r3 (fun Y=>b9 (by rw [Y];rfl))).2,fun j u bg=>a8 Wd.len j4 wt bg⟩) (aT Wd.one' _) j0 J J fun H1 lg a w h8 F C=>?_);rw [<- aF] at h8;obtain⟨k1,ky,rfl⟩:=h8.slice;have b4:(b3.length+1)=(b3++([a5]: List Wd)).length:=by have Y:=h8.1;rw [aw Wd.len] at Y;omega
             rw [show Value.slice k1 (b3.length+1) ky=Value.slice k1 (b3++([a5]: List Wd)).length ky from by rw [b4]] at C;rw [b4] at h8;exact As.qown (i:=7) (dst:=some 477) (s:=⟨O,G⟩) (E:= [lg]) [] [7] [] J J V (Le.refl _) C.dfr (As.has_at C) F As.con1 ⟨_,_,_,rfl,rfl,h8⟩
            obtain⟨q0,G⟩:=ba;have G2: Le co q0:=X.le;dsimp only at a2 F;obtain⟨_,C,rfl⟩:=As.Dd C a2 0 J;obtain⟨_,C,k1,ky,lg,p0,rfl,h8⟩:=As.Dd C a2 7 J;have p0: G 7=some [lg]:=p0;have F: Step w0 H L w q0 (lg::W::ce::a7::U::c7::c5):=by
             have Y:=F;unfold As.aents at Y;simp only [List.flatMap_cons,List.flatMap_nil,As.conE,show si 7=none from rfl,p0,Option.isSome_some,Option.getD_some,cond_true,cond_false,List.cons_append,List.nil_append,List.append_nil] at Y;exact Y
            refine any1 (i:=8) j1 J J (av C J J fun a C=>?_);refine any1 (i:=9) j1 J J (ac (f:=1) (o2:=1) T46 T37 J J J J C J J fun a C=>?_);refine any1 (i:=10) j1 J J (ak (cs':=(hA p k1 ((b3++([a5]: List Wd)).length) ky e6 bs.length ed)) T37 F (i:=4) J C J J J J J J fun a w F C=>?_);refine any0 j1 ?_;refine ao (ret0 J C ?_);have F:=F.fd [2,0,2,0,2,0,3,2,3] J;exact⟨_,_,_,_,_,SR.back x.a fu,by first | omega |(simp only [List.length_append,List.length_cons,List.length_nil];omega),by first | omega |(simp only [List.length_append,List.length_cons,List.length_nil];omega),⟨_,_,rfl,⟨_,_,_,_,_,_,rfl,h8,hd⟩,i9⟩,rfl,F⟩
          ·refine Lf J C J J fun a C=>?_;refine Lf J C J J fun a C=>?_;refine lin J (am C J J J fun a C=>?_);refine Lm J C fun a C=>?_;refine Lf J C J J fun a C=>?_;refine Lf J C J J fun a C=>?_;refine lin J (am C J J J fun a C=>?_);refine Lm J C fun a C=>?_;refine Lf J C J J fun a C=>?_;refine Lf J C J J fun a C=>?_;refine Lf J C J J fun a C=>?_;refine lin J (am C J J J fun a C=>?_);refine wpList_nil (aa (ah C J (wp_skip (aa (?_)))));have F:=F.front 4 J
           let Bk:=(As.il [(7, [bv])])
           let sj:=(As.sl [])
           have bo:=F;refine As.c_draw_head (ini:=Bk) (sup:=sj) (als:= [7]) (s0:=⟨co,fun _=>none⟩) (L:=(W::ce::a7::U::c7::c5)) (N:=480) (E:= i0) 8 [FcV (pB q),FcV (pB q),FcV (pB q),FcV (.pointer (some ⟨q,1,none⟩)),FcV (.slice cn b3.length cv),FcV (.agg (wA a5)),As.lf (fun H v=> ∃ b,v=.slice (some ⟨b,0,none⟩) 1 1/\H b=some (.cells (wA a5) 35 (0,0))),fun s v=> ∃(A: Option Addr) (c: Nat) (en: Ent),s.ax 7=some [en]/\v=.slice A ((b3++([a5]: List Wd)).length) c/\Row (.slice A ((b3++([a5]: List Wd)).length) c) en 35 4 ((b3++([a5]: List Wd)).length) (gfl Wd.cells (b3++([a5]: List Wd)))] mixed j1 j1 j1 j6 (fun _=>rfl) F (C.pk J) (As.QuietsI.c4 ?_ ?_ ?_ ?_ (As.QuietsI.c4 ?_ ?_ ?_ ?_ (As.QuietsI.nil))) (fun bm a w ba X F C a2=>?_)
           ·refine As.Qx J fun a w O G Z V F C T X=>?_;have I:=F;exact aj C J J fun a C=>As.ql C I
           ·refine As.Qx J fun a w O G Z V F C T X=>?_;have I:=F;exact aj C J J fun a C=>As.ql C I
           ·refine As.Qx1 1 J fun a w O G Z V F C T X=>?_;have I:=F;exact av C J J fun a C=>As.ql C I
           ·refine As.Qx1 2 J fun a w O G Z V F C T X=>?_;have I:=F;exact ac (f:=1) (o2:=1) T46 T37 J J J J C J J fun a C=>As.ql C I
           ·refine As.Qx1 3 J fun a w O G Z V F C T X=>?_;have I:=F;have F:=Step.dropN _ _ F;exact af (v:=(.slice cn b3.length cv)) T37 J C J (F.blkL 3 J) J J fun a C=>As.ql C I
           ·refine As.Qx J fun a w O G Z V F C T X=>?_;have I:=F;have F:=Step.dropN _ _ F;exact al (vs:=(wL a5)) T35 J C J (F.blkL 1 J) J (ag J) J fun a C=>As.ql C I
           ·refine As.Qx1 5 J fun a w O G Z V F C T X=>?_;have I:=F;have c3:=Step.dropN _ _ F;refine id (aY (vs:= io) (cells:=(wL a5)) T37.und T35 F C (C.evp J) J J J J fun tb a w F C=>?_);obtain⟨D6,F,At,nz⟩:=F.give;exact As.qdone (s:=⟨O,G⟩) At C F ⟨_,rfl,nz⟩
           ·refine As.Qx1 4 J fun a w O G Z V F C T X=>?_;obtain⟨_,C,tb,rfl,nz⟩:=T.g C 6 J;have F: Step w0 H L w O (bv::_):=As.opn (s:=⟨O,G⟩) [] [7] [] [bv] J (As.con0s V J) F;obtain⟨u1,C7,va,un,vv,r4,wu⟩:=(RowG.of_lit Wd.len ([a5]: List Wd) nz j3 J).2.2;refine id (aJ (news:=(gfl Wd.cells ([a5]: List Wd))) (xs:=(gfl Wd.cells b3)) T37.und T35 J J F hg C J J (aw Wd.len _) (fun b9=>⟨u1,C7,va,un,vv,(r4 (fun Y=>b9 (by rw [Y];rfl))).1,F.blkH (r4 (fun Y=>b9 (by rw [Y];rfl))).2,fun j u bg=>a8 Wd.len j4 wu bg⟩) (aT Wd.one' _) j0 J J fun H2 lh a w h9 F C=>?_);rw [<- aF] at h9;obtain⟨k2,kz,rfl⟩:=h9.slice;have b4:(b3.length+1)=(b3++([a5]: List Wd)).length:=by have Y:=h9.1;rw [aw Wd.len] at Y;omega
            rw [show Value.slice k2 (b3.length+1) kz=Value.slice k2 (b3++([a5]: List Wd)).length kz from by rw [b4]] at C;rw [b4] at h9;exact As.qown (i:=7) (dst:=some 477) (s:=⟨O,G⟩) (E:= [lh]) [] [7] [] J J V (Le.refl _) C.dfr (As.has_at C) F As.con1 ⟨_,_,_,rfl,rfl,h9⟩
           obtain⟨q1,G⟩:=ba;have G3: Le co q1:=X.le;dsimp only at a2 F;obtain⟨_,C,rfl⟩:=As.Dd C a2 0 J;obtain⟨_,C,k2,kz,lh,p1,rfl,h9⟩:=As.Dd C a2 7 J;have p1: G 7=some [lh]:=p1;have F: Step w0 H L w q1 (lh::W::ce::a7::U::c7::c5):=by
            have Y:=F;unfold As.aents at Y;simp only [List.flatMap_cons,List.flatMap_nil,As.conE,show sj 7=none from rfl,p1,Option.isSome_some,Option.getD_some,cond_true,cond_false,List.cons_append,List.nil_append,List.append_nil] at Y;exact Y
           refine any1 (i:=8) j1 J J (av C J J fun a C=>?_);refine any1 (i:=9) j1 J J (ac (f:=1) (o2:=1) T46 T37 J J J J C J J fun a C=>?_);refine any1 (i:=10) j1 J J (ak (cs':=(hA p k2 ((b3++([a5]: List Wd)).length) kz e6 bs.length ed)) T37 F (i:=4) J C J J J J J J fun a w F C=>?_);refine any0 j1 ?_;refine ao (ret0 J C ?_);have F:=F.fd [2,0,2,0,2,0,3,2,3] J;exact⟨_,_,_,_,_,SR.back x.a fu,by first | omega |(simp only [List.length_append,List.length_cons,List.length_nil];omega),by first | omega |(simp only [List.length_append,List.length_cons,List.length_nil];omega),⟨_,_,rfl,⟨_,_,_,_,_,_,rfl,h9,hd⟩,i9⟩,rfl,F⟩
         ·refine ah C J (wp_skip (ao (ret0 J C ?_)));have F:=F.drop;exact⟨_,_,_,_,_,SR.same,by first | omega |(simp only [List.length_append,List.length_cons,List.length_nil];omega),by first | omega |(simp only [List.length_append,List.length_cons,List.length_nil];omega),⟨_,_,rfl,⟨_,_,_,_,_,_,rfl,d8,d0⟩,bj⟩,rfl,F⟩
end Go.Vk.Tryz
namespace Go.Vk.Tryz
open Go.RowKit
theorem c_mall {w0: World} {H: PHeap} {q p: Nat} {ws bs: List Wd} {h: HS} {L: List Ent} (hI: Inv w0 H L) (hM: HM q p ws bs h L) (hlw: ws.length<=100000) (hlb: bs.length<=100000): Calls prog 15 #[(pB q)] w0 (fun e w'=> ∃ H' A c,e=.returned (.slice A (ws++bs).length c)/\RowG 4 Wd.cells H' A c (ws++bs)/\Step w0 H L w' H' L):=by
 obtain⟨_,a6,rfl,⟨Y,Z,Ab,cb,a9,a8,rfl,a3,a2⟩,aw⟩:=hM;have F:=Step.refl hI;have b0:=Row.cap a3;have az:=Row.cap a2;refine enter [(pB q)] func15 J ntmps15 J fun a C=>?_;refine wp_seq (ab (Ls J C fun a C=>?_));refine wpList_nil (aa (wp_seq ?_));have ax:=F;refine As.c_draw_head (ini:=(As.il [])) (sup:=(As.sl [])) (als:= []) (s0:=⟨H,fun _=>none⟩) (L:=((eO q 46 (hA p Y ws.length Z Ab bs.length cb))::a9::a8::a6)) (N:=13) (E:= [(0,(pB q))]) 9 [FcV (pB q),FcV (pB q),FcV (.pointer (some ⟨q,1,none⟩)),FcV (.slice Y ws.length Z),FcV (pB q),FcV (pB q),FcV (.pointer (some ⟨q,2,none⟩)),FcV (.slice Ab bs.length cb),fun al v=>(fun H v=> ∃ b,v=.slice (some ⟨b,0,none⟩) 2 2/\H b=some (.cells #[(.slice Y ws.length Z),(.slice Ab bs.length cb)] 37 (0,0))) al.H v] mixed J J J (As.M1 (As.M1 (As.M1 (As.M1 (As.M1 (As.M1 (As.M1 (As.M1 (As.Monos.cons (fun _ _ v hl ak=>(fun _ _ _ hl ⟨b,h,ae⟩=>⟨b,h,hl _ _ ae⟩: ∀(H H': PHeap) (v: Value),Le H H'->(fun H v=> ∃ b,v=.slice (some ⟨b,0,none⟩) 2 2/\H b=some (.cells #[(.slice Y ws.length Z),(.slice Ab bs.length cb)] 37 (0,0))) H v->(fun H v=> ∃ b,v=.slice (some ⟨b,0,none⟩) 2 2/\H b=some (.cells #[(.slice Y ws.length Z),(.slice Ab bs.length cb)] 37 (0,0))) H' v) _ _ _ hl.le ak) (As.Monos.nil)))))))))) (fun _=>rfl) F (C.pk J) (As.QuietsI.c4 ?_ ?_ ?_ ?_ (As.QuietsI.c4 ?_ ?_ ?_ ?_ (As.QuietsI.cons ?_ (As.QuietsI.nil)))) (fun au a w am O F C a4=>?_)
 ·refine As.Qx J fun a w T I X a0 F C V O=>?_;have G:=F;exact aj C J J fun a C=>As.ql C G
 ·refine As.Qx1 0 J fun a w T I X a0 F C V O=>?_;have G:=F;exact av C J J fun a C=>As.ql C G
 ·refine As.Qx1 1 J fun a w T I X a0 F C V O=>?_;have G:=F;exact ac (f:=1) (o2:=1) T46 T37 J J J J C J J fun a C=>As.ql C G
 ·refine As.Qx1 2 J fun a w T I X a0 F C V O=>?_;have G:=F;have F:=Step.dropN _ _ F;exact af (v:=(.slice Y ws.length Z)) T37 J C J (F.blkL 0 J) J J fun a C=>As.ql C G
 ·refine As.Qx J fun a w T I X a0 F C V O=>?_;have G:=F;exact aj C J J fun a C=>As.ql C G
 ·refine As.Qx1 4 J fun a w T I X a0 F C V O=>?_;have G:=F;exact av C J J fun a C=>As.ql C G
 ·refine As.Qx1 5 J fun a w T I X a0 F C V O=>?_;have G:=F;exact ac (f:=2) (o2:=2) T46 T37 J J J J C J J fun a C=>As.ql C G
 ·refine As.Qx1 6 J fun a w T I X a0 F C V O=>?_;have G:=F;have F:=Step.dropN _ _ F;exact af (v:=(.slice Ab bs.length cb)) T37 J C J (F.blkL 0 J) J J fun a C=>As.ql C G
 ·refine As.Qx1 3 J fun a w T I X a0 F C V O=>?_;obtain⟨_,C,rfl⟩:=V.g C 7 J;have G:=F;have ay:=Step.dropN _ _ F;refine id (aY (vs:= [(0,(.slice Y ws.length Z)),(1,(.slice Ab bs.length cb))]) (cells:= [(.slice Y ws.length Z),(.slice Ab bs.length cb)]) T145.und T37 F C (C.evp J) J J J J fun a7 a w F C=>?_);obtain⟨ao,F,ai,a1⟩:=F.give;exact As.qdone (s:=⟨T,I⟩) ai C F ⟨_,rfl,a1⟩
 obtain⟨a5,I⟩:=am;have b1: Le H a5:=O.le;dsimp only at a4 F;obtain⟨_,C,a7,rfl,a1⟩:=As.Dd C a4 8 J;have ah:=c_ConcatW F.inv.nil a1 (RdG.of_mem Wd.len j4 F.inv (List.mem_of_getElem? (i:=1) J) a3 j0) (RdG.of_mem Wd.len j4 F.inv (List.mem_of_getElem? (i:=2) J) a2 j0);refine any1 (i:=9) j1 J J (Co func52 C J (ah) ?_);rintro e w ⟨an,aq,ar,rfl,ad,ag⟩;refine⟨_,rfl,fun a C=>?_⟩;have F:=F.call_own ag;refine any1 (i:=10) j1 J J (aH C J J fun a C=>?_);refine any0 j1 ?_;refine aa (wp_ret (ret1 J C J ?_));obtain⟨ap,F,X,hG⟩:=rowW_release ad F (by rw [List.length_append];omega);exact⟨_,_,_,rfl,hG,F⟩
theorem c_begun {w0: World} {H: PHeap} (hI: Inv w0 H []) {n: Int} (hn: 16<=n/\n<=65536): Calls prog 12 #[(iV n)] w0 (fun e w'=> ∃ q p L',e=.returned (pB q)/\HM q p [] [] (HS.new (Int.toNat n)) L'/\Step w0 H [] w' H L'):=by
 have F:=Step.refl hI;refine enter [(iV n)] func12 J ntmps12 J fun a C=>?_;refine wp_seq (ab (Ls J C fun a C=>?_));refine wpList_nil (aa (wp_seq (ab (Lm J C fun a C=>?_))));have V:=c_hNew (n:=n) F.inv.nil;refine lin J (Co func22 C J (V) ?_);rintro e w O;obtain⟨G,L1,rfl,I,T⟩:=newR_ok O j0;refine⟨_,rfl,fun a C=>?_⟩;have F:=(Step.frame (Lc:= []) (R:= []) F T).perm List.perm_append_comm;refine Lm J C fun a C=>?_;refine lin J (ad (v:=(pB G)) C J J J fun a C=>?_);refine lin J (ad (v:=(iV 0)) C J J J fun a C=>?_);refine Ls J C fun a C=>?_;refine Ls J C fun a C=>?_;refine wpList_nil (aa (wp_seq (wp_seq (ab (Lm J C fun a C=>?_)))));refine lin J (bE (i:=0) (j:=0) C J J J fun a C=>?_);refine Lm J C fun a C=>?_;refine ae J C J J J (aj C J J fun a C=>?_);refine ae J C J J J (aW T44.und T103 C J J J fun a C=>?_);refine lin J (am C J J J fun a C=>?_);refine wpList_nil (aa (ah C J (wp_skip (aa (wp_seq (ab (Lm J C fun a C=>?_)))))));refine lin J (aG (vs:= [(0,(pB G)),(3,(.bool true))]) (cells:= [(pB G),(.slice none 0 0),(.slice none 0 0),(.bool true)]) T46 PL46 C (C.evp J) J J fun a C=>?_);refine lin J (aV (cs:=(hA G none 0 0 none 0 0)) F C J J J fun X a w F C=>?_);refine Ls J C fun a C=>?_;refine wpList_nil (aa (wp_ret (ret1 J C J ?_)));have F:=F.cons_none (en:=noEnt) J;have F:=F.cons_none (en:=noEnt) J;have F:=Step.perm F (List.Perm.trans (List.Perm.cons _ (List.Perm.swap _ _ _)) (List.Perm.swap _ _ _));exact⟨_,_,_,rfl,⟨[_,noEnt,noEnt],L1,rfl,⟨none,0,none,0,noEnt,noEnt,rfl,Row.nil _ _,Row.nil _ _⟩,I⟩,F⟩
end Go.Vk.Tryz
namespace Go.Vk
theorem dc {S: PS} {w: Wd} {T: Tm}: readS S w=(T,0)↔wordS S w=true/\∃ r,rdS S 600 4000 w=(r,some T):=by
 unfold readS
 constructor
 ·intro h
  split at h
  ·cases h
  ·rename_i hw
   split at h
   ·rename_i t ht
    injection h with h1 _
    subst h1;exact⟨by simpa using hw,(rdS S 600 4000 w).1,Prod.ext J ht⟩
   ·cases h
 ·rintro⟨hw,r,h⟩;rw [if_neg (by rw [hw];simp),h]
theorem read_ext {S S': PS} {w: Wd} {T: Tm} (he: Ext S S') (h: readS S w=(T,0)): readS S' w=(T,0):=by
 obtain⟨hw,r,hr⟩:=dc.1 h;exact dc.2 ⟨ey he hw,r,gm he _ _ _ _ _ hr⟩
theorem cq {S S': PS} {w: Wd} {T T': Tm} (he: Ext S S'\/Ext S' S) (h: readS S w=(T,0)) (h': readS S' w=(T',0)): T'=T:=by
 rcases he with he | he
 ·have:=read_ext he h;rw [h'] at this;exact(Prod.mk.inj this).1
 ·have:=read_ext he h';rw [h] at this;exact(Prod.mk.inj this).1.symm
def NoR (a: Nat) (w: Wd): Prop:=refB w=true->w.n≠(a: Int)
theorem d8 {S: PS} {a: Nat} {o: Option PB} {w: Wd} (h: NoR a w): atS (S.set a o) w=atS S w:=by
 by_cases hr: refB w=true
 ·have hn:=h hr
  by_cases h0: w.n < 0
  ·exact(cn (l:=S.set a o) (tg:=PB.tag) (.inl h0)).trans (cn (l:=S) (tg:=PB.tag) (.inl h0)).symm
  ·exact d9 j0
 ·have key: ∀ S': PS,atS S' w=none:=fun S'=>by
   cases hb: atS S' w with
   | none=>rfl
   | some b=>exact absurd (gw hb) hr
  rw [key,key]
theorem nor_nxt {a: Nat} {w x: Wd} (h: NoR a x): NoR a (nxtW w x):=by
 unfold nxtW
 split
 ·exact h
 ·exact h
theorem fol_nor {S: PS} {a: Nat} {o: Option PB} (hr: ∀ z ∈ refsOf S,NoR a z): ∀(k: Nat) (w: Wd),NoR a w->folS (S.set a o) k w=folS S k w/\NoR a (folS S k w).1
 | 0,w,_=>⟨rfl,fun h=>by cases h⟩
 | k+1,w,hw=>by
  rw [folS,folS,d8 hw]
  cases hb: atS S w with
  | none=>exact ⟨rfl,hw⟩
  | some b =>
   cases b with
   | fn s l=>exact ⟨rfl,hw⟩
   | vec l=>exact ⟨rfl,hw⟩
   | var to hk =>
    cases to with
    | nil=>exact ⟨rfl,hw⟩
    | cons x xs=>exact fol_nor hr k _ (nor_nxt (hr x (bW.2 ⟨_,_,(ar hb).2.2.2.1,List.mem_cons_self⟩)))
theorem cU {f g: Int->Wd->Int × Option Tm}: ∀ {ws: List Wd},(∀ w ∈ ws,∀ l,f l w=g l w)->∀ l,rdL f l ws=rdL g l ws
 | [],_,l=>rfl
 | w::ws,h,l=>by
  rw [rdL,rdL,h w List.mem_cons_self];dsimp only;rw [cU (fun x hx=>h x (List.mem_cons_of_mem _ hx))]
theorem gF {S: PS} {a: Nat} {o: Option PB} (hr: ∀ z ∈ refsOf S,NoR a z): ∀(d: Nat) (l: Int) (w: Wd),NoR a w->rdS (S.set a o) d l w=rdS S d l w
 | 0,l,w,_=>rfl
 | d+1,l,w,hw=>by
  obtain⟨h1,h2⟩:=fol_nor (o:=o) hr (S.length+1) w hw;have hf: followS (S.set a o) w=followS S w:=by
   unfold followS;rw [List.length_set];exact h1
  have h2: NoR a (followS S w).1:=h2;unfold rdS;dsimp only;rw [hf,d8 h2]
  cases hb: atS S (followS S w).1 with
  | none=>rfl
  | some b =>
   have hm: ∀ z ∈ b.words,z ∈ refsOf S:=fun z hz=>bW.2 ⟨_,_,(ar hb).2.2.2.1,hz⟩
   cases b with
   | var to hk=>rfl
   | fn s ws =>
    dsimp only;rw [cU (ws:=ws) (f:=rdS (S.set a o) d) (g:=rdS S d) (fun x hx l=>gF hr d l x (hr x (hm x hx)))]
   | vec ws =>
    dsimp only;rw [cU (ws:=ws) (f:=rdS (S.set a o) d) (g:=rdS S d) (fun x hx l=>gF hr d l x (hr x (hm x hx)))]
theorem word_nor {S: PS} {a: Nat} {o: Option PB} {w: Wd} (h: NoR a w): wordS (S.set a o) w=wordS S w:=by
 unfold wordS;rw [d8 h]
theorem read_nor {S: PS} {a: Nat} {o: Option PB} {w: Wd} (hr: ∀ z ∈ refsOf S,NoR a z) (hw: NoR a w): readS (S.set a o) w=readS S w:=by
 unfold readS;rw [word_nor hw,gF hr 600 4000 w hw]
theorem fol_sh {S: PS}: ∀(k: Nat) (w: Wd),(folS S k (shW w)).2=(folS S k w).2/\shW (folS S k (shW w)).1=shW (folS S k w).1
 | 0,w=>⟨rfl,rfl⟩
 | k+1,w=>by
  rw [folS,folS,show atS S (shW w)=atS S w from rfl]
  cases hb: atS S w with
  | none=>exact ⟨rfl,rfl⟩
  | some b =>
   cases b with
   | fn s l=>exact ⟨rfl,rfl⟩
   | vec l=>exact ⟨rfl,rfl⟩
   | var to hk =>
    cases to with
    | nil=>exact ⟨rfl,rfl⟩
    | cons x xs =>
     dsimp only
     by_cases hx: refB x=true
     ·have e: nxtW (shW w) x=shW (nxtW w x):=by
       unfold nxtW;rw [if_pos hx,if_pos hx]
       show (⟨x.tag,x.n,x.s,x.one&&false⟩: Wd)=⟨x.tag,x.n,x.s,false⟩
       rw [Bool.and_false]
      rw [e];exact fol_sh k _
     ·have e: nxtW (shW w) x=nxtW w x:=by
       unfold nxtW;rw [if_neg hx,if_neg hx]
      rw [e];exact⟨rfl,rfl⟩
theorem rd_sh {S: PS} (d: Nat) (l: Int) (w: Wd): rdS S d l (shW w)=rdS S d l w:=by
 cases d with
 | zero=>rfl
 | succ d =>
  obtain⟨h1,h2⟩:=fol_sh (S:=S) (S.length+1) w;have h1:(followS S (shW w)).2=(followS S w).2:=h1;have h2: shW (followS S (shW w)).1=shW (followS S w).1:=h2;have ht:(followS S (shW w)).1.tag=(followS S w).1.tag:=by have e:=congrArg Wd.tag h2;exact e
  have hn:(followS S (shW w)).1.n=(followS S w).1.n:=by have e:=congrArg Wd.n h2;exact e
  have hs:(followS S (shW w)).1.s=(followS S w).1.s:=by have e:=congrArg Wd.s h2;exact e
  have ha: atS S (followS S (shW w)).1=atS S (followS S w).1:=by
   show atS S (shW (followS S (shW w)).1)=atS S (shW (followS S w).1)
   rw [h2]
  unfold rdS;dsimp only;rw [h1,ht,hn,hs,ha]
theorem fol_shB {S: PS} {a: Nat} {l: List Wd} (hj: S[a]? =some (some (.vec l))): ∀(k: Nat) (w: Wd),folS (S.set a (some (.vec (l.map shW)))) k w=folS S k w
 | 0,w=>rfl
 | k+1,w=>by
  rw [folS,folS];have hlt:=(List.getElem?_eq_some_iff.1 hj).1
  by_cases hw: NoR a w
  ·rw [d8 hw]
   cases hb: atS S w with
   | none=>rfl
   | some b =>
    cases b with
    | fn s l=>rfl
    | vec l=>rfl
    | var to hk =>
     cases to with
     | nil=>rfl
     | cons x xs=>exact fol_shB hj k _
  ·have hr: refB w=true:=Classical.byContradiction fun h=>hw fun h'=>absurd h' h;have hn: w.n=(a: Int):=Classical.byContradiction fun h=>hw fun _=>h;have e1: ∀ b,atS S w=some b->b=.vec l:=fun b hb=>by
    have:=(ar hb).2.2.2.1;rw [hn,Int.toNat_natCast,hj] at this;exact(Option.some.inj (Option.some.inj this)).symm
   have e2: ∀ b,atS (S.set a (some (.vec (l.map shW)))) w=some b->b=.vec (l.map shW):=fun b hb=>by
    have:=(ar hb).2.2.2.1;rw [hn,Int.toNat_natCast,List.getElem?_set,if_pos J,if_pos hlt] at this;exact(Option.some.inj (Option.some.inj this)).symm
   cases hb: atS S w with
   | none =>
    cases hc: atS (S.set a (some (.vec (l.map shW)))) w with
    | none=>rfl
    | some c=>rw [e2 c hc]
   | some b =>
    rw [e1 b hb]
    cases hc: atS (S.set a (some (.vec (l.map shW)))) w with
    | none=>rfl
    | some c=>rw [e2 c hc]
theorem rdL_sh {f g: Int->Wd->Int × Option Tm}: ∀ {ws: List Wd},(∀ w ∈ ws,∀ l,f l (shW w)=g l w)->∀ l,rdL f l (ws.map shW)=rdL g l ws
 | [],_,l=>rfl
 | w::ws,h,l=>by
  rw [List.map_cons,rdL,rdL,h w List.mem_cons_self];dsimp only;rw [rdL_sh (fun x hx=>h x (List.mem_cons_of_mem _ hx))]
theorem gn {S: PS} {a: Nat} {l: List Wd} (hj: S[a]? =some (some (.vec l))): ∀(d: Nat) (left: Int) (w: Wd),rdS (S.set a (some (.vec (l.map shW)))) d left w=rdS S d left w
 | 0,left,w=>rfl
 | d+1,left,w=>by
  have hlt:=(List.getElem?_eq_some_iff.1 hj).1;have hf: followS (S.set a (some (.vec (l.map shW)))) w=followS S w:=by
   unfold followS;rw [List.length_set];exact fol_shB hj _ w
  unfold rdS;dsimp only;rw [hf]
  generalize hx:(followS S w).1=x
  by_cases hw: NoR a x
  ·rw [d8 hw]
   cases hb: atS S x with
   | none=>rfl
   | some b =>
    cases b with
    | var to hk=>rfl
    | fn s ws =>
     dsimp only;rw [cU (f:=rdS (S.set a (some (.vec (l.map shW)))) d) (g:=rdS S d) (fun x _ l=>gn hj d l x)]
    | vec ws =>
     dsimp only;rw [cU (f:=rdS (S.set a (some (.vec (l.map shW)))) d) (g:=rdS S d) (fun x _ l=>gn hj d l x)]
  ·have hn: x.n=(a: Int):=Classical.byContradiction fun h=>hw fun _=>h
   by_cases hok: x.s=⟨#[]⟩/\x.tag=6
   ·have h1: atS S x=some (.vec l):=(bJ (tg:=PB.tag) (b:=.vec l) j0 j0 hok.1 (by rw [hn,Int.toNat_natCast];exact hj)).trans (if_pos (show x.tag=PB.tag (.vec l) from hok.2));have h2: atS (S.set a (some (.vec (l.map shW)))) x=some (.vec (l.map shW)):=(bJ (tg:=PB.tag) (b:=.vec (l.map shW)) j0 (by rw [List.length_set];omega) hok.1 (by rw [hn,Int.toNat_natCast,List.getElem?_set,if_pos J,if_pos hlt])).trans (if_pos (show x.tag=PB.tag (.vec (l.map shW)) from hok.2));rw [h1,h2];dsimp only;rw [rdL_sh (f:=rdS (S.set a (some (.vec (l.map shW)))) d) (g:=rdS S d) (fun x _ l=>by rw [gn hj d l (shW x),rd_sh])]
   ·have none_: ∀(S': PS) (c: PB),S'[a]? =some (some c)->c.tag=6->atS S' x=none:=fun S' c hc ht=>by
     cases hb: atS S' x with
     | none=>rfl
     | some b =>
      have hg:=ar hb;have h3:=hg.2.2.2.1;rw [hn,Int.toNat_natCast,hc] at h3;obtain rfl:=Option.some.inj (Option.some.inj h3);exact absurd ⟨hg.2.2.1,hg.2.2.2.2.trans ht⟩ hok
    rw [none_ S _ hj J,none_ (S.set a (some (.vec (l.map shW)))) (.vec (l.map shW)) (by rw [List.getElem?_set,if_pos J,if_pos hlt]) J]
theorem read_shB {S: PS} {a: Nat} {l: List Wd} (hj: S[a]? =some (some (.vec l))) (w: Wd) (hw: wordS S w=true): readS (S.set a (some (.vec (l.map shW)))) w=readS S w:=by
 unfold readS;rw [gn hj,hw,cG (c:=.vec (l.map shW)) hj J hw]
theorem ext_del {S: PS} (a: Nat): Ext (S.set a none) S:=by
 refine⟨by rw [List.length_set],fun j b hj=>?_⟩
 rcases bm hj with ⟨_,e⟩ |⟨_,h⟩
 ·cases e
 ·exact h
theorem ext_fill {S: PS} (a: Nat) (o: Option PB): Ext (S.set a none) (S.set a o):=by
 refine⟨by rw [List.length_set,List.length_set],fun j b hj=>?_⟩
 rcases bm hj with ⟨_,e⟩ |⟨hne,h⟩
 ·cases e
 ·rw [List.getElem?_set,if_neg (fun e=>hne e.symm)];exact h
section
variable {h h': HS} {ws ws' bs bs' pool: List Wd} {w v x y u: Wd}
theorem DI.nor (hd: DI h (y::pool) bs) (ho: y.one=true) {b: PB} (hb: atS h.S y=some b) (hnv: ∀ hk,b≠.var [] hk):(∀ z ∈ refsOf h.S,NoR y.n.toNat z)/\(∀ z ∈ pool++bs,NoR y.n.toNat z):=by
 have h0:=(ar hb).1;have honly:=hd.only ho (gw hb);refine⟨fun z hz hr e=>honly z (List.mem_append_right _ hz) hr j0,fun z hz hr e=>?_⟩
 rcases List.mem_append.1 hz with hz | hz
 ·exact honly z (List.mem_append_left _ hz) hr j0
 ·exact unb_ne (hd.bv z hz) hb hnv j0
end
theorem take_mem {ws ws1: List Wd} {k: Int} {y: Wd} (e: takeP ws k=(y,ws1)) {w: Wd} (hw: w ∈ ws): w=y\/w ∈ ws1:=by
 have hne: ws≠[]:=fun h=>by subst h;cases hw
 have hl: 0 < ws.length:=List.length_pos_iff.2 hne;obtain⟨i,h1,h2⟩:=cI (k:=k) (n:=(ws.length: Int)) (m:=ws.length) J hl;rw [fP h1 (List.getElem?_eq_getElem h2)] at e;injection e with e1 e2
 have:=(bC h2).mem_iff.2 hw;rw [e1,e2] at this;exact List.mem_cons.1 this
end Go.Vk
namespace Go.Vk
section
variable {h h': HS} {ws ws' bs bs' pool: List Wd} {w v x y u: Wd}
theorem fun_ext (hO: h.Ok) (s: ByteArray) (l: List Wd): Ext h.S (h.fun_ s l).1.S:=by
 unfold HS.fun_
 repeat' split
 all_goals first | exact Ext.refl _ | exact cj hO _
theorem vec_ext (hO: h.Ok) (l: List Wd): Ext h.S (h.vec l).1.S:=by
 unfold HS.vec
 repeat' split
 all_goals first | exact Ext.refl _ | exact cj hO _
theorem clear_ext (a: Nat): Ext (h.clear a).S h.S:=by
 unfold HS.clear
 split
 ·exact ext_del a
 ·exact Ext.refl _
theorem free_ext (w: Wd): Ext (h.free w).1.S h.S:=by
 unfold HS.free
 split
 ·exact Ext.refl _
 ·split
  ·exact Ext.refl _
  ·split
   ·exact Ext.refl _
   ·exact clear_ext _
theorem ext_set {S S': PS} (he: Ext S S') (a: Nat) (o: Option PB): Ext (S.set a o) (S'.set a o):=by
 refine⟨by rw [List.length_set,List.length_set,he.len],fun j b hj=>?_⟩;have hl:=he.len
 by_cases e: a=j
 ·subst e;have hlt:=(List.getElem?_eq_some_iff.1 hj).1;rw [List.length_set] at hlt;rw [List.getElem?_set,if_pos J,if_pos hlt] at hj;rw [List.getElem?_set,if_pos J,if_pos j0,hj]
 ·rw [List.getElem?_set,if_neg e] at hj;rw [List.getElem?_set,if_neg e];exact he.keep j b hj
theorem update_copy {l: List Wd} {i: Int} (hb: atS h.S w=some (.vec l)) (ho: w.one=false) (hi: 0<=i/\i < l.length) (hy: wordS h.S y=true) (e:(h.update w i y).2.2.2.2=0): ∃ b2,(h.update w i y).1=(h.place b2).1.setB w.n.toNat (.vec (l.map shW)):=by
 unfold HS.update at e ⊢;rw [hb] at e ⊢;dsimp only at e ⊢;rw [if_neg j0,if_neg (by rw [hy];simp),if_neg (by rw [ho];simp)] at e ⊢
 split at e
 ·cases e
 ·rename_i hp
  rw [if_neg hp];exact⟨_,rfl⟩
theorem DI.put_read {b: PB} {T T': Tm} (hd: DI h (y::pool) bs) (ho: y.one=true) (hb: atS h.S y=some b) (hnv: ∀ hk,b≠.var [] hk) (c: Option PB) (hw: w ∈ pool++bs) (h1: readS h.S w=(T,0)) (h2: readS (h.S.set y.n.toNat c) w=(T',0)): T'=T:=by
 obtain⟨n1,n2⟩:=hd.nor ho hb hnv;have h3: readS (h.S.set y.n.toNat none) w=(T,0):=by rw [read_nor n1 (n2 w hw)];exact h1
 exact cq (.inl (ext_fill y.n.toNat c)) h3 h2
end
theorem SR.read {x: StV} {h h': HS} {ws ws' bs bs': List Wd} {w: Wd} {T T': Tm} (hs: SR x (h,ws,bs) (h',ws',bs')) (hd: DI h ws bs) (hw: w ∈ ws++bs) (hnr: ¬((ixZ x.kd 9=5\/ixZ x.kd 9=6)/\w.one=true/\(w.tag=5\/w.tag=6))) (h1: readS h.S w=(T,0)) (h2: readS h'.S w=(T',0)): T'=T\/(ixZ x.kd 9=3/\∃(y v: Wd) (ws1: List Wd) (i: Nat),takeP ws x.b=(y,ws1)/\bs[i]? =some v/\insP h.S v y=false/\h'=(h.bind v y).1):=by
 have same: readS h.S w=(T',0)->T'=T:=fun h3=>cq (.inl (Ext.refl _)) h1 h3;have left_: ∀ {y: Wd} {ws1: List Wd} {k: Int},takeP ws k=(y,ws1)->w=y\/w ∈ ws1++bs:=fun e=>by
  rcases List.mem_append.1 hw with hw | hw
  ·rcases take_mem e hw with h | h
   ·exact .inl h
   ·exact .inr (List.mem_append_left _ h)
  ·exact .inr (List.mem_append_right _ hw)
 cases hs with
 | bnd hk' e1 hv hi=>exact .inr ⟨hk',_,_,_,_,e1,hv,hi,rfl⟩
 | var e=>exact .inl (cq (.inl (cj hd.ok _)) h1 h2)
 | var0 e=>exact .inl (cq (.inl (cj hd.ok _)) h1 h2)
 | fn e1 e2=>exact .inl (cq (.inl (fun_ext hd.ok _ _)) h1 h2)
 | vec e1 e2 e3=>exact .inl (cq (.inl (vec_ext hd.ok _)) h1 h2)
 | same=>exact .inl (same h2)
 | ins e1 hv=>exact .inl (same h2)
 | free k e1 e=>exact .inl (cq (.inr (free_ext _)) h1 h2)
 | back k e1=>exact .inl (same h2)
 | back2 e1 e2=>exact .inl (same h2)
 | shr=>exact .inl (same h2)
 | reuse ks hk' k e1 ht ho hp hl hn =>
  rename_i ws1 l y
  obtain⟨s0,ha⟩:=fJ ht hp;have hr:=hd.reuse_ok e1 ht ho hp hl hn;have e:(h.reuse y gS (takeK ws1 ks).1).1=h.setB y.n.toNat (.fn gS (takeK ws1 ks).1):=by
   unfold HS.reuse at hr ⊢;rw [ha] at hr ⊢;dsimp only at hr ⊢
   repeat' split at hr
   all_goals try (exfalso;have:=(Prod.mk.inj hr).2;omega)
   rename_i q1 q2 q3 q4
   rw [if_neg q1,if_neg q2,if_neg q3,if_neg q4]
  rw [e] at h2
  rcases left_ e1 with rfl | hm
  ·exact absurd ⟨.inl hk',ho,.inl ht⟩ hnr
  ·exact .inl <|(hd.tk e1).put_read ho ha (fun _ e=>by cases e) _ hm h1 h2
 | updi hk' e1 e2 ht hp hl hi e h1' =>
  rename_i ws1 ws2 l y z i
  have ha:=dM ht hp;rw [hl] at ha;have h3: DI h (y::z::ws2) bs:=by
   have h4: DI h (ws1++ [y]) bs:=(hd.tk e1).snoc;have h5:=h4.take x.b;rw [e2] at h5;exact h5.perm ((List.Perm.cons _ (List.perm_append_comm (l₁:=ws2) (l₂:= [y]))).trans (List.Perm.swap _ _ _))
  cases ho: y.one with
  | true =>
   obtain⟨g,hb,hg,_⟩:=h3.update1 ha ho hi;rw [hb] at h2;have h2: readS g.S w=(T',0):=h2;rw [hg] at h2
   rcases left_ e1 with rfl | hm
   ·exact absurd ⟨.inr hk',ho,.inr ht⟩ hnr
   ·exact .inl <|(hd.tk e1).put_read ho ha (fun _ e=>by cases e) _ hm h1 h2
  | false =>
   have:=((h3.update2 ha ho hi).1 e).1;rw [this] at h1';cases h1'
 | updc e1 e2 ht hp hl hi e h1' =>
  rename_i ws1 ws2 l y z i
  have ha:=dM ht hp;rw [hl] at ha;have h3: DI h (y::z::ws2) bs:=by
   have h4: DI h (ws1++ [y]) bs:=(hd.tk e1).snoc;have h5:=h4.take x.b;rw [e2] at h5;exact h5.perm ((List.Perm.cons _ (List.perm_append_comm (l₁:=ws2) (l₂:= [y]))).trans (List.Perm.swap _ _ _))
  cases ho: y.one with
  | true =>
   obtain⟨g,hb,_,_⟩:=h3.update1 ha ho hi;rw [hb] at h1';cases h1'
  | false =>
   obtain⟨b2,hb2⟩:=update_copy ha ho hi (h3.wv z (List.mem_cons_of_mem _ List.mem_cons_self)) e;rw [hb2] at h2;have h4: readS (h.S.set y.n.toNat (some (.vec (l.map shW)))) w=(T,0):=by
    rw [read_shB (ar ha).2.2.2.1 w (dc.1 h1).1];exact h1
   exact .inl <| cq (.inl (ext_set (cj hd.ok b2) _ _)) h4 h2
end Go.Vk
namespace Go.Vk
section
variable (a: Int) (U: Tm)
mutual
def sbT: Tm->Tm
 | .mk k n s l=>if k=1/\n=a then U else .mk k n s (sbL l)
def sbL: List Tm->List Tm
 | []=> []
 | t::ts=>sbT t::sbL ts
end
end
inductive Fol (S: PS): Wd->Wd->Prop
 | stop {w: Wd} (h: ∀ z zs hk,atS S w≠some (.var (z::zs) hk)): Fol S w w
 | next {w z x: Wd} {zs: List Wd} {hk: List Int} (h: atS S w=some (.var (z::zs) hk)) (hf: Fol S (nxtW w z) x): Fol S w x
theorem Fol.det {S: PS} {w x y: Wd} (h: Fol S w x) (h': Fol S w y): x=y:=by
 induction h with
 | stop h =>
  cases h' with
  | stop _=>rfl
  | next h2 _=>exact absurd h2 (h _ _ _)
 | next h hf ih =>
  cases h' with
  | stop h2=>exact absurd h (h2 _ _ _)
  | next h2 hf2 =>
   rw [h] at h2;injection Option.some.inj h2 with e1 e2
   injection e1 with e3 e4
   subst e3;exact ih hf2
theorem fol_of {S: PS}: ∀(k: Nat) (w x: Wd),folS S k w=(x,true)->Fol S w x
 | 0,w,x,h=>by rw [folS] at h;cases h
 | k+1,w,x,h=>by
  rw [folS] at h
  split at h
  ·rename_i z zs hk hb
   exact .next hb (fol_of k _ x h)
  ·rename_i hn
   injection h with h1 _
   subst h1;exact .stop fun z zs hk e=>hn z zs hk e
theorem Fol.end_ {S: PS} {w x: Wd} (h: Fol S w x): ∀ z zs hk,atS S x≠some (.var (z::zs) hk):=by
 induction h with
 | stop h=>exact h
 | next _ _ ih=>exact ih
theorem Fol.trans {S: PS} {w x y: Wd} (h: Fol S w x) (hx: Fol S x y): Fol S w y:=by
 induction h with
 | stop _=>exact hx
 | next h _ ih=>exact .next h (ih hx)
inductive RdE (S: PS): Nat->Wd->Tm->Prop
 | int {d: Nat} {w x: Wd} (hf: Fol S w x) (h: x.tag=1): RdE S (d+1) w (.mk 2 x.n ⟨#[]⟩ [])
 | atom {d: Nat} {w x: Wd} (hf: Fol S w x) (h: x.tag=2): RdE S (d+1) w (.mk 3 0 x.s [])
 | str {d: Nat} {w x: Wd} (hf: Fol S w x) (h: x.tag=3): RdE S (d+1) w (.mk 4 0 x.s [])
 | var {d: Nat} {w x: Wd} {hk: List Int} (hf: Fol S w x) (h: atS S x=some (.var [] hk)): RdE S (d+1) w (.mk 1 x.n ⟨#[]⟩ [])
 | fn {d: Nat} {w x: Wd} {s: ByteArray} {ws: List Wd} {Ts: List Tm} (hf: Fol S w x) (h: atS S x=some (.fn s ws)) (hl: ws.length=Ts.length) (hr: ∀(i: Nat) z T,ws[i]? =some z->Ts[i]? =some T->RdE S d z T): RdE S (d+1) w (.mk 5 0 s Ts)
 | vec {d: Nat} {w x: Wd} {ws: List Wd} {Ts: List Tm} (hf: Fol S w x) (h: atS S x=some (.vec ws)) (hl: ws.length=Ts.length) (hr: ∀(i: Nat) z T,ws[i]? =some z->Ts[i]? =some T->RdE S d z T): RdE S (d+1) w (.mk 6 0 ⟨#[]⟩ Ts)
theorem gj {f: Int->Wd->Int × Option Tm} {P: Wd->Tm->Prop}: ∀ {ws: List Wd} {l r: Int} {Ts: List Tm},(∀ w ∈ ws,∀ l r T,f l w=(r,some T)->P w T)->rdL f l ws=(r,some Ts)->ws.length=Ts.length/\∀(i: Nat) z T,ws[i]? =some z->Ts[i]? =some T->P z T
 | [],l,r,Ts,_,h=>by
  rw [rdL] at h;injection h with _ h
  obtain rfl:=Option.some.inj h;exact⟨rfl,fun i z T hz=>by simp at hz⟩
 | w::ws,l,r,Ts,hf,h=>by
  rw [rdL] at h;dsimp only at h
  cases hq: f l w with
  | mk r1 o =>
   rw [hq] at h
   cases o with
   | none=>cases h
   | some T1 =>
    dsimp only at h
    cases hq2: rdL f r1 ws with
    | mk r2 o2 =>
     rw [hq2] at h
     cases o2 with
     | none=>cases h
     | some Us =>
      injection h with _ h
      obtain rfl:=Option.some.inj h;obtain⟨h1,h2⟩:=gj (fun x hx=>hf x (List.mem_cons_of_mem _ hx)) hq2;refine⟨by simp [h1],fun i z T hz hT=>?_⟩
      cases i with
      | zero =>
       obtain rfl: w=z:=by simpa using hz
       obtain rfl: T1=T:=by simpa using hT
       exact hf _ List.mem_cons_self _ _ _ hq
      | succ i=>exact h2 i z T (by simpa using hz) (by simpa using hT)
theorem gI {S: PS}: ∀(d: Nat) (l r: Int) (w: Wd) (T: Tm),rdS S d l w=(r,some T)->RdE S d w T
 | 0,l,r,w,T,h=>by rw [rdS] at h;cases h
 | d+1,l,r,w,T,h=>by
  rw [rdS] at h;dsimp only at h
  split at h
  ·cases h
  ·rename_i hn
   have hf2:(followS S w).2=true:=by
    cases e:(followS S w).2 with
    | true=>rfl
    | false=>exact absurd (.inl e) hn
   have hF: Fol S w (followS S w).1:=fol_of _ _ _ (Prod.ext J hf2)
   split at h
   ·rename_i h1
    injection h with _ h
    obtain rfl:=Option.some.inj h;exact .int hF h1
   ·split at h
    ·rename_i h1
     injection h with _ h
     obtain rfl:=Option.some.inj h;exact .atom hF h1
    ·split at h
     ·rename_i h1
      injection h with _ h
      obtain rfl:=Option.some.inj h;exact .str hF h1
     ·split at h
      ·cases h
      ·rename_i to hk hb
       injection h with _ h
       obtain rfl:=Option.some.inj h
       cases to with
       | nil=>exact .var hF hb
       | cons z zs=>exact absurd hb (hF.end_ _ _ _)
      ·rename_i s ws hb
       cases hq: rdL (rdS S d) (l - 1) ws with
       | mk r2 o2 =>
        rw [hq] at h
        cases o2 with
        | none=>cases h
        | some Ts =>
         injection h with _ h
         obtain rfl:=Option.some.inj h;obtain⟨g1,g2⟩:=gj (P:=RdE S d) (fun w _ l r T hw=>gI d l r w T hw) hq;exact .fn hF hb g1 g2
      ·rename_i ws hb
       cases hq: rdL (rdS S d) (l - 1) ws with
       | mk r2 o2 =>
        rw [hq] at h
        cases o2 with
        | none=>cases h
        | some Ts =>
         injection h with _ h
         obtain rfl:=Option.some.inj h;obtain⟨g1,g2⟩:=gj (P:=RdE S d) (fun w _ l r T hw=>gI d l r w T hw) hq;exact .vec hF hb g1 g2
inductive Stp (S: PS): Wd->Wd->Prop
 | refl {w: Wd}: Stp S w w
 | step {w z v: Wd} {zs: List Wd} {hk: List Int} (h: atS S w=some (.var (z::zs) hk)) (hs: Stp S (nxtW w z) v): Stp S w v
theorem Stp.trans {S: PS} {w v u: Wd} (h: Stp S w v) (h': Stp S v u): Stp S w u:=by
 induction h with
 | refl=>exact h'
 | step h _ ih=>exact .step h (ih h')
theorem Stp.rest {S: PS} {w v x: Wd} (h: Stp S w v) (hf: Fol S w x): Fol S v x:=by
 induction h with
 | refl=>exact hf
 | step h _ ih =>
  cases hf with
  | stop h2=>exact absurd h (h2 _ _ _)
  | next h2 hf2 =>
   rw [h] at h2;injection Option.some.inj h2 with e1 e2
   injection e1 with e3 e4
   subst e3;exact ih hf2
theorem gu {S: PS} {w w': Wd} (h: shW w=shW w'): atS S w=atS S w':=by
 show atS S (shW w)=atS S (shW w')
 rw [h]
theorem sh_nxt {w w' z: Wd}: shW (nxtW w z)=shW (nxtW w' z):=by
 unfold nxtW
 split <;> rfl
theorem sh_nxt0 {w z: Wd}: shW (nxtW w z)=shW z:=by
 unfold nxtW
 split <;> rfl
theorem Fol.sim {S: PS} {w x: Wd} (h: Fol S w x): ∀ {w': Wd},shW w=shW w'->∃ x',Fol S w' x'/\shW x=shW x':=by
 induction h with
 | stop h=>exact fun {w'} e=>⟨w',.stop (by rw [<- gu e];exact h),e⟩
 | next h _ ih =>
  intro w' e;obtain⟨x',h1,h2⟩:=ih (w':=nxtW w' _) sh_nxt;exact⟨x',.next (by rw [<- gu e];exact h) h1,h2⟩
theorem RdE.sim {S: PS} {d: Nat} {w w': Wd} {T: Tm} (h: RdE S d w T) (e: shW w=shW w'): RdE S d w' T:=by
 cases h with
 | int hf h =>
  rename_i d x
  obtain⟨x',h1,h2⟩:=hf.sim e;have:=RdE.int (d:=d) h1 (by have e2:=congrArg Wd.tag h2;exact e2.symm.trans h);rw [show x'.n=x.n from by have e2:=congrArg Wd.n h2;exact e2.symm] at this;exact this
 | atom hf h =>
  rename_i d x
  obtain⟨x',h1,h2⟩:=hf.sim e;have:=RdE.atom (d:=d) h1 (by have e2:=congrArg Wd.tag h2;exact e2.symm.trans h);rw [show x'.s=x.s from by have e2:=congrArg Wd.s h2;exact e2.symm] at this;exact this
 | str hf h =>
  rename_i d x
  obtain⟨x',h1,h2⟩:=hf.sim e;have:=RdE.str (d:=d) h1 (by have e2:=congrArg Wd.tag h2;exact e2.symm.trans h);rw [show x'.s=x.s from by have e2:=congrArg Wd.s h2;exact e2.symm] at this;exact this
 | var hf h =>
  rename_i d x hk
  obtain⟨x',h1,h2⟩:=hf.sim e;have:=RdE.var (d:=d) h1 ((gu h2).symm.trans h);rw [show x'.n=x.n from by have e2:=congrArg Wd.n h2;exact e2.symm] at this;exact this
 | fn hf h hl hr =>
  obtain⟨x',h1,h2⟩:=hf.sim e;exact RdE.fn h1 ((gu h2).symm.trans h) hl hr
 | vec hf h hl hr =>
  obtain⟨x',h1,h2⟩:=hf.sim e;exact RdE.vec h1 ((gu h2).symm.trans h) hl hr
theorem RdE.on {S: PS} {d: Nat} {w v: Wd} {T: Tm} (h: RdE S d w T) (hs: Stp S w v): RdE S d v T:=by
 cases h with
 | int hf h=>exact .int (hs.rest hf) h
 | atom hf h=>exact .atom (hs.rest hf) h
 | str hf h=>exact .str (hs.rest hf) h
 | var hf h=>exact .var (hs.rest hf) h
 | fn hf h hl hr=>exact .fn (hs.rest hf) h hl hr
 | vec hf h hl hr=>exact .vec (hs.rest hf) h hl hr
theorem ndsL_anyV (p: Tm->Bool): ∀ ts: List Tm,(ndsL ts).any p=ts.any fun t=>(nds t).any p
 | []=>by rw [ndsL];rfl
 | t::ts=>by rw [ndsL,List.any_append,List.any_cons,ndsL_anyV p ts]
theorem ek (n: Int) (t: Tm): occV n t=((decide (t.kind=1)&&decide (t.n=n))||t.l.any (occV n)):=by
 unfold occV;rw [gC,List.any_cons,ndsL_anyV]
mutual
theorem fN {a: Int} {U: Tm}: ∀ t: Tm,occV a t=false->sbT a U t=t
 | .mk k n s l,h=>by
  rw [ek,Bool.or_eq_false_iff] at h;have h1: ¬(k=1/\n=a):=by
   rintro⟨rfl,rfl⟩;have:=h.1;simp [Tm.kind,Tm.n] at this
  rw [sbT,if_neg h1,sbL_free l (fun t ht=>by
   have:=List.any_eq_false.1 h.2 t ht;simpa using this)]
theorem sbL_free {a: Int} {U: Tm}: ∀ ts: List Tm,(∀ t ∈ ts,occV a t=false)->sbL a U ts=ts
 | [],_=>by rw [sbL]
 | t::ts,h=>by rw [sbL,fN t (h t List.mem_cons_self),sbL_free ts (fun u hu=>h u (List.mem_cons_of_mem _ hu))]
end
section
variable {S: PS} {a: Nat} {y: Wd} {hk0: List Int}
theorem eZ (h0: S[a]? =some (some (.var [] hk0))) (w: Wd):(atS S w=some (.var [] hk0)/\atS (S.set a (some (.var [y] []))) w=some (.var [y] [])/\w.n=(a: Int))\/(atS (S.set a (some (.var [y] []))) w=atS S w/\∀ b,atS S w=some b->w.n≠(a: Int)):=by
 have hlt:=(List.getElem?_eq_some_iff.1 h0).1
 by_cases hn: w.n=(a: Int)
 ·by_cases hok: w.s=⟨#[]⟩/\w.tag=4
  ·left
   refine⟨(bJ (tg:=PB.tag) (b:=.var [] hk0) j0 j0 hok.1 (by rw [hn,Int.toNat_natCast];exact h0)).trans (if_pos (show w.tag=PB.tag (.var [] hk0) from hok.2)),(bJ (tg:=PB.tag) (b:=.var [y] []) j0 (by rw [List.length_set];omega) hok.1 (by rw [hn,Int.toNat_natCast,List.getElem?_set,if_pos J,if_pos hlt])).trans (if_pos (show w.tag=PB.tag (.var [y] []) from hok.2)),hn⟩
  ·right
   have none_: ∀(S': PS) (c: PB),S'[a]? =some (some c)->c.tag=4->atS S' w=none:=fun S' c hc ht=>by
    cases hb: atS S' w with
    | none=>rfl
    | some b =>
     have hg:=ar hb;have h3:=hg.2.2.2.1;rw [hn,Int.toNat_natCast,hc] at h3;obtain rfl:=Option.some.inj (Option.some.inj h3);exact absurd ⟨hg.2.2.1,hg.2.2.2.2.trans ht⟩ hok
   have e1:=none_ S _ h0 J;have e2:=none_ (S.set a (some (.var [y] []))) (.var [y] []) (by rw [List.getElem?_set,if_pos J,if_pos hlt]) J;exact⟨e2.trans e1.symm,fun b hb=>by rw [e1] at hb;cases hb⟩
 ·right
  refine⟨?_,fun b _=>hn⟩
  by_cases hw: w.n < 0
  ·exact(cn (l:=S.set a _) (tg:=PB.tag) (.inl hw)).trans (cn (l:=S) (tg:=PB.tag) (.inl hw)).symm
  ·exact d9 j0
theorem fol_bind (h0: S[a]? =some (some (.var [] hk0))) {w x: Wd} (h: Fol S w x): Stp (S.set a (some (.var [y] []))) w x/\(atS S x≠some (.var [] hk0)\/x.n≠(a: Int)->Fol (S.set a (some (.var [y] []))) w x):=by
 induction h with
 | stop h =>
  rename_i w
  refine⟨.refl,fun hne=>.stop fun z zs hk e=>?_⟩
  rcases eZ (y:=y) h0 w with ⟨h1,_,h3⟩ |⟨h1,_⟩
  ·rcases hne with hne | hne
   ·exact hne h1
   ·exact hne h3
  ·rw [h1] at e;exact h z zs hk e
 | next h _ ih =>
  rename_i w z x zs hk _
  rcases eZ (y:=y) h0 w with ⟨h1,_,_⟩ |⟨h1,_⟩
  ·rw [h] at h1;injection Option.some.inj h1 with e1 _
   cases e1
  ·exact⟨.step (h1.trans h) ih.1,fun hne=>.next (h1.trans h) (ih.2 hne)⟩
theorem gG (U: Tm): ∀ {Ts Ts': List Tm},Ts.length=Ts'.length->(∀(i: Nat) T T',Ts[i]? =some T->Ts'[i]? =some T'->T'=sbT a U T)->Ts'=sbL a U Ts
 | [], [],_,_=>by rw [sbL]
 | [],_::_,h,_=>by cases h
 | _::_, [],h,_=>by cases h
 | T::Ts,T'::Ts',h,hp=>by
  rw [sbL,hp 0 T T' J J,<- gG U (Ts:=Ts) (Ts':=Ts') (by simpa using h) (fun i A B hA hB=>hp (i+1) A B (by simpa using hA) (by simpa using hB))]
theorem bind_read (h0: S[a]? =some (some (.var [] hk0))) {U: Tm}: ∀(d: Nat) (w: Wd) (T: Tm) (d': Nat) (T': Tm),RdE S d w T->(occV a T=true->∀ d T,RdE (S.set a (some (.var [y] []))) d y T->T=U)->RdE (S.set a (some (.var [y] []))) d' w T'->T'=sbT a U T:=by
 intro d
 induction d with
 | zero=>intro w T d' T' h;cases h
 | succ d ih =>
  intro w T d' T' h hy h';have key: ∀ {x x': Wd},Fol S w x->Fol (S.set a (some (.var [y] []))) w x'->(atS S x≠some (.var [] hk0)\/x.n≠(a: Int))->x'=x/\atS (S.set a (some (.var [y] []))) x=atS S x:=fun {x x'} hf hf' hne=>by
   have h1:=((fol_bind (y:=y) h0 hf).2 hne).det hf';refine⟨h1.symm,?_⟩
   rcases eZ (y:=y) h0 x with ⟨g1,_,g3⟩ |⟨g1,_⟩
   ·rcases hne with hne | hne
    ·exact absurd g1 hne
    ·exact absurd g3 hne
   ·exact g1
  have lit: ∀ {x: Wd} {b: PB},atS S x=some b->x.tag=b.tag:=fun h=>(ar h).2.2.2.2;have lit': ∀ {x: Wd} {b: PB},atS (S.set a (some (.var [y] []))) x=some b->x.tag=b.tag:=fun h=>(ar h).2.2.2.2;have nol: ∀ {x: Wd},(x.tag=1\/x.tag=2\/x.tag=3)->(atS S x≠some (.var [] hk0)\/x.n≠(a: Int)):=fun h=>.inl fun e=>by
   have:=lit e;simp only [PB.tag] at this;omega
  cases h with
  | int hf ht =>
   cases h' with
   | int hf' ht'=>obtain ⟨rfl,_⟩:=key hf hf' (nol (.inl ht));rw [sbT,if_neg j0,sbL]
   | atom hf' ht'=>obtain ⟨rfl,_⟩:=key hf hf' (nol (.inl ht));omega
   | str hf' ht'=>obtain ⟨rfl,_⟩:=key hf hf' (nol (.inl ht));omega
   | var hf' ht'=>obtain ⟨rfl,_⟩:=key hf hf' (nol (.inl ht));have:=lit' ht';simp only [PB.tag] at this;omega
   | fn hf' ht' _ _=>obtain ⟨rfl,_⟩:=key hf hf' (nol (.inl ht));have:=lit' ht';simp only [PB.tag] at this;omega
   | vec hf' ht' _ _=>obtain ⟨rfl,_⟩:=key hf hf' (nol (.inl ht));have:=lit' ht';simp only [PB.tag] at this;omega
  | atom hf ht =>
   cases h' with
   | int hf' ht'=>obtain ⟨rfl,_⟩:=key hf hf' (nol (.inr (.inl ht)));omega
   | atom hf' ht'=>obtain ⟨rfl,_⟩:=key hf hf' (nol (.inr (.inl ht)));rw [sbT,if_neg j0,sbL]
   | str hf' ht'=>obtain ⟨rfl,_⟩:=key hf hf' (nol (.inr (.inl ht)));omega
   | var hf' ht'=>obtain ⟨rfl,_⟩:=key hf hf' (nol (.inr (.inl ht)));have:=lit' ht';simp only [PB.tag] at this;omega
   | fn hf' ht' _ _=>obtain ⟨rfl,_⟩:=key hf hf' (nol (.inr (.inl ht)));have:=lit' ht';simp only [PB.tag] at this;omega
   | vec hf' ht' _ _=>obtain ⟨rfl,_⟩:=key hf hf' (nol (.inr (.inl ht)));have:=lit' ht';simp only [PB.tag] at this;omega
  | str hf ht =>
   cases h' with
   | int hf' ht'=>obtain ⟨rfl,_⟩:=key hf hf' (nol (.inr (.inr ht)));omega
   | atom hf' ht'=>obtain ⟨rfl,_⟩:=key hf hf' (nol (.inr (.inr ht)));omega
   | str hf' ht'=>obtain ⟨rfl,_⟩:=key hf hf' (nol (.inr (.inr ht)));rw [sbT,if_neg j0,sbL]
   | var hf' ht'=>obtain ⟨rfl,_⟩:=key hf hf' (nol (.inr (.inr ht)));have:=lit' ht';simp only [PB.tag] at this;omega
   | fn hf' ht' _ _=>obtain ⟨rfl,_⟩:=key hf hf' (nol (.inr (.inr ht)));have:=lit' ht';simp only [PB.tag] at this;omega
   | vec hf' ht' _ _=>obtain ⟨rfl,_⟩:=key hf hf' (nol (.inr (.inr ht)));have:=lit' ht';simp only [PB.tag] at this;omega
  | var hf ht =>
   rename_i x hk
   by_cases hx: x.n=(a: Int)
   ·rcases eZ (y:=y) h0 x with ⟨g1,g2,_⟩ |⟨_,g2⟩
    ·have hstp: Stp (S.set a (some (.var [y] []))) w (nxtW x y):=(fol_bind (y:=y) h0 hf).1.trans (.step g2 .refl);have h3:=(h'.on hstp).sim (sh_nxt0 (w:=x) (z:=y));rw [sbT,if_pos ⟨rfl,hx⟩];exact hy (by rw [ek];simp [Tm.kind,Tm.n,hx]) _ _ h3
    ·exact absurd hx (g2 _ ht)
   ·cases h' with
    | int hf' ht'=>obtain ⟨rfl,_⟩:=key hf hf' (.inr hx);have:=lit ht;simp only [PB.tag] at this;omega
    | atom hf' ht'=>obtain ⟨rfl,_⟩:=key hf hf' (.inr hx);have:=lit ht;simp only [PB.tag] at this;omega
    | str hf' ht'=>obtain ⟨rfl,_⟩:=key hf hf' (.inr hx);have:=lit ht;simp only [PB.tag] at this;omega
    | var hf' ht'=>obtain ⟨rfl,_⟩:=key hf hf' (.inr hx);rw [sbT,if_neg (by rintro⟨_,h⟩;exact hx h),sbL]
    | fn hf' ht' _ _=>obtain ⟨rfl,e⟩:=key hf hf' (.inr hx);rw [e,ht] at ht';cases ht'
    | vec hf' ht' _ _=>obtain ⟨rfl,e⟩:=key hf hf' (.inr hx);rw [e,ht] at ht';cases ht'
  | fn hf ht hl hr =>
   have hne: ∀ {x: Wd} {s: ByteArray} {ws: List Wd},atS S x=some (.fn s ws)->(atS S x≠some (.var [] hk0)\/x.n≠(a: Int)):=fun h=>.inl fun e=>by rw [h] at e;cases e
   cases h' with
   | int hf' ht'=>obtain ⟨rfl,_⟩:=key hf hf' (hne ht);have:=lit ht;simp only [PB.tag] at this;omega
   | atom hf' ht'=>obtain ⟨rfl,_⟩:=key hf hf' (hne ht);have:=lit ht;simp only [PB.tag] at this;omega
   | str hf' ht'=>obtain ⟨rfl,_⟩:=key hf hf' (hne ht);have:=lit ht;simp only [PB.tag] at this;omega
   | var hf' ht'=>obtain ⟨rfl,e⟩:=key hf hf' (hne ht);rw [e,ht] at ht';cases ht'
   | vec hf' ht' _ _=>obtain ⟨rfl,e⟩:=key hf hf' (hne ht);rw [e,ht] at ht';cases ht'
   | fn hf' ht' hl' hr' =>
    obtain⟨rfl,e⟩:=key hf hf' (hne ht);rw [e,ht] at ht';injection Option.some.inj ht' with e1 e2
    subst e1 e2;rw [sbT,if_neg j0,<- gG (a:=a) U (hl.symm.trans hl') (fun i A B hA hB=>by
     obtain⟨z,hz⟩: ∃ z,(_: List Wd)[i]? =some z:=⟨_,List.getElem?_eq_getElem (by rw [hl];exact(List.getElem?_eq_some_iff.1 hA).1)⟩;exact ih z A _ B (hr i z A hz hA) (fun ho=>hy (by rw [ek,Bool.or_eq_true];exact .inr (List.any_eq_true.2 ⟨A,List.mem_of_getElem? hA,ho⟩))) (hr' i z B hz hB))]
  | vec hf ht hl hr =>
   have hne: ∀ {x: Wd} {ws: List Wd},atS S x=some (.vec ws)->(atS S x≠some (.var [] hk0)\/x.n≠(a: Int)):=fun h=>.inl fun e=>by rw [h] at e;cases e
   cases h' with
   | int hf' ht'=>obtain ⟨rfl,_⟩:=key hf hf' (hne ht);have:=lit ht;simp only [PB.tag] at this;omega
   | atom hf' ht'=>obtain ⟨rfl,_⟩:=key hf hf' (hne ht);have:=lit ht;simp only [PB.tag] at this;omega
   | str hf' ht'=>obtain ⟨rfl,_⟩:=key hf hf' (hne ht);have:=lit ht;simp only [PB.tag] at this;omega
   | var hf' ht'=>obtain ⟨rfl,e⟩:=key hf hf' (hne ht);rw [e,ht] at ht';cases ht'
   | fn hf' ht' _ _=>obtain ⟨rfl,e⟩:=key hf hf' (hne ht);rw [e,ht] at ht';cases ht'
   | vec hf' ht' hl' hr' =>
    obtain⟨rfl,e⟩:=key hf hf' (hne ht);rw [e,ht] at ht';injection Option.some.inj ht' with e1
    subst e1;rw [sbT,if_neg j0,<- gG (a:=a) U (hl.symm.trans hl') (fun i A B hA hB=>by
     obtain⟨z,hz⟩: ∃ z,(_: List Wd)[i]? =some z:=⟨_,List.getElem?_eq_getElem (by rw [hl];exact(List.getElem?_eq_some_iff.1 hA).1)⟩;exact ih z A _ B (hr i z A hz hA) (fun ho=>hy (by rw [ek,Bool.or_eq_true];exact .inr (List.any_eq_true.2 ⟨A,List.mem_of_getElem? hA,ho⟩))) (hr' i z B hz hB))]
end
theorem SR.inst {x: StV} {h h': HS} {ws ws' bs bs': List Wd} {w: Wd} {T T': Tm} (hs: SR x (h,ws,bs) (h',ws',bs')) (hd: DI h ws bs) (hw: w ∈ ws++bs) (hnr: ¬((ixZ x.kd 9=5\/ixZ x.kd 9=6)/\w.one=true/\(w.tag=5\/w.tag=6))) (h1: readS h.S w=(T,0)) (h2: readS h'.S w=(T',0)): T'=T\/(ixZ x.kd 9=3/\∃(a: Int) (U: Tm) (y: Wd),T'=sbT a U T/\readS h.S y=(U,0)):=by
 rcases hs.read hd hw hnr h1 h2 with h3 |⟨hk,y,v,ws1,i,e1,hv,hi,rfl⟩
 ·exact .inl h3
 ·right
  refine⟨hk,v.n,(readS h.S y).1,y,?_,Prod.ext J (gz hi).1⟩;obtain⟨hr,ho⟩:=gz hi;have hd2:=ec (hd.tk e1) hv;have hu:=hd2.bv v List.mem_cons_self;have hrv:=fM hu (co hu.2.2);rw [hrv] at ho;have ho: occV v.n (readS h.S y).1=false:=ho;obtain⟨g,hb,hg,_⟩:=hd2.bind (T:=(readS h.S y).1) (Prod.ext J hr) (fun hk hn=>by
   unfold occV at ho;rw [List.any_eq_false] at ho;refine ho (readS h.S y).1 (by cases (readS h.S y).1;rw [nds];exact List.mem_cons_self) ?_;rw [Bool.and_eq_true,decide_eq_true_eq,decide_eq_true_eq];exact⟨hk,hn⟩)
  rw [hb] at h2;have h2: readS g.S w=(T',0):=h2;rw [hg] at h2;obtain⟨g1,g2,g3,g4,g5⟩:=ar hu.2.2;have ea:((v.n.toNat: Nat): Int)=v.n:=by omega
  obtain⟨_,r1,q1⟩:=dc.1 h1;obtain⟨_,r2,q2⟩:=dc.1 h2;obtain⟨_,r3,q3⟩:=dc.1 (show readS h.S y=((readS h.S y).1,0) from Prod.ext J hr);have key:=bind_read (y:=y) g4 (U:=(readS h.S y).1) 600 w T 600 T' (gI _ _ _ _ _ q1) (fun _ d T2 h4=>by
   have h5:=bind_read (y:=y) g4 (U:=Tm.zero) 600 y _ d T2 (gI _ _ _ _ _ q3) (fun hoc=>by rw [ea,ho] at hoc;cases hoc) h4;rw [h5,fN _ (by rw [ea];exact ho)]) (gI _ _ _ _ _ q2)
  rw [ea] at key;exact key
end Go.Vk
namespace Go.Vk
section
variable {S: PS}
theorem eu: ∀(k k': Nat) (met: List Bool) (out: List Nat) (st: List Wd),met.length=S.length->st.length+unm S met < k->k<=k'->walkS S k met out st=walkS S k' met out st
 | 0,k',met,out,st,hl,h,_=>by omega
 | k+1,0,met,out,st,hl,h,hk=>by omega
 | k+1,k'+1,met,out, [],hl,h,hk=>rfl
 | k+1,k'+1,met,out,w::st,hl,h,hk=>by
  rw [List.length_cons] at h
  cases hat: atS S w with
  | none=>rw [cK hat,cK hat];exact eu k k' met out st hl j0 j0
  | some b =>
   cases hm: met.getD w.n.toNat false with
   | true=>rw [dC hat hm,dC hat hm];exact eu k k' met out st hl j0 j0
   | false =>
    obtain⟨h1,h2,_,h4,_⟩:=ar hat;have hlt: w.n.toNat < met.length:=by omega
    have hm': met[w.n.toNat]? =some false:=by
     rw [List.getD_eq_getElem?_getD,List.getElem?_eq_getElem hlt] at hm;rw [List.getElem?_eq_getElem hlt];exact congrArg some hm
    have h5:=fk S met _ b h4 hm';rw [dD hat hm,dD hat hm];exact eu k k' _ _ _ (by rw [List.length_set];exact hl) (by rw [List.length_append,List.length_reverse];omega) j0
theorem dQ: ∀(k: Nat) (met: List Bool) (out: List Nat) (st: List Wd),met.length=S.length->st.length+unm S met < k->(∀ j,met.getD j false=true->j ∈ out)->(∀ j ∈ out,∀ b,S[j]? =some (some b)->∀ x ∈ b.words,∀ c,atS S x=some c->x.n.toNat ∈ out\/x ∈ st)->
  (∀ j ∈ out,j ∈ walkS S k met out st)/\(∀ w ∈ st,∀ c,atS S w=some c->w.n.toNat ∈ walkS S k met out st)/\∀ j ∈ walkS S k met out st,∀ b,S[j]? =some (some b)->∀ x ∈ b.words,∀ c,atS S x=some c->x.n.toNat ∈ walkS S k met out st
 | 0,met,out,st,hl,h,_,_=>by omega
 | k+1,met,out, [],hl,h,hmo,hcl=>⟨fun j hj=>hj,fun w hw=>(by cases hw),fun j hj b hb x hx c hc=>(hcl j hj b hb x hx c hc).resolve_right (fun h=>by cases h)⟩
 | k+1,met,out,w::st,hl,h,hmo,hcl=>by
  rw [List.length_cons] at h
  cases hat: atS S w with
  | none =>
   rw [cK hat];obtain⟨h1,h2,h3⟩:=dQ k met out st hl j0 hmo (fun j hj b hb x hx c hc=>(hcl j hj b hb x hx c hc).imp id fun hm=>by
    rcases List.mem_cons.1 hm with e | e
    ·rw [e,hat] at hc;cases hc
    ·exact e)
   exact⟨h1,fun x hx c hc=>by
    rcases List.mem_cons.1 hx with e | e
    ·rw [e,hat] at hc;cases hc
    ·exact h2 x e c hc,h3⟩
  | some b =>
   cases hm: met.getD w.n.toNat false with
   | true =>
    rw [dC hat hm];have hw:=hmo _ hm;obtain⟨h1,h2,h3⟩:=dQ k met out st hl j0 hmo (fun j hj b hb x hx c hc=>(hcl j hj b hb x hx c hc).elim .inl fun hm=>by
     rcases List.mem_cons.1 hm with e | e
     ·rw [e];exact .inl hw
     ·exact .inr e)
    exact⟨h1,fun x hx c hc=>by
     rcases List.mem_cons.1 hx with e | e
     ·rw [e];exact h1 _ hw
     ·exact h2 x e c hc,h3⟩
   | false =>
    obtain⟨g1,g2,_,g4,_⟩:=ar hat;have hlt: w.n.toNat < met.length:=by omega
    have hm': met[w.n.toNat]? =some false:=by
     rw [List.getD_eq_getElem?_getD,List.getElem?_eq_getElem hlt] at hm;rw [List.getElem?_eq_getElem hlt];exact congrArg some hm
    have h5:=fk S met _ b g4 hm';rw [dD hat hm];obtain⟨h1,h2,h3⟩:=dQ k (met.set w.n.toNat true) (out++ [w.n.toNat]) (b.words.reverse++st) (by rw [List.length_set];exact hl) (by rw [List.length_append,List.length_reverse];omega)
     (fun j hj=>by
      rw [List.getD_eq_getElem?_getD,List.getElem?_set] at hj
      by_cases e: w.n.toNat=j
      ·rw [<- e];exact List.mem_append_right _ (List.mem_singleton.2 J)
      ·rw [if_neg e] at hj;exact List.mem_append_left _ (hmo j (by rw [List.getD_eq_getElem?_getD];exact hj)))
     (fun j hj d hd x hx c hc=>by
      rcases List.mem_append.1 hj with hj | hj
      ·rcases hcl j hj d hd x hx c hc with h6 | h6
       ·exact .inl (List.mem_append_left _ h6)
       ·rcases List.mem_cons.1 h6 with e | e
        ·rw [e];exact .inl (List.mem_append_right _ (List.mem_singleton.2 J))
        ·exact .inr (List.mem_append_right _ e)
      ·rw [List.mem_singleton] at hj;subst hj;rw [g4] at hd;obtain rfl:=Option.some.inj (Option.some.inj hd);exact .inr (List.mem_append_left _ (List.mem_reverse.2 hx)))
    exact⟨fun j hj=>h1 j (List.mem_append_left _ hj),fun x hx c hc=>by
     rcases List.mem_cons.1 hx with e | e
     ·rw [e];exact h1 _ (List.mem_append_right _ (List.mem_singleton.2 J))
     ·exact h2 x (List.mem_append_right _ e) c hc,h3⟩
end
def ClS (S: PS) (R: List Nat): Prop:= ∀ j ∈ R,∀ b,S[j]? =some (some b)->∀ x ∈ b.words,∀ c,atS S x=some c->x.n.toNat ∈ R
def ClW (S: PS) (R: List Nat) (w: Wd): Prop:= ∀ c,atS S w=some c->w.n.toNat ∈ R
theorem getD_rep (n j: Nat):(List.replicate n false).getD j false=false:=by
 rw [List.getD_eq_getElem?_getD,List.getElem?_replicate]
 split <;> rfl
theorem blocks_closed (S: PS) (roots: List Wd): ClS S (blocksS S roots)/\∀ w ∈ roots,ClW S (blocksS S roots) w:=by
 obtain⟨_,h2,h3⟩:=dQ (S:=S) (roots.length+wordsN S+1) (List.replicate S.length false) [] roots.reverse j3 (by rw [cW,List.length_reverse];omega) (fun j hj=>by rw [getD_rep] at hj;cases hj) (fun j hj=>by cases hj);exact⟨h3,fun w hw=>h2 w (List.mem_reverse.2 hw)⟩
structure Rst (S S': PS) (R: List Nat): Prop where
 len: S'.length=S.length
 on: ∀ j ∈ R,S'[j]? =S[j]?
 off: ∀(j: Nat) (b: PB),S'[j]? =some (some b)->j ∈ R/\S[j]? =some (some b)
section
variable {S S': PS} {R: List Nat} {w x: Wd}
theorem Rst.at_ (h: Rst S S' R) (hw: ClW S R w): atS S' w=atS S w:=by
 cases hs: atS S w with
 | some b =>
  obtain⟨h1,h2,h3,h4,h5⟩:=ar hs;rw [show atS S' w=if w.tag=b.tag then some b else none from bJ h1 (by rw [h.len];exact h2) h3 (by rw [h.on _ (hw b hs)];exact h4),if_pos h5]
 | none =>
  cases hs': atS S' w with
  | none=>rfl
  | some b =>
   obtain⟨h1,h2,h3,h4,h5⟩:=ar hs';have h6:=(h.off _ _ h4).2;rw [show atS S w=if w.tag=b.tag then some b else none from bJ h1 (by rw [<- h.len];exact h2) h3 h6,if_pos h5] at hs
   cases hs
theorem Rst.word (h: Rst S S' R) (hw: ClW S R w): wordS S' w=wordS S w:=by
 unfold wordS;rw [h.at_ hw]
theorem ClW.nxt (hw: ClW S R x) (v: Wd): ClW S R (nxtW v x):=fun c hc=>by
 unfold nxtW at hc ⊢
 split at hc
 ·rename_i h1
  rw [if_pos h1];exact hw c hc
 ·rename_i h1
  rw [if_neg h1];exact hw c hc
theorem ClS.words {b: PB} (hR: ClS S R) (hw: ClW S R w) (hb: atS S w=some b) (hx: x ∈ b.words): ClW S R x:=fun c hc=>hR _ (hw b hb) b (ar hb).2.2.2.1 x hx c hc
theorem Rst.fol (h: Rst S S' R) (hR: ClS S R): ∀(k: Nat) (w: Wd),ClW S R w->folS S' k w=folS S k w/\(∀ v,folS S k w=(v,true)->ClW S R v)
 | 0,w,hw=>⟨rfl,fun v hv=>by rw [folS] at hv;cases hv⟩
 | k+1,w,hw=>by
  rw [folS,folS,h.at_ hw]
  split
  ·rename_i x l hk hat
   exact h.fol hR k _ ((hR.words hw hat List.mem_cons_self).nxt w)
  ·exact⟨rfl,fun v hv=>by injection hv with e;rw [<- e];exact hw⟩
theorem gk {f g: Int->Wd->Int × Option Tm}: ∀ {ws: List Wd} {l: Int},(∀ w ∈ ws,∀ l,f l w=g l w)->rdL f l ws=rdL g l ws
 | [],l,_=>rfl
 | w::ws,l,h=>by
  rw [rdL,rdL,h w List.mem_cons_self];dsimp only
  split
  ·rfl
  ·rw [gk (fun x hx=>h x (List.mem_cons_of_mem _ hx))]
theorem Rst.rd (h: Rst S S' R) (hR: ClS S R): ∀(d: Nat) (l: Int) (w: Wd),ClW S R w->rdS S' d l w=rdS S d l w
 | 0,l,w,hw=>rfl
 | d+1,l,w,hw=>by
  obtain⟨h1,h2⟩:=h.fol hR (S.length+1) w hw;have hf: followS S' w=followS S w:=by unfold followS;rw [h.len];exact h1
  rw [rdS,rdS,hf];dsimp only
  split
  ·rfl
  ·rename_i hg
   have hb:(followS S w).2=true:=by
    cases hq:(followS S w).2 with
    | true=>rfl
    | false=>exact absurd (.inl hq) hg
   have hv:=h2 (followS S w).1 (Prod.ext J hb);rw [h.at_ hv]
   split
   ·rfl
   ·split
    ·rfl
    ·split
     ·rfl
     ·split
      ·rfl
      ·rfl
      ·rename_i s ws hat
       exact congrArg (fun r: Int × Option (List Tm)=>(r.1,r.2.map (Tm.mk 5 0 s ·))) (gk (f:=rdS S' d) (g:=rdS S d) (ws:=ws) (fun x hx l=>h.rd hR d l x (hR.words hv hat hx)))
      ·rename_i ws hat
       exact congrArg (fun r: Int × Option (List Tm)=>(r.1,r.2.map (Tm.mk 6 0 ⟨#[]⟩ ·))) (gk (f:=rdS S' d) (g:=rdS S d) (ws:=ws) (fun x hx l=>h.rd hR d l x (hR.words hv hat hx)))
theorem Rst.read (h: Rst S S' R) (hR: ClS S R) (hw: ClW S R w): readS S' w=readS S w:=by
 unfold readS;rw [h.word hw,h.rd hR 600 4000 w hw]
theorem Rst.walk (h: Rst S S' R) (hR: ClS S R): ∀(k: Nat) (met: List Bool) (out: List Nat) (st: List Wd),(∀ w ∈ st,ClW S R w)->walkS S' k met out st=walkS S k met out st
 | 0,met,out,st,_=>by cases st <;> rfl
 | k+1,met,out, [],_=>rfl
 | k+1,met,out,w::st,hs=>by
  have hw:=hs w List.mem_cons_self;have ht: ∀ x ∈ st,ClW S R x:=fun x hx=>hs x (List.mem_cons_of_mem _ hx);rw [walkS,walkS,h.at_ hw]
  split
  ·exact h.walk hR k _ _ _ ht
  ·rename_i b hb
   rw [h.walk hR k _ _ _ ht,h.walk hR k _ _ _ (fun x hx=>by
    rcases List.mem_append.1 hx with e | e
    ·exact hR.words hw hb (List.mem_reverse.1 e)
    ·exact ht x e)]
theorem Rst.blocks (h: Rst S S' R) (hR: ClS S R) {roots: List Wd} (hr: ∀ w ∈ roots,ClW S R w): blocksS S' roots=blocksS S roots:=by
 unfold blocksS;rw [eu (S:=S') (roots.length+wordsN S'+1) (roots.length+wordsN S'+1+wordsN S) _ _ _ j3 (by rw [cW,List.length_reverse];omega) j0,
  eu (S:=S) (roots.length+wordsN S+1) (roots.length+wordsN S'+1+wordsN S) _ _ _ j3 (by rw [cW,List.length_reverse];omega) j0,h.len]
 exact h.walk hR _ _ _ _ fun w hw=>hr w (List.mem_reverse.1 hw)
end
def markL (n: Nat) (js: List Nat): List Bool:=js.foldl (fun l j=>l.set j true) (List.replicate n false)
theorem markL_len': ∀(js: List Nat) (l: List Bool),(js.foldl (fun l j=>l.set j true) l).length=l.length
 | [],l=>rfl
 | j::js,l=>by rw [List.foldl_cons,markL_len' js,List.length_set]
theorem markL_len (n: Nat) (js: List Nat):(markL n js).length=n:=by
 unfold markL;rw [markL_len',List.length_replicate]
end Go.Vk
