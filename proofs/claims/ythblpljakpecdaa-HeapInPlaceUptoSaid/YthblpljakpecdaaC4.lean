/- Part 4 of the proof of heapInPlace_holds. Conditions: none. -/
import Derived.Test.YthblpljakpecdaaC3
set_option linter.unusedVariables false
set_option linter.unusedSimpArgs false
set_option linter.unusedSectionVars false
set_option maxRecDepth 100000
open Go.Proofs.Try
namespace Go.Vk.Try
open Go.RowKit
theorem c_inside {w0: World} {H: PHeap} {q p: Nat} {ws bs: List Wd} {h: HS} {L: List Ent} (hI: Inv w0 H L) (hM: HM q p ws bs h L) {v_ y_: Wd}: Calls prog 76 #[(pB q),(.agg (wA v_)),(.agg (wA y_))] w0 (fun e w'=> ∃ H',e=.returned (.bool (insP h.S v_ y_))/\Step w0 H L w' H' L):=by
 obtain⟨_,Y,rfl,⟨a9,ar,a8,aq,a1,a0,rfl,bu,br⟩,bi⟩:=hM;have F:=Step.refl hI;have cc:=Row.cap bu;have cb:=Row.cap br;refine enter [(pB q),(.agg (wA v_)),(.agg (wA y_))] func76 J ntmps76 J fun a C=>?_;refine wp_seq (ab (lin J (aP (cs:=(wA v_)) F C J J J fun a5 a w F C=>?_)));refine lin J (aP (cs:=(wA y_)) F C J J J fun a6 a w F C=>?_);refine Ls J C fun a C=>?_;refine wpList_nil (aa (wp_seq ?_));have bw:=F;let b6:=(eO q 70 (hA p a9 ws.length ar a8 bs.length aq));let b7:List Ent:=[(eO a6 34 (wA y_)),(eO a5 34 (wA v_)),b6,a1,a0];refine As.c_draw_head (ini:=(As.il [])) (sup:=(As.sl [(9,10)])) (als:= [9,10]) (s0:=⟨H,fun _=>none⟩) (L:=((eO a6 34 (wA y_))::(eO a5 34 (wA v_))::b6::a1::a0::Y)) (N:=45) (E:= [(0,(pB q)),(4,(pB a5)),(5,(pB a6))]) 11 [FcV (pB q),FcV (pB q),FcV (pB q),FcV (pB p),FcV (.agg (wA y_)),fun ay v=>(fun H v=> ∃ A c,v=(.tuple #[(tv (((readS (HS.S h) y_).1)) A c),(iV ((readS (HS.S h) y_).2))])/\RowT H A c ((readS (HS.S h) y_).1).l) ay.H v,fun ay v=>(fun H v=> ∃ A c,v=(.tuple #[(tv (((readS (HS.S h) y_).1)) A c),(iV ((readS (HS.S h) y_).2))])/\RowT H A c ((readS (HS.S h) y_).1).l) ay.H v,fun ay v=>(fun H v=> ∃ A c,v=(tv (((readS (HS.S h) y_).1)) A c)/\RowT H A c ((readS (HS.S h) y_).1).l) ay.H v,FcV (iV ((readS (HS.S h) y_).2)),fun s v=> ∃ b,s.ax 9=some [(some b,(.cells aZ 46 (0,0)))]/\v=.pointer (some ⟨b,0,none⟩),fun s _=> ∃(b: Nat) (A: Option Addr) (c: Nat),s.ax 9=some [(some b,(.cells aZ 46 (0,0)))]/\s.ax 10=some [(eO b 46 (tA (((readS (HS.S h) y_).1)) A c))]/\RowT s.H A c ((readS (HS.S h) y_).1).l] mixed J J J (As.M1 (As.M1 (As.M1 (As.M1 (As.M1 (As.Monos.cons (fun _ _ v hl aw=>(fun _ _ _ hl ⟨A,c,e,hr⟩=>⟨A,c,e,hr.mono hl⟩: ∀(H H': PHeap) (v: Value),Le H H'->(fun H v=> ∃ A c,v=(.tuple #[(tv (((readS (HS.S h) y_).1)) A c),(iV ((readS (HS.S h) y_).2))])/\RowT H A c ((readS (HS.S h) y_).1).l) H v->(fun H v=> ∃ A c,v=(.tuple #[(tv (((readS (HS.S h) y_).1)) A c),(iV ((readS (HS.S h) y_).2))])/\RowT H A c ((readS (HS.S h) y_).1).l) H' v) _ _ _ hl.le aw) (As.Monos.cons (fun _ _ v hl aw=>(fun _ _ _ hl ⟨A,c,e,hr⟩=>⟨A,c,e,hr.mono hl⟩: ∀(H H': PHeap) (v: Value),Le H H'->(fun H v=> ∃ A c,v=(.tuple #[(tv (((readS (HS.S h) y_).1)) A c),(iV ((readS (HS.S h) y_).2))])/\RowT H A c ((readS (HS.S h) y_).1).l) H v->(fun H v=> ∃ A c,v=(.tuple #[(tv (((readS (HS.S h) y_).1)) A c),(iV ((readS (HS.S h) y_).2))])/\RowT H A c ((readS (HS.S h) y_).1).l) H' v) _ _ _ hl.le aw) (As.Monos.cons (fun _ _ v hl aw=>(fun _ _ _ hl ⟨A,c,e,hr⟩=>⟨A,c,e,hr.mono hl⟩: ∀(H H': PHeap) (v: Value),Le H H'->(fun H v=> ∃ A c,v=(tv (((readS (HS.S h) y_).1)) A c)/\RowT H A c ((readS (HS.S h) y_).1).l) H v->(fun H v=> ∃ A c,v=(tv (((readS (HS.S h) y_).1)) A c)/\RowT H A c ((readS (HS.S h) y_).1).l) H' v) _ _ _ hl.le aw) (As.M1 (As.Monos.cons (fun _ _ _ hl ⟨b,h,e⟩=>⟨b,hl.get h,e⟩) (As.Monos.cons (fun _ _ _ hl ⟨b,A,c,h1,h2,hr⟩=>⟨b,A,c,hl.get h1,hl.get h2,hr.mono hl.le⟩) (As.Monos.nil)))))))))))) (fun _=>rfl) F (C.pk J) (As.QuietsI.c4 ?_ ?_ ?_ ?_ (As.QuietsI.c4 ?_ ?_ ?_ ?_ (As.QuietsI.c2 ?_ ?_ (As.QuietsI.cons ?_ (As.QuietsI.nil))))) (fun bn a w bc V F C az=>?_)
 ·refine As.Qx J fun a w I G X T F C O V=>?_;have M:=F;exact ak C J J fun a C=>As.ql C M
 ·refine As.Qx1 0 J fun a w I G X T F C O V=>?_;have M:=F;exact aB C J J fun a C=>As.ql C M
 ·refine As.Qx1 1 J fun a w I G X T F C O V=>?_;have M:=F;exact ac (f:=0) (o2:=0) T70 T24 J J J J C J J fun a C=>As.ql C M
 ·refine As.Qx1 2 J fun a w I G X T F C O V=>?_;have M:=F;have F:=Step.dropN _ _ F;exact af (v:=(pB p)) T24 J C J (F.blkL 2 J) J J fun a C=>As.ql C M
 ·refine As.Qx J fun a w I G X T F C O V=>?_;have M:=F;have F:=Step.dropN _ _ F;exact am (vs:=(wL y_)) T34 J C J (F.blkL 0 J) J (ah J) J fun a C=>As.ql C M
 ·refine As.Qx1 3 J fun a w I G X T F C O V=>?_;obtain⟨_,C,rfl⟩:=O.g C 4 J;have M:=F;have bx:=Step.dropN _ _ F;have F:=Step.perm F (List.Perm.of_eq (List.append_assoc (As.aents (As.il []) (As.sl [(9,10)]) [9,10] G) b7 Y).symm);have c3:=fI (F.tail ((As.aents (As.il []) (As.sl [(9,10)]) [9,10] G)++ b7)) bi (x:=y_);refine id (Co func20 C J (c3) ?_);rintro e w ⟨ca,a3,a4,rfl,au,bk⟩;refine⟨_,rfl,fun a C=>?_⟩;have F:=F.frameR ((As.aents (As.il []) (As.sl [(9,10)]) [9,10] G)++ b7) bk;have F:=Step.perm F (List.Perm.of_eq (List.append_assoc (As.aents (As.il []) (As.sl [(9,10)]) [9,10] G) b7 Y));exact As.qdone (s:=⟨I,G⟩) bk.le C F ⟨_,_,rfl,au⟩
 ·refine As.Qx J fun a w I G X T F C O V=>?_;obtain⟨_,C,a3,a4,rfl,au⟩:=O.g C 5 J;have M:=F;refine id (ak C J J fun a C=>?_);exact As.qdone (s:=⟨I,G⟩) (Le.refl _) C M ⟨_,_,rfl,au⟩
 ·refine As.Qx J fun a w I G X T F C O V=>?_;obtain⟨_,C,a3,a4,rfl,au⟩:=O.g C 6 J;have M:=F;refine id (ae (v:=(tv (((readS (HS.S h) y_).1)) a3 a4)) C J J J fun a C=>?_);exact As.qdone (s:=⟨I,G⟩) (Le.refl _) C M ⟨_,_,rfl,au⟩
 ·refine As.Qx J fun a w I G X T F C O V=>?_;obtain⟨_,C,a3,a4,rfl,au⟩:=O.g C 6 J;have M:=F;exact ae (v:=(iV ((readS (HS.S h) y_).2))) C J J J fun a C=>As.ql C M
 ·refine As.Qx J fun a w I G X T F C O V=>?_;have F: Step w0 H ([(eO q 70 #[.pointer (some ⟨p,0,none⟩),.slice a9 ws.length ar,.slice a8 bs.length aq,.bool true]),a1,a0]++Y) w I ((As.aents (As.il []) (As.sl [(9,10)]) [] G++As.aents (As.il []) (As.sl [(9,10)]) [10] G++((eO a6 34 (wA y_))::(eO a5 34 (wA v_))::b6::a1::a0::Y))):=As.opn (s:=⟨I,G⟩) [] [9] [10] [] J (As.con0 T J) F;refine aF (cs:=aZ) T46 F C J J fun a2 a w F C=>?_;exact As.qown (i:=9) (dst:=some 7) (s:=⟨I,G⟩) (E:= [(some a2,(.cells aZ 46 (0,0)))]) [] [9] [10] J J T (Le.refl _) C.dfr (As.has_at C) F As.con1 ⟨a2,rfl,rfl⟩
 ·refine As.Qx J fun a w I G X T F C O V=>?_;obtain⟨_,C,a2,b2,rfl⟩:=O.g C 9 J;have b2: G 9=some [(some a2,(.cells aZ 46 (0,0)))]:=b2;obtain⟨_,C,a3,a4,rfl,au⟩:=O.g C 7 J;have F: Step w0 H ([(eO q 70 #[.pointer (some ⟨p,0,none⟩),.slice a9 ws.length ar,.slice a8 bs.length aq,.bool true]),a1,a0]++Y) w I ((some a2,(.cells aZ 46 (0,0)))::(As.aents (As.il []) (As.sl [(9,10)]) [] G++As.aents (As.il []) (As.sl [(9,10)]) [] G++((eO a6 34 (wA y_))::(eO a5 34 (wA v_))::b6::a1::a0::Y))):=As.opn (s:=⟨I,G⟩) [] [9,10] [] [(some a2,(.cells aZ 46 (0,0)))] J (As.con2 J J J b2 T) F;refine id (an (cs':=(tA (((readS (HS.S h) y_).1)) a3 a4)) T46 F (i:=0) J C J J J J J J fun a w F C=>?_);exact As.qown (i:=10) (dst:=none) (s:=⟨I,G⟩) (E:= [(eO a2 46 (tA (((readS (HS.S h) y_).1)) a3 a4))]) [] [9,10] [] J J T (Le.refl _) C.dfr (v:=undef) (fun _ h=>by cases h) F (.inl (As.con2' J J)) ⟨a2,a3,a4,b2,rfl,au⟩
 obtain⟨b4,G⟩:=bc;have cd: Le H b4:=V.le;dsimp only at az F;obtain⟨_,C,rfl⟩:=As.Dd C az 8 J;obtain⟨_,C,a2,b2,rfl⟩:=As.Dd C az 9 J;have b2: G 9=some [(some a2,(.cells aZ 46 (0,0)))]:=b2;obtain⟨_,c8,bm,a3,a4,c7,b9,au⟩:=az 10 _ _ J J;have b9: G 10=some [(eO bm 46 (tA (((readS (HS.S h) y_).1)) a3 a4))]:=b9;obtain rfl: a2=bm:=by have av:=(b2).symm.trans c7;simpa using av
 have F: Step w0 H ([(eO q 70 #[.pointer (some ⟨p,0,none⟩),.slice a9 ws.length ar,.slice a8 bs.length aq,.bool true]),a1,a0]++Y) w b4 ((eO a2 46 (tA (((readS (HS.S h) y_).1)) a3 a4))::(eO a6 34 (wA y_))::(eO a5 34 (wA v_))::(eO q 70 (hA p a9 ws.length ar a8 bs.length aq))::a1::a0::Y):=by
  have av:=F;unfold As.aents at av;simp only [List.flatMap_cons,List.flatMap_nil,As.conE,show (As.sl [(9,10)]) 9=some 10 from rfl,show (As.sl [(9,10)]) 10=none from rfl,b2,b9,Option.isSome_some,Option.getD_some,cond_true,cond_false,List.cons_append,List.nil_append,List.append_nil] at av;exact av
 refine any1 (i:=11) j1 J J (aG C J J fun a C=>?_);refine any0 j1 ?_;refine aa (wp_seq ?_);have bw:=F;let b5:List Ent:=[(eO a2 46 (tA (((readS (HS.S h) y_).1)) a3 a4)),(eO a6 34 (wA y_)),(eO a5 34 (wA v_)),(eO q 70 (hA p a9 ws.length ar a8 bs.length aq)),a1,a0];let U:=(eO a2 46 (tA (((readS (HS.S h) y_).1)) a3 a4));let K:=(eO q 70 (hA p a9 ws.length ar a8 bs.length aq));refine As.c_draw_head (ini:=(As.il [])) (sup:=(As.sl [(9,10)])) (als:= [9,10]) (s0:=⟨b4,fun _=>none⟩) (L:=(U::(eO a6 34 (wA y_))::(eO a5 34 (wA v_))::K::a1::a0::Y)) (N:=45) (E:= [(0,(pB q)),(4,(pB a5)),(7,(pB a2)),(8,(iV ((readS (HS.S h) y_).2)))]) 11 [FcV (pB q),FcV (pB q),FcV (pB q),FcV (pB p),FcV (.agg (wA v_)),fun ay v=>(fun H v=> ∃ A c,v=(.tuple #[(tv (((readS (HS.S h) v_).1)) A c),(iV ((readS (HS.S h) v_).2))])/\RowT H A c ((readS (HS.S h) v_).1).l) ay.H v,fun ay v=>(fun H v=> ∃ A c,v=(.tuple #[(tv (((readS (HS.S h) v_).1)) A c),(iV ((readS (HS.S h) v_).2))])/\RowT H A c ((readS (HS.S h) v_).1).l) ay.H v,fun ay v=>(fun H v=> ∃ A c,v=(tv (((readS (HS.S h) v_).1)) A c)/\RowT H A c ((readS (HS.S h) v_).1).l) ay.H v,FcV (iV ((readS (HS.S h) v_).2)),fun s v=> ∃ b,s.ax 9=some [(some b,(.cells aZ 46 (0,0)))]/\v=.pointer (some ⟨b,0,none⟩),fun s _=> ∃(b: Nat) (A: Option Addr) (c: Nat),s.ax 9=some [(some b,(.cells aZ 46 (0,0)))]/\s.ax 10=some [(eO b 46 (tA (((readS (HS.S h) v_).1)) A c))]/\RowT s.H A c ((readS (HS.S h) v_).1).l] mixed J J J (As.M1 (As.M1 (As.M1 (As.M1 (As.M1 (As.Monos.cons (fun _ _ v hl aw=>(fun _ _ _ hl ⟨A,c,e,hr⟩=>⟨A,c,e,hr.mono hl⟩: ∀(H H': PHeap) (v: Value),Le H H'->(fun H v=> ∃ A c,v=(.tuple #[(tv (((readS (HS.S h) v_).1)) A c),(iV ((readS (HS.S h) v_).2))])/\RowT H A c ((readS (HS.S h) v_).1).l) H v->(fun H v=> ∃ A c,v=(.tuple #[(tv (((readS (HS.S h) v_).1)) A c),(iV ((readS (HS.S h) v_).2))])/\RowT H A c ((readS (HS.S h) v_).1).l) H' v) _ _ _ hl.le aw) (As.Monos.cons (fun _ _ v hl aw=>(fun _ _ _ hl ⟨A,c,e,hr⟩=>⟨A,c,e,hr.mono hl⟩: ∀(H H': PHeap) (v: Value),Le H H'->(fun H v=> ∃ A c,v=(.tuple #[(tv (((readS (HS.S h) v_).1)) A c),(iV ((readS (HS.S h) v_).2))])/\RowT H A c ((readS (HS.S h) v_).1).l) H v->(fun H v=> ∃ A c,v=(.tuple #[(tv (((readS (HS.S h) v_).1)) A c),(iV ((readS (HS.S h) v_).2))])/\RowT H A c ((readS (HS.S h) v_).1).l) H' v) _ _ _ hl.le aw) (As.Monos.cons (fun _ _ v hl aw=>(fun _ _ _ hl ⟨A,c,e,hr⟩=>⟨A,c,e,hr.mono hl⟩: ∀(H H': PHeap) (v: Value),Le H H'->(fun H v=> ∃ A c,v=(tv (((readS (HS.S h) v_).1)) A c)/\RowT H A c ((readS (HS.S h) v_).1).l) H v->(fun H v=> ∃ A c,v=(tv (((readS (HS.S h) v_).1)) A c)/\RowT H A c ((readS (HS.S h) v_).1).l) H' v) _ _ _ hl.le aw) (As.M1 (As.Monos.cons (fun _ _ _ hl ⟨b,h,e⟩=>⟨b,hl.get h,e⟩) (As.Monos.cons (fun _ _ _ hl ⟨b,A,c,h1,h2,hr⟩=>⟨b,A,c,hl.get h1,hl.get h2,hr.mono hl.le⟩) (As.Monos.nil)))))))))))) (fun _=>rfl) F (C.pk J) (As.QuietsI.c4 ?_ ?_ ?_ ?_ (As.QuietsI.c4 ?_ ?_ ?_ ?_ (As.QuietsI.c2 ?_ ?_ (As.QuietsI.cons ?_ (As.QuietsI.nil))))) (fun bn a w bc V F C az=>?_)
 ·refine As.Qx J fun a w I G X T F C O V=>?_;have M:=F;exact ak C J J fun a C=>As.ql C M
 ·refine As.Qx1 0 J fun a w I G X T F C O V=>?_;have M:=F;exact aB C J J fun a C=>As.ql C M
 ·refine As.Qx1 1 J fun a w I G X T F C O V=>?_;have M:=F;exact ac (f:=0) (o2:=0) T70 T24 J J J J C J J fun a C=>As.ql C M
 ·refine As.Qx1 2 J fun a w I G X T F C O V=>?_;have M:=F;have F:=Step.dropN _ _ F;exact af (v:=(pB p)) T24 J C J (F.blkL 3 J) J J fun a C=>As.ql C M
 ·refine As.Qx J fun a w I G X T F C O V=>?_;have M:=F;have F:=Step.dropN _ _ F;exact am (vs:=(wL v_)) T34 J C J (F.blkL 2 J) J (ah J) J fun a C=>As.ql C M
 ·refine As.Qx1 3 J fun a w I G X T F C O V=>?_;obtain⟨_,C,rfl⟩:=O.g C 4 J;have M:=F;have bx:=Step.dropN _ _ F;have F:=Step.perm F (List.Perm.of_eq (List.append_assoc (As.aents (As.il []) (As.sl [(9,10)]) [9,10] G) b5 Y).symm);have c0:=fI (F.tail ((As.aents (As.il []) (As.sl [(9,10)]) [9,10] G)++ b5)) bi (x:=v_);refine id (Co func20 C J (c0) ?_);rintro e w ⟨c9,a7,al,rfl,b0,bj⟩;refine⟨_,rfl,fun a C=>?_⟩;have F:=F.frameR ((As.aents (As.il []) (As.sl [(9,10)]) [9,10] G)++ b5) bj;have F:=Step.perm F (List.Perm.of_eq (List.append_assoc (As.aents (As.il []) (As.sl [(9,10)]) [9,10] G) b5 Y));exact As.qdone (s:=⟨I,G⟩) bj.le C F ⟨_,_,rfl,b0⟩
 ·refine As.Qx J fun a w I G X T F C O V=>?_;obtain⟨_,C,a7,al,rfl,b0⟩:=O.g C 5 J;have M:=F;refine id (ak C J J fun a C=>?_);exact As.qdone (s:=⟨I,G⟩) (Le.refl _) C M ⟨_,_,rfl,b0⟩
 ·refine As.Qx J fun a w I G X T F C O V=>?_;obtain⟨_,C,a7,al,rfl,b0⟩:=O.g C 6 J;have M:=F;refine id (ae (v:=(tv (((readS (HS.S h) v_).1)) a7 al)) C J J J fun a C=>?_);exact As.qdone (s:=⟨I,G⟩) (Le.refl _) C M ⟨_,_,rfl,b0⟩
 ·refine As.Qx J fun a w I G X T F C O V=>?_;obtain⟨_,C,a7,al,rfl,b0⟩:=O.g C 6 J;have M:=F;exact ae (v:=(iV ((readS (HS.S h) v_).2))) C J J J fun a C=>As.ql C M
 ·refine As.Qx J fun a w I G X T F C O V=>?_;have F: Step w0 H ([(eO q 70 #[.pointer (some ⟨p,0,none⟩),.slice a9 ws.length ar,.slice a8 bs.length aq,.bool true]),a1,a0]++Y) w I ((As.aents (As.il []) (As.sl [(9,10)]) [] G++As.aents (As.il []) (As.sl [(9,10)]) [10] G++(U::(eO a6 34 (wA y_))::(eO a5 34 (wA v_))::K::a1::a0::Y))):=As.opn (s:=⟨I,G⟩) [] [9] [10] [] J (As.con0 T J) F;refine aF (cs:=aZ) T46 F C J J fun Z a w F C=>?_;exact As.qown (i:=9) (dst:=some 9) (s:=⟨I,G⟩) (E:= [(some Z,(.cells aZ 46 (0,0)))]) [] [9] [10] J J T (Le.refl _) C.dfr (As.has_at C) F As.con1 ⟨Z,rfl,rfl⟩
 ·refine As.Qx J fun a w I G X T F C O V=>?_;obtain⟨_,C,Z,b1,rfl⟩:=O.g C 9 J;have b1: G 9=some [(some Z,(.cells aZ 46 (0,0)))]:=b1;obtain⟨_,C,a7,al,rfl,b0⟩:=O.g C 7 J;have F: Step w0 H ([(eO q 70 #[.pointer (some ⟨p,0,none⟩),.slice a9 ws.length ar,.slice a8 bs.length aq,.bool true]),a1,a0]++Y) w I ((some Z,(.cells aZ 46 (0,0)))::(As.aents (As.il []) (As.sl [(9,10)]) [] G++As.aents (As.il []) (As.sl [(9,10)]) [] G++(U::(eO a6 34 (wA y_))::(eO a5 34 (wA v_))::K::a1::a0::Y))):=As.opn (s:=⟨I,G⟩) [] [9,10] [] [(some Z,(.cells aZ 46 (0,0)))] J (As.con2 J J J b1 T) F;refine id (an (cs':=(tA (((readS (HS.S h) v_).1)) a7 al)) T46 F (i:=0) J C J J J J J J fun a w F C=>?_);exact As.qown (i:=10) (dst:=none) (s:=⟨I,G⟩) (E:= [(eO Z 46 (tA (((readS (HS.S h) v_).1)) a7 al))]) [] [9,10] [] J J T (Le.refl _) C.dfr (v:=undef) (fun _ h=>by cases h) F (.inl (As.con2' J J)) ⟨Z,a7,al,b1,rfl,b0⟩
 obtain⟨bf,G⟩:=bc;have c5: Le b4 bf:=V.le;dsimp only at az F;have au:=au.mono c5;obtain⟨_,C,rfl⟩:=As.Dd C az 8 J;obtain⟨_,C,Z,b1,rfl⟩:=As.Dd C az 9 J;have b1: G 9=some [(some Z,(.cells aZ 46 (0,0)))]:=b1;obtain⟨_,c8,bl,a7,al,c6,b8,b0⟩:=az 10 _ _ J J;have b8: G 10=some [(eO bl 46 (tA (((readS (HS.S h) v_).1)) a7 al))]:=b8;obtain rfl: Z=bl:=by have av:=(b1).symm.trans c6;simpa using av
 have F: Step w0 H ([(eO q 70 #[.pointer (some ⟨p,0,none⟩),.slice a9 ws.length ar,.slice a8 bs.length aq,.bool true]),a1,a0]++Y) w bf ((eO Z 46 (tA (((readS (HS.S h) v_).1)) a7 al))::(eO a2 46 (tA (((readS (HS.S h) y_).1)) a3 a4))::(eO a6 34 (wA y_))::(eO a5 34 (wA v_))::(eO q 70 (hA p a9 ws.length ar a8 bs.length aq))::a1::a0::Y):=by
  have av:=F;unfold As.aents at av;simp only [List.flatMap_cons,List.flatMap_nil,As.conE,show (As.sl [(9,10)]) 9=some 10 from rfl,show (As.sl [(9,10)]) 10=none from rfl,b1,b8,Option.isSome_some,Option.getD_some,cond_true,cond_false,List.cons_append,List.nil_append,List.append_nil] at av;exact av
 refine any1 (i:=11) j1 J J (aG C J J fun a C=>?_);refine any0 j1 ?_;refine aa (wp_seq (wp_seq (ab (Lm J C fun a C=>?_))));refine lin J (bC (i:=((readS (HS.S h) y_).2)) (j:=0) C J J J fun a C=>?_);refine Lm J C fun a C=>?_;refine aM (t:=32) C J (fun bo C=>?_) (fun bo C=>?_)
 ·refine Lf J C J J fun a C=>?_;refine Lf J C J J fun a C=>?_;refine lin J (ao C J J J fun a C=>?_);refine Lm J C fun a C=>?_;refine Lf J C J J fun a C=>?_;refine Lf J C J J fun a C=>?_;refine Lf J C J J fun a C=>?_;refine lin J (ao C J J J fun a C=>?_);refine wpList_nil (aa (ap C J (wp_seq (ab (Ls J C fun a C=>?_)))));refine wpList_nil (aa (wp_ret (ag (ret1 J C J ?_))));have F:=F.fd [0,0,0,0] J;rw [show insP h.S v_ y_=true from by unfold insP;rw [if_pos j0]];exact⟨_,rfl,F⟩
 ·refine ad J C J J J (ak C J J fun a C=>?_);refine ad J C J J J (bC (i:=((readS (HS.S h) v_).2)) (j:=0) C J J J fun a C=>?_);refine lin J (aj C J J J fun a C=>?_);refine Lm J C fun a C=>?_;refine aM (t:=36) C J (fun bp C=>?_) (fun bp C=>?_)
  ·refine Lf J C J J fun a C=>?_;refine Lf J C J J fun a C=>?_;refine Lf J C J J fun a C=>?_;refine lin J (ao C J J J fun a C=>?_);refine wpList_nil (aa (ap C J (wp_seq (ab (Ls J C fun a C=>?_)))));refine wpList_nil (aa (wp_ret (ag (ret1 J C J ?_))));have F:=F.fd [0,0,0,0] J;rw [show insP h.S v_ y_=true from by unfold insP;rw [if_pos j0]];exact⟨_,rfl,F⟩
  ·refine ad J C J J J (ac (f:=0) (o2:=0) T46 T3 J J J J C J J fun a C=>?_);refine ad J C J J J (af (v:=(iV ((((readS (HS.S h) v_).1)).kind))) T3 J C J (F.blkL 0 J) J J fun a C=>?_);refine ad J C J J J (bC (i:=((((readS (HS.S h) v_).1)).kind)) (j:=1) C J J J fun a C=>?_);refine lin J (aj C J J J fun a C=>?_);let bh:=(eO Z 46 (tA (((readS (HS.S h) v_).1)) a7 al));let bg:=(eO a2 46 (tA (((readS (HS.S h) y_).1)) a3 a4));let W:=(eO q 70 (hA p a9 ws.length ar a8 bs.length aq));refine wpList_nil (aa (aM (t:=40) C J (fun bq C=>?_) (fun bq C=>?_)))
   ·refine ap C J (wp_seq (ab (Ls J C fun a C=>?_)));refine wpList_nil (aa (wp_ret (ag (ret1 J C J ?_))));have F:=F.fd [0,0,0,0] J;rw [show insP h.S v_ y_=true from by unfold insP;rw [if_pos j0]];exact⟨_,rfl,F⟩
   ·refine ai C J (wp_skip (aa (wp_seq (ab (lin J (aF (cs:= #[.nilFunc]) T53 F C J J fun b3 a w F C=>?_))))));refine wpList_nil (aa (wp_seq (ab (lin J (cK (fs:= #[]) (cs:= #[(pB Z),(pB b3)]) C (C.evs (xs:= []) J) (C.evs J) J fun a C=>?_)))));refine lin J (an (cs':= #[(.func (.func 105) #[] #[(pB Z),(pB b3)])]) T53 F (i:=0) J C J J J J J J fun a w F C=>?_);refine wpList_nil (aa (wp_seq (ab (lin J (af (v:=(.func (.func 105) #[] #[(pB Z),(pB b3)])) T53 J C J (F.blkL 0 J) J J fun a C=>?_)))));refine lin J (am (vs:=(tL (((readS (HS.S h) y_).1)) a3 a4)) T46 J C J (F.blkL 2 J) J (ah J) J fun a C=>?_);have F:=F.fd [8,8,8,8,8,8,7,8] J;have c1:=c_visit (ba:=Z) (bv:=b3) (u:=(readS h.S v_).1) ((readS (HS.S h) y_).1) _ _ _ _ au (Inv.head [bh,(eO b3 53 #[(.func (.func 105) #[] #[(pB Z),(pB b3)])])] (B:=(bg::(eO a6 34 (wA y_))::(eO a5 34 (wA v_))::W::a1::a0::Y)) F.inv);refine lin J (bt func105 J J (C.evs J) C J J (c1) ?_);rintro e w ⟨rfl,bz⟩;refine⟨_,rfl,fun a C=>?_⟩;have F:=Step.frame (Lc:= [bh,(eO b3 53 #[(.func (.func 105) #[] #[(pB Z),(pB b3)])])]) (R:=(bg::(eO a6 34 (wA y_))::(eO a5 34 (wA v_))::W::a1::a0::Y)) F bz;refine Ls J C fun a C=>?_;refine wpList_nil (aa (wp_ret (ret1 J C J ?_)));have F:=F.fd [0,0,0,0,0] J;rw [show insP h.S v_ y_=occV (readS h.S v_).1.n (readS h.S y_).1 from by unfold insP;rw [if_neg j0]];exact⟨_,rfl,F⟩
end Go.Vk.Try
namespace Go.Vk.Try
open Go.RowKit
set_option maxHeartbeats 4000000 in
theorem c_step {w0: World} {H: PHeap} {q p: Nat} {ws bs: List Wd} {h: HS} {L: List Ent} (hI: Inv w0 H L) (hM: HM q p ws bs h L) {x: StV} (hdi: DI h ws bs) (hlw: ws.length<=50000) (hlb: bs.length<=50000): Calls prog 32 #[(pB q),(.agg #[(iV x.kd),(iV x.a),(iV x.b),(iV x.c)])] w0 (fun e w'=> ∃ h' ws' bs' H' L',SR x (h,ws,bs) (h',ws',bs')/\ws'.length<=ws.length+130/\bs'.length<=bs.length+1/\HM q p ws' bs' h' L'/\e=.returned (.tuple #[])/\Step w0 H L w' H' L'):=by
 obtain⟨_,av,bc,⟨hk,i1,da,dv,a9,a7,rfl,d2,cu⟩,bf⟩:=hM;have F: Step w0 H L w0 H ([(eO q 70 #[.pointer (some ⟨p,0,none⟩),.slice hk ws.length i1,.slice da bs.length dv,.bool true]),a9,a7]++av):=Step.castR [] bc (Step.refl hI);have Eu:=Row.cap d2;have Ei:=Row.cap cu;have lj:=hdi.ok;obtain⟨kk,lq⟩: ∃ k_,ixZ x.kd 9=k_:=⟨_,rfl⟩;refine enter [(pB q),(.agg #[(iV x.kd),(iV x.a),(iV x.b),(iV x.c)])] func32 J ntmps32 J fun a C=>?_;refine wp_seq (ab (lin J (aP (cs:= #[(iV x.kd),(iV x.a),(iV x.b),(iV x.c)]) F C J J J fun cm a w F C=>?_)));refine wpList_nil (aa (wp_seq (ab (lin J (ac (f:=0) (o2:=0) T67 T3 J J J J C J J fun a C=>?_)))));refine lin J (af (v:=(iV x.kd)) T3 J C J (F.blkL 0 J) J J fun a C=>?_);have ro:=cG (k:=x.kd) (n:=9) F.inv.nil j0;rw [lq] at ro;refine lin J (Cs func11 C J (ro) F fun a w C F=>?_);refine wpList_nil (aa (wp_block (wp_seq (ab (lin J (aW (i:=kk) (j:=0) C J J J fun a C=>?_))))));refine Ls J C fun a C=>?_;let au:=(eO q 70 (hA p hk ws.length i1 da bs.length dv));let a5:=(eO cm 67 #[(iV x.kd),(iV x.a),(iV x.b),(iV x.c)]);let b3:=((HS.var h).2.1);refine wpList_nil (aa (al (t:=39) C J (fun wr C=>?_) (fun wr C=>?_)))
 ·refine ap C J (wp_seq (ab (Lm J C fun a C=>?_)));refine lin J (aB C J J fun a C=>?_);refine lin J (ac (f:=0) (o2:=0) T70 T24 J J J J C J J fun a C=>?_);refine lin J (af (v:=(pB p)) T24 J C J (F.blkL 1 J) J J fun a C=>?_);have zu:=c_hVar (F.tail [a5,au,a9,a7]) bf hdi.ok;refine lin J (Co func27 C J (zu) ?_);rintro e w ⟨mb,rfl,i6,yw⟩;refine⟨_,rfl,fun a C=>?_⟩;have F:=F.frameR [a5,au,a9,a7] yw;have E7: HS.Ok ((HS.var h).1):=HS.Ok.var hdi.ok;refine Lm J C fun a C=>?_;refine lin J (ae (v:=(.agg (wA b3))) C J J J fun a C=>?_);refine lin J (ae (v:=(iV ((HS.var h).2.2))) C J J J fun a C=>?_);refine lin J (aF (cs:= #[(iV 0),(iV 0),(.string (⟨#[]⟩)),(.bool false)]) T34 F C J J fun kf a w F C=>?_);refine lin J (an (cs':=(wA b3)) T34 F (i:=0) J C J J J J J J fun a w F C=>?_);refine Ls J C fun a C=>?_;refine wpList_nil (aa (wp_seq (ab (Lm J C fun a C=>?_))));refine lin J (aW (i:=((HS.var h).2.2)) (j:=0) C J J J fun a C=>?_);let R:Array Value:=#[(iV ((b3).tag)),(iV ((b3).n)),(.string ((b3).s)),(.bool false)];refine wpList_nil (aa (al (t:=50) C J (fun gp C=>?_) (fun gp C=>?_)))
  ·refine ap C J (wp_seq (ab (lin J (am (vs:=(wL b3)) T34 J C J (F.blkL 0 J) J (ah J) J fun a C=>?_))));refine lin J (aF (cs:= #[(iV 0),(iV 0),(.string (⟨#[]⟩)),(.bool false)]) T34 F C J J fun ke a w F C=>?_);refine lin J (an (cs':=(wA b3)) T34 F (i:=0) J C J J J J J J fun a w F C=>?_);refine wpList_nil (aa (wp_seq (ab (lin J (ac (f:=3) (o2:=3) T34 T4 J J J J C J J fun a C=>?_)))));refine lin J (an (cs':= R) T4 F (i:=0) J C J J J J J J fun a w F C=>?_);refine wpList_nil (aa (?_));have F:=F.fd [6,6] J
   let B4:=(As.il [(8, [a9]),(15, [a7])])
   let je:=(As.sl [])
   have bk:=F;refine As.c_draw_headF (ini:=B4) (sup:=je) (als:= [8,15]) (s0:=⟨H,fun _=>none⟩) (L:=((eO ke 34 R)::(eO kf 34 (wA b3))::a5::au::mb)) (N:=480) (E:= [(0,(pB q)),(4,(pB kf)),(6,(pB ke))]) 16 1 [FcV (pB q),FcV (pB q),FcV (pB q),FcV (pB q),FcV (.pointer (some ⟨q,1,none⟩)),FcV (.slice hk ws.length i1),FcV (.agg (wA b3)),As.lf (fun H v=> ∃ b,v=.slice (some ⟨b,0,none⟩) 1 1/\H b=some (.cells (wA b3) 34 (0,0))),fun s v=> ∃(A: Option Addr) (c: Nat) (en: Ent),s.ax 8=some [en]/\v=.slice A ((ws++([b3]: List Wd)).length) c/\Row (.slice A ((ws++([b3]: List Wd)).length) c) en 34 4 ((ws++([b3]: List Wd)).length) (gfl Wd.cells (ws++([b3]: List Wd))),FcV (pB q),FcV (pB q),FcV (.pointer (some ⟨q,2,none⟩)),FcV (.slice da bs.length dv),FcV (.agg R),As.lf (fun H v=> ∃ b,v=.slice (some ⟨b,0,none⟩) 1 1/\H b=some (.cells R 34 (0,0))),fun s v=> ∃(A: Option Addr) (c: Nat) (en: Ent),s.ax 15=some [en]/\v=.slice A ((bs++([(Wd.mk ((b3).tag) ((b3).n) ((b3).s) false)]: List Wd)).length) c/\Row (.slice A ((bs++([(Wd.mk ((b3).tag) ((b3).n) ((b3).s) false)]: List Wd)).length) c) en 34 4 ((bs++([(Wd.mk ((b3).tag) ((b3).n) ((b3).s) false)]: List Wd)).length) (gfl Wd.cells (bs++([(Wd.mk ((b3).tag) ((b3).n) ((b3).s) false)]: List Wd)))] mixed j1 j1 j1 j1 j6 (fun _=>rfl) F (C.pk J) (As.QuietsI.c4 ?_ ?_ ?_ ?_ (As.QuietsI.c4 ?_ ?_ ?_ ?_ (As.QuietsI.c4 ?_ ?_ ?_ ?_ (As.QuietsI.c4 ?_ ?_ ?_ ?_ (As.QuietsI.nil))))) (fun bh a w b6 V F C a1=>?_) (fun bh a w b6 V F C a1=>?_)
   ·refine As.Qx J fun a w M G Y T F C O V=>?_;have I:=F;exact ak C J J fun a C=>As.ql C I
   ·refine As.Qx J fun a w M G Y T F C O V=>?_;have I:=F;exact ak C J J fun a C=>As.ql C I
   ·refine As.Qx J fun a w M G Y T F C O V=>?_;have I:=F;exact ak C J J fun a C=>As.ql C I
   ·refine As.Qx1 2 J fun a w M G Y T F C O V=>?_;have I:=F;exact aB C J J fun a C=>As.ql C I
   ·refine As.Qx1 3 J fun a w M G Y T F C O V=>?_;have I:=F;exact ac (f:=1) (o2:=1) T70 T29 J J J J C J J fun a C=>As.ql C I
   ·refine As.Qx1 4 J fun a w M G Y T F C O V=>?_;have I:=F;have F:=Step.dropN _ _ F;exact af (v:=(.slice hk ws.length i1)) T29 J C J (F.blkL 3 J) J J fun a C=>As.ql C I
   ·refine As.Qx J fun a w M G Y T F C O V=>?_;have I:=F;have F:=Step.dropN _ _ F;exact am (vs:=(wL b3)) T34 J C J (F.blkL 1 J) J (ah J) J fun a C=>As.ql C I
   ·refine As.Qx1 6 J fun a w M G Y T F C O V=>?_;have I:=F;have bv:=Step.dropN _ _ F;refine id (aY (vs:= [(0,(.agg (wA b3)))]) (cells:=(wL b3)) T29.und T34 F C (C.evp J) J J J J fun so a w F C=>?_);obtain⟨Cf,F,A4,ne⟩:=F.give;exact As.qdone (s:=⟨M,G⟩) A4 C F ⟨_,rfl,ne⟩
   ·refine As.Qx1 5 J fun a w M G Y T F C O V=>?_;obtain⟨_,C,so,rfl,ne⟩:=O.g C 7 J;have F: Step w0 H L w M (a9::_):=As.opn (s:=⟨M,G⟩) [] [8] [15] [a9] J (As.con0s T J) F;obtain⟨te,Bm,uq,u3,va,qk,w9⟩:=(RowG.of_lit Wd.len ([b3]: List Wd) ne j3 J).2.2;refine id (aK (news:=(gfl Wd.cells ([b3]: List Wd))) (xs:=(gfl Wd.cells ws)) T29.und T34 J J F d2 C J J (aA Wd.len _) (fun b5=>⟨te,Bm,uq,u3,va,(qk (fun X=>b5 (by rw [X];rfl))).1,F.blkH (qk (fun X=>b5 (by rw [X];rfl))).2,fun j u b9=>bi Wd.len j4 w9 b9⟩) (aV Wd.one' _) j0 J J fun Gd gk a w dg F C=>?_);rw [<- aH] at dg;obtain⟨ey,fb,rfl⟩:=dg.slice;have b0:(ws.length+1)=(ws++([b3]: List Wd)).length:=by have X:=dg.1;rw [aA Wd.len] at X;omega
    rw [show Value.slice ey (ws.length+1) fb=Value.slice ey (ws++([b3]: List Wd)).length fb from by rw [b0]] at C;rw [b0] at dg;exact As.qown (i:=8) (dst:=some 61) (s:=⟨M,G⟩) (E:= [gk]) [] [8] [15] J J T (Le.refl _) C.dfr (As.has_at C) F As.con1 ⟨_,_,_,rfl,rfl,dg⟩
   ·refine As.Qx J fun a w M G Y T F C O V=>?_;have I:=F;exact ak C J J fun a C=>As.ql C I
   ·refine As.Qx1 9 J fun a w M G Y T F C O V=>?_;have I:=F;exact aB C J J fun a C=>As.ql C I
   ·refine As.Qx1 10 J fun a w M G Y T F C O V=>?_;have I:=F;exact ac (f:=2) (o2:=2) T70 T29 J J J J C J J fun a C=>As.ql C I
   ·refine As.Qx1 11 J fun a w M G Y T F C O V=>?_;have I:=F;have F:=Step.dropN _ _ F;exact af (v:=(.slice da bs.length dv)) T29 J C J (F.blkL 3 J) J J fun a C=>As.ql C I
   ·refine As.Qx J fun a w M G Y T F C O V=>?_;have I:=F;have F:=Step.dropN _ _ F;exact am (vs:= [(iV ((b3).tag)),(iV ((b3).n)),(.string ((b3).s)),(.bool false)]) T34 J C J (F.blkL 0 J) J (ah J) J fun a C=>As.ql C I
   ·refine As.Qx1 13 J fun a w M G Y T F C O V=>?_;have I:=F;have bv:=Step.dropN _ _ F;refine id (aY (vs:= [(0,(.agg R))]) (cells:= [(iV ((b3).tag)),(iV ((b3).n)),(.string ((b3).s)),(.bool false)]) T29.und T34 F C (C.evp J) J J J J fun ss a w F C=>?_);obtain⟨Ck,F,A8,ni⟩:=F.give;exact As.qdone (s:=⟨M,G⟩) A8 C F ⟨_,rfl,ni⟩
   ·refine As.Qx1 12 J fun a w M G Y T F C O V=>?_;obtain⟨_,C,ss,rfl,ni⟩:=O.g C 14 J;have F: Step w0 H L w M (a7::_):=As.opn (s:=⟨M,G⟩) [8] [15] [] [a7] J (As.con0s T J) F;obtain⟨ti,Bq,uu,u7,ve,qp,wd⟩:=(RowG.of_lit Wd.len ([(Wd.mk ((b3).tag) ((b3).n) ((b3).s) false)]: List Wd) ni j3 J).2.2;refine id (aK (news:=(gfl Wd.cells ([(Wd.mk ((b3).tag) ((b3).n) ((b3).s) false)]: List Wd))) (xs:=(gfl Wd.cells bs)) T29.und T34 J J F cu C J J (aA Wd.len _) (fun b5=>⟨ti,Bq,uu,u7,ve,(qp (fun X=>b5 (by rw [X];rfl))).1,F.blkH (qp (fun X=>b5 (by rw [X];rfl))).2,fun j u b9=>bi Wd.len j4 wd b9⟩) (aV Wd.one' _) j0 J J fun Gi gl a w dh F C=>?_);rw [<- aH] at dh;obtain⟨hj,i0,rfl⟩:=dh.slice;have b0:(bs.length+1)=(bs++([(Wd.mk ((b3).tag) ((b3).n) ((b3).s) false)]: List Wd)).length:=by have X:=dh.1;rw [aA Wd.len] at X;omega
    rw [show Value.slice hj (bs.length+1) i0=Value.slice hj (bs++([(Wd.mk ((b3).tag) ((b3).n) ((b3).s) false)]: List Wd)).length i0 from by rw [b0]] at C;rw [b0] at dh;exact As.qown (i:=15) (dst:=some 68) (s:=⟨M,G⟩) (E:= [gl]) [8] [15] [] J J T (Le.refl _) C.dfr (As.has_at C) F As.con1 ⟨_,_,_,rfl,rfl,dh⟩
   ·obtain⟨ie,G⟩:=b6;have Ac: Le H ie:=V.le;dsimp only at a1 F;obtain⟨_,C,rfl⟩:=As.Dd C a1 0 J;obtain⟨_,C,rfl⟩:=As.Dd C a1 1 J;obtain⟨_,C,ey,fb,gk,hd,rfl,dg⟩:=As.Dd C a1 8 J;have hd: G 8=some [gk]:=hd;obtain⟨_,C,hj,i0,gl,hg,rfl,dh⟩:=As.Dd C a1 15 J;have hg: G 15=some [gl]:=hg;have F: Step w0 H L w ie (gk::gl::(eO ke 34 R)::(eO kf 34 (wA b3))::a5::au::mb):=by
     have X:=F;unfold As.aents at X;simp only [List.flatMap_cons,List.flatMap_nil,As.conE,show je 8=none from rfl,show je 15=none from rfl,hd,hg,Option.isSome_some,Option.getD_some,cond_true,cond_false,List.cons_append,List.nil_append,List.append_nil] at X;exact X
    refine any1 (i:=16) j1 J J (aB C J J fun a C=>?_);refine any1 (i:=17) j1 J J (ac (f:=1) (o2:=1) T70 T29 J J J J C J J fun a C=>?_);refine any1 (i:=18) j1 J J (an (cs':=(hA p ey ((ws++([b3]: List Wd)).length) fb da bs.length dv)) T29 F (i:=5) J C J J J J J J fun a w F C=>?_);refine any1 (i:=19) j1 J J (aB C J J fun a C=>?_);refine any1 (i:=20) j1 J J (ac (f:=2) (o2:=2) T70 T29 J J J J C J J fun a C=>?_);refine any1 (i:=21) j1 J J (an (cs':=(hA p ey ((ws++([b3]: List Wd)).length) fb hj ((bs++([(Wd.mk ((b3).tag) ((b3).n) ((b3).s) false)]: List Wd)).length) i0)) T29 F (i:=5) J C J J J J J J fun a w F C=>?_);refine any0 j1 ?_;refine aq (ret0 J C ?_);have F:=F.fd [3,0,3,0,3,0,2,2,3] J;exact⟨_,_,_,_,_,SR.var gp,by first | omega |(simp only [List.length_append,List.length_cons,List.length_nil];omega),by first | omega |(simp only [List.length_append,List.length_cons,List.length_nil];omega),⟨_,_,rfl,⟨_,_,_,_,_,_,rfl,dg,dh⟩,i6⟩,rfl,F⟩
   ·obtain⟨ie,G⟩:=b6;have Ac: Le H ie:=V.le;dsimp only at a1 F;obtain⟨_,c7,rfl⟩:=a1 0 _ _ J J J;have C:=C.add (c7 _ J);obtain⟨_,c7,ey,fb,gk,hd,rfl,dg⟩:=a1 8 _ _ J J J;have C:=C.add (c7 _ J);have hd: G 8=some [gk]:=hd;obtain⟨_,c7,hj,i0,gl,hg,rfl,dh⟩:=a1 15 _ _ J J J;have C:=C.add (c7 _ J);have hg: G 15=some [gl]:=hg;have F: Step w0 H L w ie (gk::gl::(eO ke 34 R)::(eO kf 34 (wA b3))::a5::au::mb):=by
     have X:=F;unfold As.aents at X;simp only [List.flatMap_cons,List.flatMap_nil,As.conE,show je 8=none from rfl,show je 15=none from rfl,hd,hg,Option.isSome_some,Option.getD_some,cond_true,cond_false,List.cons_append,List.nil_append,List.append_nil] at X;exact X
    let d:=(hA p ey ((ws++([b3]: List Wd)).length) fb da bs.length dv);let Q:=(hA p ey ((ws++([b3]: List Wd)).length) fb hj ((bs++([(Wd.mk ((b3).tag) ((b3).n) ((b3).s) false)]: List Wd)).length) i0);refine any2 (i:=1) (i':=16) j1 J J J J ?_ ?_
    ·refine id (ak C J J fun a C=>?_);refine any1 (i:=16) j1 J J (aB C J J fun a C=>?_);refine any1 (i:=17) j1 J J (ac (f:=1) (o2:=1) T70 T29 J J J J C J J fun a C=>?_);refine any1 (i:=18) j1 J J (an (cs':=d) T29 F (i:=5) J C J J J J J J fun a w F C=>?_);refine any1 (i:=19) j1 J J (aB C J J fun a C=>?_);refine any1 (i:=20) j1 J J (ac (f:=2) (o2:=2) T70 T29 J J J J C J J fun a C=>?_);refine any1 (i:=21) j1 J J (an (cs':=Q) T29 F (i:=5) J C J J J J J J fun a w F C=>?_);refine any0 j1 ?_;refine aq (ret0 J C ?_);have F:=F.fd [3,0,3,0,3,0,2,2,3] J;exact⟨_,_,_,_,_,SR.var gp,by first | omega |(simp only [List.length_append,List.length_cons,List.length_nil];omega),by first | omega |(simp only [List.length_append,List.length_cons,List.length_nil];omega),⟨_,_,rfl,⟨_,_,_,_,_,_,rfl,dg,dh⟩,i6⟩,rfl,F⟩
    ·refine id (aB C J J fun a C=>?_);refine any2 (i:=1) (i':=17) j1 J J J J ?_ ?_
     ·refine id (ak C J J fun a C=>?_);refine any1 (i:=17) j1 J J (ac (f:=1) (o2:=1) T70 T29 J J J J C J J fun a C=>?_);refine any1 (i:=18) j1 J J (an (cs':=d) T29 F (i:=5) J C J J J J J J fun a w F C=>?_);refine any1 (i:=19) j1 J J (aB C J J fun a C=>?_);refine any1 (i:=20) j1 J J (ac (f:=2) (o2:=2) T70 T29 J J J J C J J fun a C=>?_);refine any1 (i:=21) j1 J J (an (cs':=Q) T29 F (i:=5) J C J J J J J J fun a w F C=>?_);refine any0 j1 ?_;refine aq (ret0 J C ?_);have F:=F.fd [3,0,3,0,3,0,2,2,3] J;exact⟨_,_,_,_,_,SR.var gp,by first | omega |(simp only [List.length_append,List.length_cons,List.length_nil];omega),by first | omega |(simp only [List.length_append,List.length_cons,List.length_nil];omega),⟨_,_,rfl,⟨_,_,_,_,_,_,rfl,dg,dh⟩,i6⟩,rfl,F⟩
     ·refine id (ac (f:=1) (o2:=1) T70 T29 J J J J C J J fun a C=>?_);refine any2 (i:=1) (i':=18) j1 J J J J ?_ ?_
      ·refine id (ak C J J fun a C=>?_);refine any1 (i:=18) j1 J J (an (cs':=d) T29 F (i:=5) J C J J J J J J fun a w F C=>?_);refine any1 (i:=19) j1 J J (aB C J J fun a C=>?_);refine any1 (i:=20) j1 J J (ac (f:=2) (o2:=2) T70 T29 J J J J C J J fun a C=>?_);refine any1 (i:=21) j1 J J (an (cs':=Q) T29 F (i:=5) J C J J J J J J fun a w F C=>?_);refine any0 j1 ?_;refine aq (ret0 J C ?_);have F:=F.fd [3,0,3,0,3,0,2,2,3] J;exact⟨_,_,_,_,_,SR.var gp,by first | omega |(simp only [List.length_append,List.length_cons,List.length_nil];omega),by first | omega |(simp only [List.length_append,List.length_cons,List.length_nil];omega),⟨_,_,rfl,⟨_,_,_,_,_,_,rfl,dg,dh⟩,i6⟩,rfl,F⟩
      ·refine id (an (cs':=d) T29 F (i:=5) J C J J J J J J fun a w F C=>?_);refine any1 (i:=1) j1 J J (ak C J J fun a C=>?_);refine any1 (i:=19) j1 J J (aB C J J fun a C=>?_);refine any1 (i:=20) j1 J J (ac (f:=2) (o2:=2) T70 T29 J J J J C J J fun a C=>?_);refine any1 (i:=21) j1 J J (an (cs':=Q) T29 F (i:=5) J C J J J J J J fun a w F C=>?_);refine any0 j1 ?_;refine aq (ret0 J C ?_);have F:=F.fd [3,0,3,0,3,0,2,2,3] J;exact⟨_,_,_,_,_,SR.var gp,by first | omega |(simp only [List.length_append,List.length_cons,List.length_nil];omega),by first | omega |(simp only [List.length_append,List.length_cons,List.length_nil];omega),⟨_,_,rfl,⟨_,_,_,_,_,_,rfl,dg,dh⟩,i6⟩,rfl,F⟩
  ·refine ai C J (wp_skip (aq (ret0 J C ?_)));have F:=F.fd [0,0] J;exact⟨_,_,_,_,_,SR.var0 gp,by first | omega |(simp only [List.length_append,List.length_cons,List.length_nil];omega),by first | omega |(simp only [List.length_append,List.length_cons,List.length_nil];omega),⟨_,_,rfl,⟨_,_,_,_,_,_,rfl,d2,cu⟩,i6⟩,rfl,F⟩
 ·refine ai C J (wp_seq (ab (lin J (aW (i:=kk) (j:=1) C J J J fun a C=>?_))));refine Ls J C fun a C=>?_;let kc:List (Nat×Value):=[(0,(pB q)),(3,(pB cm))];refine wpList_nil (aa (al (t:=73) C J (fun vy C=>?_) (fun vy C=>?_)))
  ·refine ap C J ?_;obtain⟨⟨d4,jg⟩,nz⟩: ∃ bl,takeP ws x.a=bl:=⟨_,rfl⟩;have F0: jg.length<=ws.length:=by have X:=bz ws x.a;rw [nz] at X;first | exact X | exact Nat.le_of_eq X
   obtain⟨⟨d6,ly⟩,o1⟩: ∃ bl,shareP jg x.b=bl:=⟨_,rfl⟩;have F2: ly.length<=jg.length:=by have X:=shareP_len jg x.b;rw [o1] at X;first | exact X | exact Nat.le_of_eq X
   obtain⟨⟨j5,⟨e2,dx⟩⟩,hc⟩: ∃ bl,h.fun_ fS [d4,d6]=bl:=⟨_,rfl⟩;have y7: HS.Ok j5:=by have X:=HS.Ok.fun_ hdi.ok fS [d4,d6];rw [hc] at X;exact X
   have r7: HM q p ws bs h (au::a9::a7::av):=⟨[au,a9,a7],av,rfl,⟨_,_,_,_,_,_,rfl,d2,cu⟩,bf⟩
   let ba:=(As.il [(8,(au::a9::a7::av))])
   let b8:=(As.sl [(8,12),(12,14)])
   have F: Step w0 H L w H ((au::a9::a7::av)++ [a5]):=Step.perm (show Step w0 H L w H ([a5]++(au::a9::a7::av)) from F) (List.perm_append_comm (l₁:= [a5]) (l₂:=(au::a9::a7::av)));have bk:=F;refine As.c_draw_head (ini:=ba) (sup:=b8) (als:= [8,12,14]) (s0:=⟨H,fun _=>none⟩) (L:= [a5]) (N:=480) (E:= kc) 17 [FcV (pB q),FcV (pB q),FcV (pB q),FcV (pB q),FcV (pB p),FcV (pB q),FcV (.pointer (some ⟨cm,1,none⟩)),FcV (iV x.a),fun s v=> ∃ L',s.ax 8=some L'/\v=(.agg (wA d4))/\HM q p jg bs h L',FcV (pB q),FcV (.pointer (some ⟨cm,2,none⟩)),FcV (iV x.b),fun s v=> ∃ L',s.ax 12=some L'/\v=(.agg (wA d6))/\HM q p ly bs h L'/\(s.ax 8).isSome=true,As.lf (fun H v=> ∃ b,v=.slice (some ⟨b,0,none⟩) 2 2/\H b=some (.cells #[(iV d4.tag),(iV d4.n),(.string d4.s),(.bool d4.one),(iV d6.tag),(iV d6.n),(.string d6.s),(.bool d6.one)] 34 (0,0))),fun s v=> ∃ L',s.ax 14=some L'/\v=(.tuple #[(.agg (wA e2)),(iV dx)])/\HM q p ly bs j5 L'/\(s.ax 8).isSome=true/\(s.ax 12).isSome=true,FcV (.agg (wA e2)),FcV (iV dx)] mixed j1 j1 j1 (by repeat' (first | exact As.Monos.nil | refine As.Monos.cons ?_ ?_ |(intro _ _ _ hl h;exact h) |(rintro _ _ _ hl ⟨A,c,h,hr⟩;exact⟨A,c,h,hr.mono hl.le⟩) |(rintro _ _ _ hl ⟨b,h,dz⟩;exact⟨b,h,hl.le _ _ dz⟩) | exact fun _ _ _ hl ⟨L',h,e,bf,ex,jd⟩=>⟨L',hl.get h,e,bf,hl.some ex,hl.some jd⟩ | exact fun _ _ _ hl ⟨L',h,e,bf,ex⟩=>⟨L',hl.get h,e,bf,hl.some ex⟩ | exact fun _ _ _ hl ⟨L',h,e,bf⟩=>⟨L',hl.get h,e,bf⟩)) (fun _=>rfl) (show Step w0 H L w H (((au::a9::a7::av)++([]++([]++ [])))++ [a5]) from by simpa only [List.nil_append,List.append_nil,List.cons_append,List.append_assoc] using F) (C.pk J) (As.QuietsI.c4 ?_ ?_ ?_ ?_ (As.QuietsI.c4 ?_ ?_ ?_ ?_ (As.QuietsI.c4 ?_ ?_ ?_ ?_ (As.QuietsI.c4 ?_ ?_ ?_ ?_ (As.QuietsI.cons ?_ (As.QuietsI.nil)))))) (fun bh a w b6 V F C a1=>?_)
   ·refine As.Qx J fun a w M G Y T F C O V=>?_;have I:=F;exact ak C J J fun a C=>As.ql C I
   ·refine As.Qx J fun a w M G Y T F C O V=>?_;have I:=F;exact ak C J J fun a C=>As.ql C I
   ·refine As.Qx1 1 J fun a w M G Y T F C O V=>?_;have I:=F;exact aB C J J fun a C=>As.ql C I
   ·refine As.Qx1 2 J fun a w M G Y T F C O V=>?_;have I:=F;exact ac (f:=0) (o2:=0) T70 T24 J J J J C J J fun a C=>As.ql C I
   ·refine As.Qx1 3 J fun a w M G Y T F C O V=>?_;have I:=F;have o6: ∃ cp,(∃ pd mn X,HM q p pd mn X cp)/\∀ df ∈ cp,df ∈ As.aents ba b8 [8,12,14] G:=by
     cases hx14_: G 14 with
     | some cp =>
      obtain⟨_,hq,cy,_,cz, -⟩:=O.fact 14 _ hx14_ _ J _ J;obtain rfl:=Option.some.inj (hx14_.symm.trans cy);exact⟨_,⟨_,_,_,cz⟩,fun df ca=>by
        unfold As.aents;simp only [List.flatMap_cons,List.flatMap_nil,As.conE,show b8 8=some 12 from rfl,show b8 12=some 14 from rfl,show b8 14=none from rfl,show ba 8=(au::a9::a7::av) from rfl,show ba 12= [] from rfl,show ba 14= [] from rfl,hx14_,Option.isSome_some,Option.isSome_none,Option.getD_some,Option.getD_none,cond_true,cond_false,List.append_nil,List.nil_append];simp [ca]⟩
     | none =>
      cases hx12_: G 12 with
      | some cp =>
       obtain⟨_,hq,cy,_,cz, -⟩:=O.fact 12 _ hx12_ _ J _ J;obtain rfl:=Option.some.inj (hx12_.symm.trans cy);exact⟨_,⟨_,_,_,cz⟩,fun df ca=>by
         unfold As.aents;simp only [List.flatMap_cons,List.flatMap_nil,As.conE,show b8 8=some 12 from rfl,show b8 12=some 14 from rfl,show b8 14=none from rfl,show ba 8=(au::a9::a7::av) from rfl,show ba 12= [] from rfl,show ba 14= [] from rfl,hx14_,hx12_,Option.isSome_some,Option.isSome_none,Option.getD_some,Option.getD_none,cond_true,cond_false,List.append_nil,List.nil_append];simp [ca]⟩
      | none =>
       cases hx8_: G 8 with
       | some cp =>
        obtain⟨_,hq,cy,_,cz⟩:=O.fact 8 _ hx8_ _ J _ J;obtain rfl:=Option.some.inj (hx8_.symm.trans cy);exact⟨_,⟨_,_,_,cz⟩,fun df ca=>by
          unfold As.aents;simp only [List.flatMap_cons,List.flatMap_nil,As.conE,show b8 8=some 12 from rfl,show b8 12=some 14 from rfl,show b8 14=none from rfl,show ba 8=(au::a9::a7::av) from rfl,show ba 12= [] from rfl,show ba 14= [] from rfl,hx14_,hx12_,hx8_,Option.isSome_some,Option.isSome_none,Option.getD_some,Option.getD_none,cond_true,cond_false,List.append_nil,List.nil_append];simp [ca]⟩
       | none =>
        exact⟨(au::a9::a7::av),⟨_,_,_,r7⟩,fun df ca=>by
          unfold As.aents;simp only [List.flatMap_cons,List.flatMap_nil,As.conE,show b8 8=some 12 from rfl,show b8 12=some 14 from rfl,show b8 14=none from rfl,show ba 8=(au::a9::a7::av) from rfl,show ba 12= [] from rfl,show ba 14= [] from rfl,hx14_,hx12_,hx8_,Option.isSome_some,Option.isSome_none,Option.getD_some,Option.getD_none,cond_true,cond_false,List.append_nil,List.nil_append];simp [ca]⟩
    obtain⟨cp,⟨_,_,_,na⟩,n0⟩:=o6;obtain⟨sh,Bg,tw,si,Bh,tz,ob⟩:=HM.blk na;have oa:=I.inv.own _ (List.mem_append_left _ (n0 _ ob)) q J;exact af (v:=(pB p)) T24 J C J oa J J fun a C=>As.ql C I
   ·refine As.Qx J fun a w M G Y T F C O V=>?_;have I:=F;exact ak C J J fun a C=>As.ql C I
   ·refine As.Qx J fun a w M G Y T F C O V=>?_;have I:=F;exact ac (f:=1) (o2:=1) T67 T3 J J J J C J J fun a C=>As.ql C I
   ·refine As.Qx1 6 J fun a w M G Y T F C O V=>?_;have I:=F;have F:=Step.dropN _ _ F;exact af (v:=(iV x.a)) T3 J C J (F.blkL 0 J) J J fun a C=>As.ql C I
   ·refine As.Qx1 5 J fun a w M G Y T F C O V=>?_;obtain⟨_,C,rfl⟩:=O.g C 7 J;have j9: G 12=none:=O.late 3 12 j1;have ja: G 14=none:=O.late 3 14 j1;have bc: As.aents ba b8 [8,12,14] G=((au::a9::a7::av)):=by
     unfold As.aents;simp only [List.flatMap_cons,List.flatMap_nil,As.conE,show b8 8=some 12 from rfl,show b8 12=some 14 from rfl,show b8 14=none from rfl,show ba 8=(au::a9::a7::av) from rfl,show ba 12= [] from rfl,show ba 14= [] from rfl,T,j9,ja,Option.isSome_some,Option.isSome_none,Option.getD_some,Option.getD_none,cond_true,cond_false,List.append_nil,List.nil_append]
    have F: Step w0 H L w M (((au::a9::a7::av))++_):=As.opn (s:=⟨M,G⟩) [] [8,12,14] [] ((au::a9::a7::av)) J bc F;have F:=Step.perm F (List.perm_append_comm (l₁:=(au::a9::a7::av)) (l₂:=_));have zk:=bY (F.tail (_)) r7 j0 j0 nz;refine id (Co func73 C J (zk) ?_);rintro e w ⟨g6,rfl,xr,ym⟩;refine⟨_,rfl,fun a C=>?_⟩;have F:=F.frameR (_) ym;have F:=Step.perm F (List.perm_append_comm (l₁:=_) (l₂:=g6));have c9: As.aents ba b8 [8,12,14] (As.upd G 8 (g6))=(g6):=by
     unfold As.aents;simp only [List.flatMap_cons,List.flatMap_nil,As.conE,show b8 8=some 12 from rfl,show b8 12=some 14 from rfl,show b8 14=none from rfl,show ba 8=(au::a9::a7::av) from rfl,show ba 12= [] from rfl,show ba 14= [] from rfl,As.upd_at,show As.upd G 8 (g6) 12=G 12 from rfl,show As.upd G 8 (g6) 14=G 14 from rfl,j9,ja,Option.isSome_some,Option.isSome_none,Option.getD_some,Option.getD_none,cond_true,cond_false,List.append_nil,List.nil_append]
    exact As.qown (i:=8) (dst:=some 83) (s:=⟨M,G⟩) (E:=(g6)) [] [8,12,14] [] J J T (Le.refl _) C.dfr (As.has_at C) F (.inl c9) ⟨g6,rfl,rfl,xr⟩
   ·refine As.Qx J fun a w M G Y T F C O V=>?_;have I:=F;exact ak C J J fun a C=>As.ql C I
   ·refine As.Qx J fun a w M G Y T F C O V=>?_;have I:=F;exact ac (f:=2) (o2:=2) T67 T3 J J J J C J J fun a C=>As.ql C I
   ·refine As.Qx1 10 J fun a w M G Y T F C O V=>?_;have I:=F;have F:=Step.dropN _ _ F;exact af (v:=(iV x.b)) T3 J C J (F.blkL 0 J) J J fun a C=>As.ql C I
   ·refine As.Qx1 9 J fun a w M G Y T F C O V=>?_;obtain⟨_,C,rfl⟩:=O.g C 11 J;obtain⟨_,C,ec,dj,rfl,n3⟩:=O.g C 8 J;have dj: G 8=some ec:=dj;have ja: G 14=none:=O.late 3 14 j1;have bc: As.aents ba b8 [8,12,14] G=(ec):=by
     unfold As.aents;simp only [List.flatMap_cons,List.flatMap_nil,As.conE,show b8 8=some 12 from rfl,show b8 12=some 14 from rfl,show b8 14=none from rfl,show ba 8=(au::a9::a7::av) from rfl,show ba 12= [] from rfl,show ba 14= [] from rfl,T,ja,dj,Option.isSome_some,Option.isSome_none,Option.getD_some,Option.getD_none,cond_true,cond_false,List.append_nil,List.nil_append]
    have F: Step w0 H L w M ((ec)++_):=As.opn (s:=⟨M,G⟩) [] [8,12,14] [] (ec) J bc F;have F:=Step.perm F (List.perm_append_comm (l₁:=ec) (l₂:=_));have zl:=c_mshared (F.tail (_)) n3 j0 j0 o1;refine id (Co func74 C J (zl) ?_);rintro e w ⟨g7,rfl,xt,yo⟩;refine⟨_,rfl,fun a C=>?_⟩;have F:=F.frameR (_) yo;have F:=Step.perm F (List.perm_append_comm (l₁:=_) (l₂:=g7));have c9: As.aents ba b8 [8,12,14] (As.upd G 12 (g7))=(g7):=by
     unfold As.aents;simp only [List.flatMap_cons,List.flatMap_nil,As.conE,show b8 8=some 12 from rfl,show b8 12=some 14 from rfl,show b8 14=none from rfl,show ba 8=(au::a9::a7::av) from rfl,show ba 12= [] from rfl,show ba 14= [] from rfl,As.upd_at,show As.upd G 12 (g7) 8=G 8 from rfl,show As.upd G 12 (g7) 14=G 14 from rfl,ja,dj,Option.isSome_some,Option.isSome_none,Option.getD_some,Option.getD_none,cond_true,cond_false,List.append_nil,List.nil_append]
    exact As.qown (i:=12) (dst:=some 87) (s:=⟨M,G⟩) (E:=(g7)) [] [8,12,14] [] J J T (Le.refl _) C.dfr (As.has_at C) F (.inl c9) ⟨g7,rfl,rfl,xt,(congrArg Option.isSome dj)⟩
   ·refine As.Qx J fun a w M G Y T F C O V=>?_;obtain⟨_,C,ec,dj,rfl,n3⟩:=O.g C 8 J;have dj: G 8=some ec:=dj;obtain⟨_,C,ed,dk,rfl,n4,cb⟩:=O.g C 12 J;have dk: G 12=some ed:=dk;have I:=F;have bv:=Step.dropN _ _ F;refine id (aY (vs:= [(0,(.agg (wA d4))),(1,(.agg (wA d6)))]) (cells:= [(iV d4.tag),(iV d4.n),(.string d4.s),(.bool d4.one),(iV d6.tag),(iV d6.n),(.string d6.s),(.bool d6.one)]) T29.und T34 F C (C.evp J) J J J J fun t4 a w F C=>?_);obtain⟨Cx,F,Aj,ns⟩:=F.give;exact As.qdone (s:=⟨M,G⟩) Aj C F ⟨_,rfl,ns⟩
   ·refine As.Qx1 4 J fun a w M G Y T F C O V=>?_;obtain⟨_,C,t4,rfl,ns⟩:=O.g C 13 J;obtain⟨_,C,ed,dk,rfl,n4,cb⟩:=O.g C 12 J;have dk: G 12=some ed:=dk;have bc: As.aents ba b8 [8,12,14] G=(ed):=by
     unfold As.aents;simp only [List.flatMap_cons,List.flatMap_nil,As.conE,show b8 8=some 12 from rfl,show b8 12=some 14 from rfl,show b8 14=none from rfl,show ba 8=(au::a9::a7::av) from rfl,show ba 12= [] from rfl,show ba 14= [] from rfl,T,dk,Option.isSome_some,Option.isSome_none,Option.getD_some,Option.getD_none,cond_true,cond_false,List.append_nil,List.nil_append]
    have F: Step w0 H L w M ((ed)++_):=As.opn (s:=⟨M,G⟩) [] [8,12,14] [] (ed) J bc F;have F:=Step.perm F (List.perm_append_comm (l₁:=ed) (l₂:=_));have zm:=c_mfun (F.tail (_)) n4 hdi.ok ((RdG.of_data F.inv (RowG.of_lit Wd.len ([d4,d6]: List Wd) ns j3 J)).fewer (bE (_))) hc;refine id (Co func16 C J (zm) ?_);rintro e w ⟨g8,rfl,xu,yp⟩;refine⟨_,rfl,fun a C=>?_⟩;have F:=F.frameR (_) yp;have F:=Step.perm F (List.perm_append_comm (l₁:=_) (l₂:=g8));have c9: As.aents ba b8 [8,12,14] (As.upd G 14 (g8))=(g8):=by
     unfold As.aents;simp only [List.flatMap_cons,List.flatMap_nil,As.conE,show b8 8=some 12 from rfl,show b8 12=some 14 from rfl,show b8 14=none from rfl,show ba 8=(au::a9::a7::av) from rfl,show ba 12= [] from rfl,show ba 14= [] from rfl,As.upd_at,show As.upd G 14 (g8) 8=G 8 from rfl,show As.upd G 14 (g8) 12=G 12 from rfl,dk,Option.isSome_some,Option.isSome_none,Option.getD_some,Option.getD_none,cond_true,cond_false,List.append_nil,List.nil_append]
    exact As.qown (i:=14) (dst:=some 89) (s:=⟨M,G⟩) (E:=(g8)) [] [8,12,14] [] J J T (Le.refl _) C.dfr (As.has_at C) F (.inl c9) ⟨g8,rfl,rfl,xu,cb,(congrArg Option.isSome dk)⟩
   ·refine As.Qx J fun a w M G Y T F C O V=>?_;obtain⟨_,C,gb,ev,rfl,n5,cb,e1⟩:=O.g C 14 J;have ev: G 14=some gb:=ev;have I:=F;exact ae (v:=(.agg (wA e2))) C J J J fun a C=>As.ql C I
   ·refine As.Qx J fun a w M G Y T F C O V=>?_;obtain⟨_,C,gb,ev,rfl,n5,cb,e1⟩:=O.g C 14 J;have ev: G 14=some gb:=ev;have I:=F;exact ae (v:=(iV dx)) C J J J fun a C=>As.ql C I
   obtain⟨px,G⟩:=b6;have Fx: Le H px:=V.le;dsimp only at a1 F;obtain⟨_,C,rfl⟩:=As.Dd C a1 0 J;obtain⟨_,C,ec,dj,rfl,n3⟩:=As.Dd C a1 8 J;have dj: G 8=some (ec):=dj;obtain⟨_,C,ed,dk,rfl,n4,cb⟩:=As.Dd C a1 12 J;have dk: G 12=some (ed):=dk;obtain⟨_,c7,gb,ev,rfl,n5,cb,e1⟩:=a1 14 _ _ J J;have ev: G 14=some (gb):=ev;obtain⟨_,C,rfl⟩:=As.Dd C a1 15 J;obtain⟨_,C,rfl⟩:=As.Dd C a1 16 J;have F: Step w0 H L w px (gb++ [a5]):=by
    have X:=F;unfold As.aents at X;simp only [List.flatMap_cons,List.flatMap_nil,As.conE,show b8 8=some 12 from rfl,show b8 12=some 14 from rfl,show b8 14=none from rfl,dj,dk,ev,List.append_assoc,Option.isSome_some,Option.getD_some,cond_true,cond_false,List.cons_append,List.nil_append,List.append_nil] at X;exact X
   have F:=Step.perm F (List.perm_append_comm (l₁:=gb) (l₂:= [a5]));have zn:=fM (F.tail [a5]) n5 j0 j0 (x:=e2) (e0:=dx);refine any1 (i:=17) j1 J J (Co func72 C J (zn) ?_);rintro e w ⟨D0,Da,rfl,xv,yq⟩;refine⟨_,rfl,fun a C=>?_⟩;have F:=F.frameR [a5] yq;have G5:=eC ly e2 dx;obtain⟨_,Dh,rfl,⟨Cb,Dp,C8,Dm,E1,Dt,rfl,rj,re⟩,x8⟩:=xv;have Ep:=Row.cap rj;have Ee:=Row.cap re;refine any0 j1 ?_;refine aq (ret0 J C ?_);have F:=F.drop;exact⟨_,_,_,_,_,(by have X:=SR.fn (x:=x) (h:=h) (bs:=bs) nz o1;rw [hc] at X;exact X),by first | omega |(simp only [List.length_append,List.length_cons,List.length_nil];omega),by first | omega |(simp only [List.length_append,List.length_cons,List.length_nil];omega),⟨_,_,rfl,⟨_,_,_,_,_,_,rfl,rj,re⟩,x8⟩,rfl,F⟩
  ·refine ai C J (wp_seq (ab (lin J (aW (i:=kk) (j:=2) C J J J fun a C=>?_))));refine Ls J C fun a C=>?_;refine wpList_nil (aa (al (t:=93) C J (fun wq C=>?_) (fun wq C=>?_)))
   ·refine ap C J ?_;obtain⟨⟨d7,jh⟩,o3⟩: ∃ bl,takeP ws x.a=bl:=⟨_,rfl⟩;have F4: jh.length<=ws.length:=by have X:=bz ws x.a;rw [o3] at X;first | exact X | exact Nat.le_of_eq X
    obtain⟨⟨d8,ji⟩,o4⟩: ∃ bl,takeP jh x.b=bl:=⟨_,rfl⟩;have F5: ji.length<=jh.length:=by have X:=bz jh x.b;rw [o4] at X;first | exact X | exact Nat.le_of_eq X
    obtain⟨⟨d9,lz⟩,o5⟩: ∃ bl,takeP ji x.c=bl:=⟨_,rfl⟩;have F6: lz.length<=ji.length:=by have X:=bz ji x.c;rw [o5] at X;first | exact X | exact Nat.le_of_eq X
    obtain⟨⟨j5,⟨e2,dx⟩⟩,hc⟩: ∃ bl,h.vec [d7,d8,d9]=bl:=⟨_,rfl⟩;have y7: HS.Ok j5:=by have X:=HS.Ok.vec hdi.ok [d7,d8,d9];rw [hc] at X;exact X
    have r8: HM q p ws bs h (au::a9::a7::av):=⟨[au,a9,a7],av,rfl,⟨_,_,_,_,_,_,rfl,d2,cu⟩,bf⟩
    let b4:=(As.il [(8,(au::a9::a7::av))])
    let b1:=(As.sl [(8,12),(12,16),(16,18)])
    have F: Step w0 H L w H ((au::a9::a7::av)++ [a5]):=Step.perm (show Step w0 H L w H ([a5]++(au::a9::a7::av)) from F) (List.perm_append_comm (l₁:= [a5]) (l₂:=(au::a9::a7::av)));have bk:=F;refine As.c_draw_head (ini:=b4) (sup:=b1) (als:= [8,12,16,18]) (s0:=⟨H,fun _=>none⟩) (L:= [a5]) (N:=480) (E:= kc) 21 [FcV (pB q),FcV (pB q),FcV (pB q),FcV (pB q),FcV (pB p),FcV (pB q),FcV (.pointer (some ⟨cm,1,none⟩)),FcV (iV x.a),fun s v=> ∃ L',s.ax 8=some L'/\v=(.agg (wA d7))/\HM q p jh bs h L',FcV (pB q),FcV (.pointer (some ⟨cm,2,none⟩)),FcV (iV x.b),fun s v=> ∃ L',s.ax 12=some L'/\v=(.agg (wA d8))/\HM q p ji bs h L'/\(s.ax 8).isSome=true,FcV (pB q),FcV (.pointer (some ⟨cm,3,none⟩)),FcV (iV x.c),fun s v=> ∃ L',s.ax 16=some L'/\v=(.agg (wA d9))/\HM q p lz bs h L'/\(s.ax 8).isSome=true/\(s.ax 12).isSome=true,As.lf (fun H v=> ∃ b,v=.slice (some ⟨b,0,none⟩) 3 3/\H b=some (.cells #[(iV d7.tag),(iV d7.n),(.string d7.s),(.bool d7.one),(iV d8.tag),(iV d8.n),(.string d8.s),(.bool d8.one),(iV d9.tag),(iV d9.n),(.string d9.s),(.bool d9.one)] 34 (0,0))),fun s v=> ∃ L',s.ax 18=some L'/\v=(.tuple #[(.agg (wA e2)),(iV dx)])/\HM q p lz bs j5 L'/\(s.ax 8).isSome=true/\(s.ax 12).isSome=true/\(s.ax 16).isSome=true,FcV (.agg (wA e2)),FcV (iV dx)] mixed j1 j1 j1 (by repeat' (first | exact As.Monos.nil | refine As.Monos.cons ?_ ?_ |(intro _ _ _ hl h;exact h) |(rintro _ _ _ hl ⟨A,c,h,hr⟩;exact⟨A,c,h,hr.mono hl.le⟩) |(rintro _ _ _ hl ⟨b,h,dz⟩;exact⟨b,h,hl.le _ _ dz⟩) | exact fun _ _ _ hl ⟨L',h,e,bf,ex,jd,C3⟩=>⟨L',hl.get h,e,bf,hl.some ex,hl.some jd,hl.some C3⟩ | exact fun _ _ _ hl ⟨L',h,e,bf,ex,jd⟩=>⟨L',hl.get h,e,bf,hl.some ex,hl.some jd⟩ | exact fun _ _ _ hl ⟨L',h,e,bf,ex⟩=>⟨L',hl.get h,e,bf,hl.some ex⟩ | exact fun _ _ _ hl ⟨L',h,e,bf⟩=>⟨L',hl.get h,e,bf⟩)) (fun _=>rfl) (show Step w0 H L w H (((au::a9::a7::av)++([]++([]++([]++ []))))++ [a5]) from by simpa only [List.nil_append,List.append_nil,List.cons_append,List.append_assoc] using F) (C.pk J) (As.QuietsI.c4 ?_ ?_ ?_ ?_ (As.QuietsI.c4 ?_ ?_ ?_ ?_ (As.QuietsI.c4 ?_ ?_ ?_ ?_ (As.QuietsI.c4 ?_ ?_ ?_ ?_ (As.QuietsI.c4 ?_ ?_ ?_ ?_ (As.QuietsI.cons ?_ (As.QuietsI.nil))))))) (fun bh a w b6 V F C a1=>?_)
    ·refine As.Qx J fun a w M G Y T F C O V=>?_;have I:=F;exact ak C J J fun a C=>As.ql C I
    ·refine As.Qx J fun a w M G Y T F C O V=>?_;have I:=F;exact ak C J J fun a C=>As.ql C I
    ·refine As.Qx1 1 J fun a w M G Y T F C O V=>?_;have I:=F;exact aB C J J fun a C=>As.ql C I
    ·refine As.Qx1 2 J fun a w M G Y T F C O V=>?_;have I:=F;exact ac (f:=0) (o2:=0) T70 T24 J J J J C J J fun a C=>As.ql C I
    ·refine As.Qx1 3 J fun a w M G Y T F C O V=>?_;have I:=F;have o6: ∃ cp,(∃ pd mn X,HM q p pd mn X cp)/\∀ df ∈ cp,df ∈ As.aents b4 b1 [8,12,16,18] G:=by
      cases hx18_: G 18 with
      | some cp =>
       obtain⟨_,hq,cy,_,cz, -⟩:=O.fact 18 _ hx18_ _ J _ J;obtain rfl:=Option.some.inj (hx18_.symm.trans cy);exact⟨_,⟨_,_,_,cz⟩,fun df ca=>by
         unfold As.aents;simp only [List.flatMap_cons,List.flatMap_nil,As.conE,show b1 8=some 12 from rfl,show b1 12=some 16 from rfl,show b1 16=some 18 from rfl,show b1 18=none from rfl,show b4 8=(au::a9::a7::av) from rfl,show b4 12= [] from rfl,show b4 16= [] from rfl,show b4 18= [] from rfl,hx18_,Option.isSome_some,Option.isSome_none,Option.getD_some,Option.getD_none,cond_true,cond_false,List.append_nil,List.nil_append];simp [ca]⟩
      | none =>
       cases hx16_: G 16 with
       | some cp =>
        obtain⟨_,hq,cy,_,cz, -⟩:=O.fact 16 _ hx16_ _ J _ J;obtain rfl:=Option.some.inj (hx16_.symm.trans cy);exact⟨_,⟨_,_,_,cz⟩,fun df ca=>by
          unfold As.aents;simp only [List.flatMap_cons,List.flatMap_nil,As.conE,show b1 8=some 12 from rfl,show b1 12=some 16 from rfl,show b1 16=some 18 from rfl,show b1 18=none from rfl,show b4 8=(au::a9::a7::av) from rfl,show b4 12= [] from rfl,show b4 16= [] from rfl,show b4 18= [] from rfl,hx18_,hx16_,Option.isSome_some,Option.isSome_none,Option.getD_some,Option.getD_none,cond_true,cond_false,List.append_nil,List.nil_append];simp [ca]⟩
       | none =>
        cases hx12_: G 12 with
        | some cp =>
         obtain⟨_,hq,cy,_,cz, -⟩:=O.fact 12 _ hx12_ _ J _ J;obtain rfl:=Option.some.inj (hx12_.symm.trans cy);exact⟨_,⟨_,_,_,cz⟩,fun df ca=>by
           unfold As.aents;simp only [List.flatMap_cons,List.flatMap_nil,As.conE,show b1 8=some 12 from rfl,show b1 12=some 16 from rfl,show b1 16=some 18 from rfl,show b1 18=none from rfl,show b4 8=(au::a9::a7::av) from rfl,show b4 12= [] from rfl,show b4 16= [] from rfl,show b4 18= [] from rfl,hx18_,hx16_,hx12_,Option.isSome_some,Option.isSome_none,Option.getD_some,Option.getD_none,cond_true,cond_false,List.append_nil,List.nil_append];simp [ca]⟩
        | none =>
         cases hx8_: G 8 with
         | some cp =>
          obtain⟨_,hq,cy,_,cz⟩:=O.fact 8 _ hx8_ _ J _ J;obtain rfl:=Option.some.inj (hx8_.symm.trans cy);exact⟨_,⟨_,_,_,cz⟩,fun df ca=>by
            unfold As.aents;simp only [List.flatMap_cons,List.flatMap_nil,As.conE,show b1 8=some 12 from rfl,show b1 12=some 16 from rfl,show b1 16=some 18 from rfl,show b1 18=none from rfl,show b4 8=(au::a9::a7::av) from rfl,show b4 12= [] from rfl,show b4 16= [] from rfl,show b4 18= [] from rfl,hx18_,hx16_,hx12_,hx8_,Option.isSome_some,Option.isSome_none,Option.getD_some,Option.getD_none,cond_true,cond_false,List.append_nil,List.nil_append];simp [ca]⟩
         | none =>
          exact⟨(au::a9::a7::av),⟨_,_,_,r8⟩,fun df ca=>by
            unfold As.aents;simp only [List.flatMap_cons,List.flatMap_nil,As.conE,show b1 8=some 12 from rfl,show b1 12=some 16 from rfl,show b1 16=some 18 from rfl,show b1 18=none from rfl,show b4 8=(au::a9::a7::av) from rfl,show b4 12= [] from rfl,show b4 16= [] from rfl,show b4 18= [] from rfl,hx18_,hx16_,hx12_,hx8_,Option.isSome_some,Option.isSome_none,Option.getD_some,Option.getD_none,cond_true,cond_false,List.append_nil,List.nil_append];simp [ca]⟩
     obtain⟨cp,⟨_,_,_,na⟩,n0⟩:=o6;obtain⟨sh,Bg,tw,si,Bh,tz,ob⟩:=HM.blk na;have oa:=I.inv.own _ (List.mem_append_left _ (n0 _ ob)) q J;exact af (v:=(pB p)) T24 J C J oa J J fun a C=>As.ql C I
    ·refine As.Qx J fun a w M G Y T F C O V=>?_;have I:=F;exact ak C J J fun a C=>As.ql C I
    ·refine As.Qx J fun a w M G Y T F C O V=>?_;have I:=F;exact ac (f:=1) (o2:=1) T67 T3 J J J J C J J fun a C=>As.ql C I
    ·refine As.Qx1 6 J fun a w M G Y T F C O V=>?_;have I:=F;have F:=Step.dropN _ _ F;exact af (v:=(iV x.a)) T3 J C J (F.blkL 0 J) J J fun a C=>As.ql C I
    ·refine As.Qx1 5 J fun a w M G Y T F C O V=>?_;obtain⟨_,C,rfl⟩:=O.g C 7 J;have j9: G 12=none:=O.late 4 12 j1;have jb: G 16=none:=O.late 4 16 j1;have fq: G 18=none:=O.late 4 18 j1;have bc: As.aents b4 b1 [8,12,16,18] G=((au::a9::a7::av)):=by
      unfold As.aents;simp only [List.flatMap_cons,List.flatMap_nil,As.conE,show b1 8=some 12 from rfl,show b1 12=some 16 from rfl,show b1 16=some 18 from rfl,show b1 18=none from rfl,show b4 8=(au::a9::a7::av) from rfl,show b4 12= [] from rfl,show b4 16= [] from rfl,show b4 18= [] from rfl,T,j9,jb,fq,Option.isSome_some,Option.isSome_none,Option.getD_some,Option.getD_none,cond_true,cond_false,List.append_nil,List.nil_append]
     have F: Step w0 H L w M (((au::a9::a7::av))++_):=As.opn (s:=⟨M,G⟩) [] [8,12,16,18] [] ((au::a9::a7::av)) J bc F;have F:=Step.perm F (List.perm_append_comm (l₁:=(au::a9::a7::av)) (l₂:=_));have zo:=bY (F.tail (_)) r8 j0 j0 o3;refine id (Co func73 C J (zo) ?_);rintro e w ⟨f5,rfl,xw,yr⟩;refine⟨_,rfl,fun a C=>?_⟩;have F:=F.frameR (_) yr;have F:=Step.perm F (List.perm_append_comm (l₁:=_) (l₂:=f5));have c9: As.aents b4 b1 [8,12,16,18] (As.upd G 8 (f5))=(f5):=by
      unfold As.aents;simp only [List.flatMap_cons,List.flatMap_nil,As.conE,show b1 8=some 12 from rfl,show b1 12=some 16 from rfl,show b1 16=some 18 from rfl,show b1 18=none from rfl,show b4 8=(au::a9::a7::av) from rfl,show b4 12= [] from rfl,show b4 16= [] from rfl,show b4 18= [] from rfl,As.upd_at,show As.upd G 8 (f5) 12=G 12 from rfl,show As.upd G 8 (f5) 16=G 16 from rfl,show As.upd G 8 (f5) 18=G 18 from rfl,j9,jb,fq,Option.isSome_some,Option.isSome_none,Option.getD_some,Option.getD_none,cond_true,cond_false,List.append_nil,List.nil_append]
     exact As.qown (i:=8) (dst:=some 103) (s:=⟨M,G⟩) (E:=(f5)) [] [8,12,16,18] [] J J T (Le.refl _) C.dfr (As.has_at C) F (.inl c9) ⟨f5,rfl,rfl,xw⟩
    ·refine As.Qx J fun a w M G Y T F C O V=>?_;have I:=F;exact ak C J J fun a C=>As.ql C I
    ·refine As.Qx J fun a w M G Y T F C O V=>?_;have I:=F;exact ac (f:=2) (o2:=2) T67 T3 J J J J C J J fun a C=>As.ql C I
    ·refine As.Qx1 10 J fun a w M G Y T F C O V=>?_;have I:=F;have F:=Step.dropN _ _ F;exact af (v:=(iV x.b)) T3 J C J (F.blkL 0 J) J J fun a C=>As.ql C I
    ·refine As.Qx1 9 J fun a w M G Y T F C O V=>?_;obtain⟨_,C,rfl⟩:=O.g C 11 J;obtain⟨_,C,ee,dl,rfl,n6⟩:=O.g C 8 J;have dl: G 8=some ee:=dl;have jb: G 16=none:=O.late 4 16 j1;have fq: G 18=none:=O.late 4 18 j1;have bc: As.aents b4 b1 [8,12,16,18] G=(ee):=by
      unfold As.aents;simp only [List.flatMap_cons,List.flatMap_nil,As.conE,show b1 8=some 12 from rfl,show b1 12=some 16 from rfl,show b1 16=some 18 from rfl,show b1 18=none from rfl,show b4 8=(au::a9::a7::av) from rfl,show b4 12= [] from rfl,show b4 16= [] from rfl,show b4 18= [] from rfl,T,jb,fq,dl,Option.isSome_some,Option.isSome_none,Option.getD_some,Option.getD_none,cond_true,cond_false,List.append_nil,List.nil_append]
     have F: Step w0 H L w M ((ee)++_):=As.opn (s:=⟨M,G⟩) [] [8,12,16,18] [] (ee) J bc F;have F:=Step.perm F (List.perm_append_comm (l₁:=ee) (l₂:=_));have zp:=bY (F.tail (_)) n6 j0 j0 o4;refine id (Co func73 C J (zp) ?_);rintro e w ⟨f6,rfl,xx,ys⟩;refine⟨_,rfl,fun a C=>?_⟩;have F:=F.frameR (_) ys;have F:=Step.perm F (List.perm_append_comm (l₁:=_) (l₂:=f6));have c9: As.aents b4 b1 [8,12,16,18] (As.upd G 12 (f6))=(f6):=by
      unfold As.aents;simp only [List.flatMap_cons,List.flatMap_nil,As.conE,show b1 8=some 12 from rfl,show b1 12=some 16 from rfl,show b1 16=some 18 from rfl,show b1 18=none from rfl,show b4 8=(au::a9::a7::av) from rfl,show b4 12= [] from rfl,show b4 16= [] from rfl,show b4 18= [] from rfl,As.upd_at,show As.upd G 12 (f6) 8=G 8 from rfl,show As.upd G 12 (f6) 16=G 16 from rfl,show As.upd G 12 (f6) 18=G 18 from rfl,jb,fq,dl,Option.isSome_some,Option.isSome_none,Option.getD_some,Option.getD_none,cond_true,cond_false,List.append_nil,List.nil_append]
     exact As.qown (i:=12) (dst:=some 107) (s:=⟨M,G⟩) (E:=(f6)) [] [8,12,16,18] [] J J T (Le.refl _) C.dfr (As.has_at C) F (.inl c9) ⟨f6,rfl,rfl,xx,(congrArg Option.isSome dl)⟩
    ·refine As.Qx J fun a w M G Y T F C O V=>?_;have I:=F;exact ak C J J fun a C=>As.ql C I
    ·refine As.Qx J fun a w M G Y T F C O V=>?_;have I:=F;exact ac (f:=3) (o2:=3) T67 T3 J J J J C J J fun a C=>As.ql C I
    ·refine As.Qx1 14 J fun a w M G Y T F C O V=>?_;have I:=F;have F:=Step.dropN _ _ F;exact af (v:=(iV x.c)) T3 J C J (F.blkL 0 J) J J fun a C=>As.ql C I
    ·refine As.Qx1 13 J fun a w M G Y T F C O V=>?_;obtain⟨_,C,rfl⟩:=O.g C 15 J;obtain⟨_,C,ef,dm,rfl,n7,cb⟩:=O.g C 12 J;have dm: G 12=some ef:=dm;have fq: G 18=none:=O.late 4 18 j1;have bc: As.aents b4 b1 [8,12,16,18] G=(ef):=by
      unfold As.aents;simp only [List.flatMap_cons,List.flatMap_nil,As.conE,show b1 8=some 12 from rfl,show b1 12=some 16 from rfl,show b1 16=some 18 from rfl,show b1 18=none from rfl,show b4 8=(au::a9::a7::av) from rfl,show b4 12= [] from rfl,show b4 16= [] from rfl,show b4 18= [] from rfl,T,fq,dm,Option.isSome_some,Option.isSome_none,Option.getD_some,Option.getD_none,cond_true,cond_false,List.append_nil,List.nil_append]
     have F: Step w0 H L w M ((ef)++_):=As.opn (s:=⟨M,G⟩) [] [8,12,16,18] [] (ef) J bc F;have F:=Step.perm F (List.perm_append_comm (l₁:=ef) (l₂:=_));have zq:=bY (F.tail (_)) n7 j0 j0 o5;refine id (Co func73 C J (zq) ?_);rintro e w ⟨f7,rfl,xy,yt⟩;refine⟨_,rfl,fun a C=>?_⟩;have F:=F.frameR (_) yt;have F:=Step.perm F (List.perm_append_comm (l₁:=_) (l₂:=f7));have c9: As.aents b4 b1 [8,12,16,18] (As.upd G 16 (f7))=(f7):=by
      unfold As.aents;simp only [List.flatMap_cons,List.flatMap_nil,As.conE,show b1 8=some 12 from rfl,show b1 12=some 16 from rfl,show b1 16=some 18 from rfl,show b1 18=none from rfl,show b4 8=(au::a9::a7::av) from rfl,show b4 12= [] from rfl,show b4 16= [] from rfl,show b4 18= [] from rfl,As.upd_at,show As.upd G 16 (f7) 8=G 8 from rfl,show As.upd G 16 (f7) 12=G 12 from rfl,show As.upd G 16 (f7) 18=G 18 from rfl,fq,dm,Option.isSome_some,Option.isSome_none,Option.getD_some,Option.getD_none,cond_true,cond_false,List.append_nil,List.nil_append]
     exact As.qown (i:=16) (dst:=some 111) (s:=⟨M,G⟩) (E:=(f7)) [] [8,12,16,18] [] J J T (Le.refl _) C.dfr (As.has_at C) F (.inl c9) ⟨f7,rfl,rfl,xy,cb,(congrArg Option.isSome dm)⟩
    ·refine As.Qx J fun a w M G Y T F C O V=>?_;obtain⟨_,C,ee,dl,rfl,n6⟩:=O.g C 8 J;have dl: G 8=some ee:=dl;obtain⟨_,C,ef,dm,rfl,n7,cb⟩:=O.g C 12 J;have dm: G 12=some ef:=dm;obtain⟨_,C,eg,dn,rfl,n8,cb,e1⟩:=O.g C 16 J;have dn: G 16=some eg:=dn;have I:=F;have bv:=Step.dropN _ _ F;refine id (aY (vs:= [(0,(.agg (wA d7))),(1,(.agg (wA d8))),(2,(.agg (wA d9)))]) (cells:= [(iV d7.tag),(iV d7.n),(.string d7.s),(.bool d7.one),(iV d8.tag),(iV d8.n),(.string d8.s),(.bool d8.one),(iV d9.tag),(iV d9.n),(.string d9.s),(.bool d9.one)]) T29.und T34 F C (C.evp J) J J J J fun t7 a w F C=>?_);obtain⟨D1,F,Am,nv⟩:=F.give;exact As.qdone (s:=⟨M,G⟩) Am C F ⟨_,rfl,nv⟩
    ·refine As.Qx1 4 J fun a w M G Y T F C O V=>?_;obtain⟨_,C,t7,rfl,nv⟩:=O.g C 17 J;obtain⟨_,C,eg,dn,rfl,n8,cb,e1⟩:=O.g C 16 J;have dn: G 16=some eg:=dn;have bc: As.aents b4 b1 [8,12,16,18] G=(eg):=by
      unfold As.aents;simp only [List.flatMap_cons,List.flatMap_nil,As.conE,show b1 8=some 12 from rfl,show b1 12=some 16 from rfl,show b1 16=some 18 from rfl,show b1 18=none from rfl,show b4 8=(au::a9::a7::av) from rfl,show b4 12= [] from rfl,show b4 16= [] from rfl,show b4 18= [] from rfl,T,dn,e1,Option.isSome_some,Option.isSome_none,Option.getD_some,Option.getD_none,cond_true,cond_false,List.append_nil,List.nil_append]
     have F: Step w0 H L w M ((eg)++_):=As.opn (s:=⟨M,G⟩) [] [8,12,16,18] [] (eg) J bc F;have F:=Step.perm F (List.perm_append_comm (l₁:=eg) (l₂:=_));have zr:=c_mvec (F.tail (_)) n8 hdi.ok ((RdG.of_data F.inv (RowG.of_lit Wd.len ([d7,d8,d9]: List Wd) nv j3 J)).fewer (bE (_))) hc;refine id (Co func19 C J (zr) ?_);rintro e w ⟨f8,rfl,xz,yu⟩;refine⟨_,rfl,fun a C=>?_⟩;have F:=F.frameR (_) yu;have F:=Step.perm F (List.perm_append_comm (l₁:=_) (l₂:=f8));have c9: As.aents b4 b1 [8,12,16,18] (As.upd G 18 (f8))=(f8):=by
      unfold As.aents;simp only [List.flatMap_cons,List.flatMap_nil,As.conE,show b1 8=some 12 from rfl,show b1 12=some 16 from rfl,show b1 16=some 18 from rfl,show b1 18=none from rfl,show b4 8=(au::a9::a7::av) from rfl,show b4 12= [] from rfl,show b4 16= [] from rfl,show b4 18= [] from rfl,As.upd_at,show As.upd G 18 (f8) 8=G 8 from rfl,show As.upd G 18 (f8) 12=G 12 from rfl,show As.upd G 18 (f8) 16=G 16 from rfl,dn,e1,Option.isSome_some,Option.isSome_none,Option.getD_some,Option.getD_none,cond_true,cond_false,List.append_nil,List.nil_append]
     exact As.qown (i:=18) (dst:=some 113) (s:=⟨M,G⟩) (E:=(f8)) [] [8,12,16,18] [] J J T (Le.refl _) C.dfr (As.has_at C) F (.inl c9) ⟨f8,rfl,rfl,xz,cb,e1,(congrArg Option.isSome dn)⟩
    ·refine As.Qx J fun a w M G Y T F C O V=>?_;obtain⟨_,C,gd,ew,rfl,n9,cb,e1,rt⟩:=O.g C 18 J;have ew: G 18=some gd:=ew;have I:=F;exact ae (v:=(.agg (wA e2))) C J J J fun a C=>As.ql C I
    ·refine As.Qx J fun a w M G Y T F C O V=>?_;obtain⟨_,C,gd,ew,rfl,n9,cb,e1,rt⟩:=O.g C 18 J;have ew: G 18=some gd:=ew;have I:=F;exact ae (v:=(iV dx)) C J J J fun a C=>As.ql C I
    obtain⟨py,G⟩:=b6;have Fy: Le H py:=V.le;dsimp only at a1 F;obtain⟨_,C,rfl⟩:=As.Dd C a1 0 J;obtain⟨_,C,ee,dl,rfl,n6⟩:=As.Dd C a1 8 J;have dl: G 8=some (ee):=dl;obtain⟨_,C,ef,dm,rfl,n7,cb⟩:=As.Dd C a1 12 J;have dm: G 12=some (ef):=dm;obtain⟨_,C,eg,dn,rfl,n8,cb,e1⟩:=As.Dd C a1 16 J;have dn: G 16=some (eg):=dn;obtain⟨_,c7,gd,ew,rfl,n9,cb,e1,rt⟩:=a1 18 _ _ J J;have ew: G 18=some (gd):=ew;obtain⟨_,C,rfl⟩:=As.Dd C a1 19 J;obtain⟨_,C,rfl⟩:=As.Dd C a1 20 J;have F: Step w0 H L w py (gd++ [a5]):=by
     have X:=F;unfold As.aents at X;simp only [List.flatMap_cons,List.flatMap_nil,As.conE,show b1 8=some 12 from rfl,show b1 12=some 16 from rfl,show b1 16=some 18 from rfl,show b1 18=none from rfl,dl,dm,dn,ew,List.append_assoc,Option.isSome_some,Option.getD_some,cond_true,cond_false,List.cons_append,List.nil_append,List.append_nil] at X;exact X
    have F:=Step.perm F (List.perm_append_comm (l₁:=gd) (l₂:= [a5]));have zs:=fM (F.tail [a5]) n9 j0 j0 (x:=e2) (e0:=dx);refine any1 (i:=21) j1 J J (Co func72 C J (zs) ?_);rintro e w ⟨D2,Db,rfl,y0,yv⟩;refine⟨_,rfl,fun a C=>?_⟩;have F:=F.frameR [a5] yv;have G6:=eC lz e2 dx;obtain⟨_,Di,rfl,⟨Cc,Dq,C9,Dn,E2,Du,rfl,rk,rf⟩,x9⟩:=y0;have Eq:=Row.cap rk;have Ef:=Row.cap rf;refine any0 j1 ?_;refine aq (ret0 J C ?_);have F:=F.drop;exact⟨_,_,_,_,_,(by have X:=SR.vec (x:=x) (h:=h) (bs:=bs) o3 o4 o5;rw [hc] at X;exact X),by first | omega |(simp only [List.length_append,List.length_cons,List.length_nil];omega),by first | omega |(simp only [List.length_append,List.length_cons,List.length_nil];omega),⟨_,_,rfl,⟨_,_,_,_,_,_,rfl,rk,rf⟩,x9⟩,rfl,F⟩
   ·refine ai C J (wp_seq (ab (lin J (aW (i:=kk) (j:=3) C J J J fun a C=>?_))));refine Ls J C fun a C=>?_;refine wpList_nil (aa (al (t:=117) C J (fun r3 C=>?_) (fun r3 C=>?_)))
    ·refine ap C J (wp_seq (ab (Lm J C fun a C=>?_)));refine lin J (aB C J J fun a C=>?_);refine lin J (ac (f:=2) (o2:=2) T70 T29 J J J J C J J fun a C=>?_);refine lin J (af (v:=(.slice da bs.length dv)) T29 J C J (F.blkL 1 J) J J fun a C=>?_);refine lin J (aJ T29.und C J J fun a C=>?_);refine lin J (cO (i:=((bs.length: Nat): Int)) (j:=0) C J J J fun a C=>?_);refine wpList_nil (aa (al (t:=124) C J (fun wt C=>?_) (fun wt C=>?_)))
     ·refine ap C J (wp_seq ?_);obtain⟨a2,o7,z6⟩:=cI (k:=x.a) (n:=(bs.length: Int)) (m:=bs.length) J j0;have G3:= @List.length_eraseIdx_le _ bs a2;have bk:=F;refine bH bD [FcV (.pointer (some ⟨cm,1,none⟩)),FcV (iV x.a),FcV (pB q),FcV (pB q),FcV (.pointer (some ⟨q,2,none⟩)),FcV (.slice da bs.length dv),FcV (iV ((bs.length: Nat): Int)),FcV (iV ((a2: Nat): Int)),FcV (iV ((a2: Nat): Int))] (N:=480) (E:= kc) mixed j1 j7 F (C.pk J) (.c4 ?_ ?_ ?_ ?_ (.c4 ?_ ?_ ?_ ?_ (.cons ?_ (.nil)))) (fun a w D3 An F C a1=>?_)
      ·refine Qz J fun a w F C O=>?_;exact ac (f:=1) (o2:=1) T67 T3 J J J J C J J fun a C=>qe C F
      ·refine Qz1 0 J fun a w F C O=>?_;exact af (v:=(iV x.a)) T3 J C J (F.blkL 0 J) J J fun a C=>qe C F
      ·refine Qz J fun a w F C O=>?_;exact ak C J J fun a C=>qe C F
      ·refine Qz1 2 J fun a w F C O=>?_;exact aB C J J fun a C=>qe C F
      ·refine Qz1 3 J fun a w F C O=>?_;exact ac (f:=2) (o2:=2) T70 T29 J J J J C J J fun a C=>qe C F
      ·refine Qz1 4 J fun a w F C O=>?_;exact af (v:=(.slice da bs.length dv)) T29 J C J (F.blkL 1 J) J J fun a C=>qe C F
      ·refine Qz1 5 J fun a w F C O=>?_;exact aJ T29.und C J J fun a C=>qe C F
      ·refine Qz1 1 J fun a w F C O=>?_;obtain⟨_,C,rfl⟩:=O.g C 6 J;have rp:=cG (k:=x.a) (n:=((bs.length: Nat): Int)) F.inv.nil j0;rw [o7] at rp;exact Cs func11 C J (rp) F fun a w C F=>qe C F
      ·refine Qz1 7 J fun a w F C O=>?_;exact aG C J J fun a C=>qe C F
      subst An;obtain⟨_,C,rfl⟩:=Dd C a1 8 J;refine aa (wp_seq (ab (Lm J C fun a C=>?_)));refine lin J (aB C J J fun a C=>?_);refine lin J (ac (f:=2) (o2:=2) T70 T29 J J J J C J J fun a C=>?_);refine lin J (af (v:=(.slice da bs.length dv)) T29 J C J (F.blkL 1 J) J J fun a C=>?_);refine Lm J C fun a C=>?_;obtain⟨bg,mm,Dk,uk,od,Ax,z3,yx⟩:=Row.getG Wd.len j4 cu (j:=a2) j0;have ww:(da: Option Addr)=some ⟨mm,0,none⟩:=by injection Ax
      refine lin J (aD (b:=mm) (o:=0) (j:=a2) T29.und T34 ww C J J j0 j0 J fun a C=>?_);refine lin J (am (vs:=(wL bg)) T34 J C J (F.blkL 3 (b:=mm) (o:=.cells uk 34 (0,0)) (by rw [<- z3];rfl)) J yx J fun a C=>?_);refine lin J (aF (cs:= #[(iV 0),(iV 0),(.string (⟨#[]⟩)),(.bool false)]) T34 F C J J fun f9 a w F C=>?_);refine lin J (an (cs':=(wA bg)) T34 F (i:=0) J C J J J J J J fun a w F C=>?_);refine wpList_nil (aa (wp_seq (ab (Lm J C fun a C=>?_))));refine Lm J C fun a C=>?_;refine lin J (aB C J J fun a C=>?_);refine lin J (ac (f:=2) (o2:=2) T70 T29 J J J J C J J fun a C=>?_);refine lin J (af (v:=(.slice da bs.length dv)) T29 J C J (F.blkL 2 J) J J fun a C=>?_);have zt:=e7 F.inv.nil (RdG.of_mem Wd.len j4 F.inv (List.mem_of_getElem? (i:=4) J) cu j0);refine lin J (Co func75 C J (zt) ?_);rintro e w ⟨pe,qb,Dx,rfl,y9,ny⟩;refine⟨_,rfl,fun a C=>?_⟩;have F:=F.call_own ny;refine Lm J C fun a C=>?_;refine Lm J C fun a C=>?_;refine lin J (aN (i:=((a2: Nat): Int)) (j:=1) C J J J j0 fun a C=>?_);have zv:=c_DeleteW (i:=a2) F.inv.one y9 j0 J J;refine lin J (Co func13 C J (zv) ?_);rintro e w ⟨qd,rfl,r9,ny⟩;rw [show bs.length - 1=(bs.eraseIdx a2).length from by rw [List.length_eraseIdx,if_pos j0]] at r9 ⊢;refine⟨_,rfl,fun a C=>?_⟩;have F:=F.call_one ny;refine lin J (aB C J J fun a C=>?_);refine lin J (ac (f:=2) (o2:=2) T70 T29 J J J J C J J fun a C=>?_);refine lin J (an (cs':=(hA p hk ws.length i1 pe ((bs.eraseIdx a2).length) qb)) T29 F (i:=3) J C J J J J J J fun a w F C=>?_);refine wpList_nil (aa (wp_seq (ab (Lm J C fun a C=>?_))));refine lin J (ac (f:=2) (o2:=2) T67 T3 J J J J C J J fun a C=>?_);refine lin J (af (v:=(iV x.b)) T3 J C J (F.blkL 2 J) J J fun a C=>?_);have F:=F.fd [5,5,6,6,6] J;let q7:=(hA p hk ws.length i1 pe ((bs.eraseIdx a2).length) qb);have y2: HM q p ws (bs.eraseIdx a2) h ((eO q 70 q7)::a9::qd::av):=⟨[(eO q 70 q7),a9,qd],av,rfl,⟨_,_,_,_,_,_,rfl,d2,r9⟩,bf⟩;obtain⟨⟨bt,c1⟩,j2⟩: ∃ bl,takeP ws x.b=bl:=⟨_,rfl⟩;have F7: c1.length<=ws.length:=by have X:=bz ws x.b;rw [j2] at X;first | exact X | exact Nat.le_of_eq X
      have zw:=bY (F.tail [(eO f9 34 (wA bg)),a5,a7]) y2 j0 j0 j2;refine lin J (Co func73 C J (zw) ?_);rintro e w ⟨Dc,rfl,y3,yy⟩;refine⟨_,rfl,fun a C=>?_⟩;have F:=F.frameR [(eO f9 34 (wA bg)),a5,a7] yy;obtain⟨_,cd,rfl,⟨f3,fh,ib,im,fj,i2,rfl,lm,ll⟩,n2⟩:=y3;have Er:=Row.cap lm;have Eg:=Row.cap ll;refine lin J (aF (cs:= #[(iV 0),(iV 0),(.string (⟨#[]⟩)),(.bool false)]) T34 F C J J fun gg a w F C=>?_);refine lin J (an (cs':=(wA bt)) T34 F (i:=0) J C J J J J J J fun a w F C=>?_);refine wpList_nil (aa (wp_seq (wp_seq (ab (Lm J C fun a C=>?_)))));refine lin J (am (vs:=(wL bg)) T34 J C J (F.blkL 1 J) J (ah J) J fun a C=>?_);refine lin J (am (vs:=(wL bt)) T34 J C J (F.blkL 0 J) J (ah J) J fun a C=>?_);let q6:=(eO q 70 (hA p f3 c1.length fh ib ((bs.eraseIdx a2).length) im));have y4: HM q p c1 (bs.eraseIdx a2) h (q6::fj::i2::cd):=⟨[q6,fj,i2],cd,rfl,⟨_,_,_,_,_,_,rfl,lm,ll⟩,n2⟩;have zx:=c_inside (F.tail [(eO gg 34 (wA bt)),(eO f9 34 (wA bg)),a5,a7]) y4 (v_:=bg) (y_:=bt);refine lin J (Co func76 C J (zx) ?_);rintro e w ⟨g5,rfl,yz⟩;refine⟨_,rfl,fun a C=>?_⟩;have F:=F.frameR [(eO gg 34 (wA bt)),(eO f9 34 (wA bg)),a5,a7] yz;let gf:List Ent:=[(eO gg 34 (wA bt)),(eO f9 34 (wA bg)),a5,a7,(eO q 70 (hA p f3 c1.length fh ib ((bs.eraseIdx a2).length) im)),fj,i2];let kb:=(eO gg 34 (wA bt));let ka:=(eO f9 34 (wA bg));let q9:=(eO q 70 (hA p f3 c1.length fh ib ((bs.eraseIdx a2).length) im));refine wpList_nil (aa (ar (t:=159) C J (fun my C=>?_) (fun my C=>?_)))
      ·refine ap C J (wp_seq ?_);have F:=F.front 6 J
       let Be:=(As.il [(7, [i2])])
       let sf:=(As.sl [])
       have bk:=F;refine As.c_draw_head (ini:=Be) (sup:=sf) (als:= [7]) (s0:=⟨g5,fun _=>none⟩) (L:=(kb::ka::a5::a7::q9::fj::cd)) (N:=480) (E:= [(0,(pB q)),(8,(pB f9)),(9,(pB gg))]) 8 [FcV (pB q),FcV (pB q),FcV (pB q),FcV (.pointer (some ⟨q,2,none⟩)),FcV (.slice ib ((bs.eraseIdx a2).length) im),FcV (.agg (wA bg)),As.lf (fun H v=> ∃ b,v=.slice (some ⟨b,0,none⟩) 1 1/\H b=some (.cells (wA bg) 34 (0,0))),fun s v=> ∃(A: Option Addr) (c: Nat) (en: Ent),s.ax 7=some [en]/\v=.slice A (((bs.eraseIdx a2)++([bg]: List Wd)).length) c/\Row (.slice A (((bs.eraseIdx a2)++([bg]: List Wd)).length) c) en 34 4 (((bs.eraseIdx a2)++([bg]: List Wd)).length) (gfl Wd.cells ((bs.eraseIdx a2)++([bg]: List Wd)))] mixed j1 j1 j1 j6 (fun _=>rfl) F (C.pk J) (As.QuietsI.c4 ?_ ?_ ?_ ?_ (As.QuietsI.c4 ?_ ?_ ?_ ?_ (As.QuietsI.nil))) (fun bh a w b6 V F C a1=>?_)
       ·refine As.Qx J fun a w M G Y T F C O V=>?_;have I:=F;exact ak C J J fun a C=>As.ql C I
       ·refine As.Qx J fun a w M G Y T F C O V=>?_;have I:=F;exact ak C J J fun a C=>As.ql C I
       ·refine As.Qx1 1 J fun a w M G Y T F C O V=>?_;have I:=F;exact aB C J J fun a C=>As.ql C I
       ·refine As.Qx1 2 J fun a w M G Y T F C O V=>?_;have I:=F;exact ac (f:=2) (o2:=2) T70 T29 J J J J C J J fun a C=>As.ql C I
       ·refine As.Qx1 3 J fun a w M G Y T F C O V=>?_;have I:=F;have F:=Step.dropN _ _ F;exact af (v:=(.slice ib ((bs.eraseIdx a2).length) im)) T29 J C J (F.blkL 4 J) J J fun a C=>As.ql C I
       ·refine As.Qx J fun a w M G Y T F C O V=>?_;have I:=F;have F:=Step.dropN _ _ F;exact am (vs:=(wL bg)) T34 J C J (F.blkL 1 J) J (ah J) J fun a C=>As.ql C I
       ·refine As.Qx1 5 J fun a w M G Y T F C O V=>?_;have I:=F;have bv:=Step.dropN _ _ F;refine id (aY (vs:= [(0,(.agg (wA bg)))]) (cells:=(wL bg)) T29.und T34 F C (C.evp J) J J J J fun t8 a w F C=>?_);obtain⟨D4,F,Ao,nw⟩:=F.give;exact As.qdone (s:=⟨M,G⟩) Ao C F ⟨_,rfl,nw⟩
       ·refine As.Qx1 4 J fun a w M G Y T F C O V=>?_;obtain⟨_,C,t8,rfl,nw⟩:=O.g C 6 J;have F: Step w0 H L w M (i2::_):=As.opn (s:=⟨M,G⟩) [] [7] [] [i2] J (As.con0s T J) F;obtain⟨tu,C1,v5,ui,vp,r0,wo⟩:=(RowG.of_lit Wd.len ([bg]: List Wd) nw j3 J).2.2;refine id (aK (news:=(gfl Wd.cells ([bg]: List Wd))) (xs:=(gfl Wd.cells (bs.eraseIdx a2))) T29.und T34 J J F ll C J J (aA Wd.len _) (fun b5=>⟨tu,C1,v5,ui,vp,(r0 (fun X=>b5 (by rw [X];rfl))).1,F.blkH (r0 (fun X=>b5 (by rw [X];rfl))).2,fun j u b9=>bi Wd.len j4 wo b9⟩) (aV Wd.one' _) j0 J J fun Gv i4 a w h6 F C=>?_);rw [<- aH] at h6;obtain⟨g2,gi,rfl⟩:=h6.slice;have b0:((bs.eraseIdx a2).length+1)=((bs.eraseIdx a2)++([bg]: List Wd)).length:=by have X:=h6.1;rw [aA Wd.len] at X;omega
        rw [show Value.slice g2 ((bs.eraseIdx a2).length+1) gi=Value.slice g2 ((bs.eraseIdx a2)++([bg]: List Wd)).length gi from by rw [b0]] at C;rw [b0] at h6;exact As.qown (i:=7) (dst:=some 167) (s:=⟨M,G⟩) (E:= [i4]) [] [7] [] J J T (Le.refl _) C.dfr (As.has_at C) F As.con1 ⟨_,_,_,rfl,rfl,h6⟩
       obtain⟨k2,G⟩:=b6;have Fz: Le g5 k2:=V.le;dsimp only at a1 F;obtain⟨_,C,rfl⟩:=As.Dd C a1 0 J;obtain⟨_,C,g2,gi,i4,ox,rfl,h6⟩:=As.Dd C a1 7 J;have ox: G 7=some [i4]:=ox;have F: Step w0 H L w k2 (i4::kb::ka::a5::a7::q9::fj::cd):=by
        have X:=F;unfold As.aents at X;simp only [List.flatMap_cons,List.flatMap_nil,As.conE,show sf 7=none from rfl,ox,Option.isSome_some,Option.getD_some,cond_true,cond_false,List.cons_append,List.nil_append,List.append_nil] at X;exact X
       refine any1 (i:=8) j1 J J (aB C J J fun a C=>?_);refine any1 (i:=9) j1 J J (ac (f:=2) (o2:=2) T70 T29 J J J J C J J fun a C=>?_);refine any1 (i:=10) j1 J J (an (cs':=(hA p f3 c1.length fh g2 (((bs.eraseIdx a2)++([bg]: List Wd)).length) gi)) T29 F (i:=5) J C J J J J J J fun a w F C=>?_);refine any0 j1 ?_;refine aa (wp_seq ?_);have F:=F.front 6 J
       let Bf:=(As.il [(7, [fj])])
       let sg:=(As.sl [])
       have bk:=F;refine As.c_draw_head (ini:=Bf) (sup:=sg) (als:= [7]) (s0:=⟨k2,fun _=>none⟩) (L:=(i4::kb::ka::a5::a7::(eO q 70 (hA p f3 c1.length fh g2 (((bs.eraseIdx a2)++([bg]: List Wd)).length) gi))::cd)) (N:=480) (E:= [(0,(pB q)),(9,(pB gg))]) 8 [FcV (pB q),FcV (pB q),FcV (pB q),FcV (.pointer (some ⟨q,1,none⟩)),FcV (.slice f3 c1.length fh),FcV (.agg (wA bt)),As.lf (fun H v=> ∃ b,v=.slice (some ⟨b,0,none⟩) 1 1/\H b=some (.cells (wA bt) 34 (0,0))),fun s v=> ∃(A: Option Addr) (c: Nat) (en: Ent),s.ax 7=some [en]/\v=.slice A ((c1++([bt]: List Wd)).length) c/\Row (.slice A ((c1++([bt]: List Wd)).length) c) en 34 4 ((c1++([bt]: List Wd)).length) (gfl Wd.cells (c1++([bt]: List Wd)))] mixed j1 j1 j1 j6 (fun _=>rfl) F (C.pk J) (As.QuietsI.c4 ?_ ?_ ?_ ?_ (As.QuietsI.c4 ?_ ?_ ?_ ?_ (As.QuietsI.nil))) (fun bh a w b6 V F C a1=>?_)
       ·refine As.Qx J fun a w M G Y T F C O V=>?_;have I:=F;exact ak C J J fun a C=>As.ql C I
       ·refine As.Qx J fun a w M G Y T F C O V=>?_;have I:=F;exact ak C J J fun a C=>As.ql C I
       ·refine As.Qx1 1 J fun a w M G Y T F C O V=>?_;have I:=F;exact aB C J J fun a C=>As.ql C I
       ·refine As.Qx1 2 J fun a w M G Y T F C O V=>?_;have I:=F;exact ac (f:=1) (o2:=1) T70 T29 J J J J C J J fun a C=>As.ql C I
       ·refine As.Qx1 3 J fun a w M G Y T F C O V=>?_;have I:=F;have F:=Step.dropN _ _ F;exact af (v:=(.slice f3 c1.length fh)) T29 J C J (F.blkL 5 J) J J fun a C=>As.ql C I
       ·refine As.Qx J fun a w M G Y T F C O V=>?_;have I:=F;have F:=Step.dropN _ _ F;exact am (vs:=(wL bt)) T34 J C J (F.blkL 1 J) J (ah J) J fun a C=>As.ql C I
       ·refine As.Qx1 5 J fun a w M G Y T F C O V=>?_;have I:=F;have bv:=Step.dropN _ _ F;refine id (aY (vs:= [(0,(.agg (wA bt)))]) (cells:=(wL bt)) T29.und T34 F C (C.evp J) J J J J fun t9 a w F C=>?_);obtain⟨D5,F,Ap,nx⟩:=F.give;exact As.qdone (s:=⟨M,G⟩) Ap C F ⟨_,rfl,nx⟩
       ·refine As.Qx1 4 J fun a w M G Y T F C O V=>?_;obtain⟨_,C,t9,rfl,nx⟩:=O.g C 6 J;have F: Step w0 H L w M (fj::_):=As.opn (s:=⟨M,G⟩) [] [7] [] [fj] J (As.con0s T J) F;obtain⟨tv,C2,v6,uj,vq,r1,wp⟩:=(RowG.of_lit Wd.len ([bt]: List Wd) nx j3 J).2.2;refine id (aK (news:=(gfl Wd.cells ([bt]: List Wd))) (xs:=(gfl Wd.cells c1)) T29.und T34 J J F lm C J J (aA Wd.len _) (fun b5=>⟨tv,C2,v6,uj,vq,(r1 (fun X=>b5 (by rw [X];rfl))).1,F.blkH (r1 (fun X=>b5 (by rw [X];rfl))).2,fun j u b9=>bi Wd.len j4 wp b9⟩) (aV Wd.one' _) j0 J J fun Gw lc a w h7 F C=>?_);rw [<- aH] at h7;obtain⟨jz,kw,rfl⟩:=h7.slice;have b0:(c1.length+1)=(c1++([bt]: List Wd)).length:=by have X:=h7.1;rw [aA Wd.len] at X;omega
        rw [show Value.slice jz (c1.length+1) kw=Value.slice jz (c1++([bt]: List Wd)).length kw from by rw [b0]] at C;rw [b0] at h7;exact As.qown (i:=7) (dst:=some 177) (s:=⟨M,G⟩) (E:= [lc]) [] [7] [] J J T (Le.refl _) C.dfr (As.has_at C) F As.con1 ⟨_,_,_,rfl,rfl,h7⟩
       obtain⟨pz,G⟩:=b6;have G0: Le k2 pz:=V.le;dsimp only at a1 F;obtain⟨_,C,rfl⟩:=As.Dd C a1 0 J;obtain⟨_,C,jz,kw,lc,oy,rfl,h7⟩:=As.Dd C a1 7 J;have oy: G 7=some [lc]:=oy;have F: Step w0 H L w pz (lc::i4::kb::ka::a5::a7::(eO q 70 (hA p f3 c1.length fh g2 (((bs.eraseIdx a2)++([bg]: List Wd)).length) gi))::cd):=by
        have X:=F;unfold As.aents at X;simp only [List.flatMap_cons,List.flatMap_nil,As.conE,show sg 7=none from rfl,oy,Option.isSome_some,Option.getD_some,cond_true,cond_false,List.cons_append,List.nil_append,List.append_nil] at X;exact X
       refine any1 (i:=8) j1 J J (aB C J J fun a C=>?_);refine any1 (i:=9) j1 J J (ac (f:=1) (o2:=1) T70 T29 J J J J C J J fun a C=>?_);refine any1 (i:=10) j1 J J (an (cs':=(hA p jz ((c1++([bt]: List Wd)).length) kw g2 (((bs.eraseIdx a2)++([bg]: List Wd)).length) gi)) T29 F (i:=6) J C J J J J J J fun a w F C=>?_);refine any0 j1 ?_;refine aa (wp_ret (ag (aw (ret0r J C ?_))));have F:=F.fd [3,0,3,0,3,0,3,0,2,2,3] J;exact⟨_,_,_,_,_,SR.ins j2 od,by first | omega |(simp only [List.length_append,List.length_cons,List.length_nil];omega),by first | omega |(simp only [List.length_append,List.length_cons,List.length_nil];omega),⟨_,_,rfl,⟨_,_,_,_,_,_,rfl,h7,h6⟩,n2⟩,rfl,F⟩
      ·refine ai C J (wp_skip (aa (wp_seq ?_)));have yb:=hdi.bind_ok j2 od (by simpa using my)
       let pb:=(As.il [(6,cd)])
       let lw:=(As.sl [])
       have F: Step w0 H L w g5 (cd++ gf):=Step.perm (show Step w0 H L w g5 (gf++cd) from F) (List.perm_append_comm (l₁:= gf) (l₂:=cd));have bk:=F;refine As.c_draw_head (ini:=pb) (sup:=lw) (als:= [6]) (s0:=⟨g5,fun _=>none⟩) (L:= gf) (N:=480) (E:= [(0,(pB q)),(8,(pB f9)),(9,(pB gg))]) 11 [FcV (pB q),FcV (pB q),FcV (pB q),FcV (pB p),FcV (.agg (wA bg)),FcV (.agg (wA bt)),fun s v=> ∃(A: Option Addr) (c: Nat) (en: Ent) (L': List Ent),s.ax 6=some (en::L')/\v=(.tuple #[(.slice A (([]: List Int).length) c),(iV 0)])/\Row (.slice A ([]: List Int).length c) en 3 1 ([]: List Int).length (ints ([]: List Int))/\HK p ((h.bind bg bt).1) L',fun s v=> ∃(A: Option Addr) (c: Nat) (en: Ent) (L': List Ent),s.ax 6=some (en::L')/\v=(.tuple #[(.slice A (([]: List Int).length) c),(iV 0)])/\Row (.slice A ([]: List Int).length c) en 3 1 ([]: List Int).length (ints ([]: List Int)),fun s v=> ∃(A: Option Addr) (c: Nat) (en: Ent) (L': List Ent),s.ax 6=some (en::L')/\v=(.slice A (([]: List Int).length) c)/\Row (.slice A ([]: List Int).length c) en 3 1 ([]: List Int).length (ints ([]: List Int)),FcV (iV 0),fun s v=> ∃(A: Option Addr) (c: Nat) (en: Ent) (L': List Ent),s.ax 6=some (en::L')/\v=(.slice A (([]: List Int).length) c)/\Row (.slice A ([]: List Int).length c) en 3 1 ([]: List Int).length (ints ([]: List Int))] mixed j1 j1 j1 j8 (fun _=>rfl) (show Step w0 H L w g5 ((cd++ [])++ gf) from by simpa only [List.nil_append,List.append_nil,List.cons_append,List.append_assoc] using F) (C.pk J) (As.QuietsI.c4 ?_ ?_ ?_ ?_ (As.QuietsI.c4 ?_ ?_ ?_ ?_ (As.QuietsI.c2 ?_ ?_ (As.QuietsI.cons ?_ (As.QuietsI.nil))))) (fun bh a w b6 V F C a1=>?_)
       ·refine As.Qx J fun a w M G Y T F C O V=>?_;have I:=F;exact ak C J J fun a C=>As.ql C I
       ·refine As.Qx1 0 J fun a w M G Y T F C O V=>?_;have I:=F;exact aB C J J fun a C=>As.ql C I
       ·refine As.Qx1 1 J fun a w M G Y T F C O V=>?_;have I:=F;exact ac (f:=0) (o2:=0) T70 T24 J J J J C J J fun a C=>As.ql C I
       ·refine As.Qx1 2 J fun a w M G Y T F C O V=>?_;have I:=F;have F:=Step.dropN _ _ F;exact af (v:=(pB p)) T24 J C J (F.blkL 4 J) J J fun a C=>As.ql C I
       ·refine As.Qx J fun a w M G Y T F C O V=>?_;have I:=F;have F:=Step.dropN _ _ F;exact am (vs:=(wL bg)) T34 J C J (F.blkL 1 J) J (ah J) J fun a C=>As.ql C I
       ·refine As.Qx J fun a w M G Y T F C O V=>?_;have I:=F;have F:=Step.dropN _ _ F;exact am (vs:=(wL bt)) T34 J C J (F.blkL 0 J) J (ah J) J fun a C=>As.ql C I
       ·refine As.Qx1 3 J fun a w M G Y T F C O V=>?_;obtain⟨_,C,rfl⟩:=O.g C 4 J;obtain⟨_,C,rfl⟩:=O.g C 5 J;have bc: As.aents pb lw [6] G=(cd):=by
         unfold As.aents;simp only [List.flatMap_cons,List.flatMap_nil,As.conE,show lw 6=none from rfl,show pb 6=cd from rfl,T,Option.isSome_some,Option.isSome_none,Option.getD_some,Option.getD_none,cond_true,cond_false,List.append_nil,List.nil_append]
        have F: Step w0 H L w M ((cd)++_):=As.opn (s:=⟨M,G⟩) [] [6] [] (cd) J bc F;have F:=Step.perm F (List.perm_append_comm (l₁:=cd) (l₂:=_));have o9:=c_Bind (F.tail (_)) n2 hdi.ok (v:=bg) (x:=bt);rw [yb] at o9;dsimp only at o9;refine id (Co func39 C J (o9) ?_);rintro e w ⟨mc,f0,fe,gn,rfl,dy,xa,z0⟩;refine⟨_,rfl,fun a C=>?_⟩;have F:=Step.perm (F.frameR (_) z0) List.perm_middle;have F:=Step.perm F (List.Perm.cons _ (List.perm_append_comm (l₁:=_) (l₂:=mc)))
        skip
        exact As.qown (i:=6) (dst:=some 187) (s:=⟨M,G⟩) (E:=(gn::mc)) [] [6] [] J J T (Le.refl _) C.dfr (As.has_at C) F As.con1 ⟨f0,fe,gn,mc,rfl,rfl,dy,xa⟩
       ·refine As.Qx J fun a w M G Y T F C O V=>?_;obtain⟨_,C,f0,fe,gn,ih,fy,rfl,dy,r6⟩:=O.g C 6 J;have fy: G 6=some (gn::ih):=fy;have ft:=fy;have I:=F;refine id (ak C J J fun a C=>?_);exact As.qdone (s:=⟨M,G⟩) (Le.refl _) C I ⟨_,_,_,_,ft,rfl,dy⟩
       ·refine As.Qx J fun a w M G Y T F C O V=>?_;obtain⟨_,C,f0,fe,mt,mh,ft,rfl,dy⟩:=O.g C 7 J;have I:=F;refine id (ae (v:=(.slice f0 (([]: List Int).length) fe)) C J J J fun a C=>?_);exact As.qdone (s:=⟨M,G⟩) (Le.refl _) C I ⟨_,_,_,_,ft,rfl,dy⟩
       ·refine As.Qx J fun a w M G Y T F C O V=>?_;obtain⟨_,C,f0,fe,mt,mh,ft,rfl,dy⟩:=O.g C 7 J;have I:=F;exact ae (v:=(iV 0)) C J J J fun a C=>As.ql C I
       ·refine As.Qx J fun a w M G Y T F C O V=>?_;obtain⟨_,C,f0,fe,mt,mh,ft,rfl,dy⟩:=O.g C 8 J;have I:=F;refine id (aG C J J fun a C=>?_);exact As.qdone (s:=⟨M,G⟩) (Le.refl _) C I ⟨_,_,_,_,ft,rfl,dy⟩
       obtain⟨q0,G⟩:=b6;have G1: Le g5 q0:=V.le;dsimp only at a1 F;obtain⟨_,c7,f0,fe,gn,ih,fy,rfl,dy,r6⟩:=a1 6 _ _ J J;have fy: G 6=some (gn::ih):=fy;obtain⟨_,C,rfl⟩:=As.Dd C a1 9 J;obtain⟨_,C,f0,fe,mt,mh,ft,rfl,dy⟩:=As.Dd C a1 10 J;have em:=Option.some.inj (ft.symm.trans fy);rw [(List.cons.inj em).1] at dy;have F: Step w0 H L w q0 (gn::ih++ gf):=by
        have X:=F;unfold As.aents at X;simp only [List.flatMap_cons,List.flatMap_nil,As.conE,show lw 6=none from rfl,fy,List.append_assoc,Option.isSome_some,Option.getD_some,cond_true,cond_false,List.cons_append,List.nil_append,List.append_nil] at X;exact X
       have F:=Step.perm F (List.Perm.cons _ (List.perm_append_comm (l₁:=ih) (l₂:= gf)));refine any1 (i:=11) j1 J J (aG C J J fun a C=>?_);refine any0 j1 ?_;refine aa (wp_seq (ab (Lm J C fun a C=>?_)));refine lin J (bC (i:=0) (j:=0) C J J J fun a C=>?_);refine wpList_nil (aa (aM (t:=191) C J (fun wu C=>?_) (fun wu C=>?_)))
       ·refine ap C J ?_
        exfalso
        omega
       ·refine ai C J (wp_skip (aq (ret0 J C ?_)));have F:=F.fd [0,0,0,0,0] J;exact⟨_,_,_,_,_,SR.bnd (lq.trans r3) j2 od (by simpa using my),by first | omega |(simp only [List.length_append,List.length_cons,List.length_nil];omega),by first | omega |(simp only [List.length_append,List.length_cons,List.length_nil];omega),⟨_,_,rfl,⟨_,_,_,_,_,_,rfl,lm,ll⟩,r6⟩,rfl,F⟩
     ·refine ai C J (wp_skip (aq (ret0 J C ?_)));have F:=F.drop;exact⟨_,_,_,_,_,SR.same,by first | omega |(simp only [List.length_append,List.length_cons,List.length_nil];omega),by first | omega |(simp only [List.length_append,List.length_cons,List.length_nil];omega),⟨_,_,rfl,⟨_,_,_,_,_,_,rfl,d2,cu⟩,bf⟩,rfl,F⟩
    ·refine ai C J (wp_seq (ab (lin J (aW (i:=kk) (j:=4) C J J J fun a C=>?_))));refine Ls J C fun a C=>?_;refine wpList_nil (aa (al (t:=195) C J (fun wv C=>?_) (fun wv C=>?_)))
     ·refine ap C J (wp_seq (ab (Lm J C fun a C=>?_)));refine lin J (ac (f:=1) (o2:=1) T67 T3 J J J J C J J fun a C=>?_);refine lin J (af (v:=(iV x.a)) T3 J C J (F.blkL 0 J) J J fun a C=>?_);have y5: HM q p ws bs h (au::a9::a7::av):=⟨[au,a9,a7],av,rfl,⟨_,_,_,_,_,_,rfl,d2,cu⟩,bf⟩;obtain⟨⟨b7,br⟩,lp⟩: ∃ bl,takeP ws x.a=bl:=⟨_,rfl⟩;have F8: br.length<=ws.length:=by have X:=bz ws x.a;rw [lp] at X;first | exact X | exact Nat.le_of_eq X
      have zy:=bY (F.tail [a5]) y5 j0 j0 lp;refine lin J (Co func73 C J (zy) ?_);rintro e w ⟨De,rfl,y6,z1⟩;refine⟨_,rfl,fun a C=>?_⟩;have F:=F.frameR [a5] z1;obtain⟨_,e9,rfl,⟨f4,fi,g3,gj,go,i3,rfl,nc,nb⟩,xb⟩:=y6;have Et:=Row.cap nc;have Eh:=Row.cap nb;refine lin J (aF (cs:= #[(iV 0),(iV 0),(.string (⟨#[]⟩)),(.bool false)]) T34 F C J J fun fa a w F C=>?_);refine lin J (an (cs':=(wA b7)) T34 F (i:=0) J C J J J J J J fun a w F C=>?_);refine wpList_nil (aa (wp_seq ?_))
      let pc:=(As.il [(5,e9)])
      let lx:=(As.sl [])
      let mj:List Ent:=[(eO fa 34 (wA b7)),a5,(eO q 70 (hA p f4 br.length fi g3 bs.length gj)),go,i3];have F: Step w0 H L w H (e9++ mj):=Step.perm (show Step w0 H L w H (mj++e9) from F) (List.perm_append_comm (l₁:= mj) (l₂:=e9));have bk:=F;let q4:List Ent:=[(eO fa 34 (wA b7)),a5,(eO q 70 (hA p f4 br.length fi g3 bs.length gj)),go,i3];refine As.c_draw_head (ini:=pc) (sup:=lx) (als:= [5]) (s0:=⟨H,fun _=>none⟩) (L:= q4) (N:=480) (E:= [(0,(pB q)),(12,(pB fa))]) 10 [FcV (pB q),FcV (pB q),FcV (pB q),FcV (pB p),FcV (.agg (wA b7)),fun s v=> ∃(A: Option Addr) (c: Nat) (en: Ent) (L': List Ent),s.ax 5=some (en::L')/\v=(.tuple #[(.slice A (((h.free b7).2.1).length) c),(iV ((h.free b7).2.2))])/\Row (.slice A ((h.free b7).2.1).length c) en 34 4 ((h.free b7).2.1).length (gfl Wd.cells ((h.free b7).2.1))/\HK p ((h.free b7).1) L',fun s v=> ∃(A: Option Addr) (c: Nat) (en: Ent) (L': List Ent),s.ax 5=some (en::L')/\v=(.tuple #[(.slice A (((h.free b7).2.1).length) c),(iV ((h.free b7).2.2))])/\Row (.slice A ((h.free b7).2.1).length c) en 34 4 ((h.free b7).2.1).length (gfl Wd.cells ((h.free b7).2.1)),fun s v=> ∃(A: Option Addr) (c: Nat) (en: Ent) (L': List Ent),s.ax 5=some (en::L')/\v=(.slice A (((h.free b7).2.1).length) c)/\Row (.slice A ((h.free b7).2.1).length c) en 34 4 ((h.free b7).2.1).length (gfl Wd.cells ((h.free b7).2.1)),FcV (iV ((h.free b7).2.2)),fun s v=> ∃(A: Option Addr) (c: Nat) (en: Ent) (L': List Ent),s.ax 5=some (en::L')/\v=(.slice A (((h.free b7).2.1).length) c)/\Row (.slice A ((h.free b7).2.1).length c) en 34 4 ((h.free b7).2.1).length (gfl Wd.cells ((h.free b7).2.1))] mixed j1 j1 j1 j8 (fun _=>rfl) (show Step w0 H L w H ((e9++ [])++ q4) from by simpa only [List.nil_append,List.append_nil,List.cons_append,List.append_assoc] using F) (C.pk J) (As.QuietsI.c4 ?_ ?_ ?_ ?_ (As.QuietsI.c4 ?_ ?_ ?_ ?_ (As.QuietsI.c2 ?_ ?_ (As.QuietsI.nil)))) (fun bh a w b6 V F C a1=>?_)
      ·refine As.Qx J fun a w M G Y T F C O V=>?_;have I:=F;exact ak C J J fun a C=>As.ql C I
      ·refine As.Qx1 0 J fun a w M G Y T F C O V=>?_;have I:=F;exact aB C J J fun a C=>As.ql C I
      ·refine As.Qx1 1 J fun a w M G Y T F C O V=>?_;have I:=F;exact ac (f:=0) (o2:=0) T70 T24 J J J J C J J fun a C=>As.ql C I
      ·refine As.Qx1 2 J fun a w M G Y T F C O V=>?_;have I:=F;have F:=Step.dropN _ _ F;exact af (v:=(pB p)) T24 J C J (F.blkL 2 J) J J fun a C=>As.ql C I
      ·refine As.Qx J fun a w M G Y T F C O V=>?_;have I:=F;have F:=Step.dropN _ _ F;exact am (vs:=(wL b7)) T34 J C J (F.blkL 0 J) J (ah J) J fun a C=>As.ql C I
      ·refine As.Qx1 3 J fun a w M G Y T F C O V=>?_;obtain⟨_,C,rfl⟩:=O.g C 4 J;have bc: As.aents pc lx [5] G=(e9):=by
        unfold As.aents;simp only [List.flatMap_cons,List.flatMap_nil,As.conE,show lx 5=none from rfl,show pc 5=e9 from rfl,T,Option.isSome_some,Option.isSome_none,Option.getD_some,Option.getD_none,cond_true,cond_false,List.append_nil,List.nil_append]
       have F: Step w0 H L w M ((e9)++_):=As.opn (s:=⟨M,G⟩) [] [5] [] (e9) J bc F;have F:=Step.perm F (List.perm_append_comm (l₁:=e9) (l₂:=_));have zz:=gc (F.tail (_)) xb hdi.ok (x:=b7);refine id (Co func12 C J (zz) ?_);rintro e w ⟨md,f1,ff,ek,rfl,d1,xc,z2⟩;refine⟨_,rfl,fun a C=>?_⟩;have F:=Step.perm (F.frameR (_) z2) List.perm_middle;have F:=Step.perm F (List.Perm.cons _ (List.perm_append_comm (l₁:=_) (l₂:=md)))
       skip
       exact As.qown (i:=5) (dst:=some 207) (s:=⟨M,G⟩) (E:=(ek::md)) [] [5] [] J J T (Le.refl _) C.dfr (As.has_at C) F As.con1 ⟨f1,ff,ek,md,rfl,rfl,d1,xc⟩
      ·refine As.Qx J fun a w M G Y T F C O V=>?_;obtain⟨_,C,f1,ff,ek,ge,fz,rfl,d1,li⟩:=O.g C 5 J;have fz: G 5=some (ek::ge):=fz;have fu:=fz;have I:=F;refine id (ak C J J fun a C=>?_);exact As.qdone (s:=⟨M,G⟩) (Le.refl _) C I ⟨_,_,_,_,fu,rfl,d1⟩
      ·refine As.Qx J fun a w M G Y T F C O V=>?_;obtain⟨_,C,f1,ff,mu,mi,fu,rfl,d1⟩:=O.g C 6 J;have I:=F;refine id (ae (v:=(.slice f1 (((h.free b7).2.1).length) ff)) C J J J fun a C=>?_);exact As.qdone (s:=⟨M,G⟩) (Le.refl _) C I ⟨_,_,_,_,fu,rfl,d1⟩
      ·refine As.Qx J fun a w M G Y T F C O V=>?_;obtain⟨_,C,f1,ff,mu,mi,fu,rfl,d1⟩:=O.g C 6 J;have I:=F;exact ae (v:=(iV ((h.free b7).2.2))) C J J J fun a C=>As.ql C I
      ·refine As.Qx J fun a w M G Y T F C O V=>?_;obtain⟨_,C,f1,ff,mu,mi,fu,rfl,d1⟩:=O.g C 7 J;have I:=F;refine id (aG C J J fun a C=>?_);exact As.qdone (s:=⟨M,G⟩) (Le.refl _) C I ⟨_,_,_,_,fu,rfl,d1⟩
      obtain⟨k3,G⟩:=b6;have G2: Le H k3:=V.le;dsimp only at a1 F;obtain⟨_,c7,f1,ff,ek,ge,fz,rfl,d1,li⟩:=a1 5 _ _ J J;have fz: G 5=some (ek::ge):=fz;obtain⟨_,C,rfl⟩:=As.Dd C a1 8 J;obtain⟨_,C,f1,ff,mu,mi,fu,rfl,d1⟩:=As.Dd C a1 9 J;have em:=Option.some.inj (fu.symm.trans fz);rw [(List.cons.inj em).1] at d1;have F: Step w0 H L w k3 (ek::ge++ [(eO fa 34 (wA b7)),a5,(eO q 70 (hA p f4 br.length fi g3 bs.length gj)),go,i3]):=by
       have X:=F;unfold As.aents at X;simp only [List.flatMap_cons,List.flatMap_nil,As.conE,show lx 5=none from rfl,fz,List.append_assoc,Option.isSome_some,Option.getD_some,cond_true,cond_false,List.cons_append,List.nil_append,List.append_nil] at X;exact X
      have F:=Step.perm F (List.Perm.cons _ (List.perm_append_comm (l₁:=ge) (l₂:= [(eO fa 34 (wA b7)),a5,(eO q 70 (hA p f4 br.length fi g3 bs.length gj)),go,i3])));refine any1 (i:=10) j1 J J (aG C J J fun a C=>?_);refine any0 j1 ?_;refine aa (wp_seq (ab (Lm J C fun a C=>?_)));refine lin J (aW (i:=((h.free b7).2.2)) (j:=0) C J J J fun a C=>?_);let qa:=(eO q 70 (hA p f4 br.length fi g3 bs.length gj));refine wpList_nil (aa (al (t:=211) C J (fun mz C=>?_) (fun mz C=>?_)))
      ·refine ap C J ?_;have z4:=free_len lj b7;refine ab (Lm J C fun a C=>?_);refine Lm J C fun a C=>?_;refine lin J (aB C J J fun a C=>?_);refine lin J (ac (f:=1) (o2:=1) T70 T29 J J J J C J J fun a C=>?_);refine lin J (af (v:=(.slice f4 br.length fi)) T29 J C J (F.blkL 3 J) J J fun a C=>?_);refine Lm J C fun a C=>?_;have F:=F.front 4 J;refine lin J (aK (news:=(gfl Wd.cells ((h.free b7).2.1))) (xs:=(gfl Wd.cells br)) T29.und T34 J J F nc C J J (d1.1) (eU (i:=1) F.inv J d1) (aV Wd.one' _) j0 J J fun Gx Dy a w ix F C=>?_);rw [<- aH] at ix;obtain⟨m2,mr,rfl⟩:=ix.slice;have b0:(br.length+((h.free b7).2.1).length)=(br++((h.free b7).2.1)).length:=by have X:=ix.1;rw [aA Wd.len] at X;omega
       rw [show Value.slice m2 (br.length+((h.free b7).2.1).length) mr=Value.slice m2 (br++((h.free b7).2.1)).length mr from by rw [b0]] at C;rw [b0] at ix;refine lin J (aB C J J fun a C=>?_);refine lin J (ac (f:=1) (o2:=1) T70 T29 J J J J C J J fun a C=>?_);refine lin J (an (cs':=(hA p m2 ((br++((h.free b7).2.1)).length) mr g3 bs.length gj)) T29 F (i:=4) J C J J J J J J fun a w F C=>?_);refine wpList_nil (aq (ret0 J C ?_));have F:=F.fd [2,0,2,0,2,0,3,2,3] J;exact⟨_,_,_,_,_,SR.free x.a lp mz,by first | omega |(simp only [List.length_append,List.length_cons,List.length_nil];omega),by first | omega |(simp only [List.length_append,List.length_cons,List.length_nil];omega),⟨_,_,rfl,⟨_,_,_,_,_,_,rfl,ix,nb⟩,li⟩,rfl,F⟩
      ·refine ai C J ?_;have F:=F.front 4 J
       let Ay:=(As.il [(7, [go])])
       let rz:=(As.sl [])
       have bk:=F;refine As.c_draw_head (ini:=Ay) (sup:=rz) (als:= [7]) (s0:=⟨k3,fun _=>none⟩) (L:=(ek::(eO fa 34 (wA b7))::a5::qa::i3::ge)) (N:=480) (E:= [(0,(pB q)),(12,(pB fa))]) 8 [FcV (pB q),FcV (pB q),FcV (pB q),FcV (.pointer (some ⟨q,1,none⟩)),FcV (.slice f4 br.length fi),FcV (.agg (wA b7)),As.lf (fun H v=> ∃ b,v=.slice (some ⟨b,0,none⟩) 1 1/\H b=some (.cells (wA b7) 34 (0,0))),fun s v=> ∃(A: Option Addr) (c: Nat) (en: Ent),s.ax 7=some [en]/\v=.slice A ((br++([b7]: List Wd)).length) c/\Row (.slice A ((br++([b7]: List Wd)).length) c) en 34 4 ((br++([b7]: List Wd)).length) (gfl Wd.cells (br++([b7]: List Wd)))] mixed j1 j1 j1 j6 (fun _=>rfl) F (C.pk J) (As.QuietsI.c4 ?_ ?_ ?_ ?_ (As.QuietsI.c4 ?_ ?_ ?_ ?_ (As.QuietsI.nil))) (fun bh a w b6 V F C a1=>?_)
       ·refine As.Qx J fun a w M G Y T F C O V=>?_;have I:=F;exact ak C J J fun a C=>As.ql C I
       ·refine As.Qx J fun a w M G Y T F C O V=>?_;have I:=F;exact ak C J J fun a C=>As.ql C I
       ·refine As.Qx1 1 J fun a w M G Y T F C O V=>?_;have I:=F;exact aB C J J fun a C=>As.ql C I
       ·refine As.Qx1 2 J fun a w M G Y T F C O V=>?_;have I:=F;exact ac (f:=1) (o2:=1) T70 T29 J J J J C J J fun a C=>As.ql C I
       ·refine As.Qx1 3 J fun a w M G Y T F C O V=>?_;have I:=F;have F:=Step.dropN _ _ F;exact af (v:=(.slice f4 br.length fi)) T29 J C J (F.blkL 3 J) J J fun a C=>As.ql C I
       ·refine As.Qx J fun a w M G Y T F C O V=>?_;have I:=F;have F:=Step.dropN _ _ F;exact am (vs:=(wL b7)) T34 J C J (F.blkL 1 J) J (ah J) J fun a C=>As.ql C I
       ·refine As.Qx1 5 J fun a w M G Y T F C O V=>?_;have I:=F;have bv:=Step.dropN _ _ F;refine id (aY (vs:= [(0,(.agg (wA b7)))]) (cells:=(wL b7)) T29.und T34 F C (C.evp J) J J J J fun sn a w F C=>?_);obtain⟨Cd,F,A1,nd⟩:=F.give;exact As.qdone (s:=⟨M,G⟩) A1 C F ⟨_,rfl,nd⟩
       ·refine As.Qx1 4 J fun a w M G Y T F C O V=>?_;obtain⟨_,C,sn,rfl,nd⟩:=O.g C 6 J;have F: Step w0 H L w M (go::_):=As.opn (s:=⟨M,G⟩) [] [7] [] [go] J (As.con0s T J) F;obtain⟨ta,Bj,un,u0,v7,qh,w6⟩:=(RowG.of_lit Wd.len ([b7]: List Wd) nd j3 J).2.2;refine id (aK (news:=(gfl Wd.cells ([b7]: List Wd))) (xs:=(gfl Wd.cells br)) T29.und T34 J J F nc C J J (aA Wd.len _) (fun b5=>⟨ta,Bj,un,u0,v7,(qh (fun X=>b5 (by rw [X];rfl))).1,F.blkH (qh (fun X=>b5 (by rw [X];rfl))).2,fun j u b9=>bi Wd.len j4 w6 b9⟩) (aV Wd.one' _) j0 J J fun Gb kx a w gq F C=>?_);rw [<- aH] at gq;obtain⟨jj,kg,rfl⟩:=gq.slice;have b0:(br.length+1)=(br++([b7]: List Wd)).length:=by have X:=gq.1;rw [aA Wd.len] at X;omega
        rw [show Value.slice jj (br.length+1) kg=Value.slice jj (br++([b7]: List Wd)).length kg from by rw [b0]] at C;rw [b0] at gq;exact As.qown (i:=7) (dst:=some 228) (s:=⟨M,G⟩) (E:= [kx]) [] [7] [] J J T (Le.refl _) C.dfr (As.has_at C) F As.con1 ⟨_,_,_,rfl,rfl,gq⟩
       obtain⟨pg,G⟩:=b6;have Fa: Le k3 pg:=V.le;dsimp only at a1 F;obtain⟨_,C,rfl⟩:=As.Dd C a1 0 J;obtain⟨_,C,jj,kg,kx,oe,rfl,gq⟩:=As.Dd C a1 7 J;have oe: G 7=some [kx]:=oe;have F: Step w0 H L w pg (kx::ek::(eO fa 34 (wA b7))::a5::qa::i3::ge):=by
        have X:=F;unfold As.aents at X;simp only [List.flatMap_cons,List.flatMap_nil,As.conE,show rz 7=none from rfl,oe,Option.isSome_some,Option.getD_some,cond_true,cond_false,List.cons_append,List.nil_append,List.append_nil] at X;exact X
       refine any1 (i:=8) j1 J J (aB C J J fun a C=>?_);refine any1 (i:=9) j1 J J (ac (f:=1) (o2:=1) T70 T29 J J J J C J J fun a C=>?_);refine any1 (i:=10) j1 J J (an (cs':=(hA p jj ((br++([b7]: List Wd)).length) kg g3 bs.length gj)) T29 F (i:=4) J C J J J J J J fun a w F C=>?_);refine any0 j1 ?_;refine aq (ret0 J C ?_);have F:=F.fd [2,0,2,0,2,0,3,2,3] J;rw [free_no mz] at li;exact⟨_,_,_,_,_,SR.back x.a lp,by first | omega |(simp only [List.length_append,List.length_cons,List.length_nil];omega),by first | omega |(simp only [List.length_append,List.length_cons,List.length_nil];omega),⟨_,_,rfl,⟨_,_,_,_,_,_,rfl,gq,nb⟩,li⟩,rfl,F⟩
     ·refine ai C J (wp_seq (ab (lin J (aW (i:=kk) (j:=5) C J J J fun a C=>?_))));refine Ls J C fun a C=>?_;refine wpList_nil (aa (al (t:=231) C J (fun qf C=>?_) (fun qf C=>?_)))
      ·refine ap C J (wp_seq (ab (Lm J C fun a C=>?_)));refine lin J (ac (f:=1) (o2:=1) T67 T3 J J J J C J J fun a C=>?_);refine lin J (af (v:=(iV x.a)) T3 J C J (F.blkL 0 J) J J fun a C=>?_);have xe: HM q p ws bs h (au::a9::a7::av):=⟨[au,a9,a7],av,rfl,⟨_,_,_,_,_,_,rfl,d2,cu⟩,bf⟩;obtain⟨⟨a3,b2⟩,hb⟩: ∃ bl,takeP ws x.a=bl:=⟨_,rfl⟩;have Ew: b2.length<=ws.length:=by have X:=bz ws x.a;rw [hb] at X;first | exact X | exact Nat.le_of_eq X
       have z7:=bY (F.tail [a5]) xe j0 j0 hb;refine lin J (Co func73 C J (z7) ?_);rintro e w ⟨D6,rfl,xf,yc⟩;refine⟨_,rfl,fun a C=>?_⟩;have F:=F.frameR [a5] yc;obtain⟨_,e5,rfl,⟨dr,dw,f2,fg,cf,cx,rfl,iz,iy⟩,wx⟩:=xf;have Ej:=Row.cap iz;have E8:=Row.cap iy;refine lin J (aF (cs:= #[(iV 0),(iV 0),(.string (⟨#[]⟩)),(.bool false)]) T34 F C J J fun ds a w F C=>?_);refine lin J (an (cs':=(wA a3)) T34 F (i:=0) J C J J J J J J fun a w F C=>?_);refine wpList_nil (aa (wp_seq ?_))
       let p6:=(As.il [(5,e5)])
       let lt:=(As.sl [])
       let r:List Ent:=[(eO ds 34 (wA a3)),a5,(eO q 70 (hA p dr b2.length dw f2 bs.length fg)),cf,cx];have F: Step w0 H L w H (e5++ r):=Step.perm (show Step w0 H L w H (r++e5) from F) (List.perm_append_comm (l₁:= r) (l₂:=e5));have bk:=F;let q3:List Ent:=[(eO ds 34 (wA a3)),a5,(eO q 70 (hA p dr b2.length dw f2 bs.length fg)),cf,cx];refine As.c_draw_head (ini:=p6) (sup:=lt) (als:= [5]) (s0:=⟨H,fun _=>none⟩) (L:= q3) (N:=480) (E:= [(0,(pB q)),(3,(pB cm)),(15,(pB ds))]) 12 [FcV (pB q),FcV (pB q),FcV (pB q),FcV (pB p),FcV (.agg (wA a3)),fun s v=> ∃(A: Option Addr) (c: Nat) (en: Ent) (L': List Ent),s.ax 5=some (en::L')/\v=(.tuple #[(.string ((partsS (HS.S h) a3).1)),(.slice A (((partsS (HS.S h) a3).2.1).length) c),(iV ((partsS (HS.S h) a3).2.2))])/\Row (.slice A ((partsS (HS.S h) a3).2.1).length c) en 34 4 ((partsS (HS.S h) a3).2.1).length (gfl Wd.cells ((partsS (HS.S h) a3).2.1))/\HK p h L',fun s v=> ∃(A: Option Addr) (c: Nat) (en: Ent) (L': List Ent),s.ax 5=some (en::L')/\v=(.tuple #[(.string ((partsS (HS.S h) a3).1)),(.slice A (((partsS (HS.S h) a3).2.1).length) c),(iV ((partsS (HS.S h) a3).2.2))])/\Row (.slice A ((partsS (HS.S h) a3).2.1).length c) en 34 4 ((partsS (HS.S h) a3).2.1).length (gfl Wd.cells ((partsS (HS.S h) a3).2.1)),FcV (.string ((partsS (HS.S h) a3).1)),fun s v=> ∃(A: Option Addr) (c: Nat) (en: Ent) (L': List Ent),s.ax 5=some (en::L')/\v=(.slice A (((partsS (HS.S h) a3).2.1).length) c)/\Row (.slice A ((partsS (HS.S h) a3).2.1).length c) en 34 4 ((partsS (HS.S h) a3).2.1).length (gfl Wd.cells ((partsS (HS.S h) a3).2.1)),FcV (iV ((partsS (HS.S h) a3).2.2)),FcV (.string ((partsS (HS.S h) a3).1)),fun s v=> ∃(A: Option Addr) (c: Nat) (en: Ent) (L': List Ent),s.ax 5=some (en::L')/\v=(.slice A (((partsS (HS.S h) a3).2.1).length) c)/\Row (.slice A ((partsS (HS.S h) a3).2.1).length c) en 34 4 ((partsS (HS.S h) a3).2.1).length (gfl Wd.cells ((partsS (HS.S h) a3).2.1))] mixed j1 j1 j1 j8 (fun _=>rfl) (show Step w0 H L w H ((e5++ [])++ q3) from by simpa only [List.nil_append,List.append_nil,List.cons_append,List.append_assoc] using F) (C.pk J) (As.QuietsI.c4 ?_ ?_ ?_ ?_ (As.QuietsI.c4 ?_ ?_ ?_ ?_ (As.QuietsI.c4 ?_ ?_ ?_ ?_ (As.QuietsI.nil)))) (fun bh a w b6 V F C a1=>?_)
       ·refine As.Qx J fun a w M G Y T F C O V=>?_;have I:=F;exact ak C J J fun a C=>As.ql C I
       ·refine As.Qx1 0 J fun a w M G Y T F C O V=>?_;have I:=F;exact aB C J J fun a C=>As.ql C I
       ·refine As.Qx1 1 J fun a w M G Y T F C O V=>?_;have I:=F;exact ac (f:=0) (o2:=0) T70 T24 J J J J C J J fun a C=>As.ql C I
       ·refine As.Qx1 2 J fun a w M G Y T F C O V=>?_;have I:=F;have F:=Step.dropN _ _ F;exact af (v:=(pB p)) T24 J C J (F.blkL 2 J) J J fun a C=>As.ql C I
       ·refine As.Qx J fun a w M G Y T F C O V=>?_;have I:=F;have F:=Step.dropN _ _ F;exact am (vs:=(wL a3)) T34 J C J (F.blkL 0 J) J (ah J) J fun a C=>As.ql C I
       ·refine As.Qx1 3 J fun a w M G Y T F C O V=>?_;obtain⟨_,C,rfl⟩:=O.g C 4 J;have bc: As.aents p6 lt [5] G=(e5):=by
         unfold As.aents;simp only [List.flatMap_cons,List.flatMap_nil,As.conE,show lt 5=none from rfl,show p6 5=e5 from rfl,T,Option.isSome_some,Option.isSome_none,Option.getD_some,Option.getD_none,cond_true,cond_false,List.append_nil,List.nil_append]
        have F: Step w0 H L w M ((e5)++_):=As.opn (s:=⟨M,G⟩) [] [5] [] (e5) J bc F;have F:=Step.perm F (List.perm_append_comm (l₁:=e5) (l₂:=_));have z8:=c_Parts (F.tail (_)) wx hdi.ok (x:=a3);refine id (Co func77 C J (z8) ?_);rintro e w ⟨Ce,m6,dp,dt,bp,rfl,ct,wy,rl⟩;refine⟨_,rfl,fun a C=>?_⟩;have F:=Step.perm (F.frameR (_) rl) List.perm_middle;have F:=Step.perm F (List.Perm.cons _ (List.perm_append_comm (l₁:=_) (l₂:=m6)))
        skip
        exact As.qown (i:=5) (dst:=some 243) (s:=⟨M,G⟩) (E:=(bp::m6)) [] [5] [] J J T rl.le C.dfr (As.has_at C) F As.con1 ⟨dp,dt,bp,m6,rfl,rfl,ct,wy⟩
       ·refine As.Qx J fun a w M G Y T F C O V=>?_;obtain⟨_,C,dp,dt,bp,cq,fv,rfl,ct,iq⟩:=O.g C 5 J;have fv: G 5=some (bp::cq):=fv;have eo:=fv;have I:=F;refine id (ak C J J fun a C=>?_);exact As.qdone (s:=⟨M,G⟩) (Le.refl _) C I ⟨_,_,_,_,eo,rfl,ct⟩
       ·refine As.Qx J fun a w M G Y T F C O V=>?_;obtain⟨_,C,dp,dt,ld,k4,eo,rfl,ct⟩:=O.g C 6 J;have I:=F;exact ae (v:=(.string ((partsS (HS.S h) a3).1))) C J J J fun a C=>As.ql C I
       ·refine As.Qx J fun a w M G Y T F C O V=>?_;obtain⟨_,C,dp,dt,ld,k4,eo,rfl,ct⟩:=O.g C 6 J;have I:=F;refine id (ae (v:=(.slice dp (((partsS (HS.S h) a3).2.1).length) dt)) C J J J fun a C=>?_);exact As.qdone (s:=⟨M,G⟩) (Le.refl _) C I ⟨_,_,_,_,eo,rfl,ct⟩
       ·refine As.Qx J fun a w M G Y T F C O V=>?_;obtain⟨_,C,dp,dt,ld,k4,eo,rfl,ct⟩:=O.g C 6 J;have I:=F;exact ae (v:=(iV ((partsS (HS.S h) a3).2.2))) C J J J fun a C=>As.ql C I
       ·refine As.Qx1 7 J fun a w M G Y T F C O V=>?_;have I:=F;exact aG C J J fun a C=>As.ql C I
       ·refine As.Qx J fun a w M G Y T F C O V=>?_;obtain⟨_,C,dp,dt,ld,k4,eo,rfl,ct⟩:=O.g C 8 J;have I:=F;refine id (aG C J J fun a C=>?_);exact As.qdone (s:=⟨M,G⟩) (Le.refl _) C I ⟨_,_,_,_,eo,rfl,ct⟩
       obtain⟨e4,G⟩:=b6;have Fb: Le H e4:=V.le;dsimp only at a1 F;obtain⟨_,c7,dp,dt,bp,cq,fv,rfl,ct,iq⟩:=a1 5 _ _ J J;have fv: G 5=some (bp::cq):=fv;obtain⟨_,C,rfl⟩:=As.Dd C a1 9 J;obtain⟨_,C,rfl⟩:=As.Dd C a1 10 J;obtain⟨_,C,dp,dt,ld,k4,eo,rfl,ct⟩:=As.Dd C a1 11 J;have em:=Option.some.inj (eo.symm.trans fv);rw [(List.cons.inj em).1] at ct;have F: Step w0 H L w e4 (bp::cq++ [(eO ds 34 (wA a3)),a5,(eO q 70 (hA p dr b2.length dw f2 bs.length fg)),cf,cx]):=by
        have X:=F;unfold As.aents at X;simp only [List.flatMap_cons,List.flatMap_nil,As.conE,show lt 5=none from rfl,fv,List.append_assoc,Option.isSome_some,Option.getD_some,cond_true,cond_false,List.cons_append,List.nil_append,List.append_nil] at X;exact X
       have F:=Step.perm F (List.Perm.cons _ (List.perm_append_comm (l₁:=cq) (l₂:= [(eO ds 34 (wA a3)),a5,(eO q 70 (hA p dr b2.length dw f2 bs.length fg)),cf,cx])));refine any1 (i:=12) j1 J J (aG C J J fun a C=>?_);refine any0 j1 ?_;refine aa (wp_seq ?_);have Aq:=parts_len lj a3;refine ab (lin J (ac (f:=0) (o2:=0) T34 T3 J J J J C J J fun a C=>?_));refine lin J (af (v:=(iV a3.tag)) T3 J C J (F.blkL 1 J) J J fun a C=>?_);refine lin J (aW (i:=a3.tag) (j:=5) C J J J fun a C=>?_);refine Lm J C fun a C=>?_;let eh:=(eO q 70 (hA p dr b2.length dw f2 bs.length fg));let c6:=(eO ds 34 (wA a3));refine al (t:=250) C J (fun vr C=>?_) (fun vr C=>?_)
       ·refine ad J C J J J (ac (f:=3) (o2:=3) T34 T4 J J J J C J J fun a C=>?_);refine ad J C J J J (af (v:=(.bool a3.one)) T4 J C J (F.blkL 1 J) J J fun a C=>?_);refine lin J (ao C J J J fun a C=>?_);refine Lm J C fun a C=>?_;refine ar (t:=254) C J (fun mv C=>?_) (fun mv C=>?_)
        ·refine ad J C J J J (ak C J J fun a C=>?_);refine ad J C J J J (aW (i:=((partsS (HS.S h) a3).2.2)) (j:=0) C J J J fun a C=>?_);refine lin J (ao C J J J fun a C=>?_);refine wpList_nil (aa (al (t:=257) C J (fun vt C=>?_) (fun vt C=>?_)))
         ·refine ap C J (wp_seq (ab (Ls J C fun a C=>?_)));refine wpList_nil (aa (wp_seq (wp_seq ?_)));have xg: HM q p b2 bs h (eh::cf::cx::cq):=⟨[eh,cf,cx],cq,rfl,⟨_,_,_,_,_,_,rfl,iz,iy⟩,iq⟩;refine ab (Lm J C fun a C=>?_);refine lin J (aJ T29.und C J J fun a C=>?_);refine Lm J C fun a C=>?_;refine wpList_nil (aa (wp_block ?_));have F:=F.cons_none (en:=noEnt) J;refine a6 (fun Bi a w=> ∃(m5: PHeap),∃(k: Nat),∃(bo: List Int),∃(me: List Ent),∃(c5: List Wd),∃(ip: Ent),∃(i9: Option Addr),∃(ij: Nat),Le e4 m5/\Bi=(((partsS (HS.S h) a3).2.1).length) - k/\Has [] a 480 [(0,(pB q)),(3,(pB cm)),(15,(pB ds)),(17,(.slice dp (((partsS (HS.S h) a3).2.1).length) dt)),(19,(.slice i9 c5.length ij)),(259,(iV ((((partsS (HS.S h) a3).2.1).length: Nat): Int))),(260,(iV ((k: Nat): Int)))]/\Step w0 H L w m5 (ip::bp::c6::a5::me)/\(Row (.slice i9 c5.length ij) ip 34 4 c5.length (gfl Wd.cells c5))/\(c5=(takeK b2 bo).1)/\(HM q p (takeK b2 bo).2 bs h me)/\(bo.length=k)/\(k<=((partsS (HS.S h) a3).2.1).length)) _ ⟨e4,0, [],(eh::cf::cx::cq), [],noEnt,none,0,Le.refl _,rfl,C.pk J,F,(Row.nil _ _),rfl,xg,rfl,j0⟩ ?_;intro Ga a w z5;obtain⟨m5,k,bo,me,c5,ip,i9,ij,A2,G7,C,F,ra,ln,hM,rq,Ev⟩:=z5;have A0:=dF bo b2;have G9: c5.length=k:=by rw [ln,A0.1,rq]
          refine wp_seq (ab (lin J (bj (i:=((k: Nat): Int)) (j:=((((partsS (HS.S h) a3).2.1).length: Nat): Int)) C J J J fun a C=>?_)));refine wpList_nil (aa (wp_seq (al (t:=261) C J (fun vu C=>?_) (fun vu C=>?_))))
          ·refine ap C J (wp_skip (aa (wp_seq (wp_block (wp_seq (ab (Lm J C fun a C=>?_)))))));refine Ls J C fun a C=>?_;refine wpList_nil (aa (ab (Lm J C fun a C=>?_)));refine Lm J C fun a C=>?_;refine lin J (ac (f:=2) (o2:=2) T67 T3 J J J J C J J fun a C=>?_);refine lin J (af (v:=(iV x.b)) T3 J C J (F.blkL 3 J) J J fun a C=>?_);refine Lm J C fun a C=>?_;refine lin J (o_addw (kk:=.i64) (i:=x.b) (j:=((k: Nat): Int)) C J J J fun a C=>?_);obtain⟨⟨hi,C5⟩,lo⟩: ∃ bl,takeP ((takeK b2 bo).2) (IntKind.i64.wrap (x.b+((k: Nat): Int)))=bl:=⟨_,rfl⟩;have Ex: C5.length<=((takeK b2 bo).2).length:=by have X:=bz ((takeK b2 bo).2) (IntKind.i64.wrap (x.b+((k: Nat): Int)));rw [lo] at X;first | exact X | exact Nat.le_of_eq X
           have z9:=bY (F.tail [ip,bp,c6,a5]) hM j0 j0 lo;refine lin J (Co func73 C J (z9) ?_);rintro e w ⟨sm,rfl,xh,yd⟩;refine⟨_,rfl,fun a C=>?_⟩;have F:=F.frameR [ip,bp,c6,a5] yd;refine lin J (aY (vs:= [(0,(.agg (wA hi)))]) (cells:=(wL hi)) T29.und T34 F C (C.evp J) J J J J fun Dj a w F C=>?_);obtain⟨sk,F,A3,ya⟩:=F.give;obtain⟨tb,Bk,uo,u1,v8,qi,w7⟩:=(RowG.of_lit Wd.len ([hi]: List Wd) ya j3 J).2.2;refine lin J (aK (news:=(gfl Wd.cells ([hi]: List Wd))) (xs:=(gfl Wd.cells c5)) T29.und T34 J J F ra C J J (aA Wd.len _) (fun b5=>⟨tb,Bk,uo,u1,v8,(qi (fun X=>b5 (by rw [X];rfl))).1,F.blkH (qi (fun X=>b5 (by rw [X];rfl))).2,fun j u b9=>bi Wd.len j4 w7 b9⟩) (aV Wd.one' _) j0 J J fun Gc um a w iu F C=>?_);rw [<- aH] at iu;obtain⟨m0,mp,rfl⟩:=iu.slice;have b0:(c5.length+1)=(c5++([hi]: List Wd)).length:=by have X:=iu.1;rw [aA Wd.len] at X;omega
           rw [show Value.slice m0 (c5.length+1) mp=Value.slice m0 (c5++([hi]: List Wd)).length mp from by rw [b0]] at C;rw [b0] at iu;refine Ls J C fun a C=>?_;refine wpList_nil (aq (aa (ab (lin J (aN (i:=((k: Nat): Int)) (j:=1) C J J J j0 fun a C=>?_)))));refine Lm J C fun a C=>?_;refine wpList_nil (aa (?_));exact⟨(((partsS (HS.S h) a3).2.1).length) - (k+1),by omega,sk,(k+1),(bo++ [(IntKind.i64.wrap (x.b+((k: Nat): Int)))]),sm,(c5++([hi]: List Wd)),um,m0,mp,(A2.trans (A3)),rfl,C.pk J,F,iu,(by rw [dO,lo,ln]),(by rw [dO,lo];exact xh),(by rw [List.length_append,rq];rfl),j0⟩
          ·refine ai C J (wp_exit (az (az (aO (aa (wp_seq ?_))))));obtain⟨_,e6,rfl,⟨ic,io,ia,ik,el,ei,rfl,rg,rb⟩,wz⟩:=hM;have Ek:=Row.cap rg;have E9:=Row.cap rb;obtain⟨ig,F,Fc,n1⟩:=rowW_release ra (F.front 0 J) j0;have rs:=hdi.reuse_ok (l:=(partsS h.S a3).2.1) hb j0 (by simpa using mv) j0 J (show bo.length=(partsS h.S a3).2.1.length by omega);have oc:=rs;unfold gS at oc;rw [<- ln] at oc
           let p7:=(As.il [(6,e6)])
           let i8:=(As.sl [(10,11)])
           let ml:=(eO q 70 (hA p ic (((takeK b2 bo).2).length) io ia bs.length ik));have F: Step w0 H L w ig (e6++ [bp,c6,a5,ml,el,ei]):=Step.perm (show Step w0 H L w ig ([bp,c6,a5,ml,el,ei]++e6) from F) (List.perm_append_comm (l₁:= [bp,c6,a5,ml,el,ei]) (l₂:=e6));have bk:=F;let q5:=(eO q 70 (hA p ic (((takeK b2 bo).2).length) io ia bs.length ik));refine As.c_draw_head (ini:=p7) (sup:=i8) (als:= [6,10,11]) (s0:=⟨ig,fun _=>none⟩) (L:= [bp,c6,a5,q5,el,ei]) (N:=480) (E:= [(0,(pB q)),(15,(pB ds)),(17,(.slice dp (((partsS (HS.S h) a3).2.1).length) dt)),(19,(.slice i9 c5.length ij))]) 12 [FcV (pB q),FcV (pB q),FcV (pB q),FcV (pB p),FcV (.agg (wA a3)),FcV (.slice i9 c5.length ij),fun s v=> ∃ L',s.ax 6=some L'/\v=(.tuple #[(.agg (wA a3)),(iV 0)])/\HK p (h.reuse a3 (⟨#[103]⟩) c5).1 L',FcV (.tuple #[(.agg (wA a3)),(iV 0)]),FcV (.agg (wA a3)),FcV (iV 0),fun s v=> ∃ b,s.ax 10=some [(eO b 34 #[(iV 0),(iV 0),(.string (⟨#[]⟩)),(.bool false)])]/\v=.pointer (some ⟨b,0,none⟩),fun s _=> ∃(b: Nat),s.ax 10=some [(eO b 34 #[(iV 0),(iV 0),(.string (⟨#[]⟩)),(.bool false)])]/\s.ax 11=some [(eO b 34 (wA a3))]] mixed j1 j1 j1 (by repeat' (first | exact As.Monos.nil | refine As.Monos.cons ?_ ?_ |(intro _ _ _ hl h;exact h) |(rintro _ _ _ hl ⟨A,c,h,hr⟩;exact⟨A,c,h,hr.mono hl.le⟩) |(rintro _ _ _ hl ⟨b,h,dz⟩;exact⟨b,h,hl.le _ _ dz⟩) | exact fun _ _ _ hl ⟨L',h,e,bf⟩=>⟨L',hl.get h,e,bf⟩ | exact fun _ _ _ hl ⟨b,h,e⟩=>⟨b,hl.get h,e⟩ | exact fun _ _ _ hl ⟨b,h1,h2⟩=>⟨b,hl.get h1,hl.get h2⟩)) (fun _=>rfl) (show Step w0 H L w ig ((e6++([]++([]++ [])))++ [bp,c6,a5,q5,el,ei]) from by simpa only [List.nil_append,List.append_nil,List.cons_append,List.append_assoc] using F) (C.pk J) (As.QuietsI.c4 ?_ ?_ ?_ ?_ (As.QuietsI.c4 ?_ ?_ ?_ ?_ (As.QuietsI.c4 ?_ ?_ ?_ ?_ (As.QuietsI.nil)))) (fun bh a w b6 V F C a1=>?_)
           ·refine As.Qx J fun a w M G Y T F C O V=>?_;have I:=F;exact ak C J J fun a C=>As.ql C I
           ·refine As.Qx1 0 J fun a w M G Y T F C O V=>?_;have I:=F;exact aB C J J fun a C=>As.ql C I
           ·refine As.Qx1 1 J fun a w M G Y T F C O V=>?_;have I:=F;exact ac (f:=0) (o2:=0) T70 T24 J J J J C J J fun a C=>As.ql C I
           ·refine As.Qx1 2 J fun a w M G Y T F C O V=>?_;have I:=F;have F:=Step.dropN _ _ F;exact af (v:=(pB p)) T24 J C J (F.blkL 3 J) J J fun a C=>As.ql C I
           ·refine As.Qx J fun a w M G Y T F C O V=>?_;have I:=F;have F:=Step.dropN _ _ F;exact am (vs:=(wL a3)) T34 J C J (F.blkL 1 J) J (ah J) J fun a C=>As.ql C I
           ·refine As.Qx J fun a w M G Y T F C O V=>?_;have I:=F;exact ak C J J fun a C=>As.ql C I
           ·refine As.Qx1 3 J fun a w M G Y T F C O V=>?_;obtain⟨_,C,rfl⟩:=O.g C 4 J;obtain⟨_,C,rfl⟩:=O.g C 5 J;have n1:=n1.mono Y;have bc: As.aents p7 i8 [6] G=(e6):=by
             unfold As.aents;simp only [List.flatMap_cons,List.flatMap_nil,As.conE,show i8 6=none from rfl,show p7 6=e6 from rfl,T,Option.isSome_some,Option.isSome_none,Option.getD_some,Option.getD_none,cond_true,cond_false,List.append_nil,List.nil_append]
            have F: Step w0 H L w M ((e6)++_):=As.opn (s:=⟨M,G⟩) [] [6] [10,11] (e6) J bc F;have F:=Step.perm F (List.perm_append_comm (l₁:=e6) (l₂:=_));have o8:=c_Reuse (F.tail (_)) wz hdi.ok ((RdG.of_data F.inv n1).fewer (bE (_))) (x:=a3) (s:=⟨#[103]⟩);rw [oc] at o8;dsimp only at o8;refine id (Co func78 C J (o8) ?_);rintro e w ⟨m7,rfl,x0,ye⟩;refine⟨_,rfl,fun a C=>?_⟩;have F:=F.frameR (_) ye;have E3: HS.Ok ((h.reuse a3 (⟨#[103]⟩) c5).1):=HS.Ok.reuse hdi.ok _ _ _;have F:=Step.perm F (List.perm_append_comm (l₁:=_) (l₂:=m7))
            skip
            exact As.qown (i:=6) (dst:=some 280) (s:=⟨M,G⟩) (E:=(m7)) [] [6] [10,11] J J T (Le.refl _) C.dfr (As.has_at C) F As.con1 ⟨m7,rfl,rfl,x0⟩
           ·refine As.Qx J fun a w M G Y T F C O V=>?_;obtain⟨_,C,hv,lr,rfl,r4⟩:=O.g C 6 J;have I:=F;exact ak C J J fun a C=>As.ql C I
           ·refine As.Qx1 7 J fun a w M G Y T F C O V=>?_;have I:=F;exact ae (v:=(.agg (wA a3))) C J J J fun a C=>As.ql C I
           ·refine As.Qx1 7 J fun a w M G Y T F C O V=>?_;have I:=F;exact ae (v:=(iV 0)) C J J J fun a C=>As.ql C I
           ·refine As.Qx J fun a w M G Y T F C O V=>?_;have F: Step w0 H L w M (_):=As.opn (s:=⟨M,G⟩) [6] [10] [11] [] J (As.con0 T J) F;refine aF (cs:= #[(iV 0),(iV 0),(.string (⟨#[]⟩)),(.bool false)]) T34 F C J J fun cj a w F C=>?_;exact As.qown (i:=10) (dst:=some 21) (s:=⟨M,G⟩) (E:= [(eO cj 34 #[(iV 0),(iV 0),(.string (⟨#[]⟩)),(.bool false)])]) [6] [10] [11] J J T (Le.refl _) C.dfr (As.has_at C) F As.con1 ⟨cj,rfl,rfl⟩
           ·refine As.Qx J fun a w M G Y T F C O V=>?_;obtain⟨_,C,cj,eq,rfl⟩:=O.g C 10 J;have eq: G 10=some [(eO cj 34 #[(iV 0),(iV 0),(.string (⟨#[]⟩)),(.bool false)])]:=eq;obtain⟨_,C,rfl⟩:=O.g C 8 J;have F: Step w0 H L w M ((eO cj 34 #[(iV 0),(iV 0),(.string (⟨#[]⟩)),(.bool false)])::_):=As.opn (s:=⟨M,G⟩) [6] [10,11] [] [(eO cj 34 #[(iV 0),(iV 0),(.string (⟨#[]⟩)),(.bool false)])] J (As.con2 J J J eq T) F;refine id (an (cs':=(wA a3)) T34 F (i:=0) J C J J J J J J fun a w F C=>?_);exact As.qown (i:=11) (dst:=none) (s:=⟨M,G⟩) (E:= [(eO cj 34 (wA a3))]) [6] [10,11] [] J J T (Le.refl _) C.dfr (v:=undef) (fun _ h=>by cases h) F (.inl (As.con2' J J)) ⟨cj,eq,rfl⟩
           obtain⟨ph,G⟩:=b6;have Fd: Le ig ph:=V.le;dsimp only at a1 F;obtain⟨_,c7,hv,lr,rfl,r4⟩:=a1 6 _ _ J J;have lr: G 6=some (hv):=lr;obtain⟨_,C,rfl⟩:=As.Dd C a1 9 J;obtain⟨_,C,cj,eq,rfl⟩:=As.Dd C a1 10 J;have eq: G 10=some [(eO cj 34 #[(iV 0),(iV 0),(.string (⟨#[]⟩)),(.bool false)])]:=eq;obtain⟨_,c7,ru,Ar,p2⟩:=a1 11 _ _ J J;have p2: G 11=some [(eO ru 34 (wA a3))]:=p2;obtain rfl: cj=ru:=by have X:=(eq).symm.trans Ar;simpa using X
           have F: Step w0 H L w ph (hv++ [(eO cj 34 (wA a3)),bp,c6,a5,(eO q 70 (hA p ic (((takeK b2 bo).2).length) io ia bs.length ik)),el,ei]):=by
            have X:=F;unfold As.aents at X;simp only [List.flatMap_cons,List.flatMap_nil,As.conE,show i8 6=none from rfl,show i8 10=some 11 from rfl,show i8 11=none from rfl,lr,eq,p2,List.append_assoc,Option.isSome_some,Option.getD_some,cond_true,cond_false,List.cons_append,List.nil_append,List.append_nil] at X;exact X
           have F:=Step.perm F (List.perm_append_comm (l₁:=hv) (l₂:= [(eO cj 34 (wA a3)),bp,c6,a5,(eO q 70 (hA p ic (((takeK b2 bo).2).length) io ia bs.length ik)),el,ei]));have E4: HS.Ok ((h.reuse a3 (⟨#[103]⟩) c5).1):=HS.Ok.reuse hdi.ok _ _ _;refine any1 (i:=12) j1 J J (aG C J J fun a C=>?_);refine any0 j1 ?_;refine aa (wp_seq (ab (Lm J C fun a C=>?_)));refine lin J (am (vs:=(wL a3)) T34 J C J (F.blkL 0 J) J (ah J) J fun a C=>?_);refine Lm J C fun a C=>?_;let q8:=(eO q 70 (hA p ic (((takeK b2 bo).2).length) io ia bs.length ik));have xi: HM q p ((takeK b2 bo).2) bs ((h.reuse a3 (⟨#[103]⟩) c5).1) (q8::el::ei::hv):=⟨[q8,el,ei],hv,rfl,⟨_,_,_,_,_,_,rfl,rg,rb⟩,r4⟩;have za:=fM (F.tail [(eO cj 34 (wA a3)),bp,c6,a5]) xi j0 j0 (x:=a3) (e0:=0);refine lin J (Co func72 C J (za) ?_);rintro e w ⟨Cg,D7,rfl,xj,yf⟩;refine⟨_,rfl,fun a C=>?_⟩;have F:=F.frameR [(eO cj 34 (wA a3)),bp,c6,a5] yf;have G4:=eC ((takeK b2 bo).2) a3 0;obtain⟨_,Df,rfl,⟨sj,ul,pf,qc,Dz,Dr,rfl,rh,rc⟩,x2⟩:=xj;have El:=Row.cap rh;have Ea:=Row.cap rc;refine wpList_nil (aa (wp_seq (ab (Lm J C fun a C=>?_))));refine Lm J C fun a C=>?_;refine lin J (aB C J J fun a C=>?_);refine lin J (ac (f:=1) (o2:=1) T70 T29 J J J J C J J fun a C=>?_);refine lin J (af (v:=(.slice sj ((holdP ((takeK b2 bo).2) a3 0).length) ul)) T29 J C J (F.blkL 4 J) J J fun a C=>?_);refine Lm J C fun a C=>?_;have F:=F.front 5 J;refine lin J (aK (news:=(gfl Wd.cells ((partsS (HS.S h) a3).2.1))) (xs:=(gfl Wd.cells (holdP ((takeK b2 bo).2) a3 0))) T29.und T34 J J F rh C J J (ct.1) (eU (i:=2) F.inv J ct) (aV Wd.one' _) j0 J J fun Ge Dv a w iv F C=>?_);rw [<- aH] at iv;obtain⟨jk,kh,rfl⟩:=iv.slice;have b0:((holdP ((takeK b2 bo).2) a3 0).length+((partsS (HS.S h) a3).2.1).length)=((holdP ((takeK b2 bo).2) a3 0)++((partsS (HS.S h) a3).2.1)).length:=by have X:=iv.1;rw [aA Wd.len] at X;omega
           rw [show Value.slice jk ((holdP ((takeK b2 bo).2) a3 0).length+((partsS (HS.S h) a3).2.1).length) kh=Value.slice jk ((holdP ((takeK b2 bo).2) a3 0)++((partsS (HS.S h) a3).2.1)).length kh from by rw [b0]] at C;rw [b0] at iv;refine lin J (aB C J J fun a C=>?_);refine lin J (ac (f:=1) (o2:=1) T70 T29 J J J J C J J fun a C=>?_);refine lin J (an (cs':=(hA p jk (((holdP ((takeK b2 bo).2) a3 0)++((partsS (HS.S h) a3).2.1)).length) kh pf bs.length qc)) T29 F (i:=5) J C J J J J J J fun a w F C=>?_);refine wpList_nil (aa (ab (Lm J C fun a C=>?_)));refine Lm J C fun a C=>?_;refine lin J (aB C J J fun a C=>?_);refine lin J (ac (f:=3) (o2:=3) T70 T4 J J J J C J J fun a C=>?_);refine lin J (af (v:=(.bool true)) T4 J C J (F.blkL 5 J) J J fun a C=>?_);refine Lm J C fun a C=>?_;refine ad J C J J J (ak C J J fun a C=>?_);refine ad J C J J J (aW (i:=0) (j:=0) C J J J fun a C=>?_);refine lin J (ao C J J J fun a C=>?_);refine lin J (aB C J J fun a C=>?_);refine lin J (ac (f:=3) (o2:=3) T70 T4 J J J J C J J fun a C=>?_);refine lin J (an (cs':= #[(pB p),(.slice jk (((holdP ((takeK b2 bo).2) a3 0)++((partsS (HS.S h) a3).2.1)).length) kh),(.slice pf bs.length qc),(.bool (decide (0=0)))]) T4 F (i:=5) J C J J J J J J fun a w F C=>?_);refine wpList_nil (aq (ret0 J C ?_));have F:=F.fd [2,0,2,0,2,0,2,0,3,2,3] J;exact⟨_,_,_,_,_,(by have X:=SR.reuse (x:=x) (h:=h) (bs:=bs) (l:=(partsS h.S a3).2.1) bo (lq.trans qf) x.a hb j0 (by simpa using mv) j0 J j0;rw [rs,d5,<- ln] at X;rw [d5];exact X),by first | omega |(simp only [List.length_append,List.length_cons,List.length_nil];omega),by first | omega |(simp only [List.length_append,List.length_cons,List.length_nil];omega),⟨_,_,rfl,⟨_,_,_,_,_,_,rfl,iv,rc⟩,x2⟩,rfl,F⟩
         ·refine ai C J ?_;have F:=F.front 4 J
          let Az:=(As.il [(7, [cf])])
          let s1:=(As.sl [])
          have bk:=F;refine As.c_draw_head (ini:=Az) (sup:=s1) (als:= [7]) (s0:=⟨e4,fun _=>none⟩) (L:=(bp::c6::a5::eh::cx::cq)) (N:=480) (E:= [(0,(pB q)),(15,(pB ds))]) 8 [FcV (pB q),FcV (pB q),FcV (pB q),FcV (.pointer (some ⟨q,1,none⟩)),FcV (.slice dr b2.length dw),FcV (.agg (wA a3)),As.lf (fun H v=> ∃ b,v=.slice (some ⟨b,0,none⟩) 1 1/\H b=some (.cells (wA a3) 34 (0,0))),fun s v=> ∃(A: Option Addr) (c: Nat) (en: Ent),s.ax 7=some [en]/\v=.slice A ((b2++([a3]: List Wd)).length) c/\Row (.slice A ((b2++([a3]: List Wd)).length) c) en 34 4 ((b2++([a3]: List Wd)).length) (gfl Wd.cells (b2++([a3]: List Wd)))] mixed j1 j1 j1 j6 (fun _=>rfl) F (C.pk J) (As.QuietsI.c4 ?_ ?_ ?_ ?_ (As.QuietsI.c4 ?_ ?_ ?_ ?_ (As.QuietsI.nil))) (fun bh a w b6 V F C a1=>?_)
          ·refine As.Qx J fun a w M G Y T F C O V=>?_;have I:=F;exact ak C J J fun a C=>As.ql C I
          ·refine As.Qx J fun a w M G Y T F C O V=>?_;have I:=F;exact ak C J J fun a C=>As.ql C I
          ·refine As.Qx1 1 J fun a w M G Y T F C O V=>?_;have I:=F;exact aB C J J fun a C=>As.ql C I
          ·refine As.Qx1 2 J fun a w M G Y T F C O V=>?_;have I:=F;exact ac (f:=1) (o2:=1) T70 T29 J J J J C J J fun a C=>As.ql C I
          ·refine As.Qx1 3 J fun a w M G Y T F C O V=>?_;have I:=F;have F:=Step.dropN _ _ F;exact af (v:=(.slice dr b2.length dw)) T29 J C J (F.blkL 3 J) J J fun a C=>As.ql C I
          ·refine As.Qx J fun a w M G Y T F C O V=>?_;have I:=F;have F:=Step.dropN _ _ F;exact am (vs:=(wL a3)) T34 J C J (F.blkL 1 J) J (ah J) J fun a C=>As.ql C I
          ·refine As.Qx1 5 J fun a w M G Y T F C O V=>?_;have I:=F;have bv:=Step.dropN _ _ F;refine id (aY (vs:= [(0,(.agg (wA a3)))]) (cells:=(wL a3)) T29.und T34 F C (C.evp J) J J J J fun sp a w F C=>?_);obtain⟨Ch,F,A5,nf⟩:=F.give;exact As.qdone (s:=⟨M,G⟩) A5 C F ⟨_,rfl,nf⟩
          ·refine As.Qx1 4 J fun a w M G Y T F C O V=>?_;obtain⟨_,C,sp,rfl,nf⟩:=O.g C 6 J;have F: Step w0 H L w M (cf::_):=As.opn (s:=⟨M,G⟩) [] [7] [] [cf] J (As.con0s T J) F;obtain⟨tc,Bl,up,u2,v9,qj,w8⟩:=(RowG.of_lit Wd.len ([a3]: List Wd) nf j3 J).2.2;refine id (aK (news:=(gfl Wd.cells ([a3]: List Wd))) (xs:=(gfl Wd.cells b2)) T29.und T34 J J F iz C J J (aA Wd.len _) (fun b5=>⟨tc,Bl,up,u2,v9,(qj (fun X=>b5 (by rw [X];rfl))).1,F.blkH (qj (fun X=>b5 (by rw [X];rfl))).2,fun j u b9=>bi Wd.len j4 w8 b9⟩) (aV Wd.one' _) j0 J J fun Gf ky a w gr F C=>?_);rw [<- aH] at gr;obtain⟨jl,ki,rfl⟩:=gr.slice;have b0:(b2.length+1)=(b2++([a3]: List Wd)).length:=by have X:=gr.1;rw [aA Wd.len] at X;omega
           rw [show Value.slice jl (b2.length+1) ki=Value.slice jl (b2++([a3]: List Wd)).length ki from by rw [b0]] at C;rw [b0] at gr;exact As.qown (i:=7) (dst:=some 314) (s:=⟨M,G⟩) (E:= [ky]) [] [7] [] J J T (Le.refl _) C.dfr (As.has_at C) F As.con1 ⟨_,_,_,rfl,rfl,gr⟩
          obtain⟨pi,G⟩:=b6;have Fe: Le e4 pi:=V.le;dsimp only at a1 F;obtain⟨_,C,rfl⟩:=As.Dd C a1 0 J;obtain⟨_,C,jl,ki,ky,og,rfl,gr⟩:=As.Dd C a1 7 J;have og: G 7=some [ky]:=og;have F: Step w0 H L w pi (ky::bp::c6::a5::eh::cx::cq):=by
           have X:=F;unfold As.aents at X;simp only [List.flatMap_cons,List.flatMap_nil,As.conE,show s1 7=none from rfl,og,Option.isSome_some,Option.getD_some,cond_true,cond_false,List.cons_append,List.nil_append,List.append_nil] at X;exact X
          refine any1 (i:=8) j1 J J (aB C J J fun a C=>?_);refine any1 (i:=9) j1 J J (ac (f:=1) (o2:=1) T70 T29 J J J J C J J fun a C=>?_);refine any1 (i:=10) j1 J J (an (cs':=(hA p jl ((b2++([a3]: List Wd)).length) ki f2 bs.length fg)) T29 F (i:=4) J C J J J J J J fun a w F C=>?_);refine any0 j1 ?_;refine aq (ret0 J C ?_);have F:=F.fd [2,0,2,0,2,0,3,2,3] J;exact⟨_,_,_,_,_,SR.back x.a hb,by first | omega |(simp only [List.length_append,List.length_cons,List.length_nil];omega),by first | omega |(simp only [List.length_append,List.length_cons,List.length_nil];omega),⟨_,_,rfl,⟨_,_,_,_,_,_,rfl,gr,iy⟩,iq⟩,rfl,F⟩
        ·refine Lf J C J J fun a C=>?_;refine Lf J C J J fun a C=>?_;refine lin J (aj C J J J fun a C=>?_);refine wpList_nil (aa (ai C J ?_));have F:=F.front 4 J
         let B0:=(As.il [(7, [cf])])
         let s2:=(As.sl [])
         have bk:=F;refine As.c_draw_head (ini:=B0) (sup:=s2) (als:= [7]) (s0:=⟨e4,fun _=>none⟩) (L:=(bp::c6::a5::eh::cx::cq)) (N:=480) (E:= [(0,(pB q)),(15,(pB ds))]) 8 [FcV (pB q),FcV (pB q),FcV (pB q),FcV (.pointer (some ⟨q,1,none⟩)),FcV (.slice dr b2.length dw),FcV (.agg (wA a3)),As.lf (fun H v=> ∃ b,v=.slice (some ⟨b,0,none⟩) 1 1/\H b=some (.cells (wA a3) 34 (0,0))),fun s v=> ∃(A: Option Addr) (c: Nat) (en: Ent),s.ax 7=some [en]/\v=.slice A ((b2++([a3]: List Wd)).length) c/\Row (.slice A ((b2++([a3]: List Wd)).length) c) en 34 4 ((b2++([a3]: List Wd)).length) (gfl Wd.cells (b2++([a3]: List Wd)))] mixed j1 j1 j1 j6 (fun _=>rfl) F (C.pk J) (As.QuietsI.c4 ?_ ?_ ?_ ?_ (As.QuietsI.c4 ?_ ?_ ?_ ?_ (As.QuietsI.nil))) (fun bh a w b6 V F C a1=>?_)
         ·refine As.Qx J fun a w M G Y T F C O V=>?_;have I:=F;exact ak C J J fun a C=>As.ql C I
         ·refine As.Qx J fun a w M G Y T F C O V=>?_;have I:=F;exact ak C J J fun a C=>As.ql C I
         ·refine As.Qx1 1 J fun a w M G Y T F C O V=>?_;have I:=F;exact aB C J J fun a C=>As.ql C I
         ·refine As.Qx1 2 J fun a w M G Y T F C O V=>?_;have I:=F;exact ac (f:=1) (o2:=1) T70 T29 J J J J C J J fun a C=>As.ql C I
         ·refine As.Qx1 3 J fun a w M G Y T F C O V=>?_;have I:=F;have F:=Step.dropN _ _ F;exact af (v:=(.slice dr b2.length dw)) T29 J C J (F.blkL 3 J) J J fun a C=>As.ql C I
         ·refine As.Qx J fun a w M G Y T F C O V=>?_;have I:=F;have F:=Step.dropN _ _ F;exact am (vs:=(wL a3)) T34 J C J (F.blkL 1 J) J (ah J) J fun a C=>As.ql C I
         ·refine As.Qx1 5 J fun a w M G Y T F C O V=>?_;have I:=F;have bv:=Step.dropN _ _ F;refine id (aY (vs:= [(0,(.agg (wA a3)))]) (cells:=(wL a3)) T29.und T34 F C (C.evp J) J J J J fun sq a w F C=>?_);obtain⟨Ci,F,A6,ng⟩:=F.give;exact As.qdone (s:=⟨M,G⟩) A6 C F ⟨_,rfl,ng⟩
         ·refine As.Qx1 4 J fun a w M G Y T F C O V=>?_;obtain⟨_,C,sq,rfl,ng⟩:=O.g C 6 J;have F: Step w0 H L w M (cf::_):=As.opn (s:=⟨M,G⟩) [] [7] [] [cf] J (As.con0s T J) F;obtain⟨tf,Bn,ur,u4,vb,qm,wa⟩:=(RowG.of_lit Wd.len ([a3]: List Wd) ng j3 J).2.2;refine id (aK (news:=(gfl Wd.cells ([a3]: List Wd))) (xs:=(gfl Wd.cells b2)) T29.und T34 J J F iz C J J (aA Wd.len _) (fun b5=>⟨tf,Bn,ur,u4,vb,(qm (fun X=>b5 (by rw [X];rfl))).1,F.blkH (qm (fun X=>b5 (by rw [X];rfl))).2,fun j u b9=>bi Wd.len j4 wa b9⟩) (aV Wd.one' _) j0 J J fun Gg kz a w gs F C=>?_);rw [<- aH] at gs;obtain⟨jm,kj,rfl⟩:=gs.slice;have b0:(b2.length+1)=(b2++([a3]: List Wd)).length:=by have X:=gs.1;rw [aA Wd.len] at X;omega
          rw [show Value.slice jm (b2.length+1) kj=Value.slice jm (b2++([a3]: List Wd)).length kj from by rw [b0]] at C;rw [b0] at gs;exact As.qown (i:=7) (dst:=some 314) (s:=⟨M,G⟩) (E:= [kz]) [] [7] [] J J T (Le.refl _) C.dfr (As.has_at C) F As.con1 ⟨_,_,_,rfl,rfl,gs⟩
         obtain⟨pj,G⟩:=b6;have Ff: Le e4 pj:=V.le;dsimp only at a1 F;obtain⟨_,C,rfl⟩:=As.Dd C a1 0 J;obtain⟨_,C,jm,kj,kz,oh,rfl,gs⟩:=As.Dd C a1 7 J;have oh: G 7=some [kz]:=oh;have F: Step w0 H L w pj (kz::bp::c6::a5::eh::cx::cq):=by
          have X:=F;unfold As.aents at X;simp only [List.flatMap_cons,List.flatMap_nil,As.conE,show s2 7=none from rfl,oh,Option.isSome_some,Option.getD_some,cond_true,cond_false,List.cons_append,List.nil_append,List.append_nil] at X;exact X
         refine any1 (i:=8) j1 J J (aB C J J fun a C=>?_);refine any1 (i:=9) j1 J J (ac (f:=1) (o2:=1) T70 T29 J J J J C J J fun a C=>?_);refine any1 (i:=10) j1 J J (an (cs':=(hA p jm ((b2++([a3]: List Wd)).length) kj f2 bs.length fg)) T29 F (i:=4) J C J J J J J J fun a w F C=>?_);refine any0 j1 ?_;refine aq (ret0 J C ?_);have F:=F.fd [2,0,2,0,2,0,3,2,3] J;exact⟨_,_,_,_,_,SR.back x.a hb,by first | omega |(simp only [List.length_append,List.length_cons,List.length_nil];omega),by first | omega |(simp only [List.length_append,List.length_cons,List.length_nil];omega),⟨_,_,rfl,⟨_,_,_,_,_,_,rfl,gs,iy⟩,iq⟩,rfl,F⟩
       ·refine Lf J C J J fun a C=>?_;refine Lf J C J J fun a C=>?_;refine lin J (aj C J J J fun a C=>?_);refine Lm J C fun a C=>?_;refine Lf J C J J fun a C=>?_;refine Lf J C J J fun a C=>?_;refine lin J (aj C J J J fun a C=>?_);refine wpList_nil (aa (ai C J ?_));have F:=F.front 4 J
        let B1:=(As.il [(7, [cf])])
        let s3:=(As.sl [])
        have bk:=F;refine As.c_draw_head (ini:=B1) (sup:=s3) (als:= [7]) (s0:=⟨e4,fun _=>none⟩) (L:=(bp::c6::a5::eh::cx::cq)) (N:=480) (E:= [(0,(pB q)),(15,(pB ds))]) 8 [FcV (pB q),FcV (pB q),FcV (pB q),FcV (.pointer (some ⟨q,1,none⟩)),FcV (.slice dr b2.length dw),FcV (.agg (wA a3)),As.lf (fun H v=> ∃ b,v=.slice (some ⟨b,0,none⟩) 1 1/\H b=some (.cells (wA a3) 34 (0,0))),fun s v=> ∃(A: Option Addr) (c: Nat) (en: Ent),s.ax 7=some [en]/\v=.slice A ((b2++([a3]: List Wd)).length) c/\Row (.slice A ((b2++([a3]: List Wd)).length) c) en 34 4 ((b2++([a3]: List Wd)).length) (gfl Wd.cells (b2++([a3]: List Wd)))] mixed j1 j1 j1 j6 (fun _=>rfl) F (C.pk J) (As.QuietsI.c4 ?_ ?_ ?_ ?_ (As.QuietsI.c4 ?_ ?_ ?_ ?_ (As.QuietsI.nil))) (fun bh a w b6 V F C a1=>?_)
        ·refine As.Qx J fun a w M G Y T F C O V=>?_;have I:=F;exact ak C J J fun a C=>As.ql C I
        ·refine As.Qx J fun a w M G Y T F C O V=>?_;have I:=F;exact ak C J J fun a C=>As.ql C I
        ·refine As.Qx1 1 J fun a w M G Y T F C O V=>?_;have I:=F;exact aB C J J fun a C=>As.ql C I
        ·refine As.Qx1 2 J fun a w M G Y T F C O V=>?_;have I:=F;exact ac (f:=1) (o2:=1) T70 T29 J J J J C J J fun a C=>As.ql C I
        ·refine As.Qx1 3 J fun a w M G Y T F C O V=>?_;have I:=F;have F:=Step.dropN _ _ F;exact af (v:=(.slice dr b2.length dw)) T29 J C J (F.blkL 3 J) J J fun a C=>As.ql C I
        ·refine As.Qx J fun a w M G Y T F C O V=>?_;have I:=F;have F:=Step.dropN _ _ F;exact am (vs:=(wL a3)) T34 J C J (F.blkL 1 J) J (ah J) J fun a C=>As.ql C I
        ·refine As.Qx1 5 J fun a w M G Y T F C O V=>?_;have I:=F;have bv:=Step.dropN _ _ F;refine id (aY (vs:= [(0,(.agg (wA a3)))]) (cells:=(wL a3)) T29.und T34 F C (C.evp J) J J J J fun sr a w F C=>?_);obtain⟨Cj,F,A7,nh⟩:=F.give;exact As.qdone (s:=⟨M,G⟩) A7 C F ⟨_,rfl,nh⟩
        ·refine As.Qx1 4 J fun a w M G Y T F C O V=>?_;obtain⟨_,C,sr,rfl,nh⟩:=O.g C 6 J;have F: Step w0 H L w M (cf::_):=As.opn (s:=⟨M,G⟩) [] [7] [] [cf] J (As.con0s T J) F;obtain⟨tg,Bo,us,u5,vc,qn,wb⟩:=(RowG.of_lit Wd.len ([a3]: List Wd) nh j3 J).2.2;refine id (aK (news:=(gfl Wd.cells ([a3]: List Wd))) (xs:=(gfl Wd.cells b2)) T29.und T34 J J F iz C J J (aA Wd.len _) (fun b5=>⟨tg,Bo,us,u5,vc,(qn (fun X=>b5 (by rw [X];rfl))).1,F.blkH (qn (fun X=>b5 (by rw [X];rfl))).2,fun j u b9=>bi Wd.len j4 wb b9⟩) (aV Wd.one' _) j0 J J fun Gh l1 a w gt F C=>?_);rw [<- aH] at gt;obtain⟨jn,kl,rfl⟩:=gt.slice;have b0:(b2.length+1)=(b2++([a3]: List Wd)).length:=by have X:=gt.1;rw [aA Wd.len] at X;omega
         rw [show Value.slice jn (b2.length+1) kl=Value.slice jn (b2++([a3]: List Wd)).length kl from by rw [b0]] at C;rw [b0] at gt;exact As.qown (i:=7) (dst:=some 314) (s:=⟨M,G⟩) (E:= [l1]) [] [7] [] J J T (Le.refl _) C.dfr (As.has_at C) F As.con1 ⟨_,_,_,rfl,rfl,gt⟩
        obtain⟨pl,G⟩:=b6;have Fg: Le e4 pl:=V.le;dsimp only at a1 F;obtain⟨_,C,rfl⟩:=As.Dd C a1 0 J;obtain⟨_,C,jn,kl,l1,oi,rfl,gt⟩:=As.Dd C a1 7 J;have oi: G 7=some [l1]:=oi;have F: Step w0 H L w pl (l1::bp::c6::a5::eh::cx::cq):=by
         have X:=F;unfold As.aents at X;simp only [List.flatMap_cons,List.flatMap_nil,As.conE,show s3 7=none from rfl,oi,Option.isSome_some,Option.getD_some,cond_true,cond_false,List.cons_append,List.nil_append,List.append_nil] at X;exact X
        refine any1 (i:=8) j1 J J (aB C J J fun a C=>?_);refine any1 (i:=9) j1 J J (ac (f:=1) (o2:=1) T70 T29 J J J J C J J fun a C=>?_);refine any1 (i:=10) j1 J J (an (cs':=(hA p jn ((b2++([a3]: List Wd)).length) kl f2 bs.length fg)) T29 F (i:=4) J C J J J J J J fun a w F C=>?_);refine any0 j1 ?_;refine aq (ret0 J C ?_);have F:=F.fd [2,0,2,0,2,0,3,2,3] J;exact⟨_,_,_,_,_,SR.back x.a hb,by first | omega |(simp only [List.length_append,List.length_cons,List.length_nil];omega),by first | omega |(simp only [List.length_append,List.length_cons,List.length_nil];omega),⟨_,_,rfl,⟨_,_,_,_,_,_,rfl,gt,iy⟩,iq⟩,rfl,F⟩
      ·refine ai C J (wp_seq (ab (lin J (aW (i:=kk) (j:=6) C J J J fun a C=>?_))));refine Ls J C fun a C=>?_;refine wpList_nil (aa (al (t:=317) C J (fun qg C=>?_) (fun qg C=>?_)))
       ·refine ap C J (wp_seq ?_);obtain⟨⟨Z,jf⟩,fl⟩: ∃ bl,takeP ws x.a=bl:=⟨_,rfl⟩;have Ey: jf.length<=ws.length:=by have X:=bz ws x.a;rw [fl] at X;first | exact X | exact Nat.le_of_eq X
        obtain⟨⟨a0,a8⟩,fo⟩: ∃ bl,takeP jf x.b=bl:=⟨_,rfl⟩;have Ez: a8.length<=jf.length:=by have X:=bz jf x.b;rw [fo] at X;first | exact X | exact Nat.le_of_eq X
        have xk: HM q p ws bs h (au::a9::a7::av):=⟨[au,a9,a7],av,rfl,⟨_,_,_,_,_,_,rfl,d2,cu⟩,bf⟩
        let d3:=(As.il [(3,(au::a9::a7::av))])
        let cc:=(As.sl [(3,7)])
        have F: Step w0 H L w H ((au::a9::a7::av)++ [a5]):=Step.perm (show Step w0 H L w H ([a5]++(au::a9::a7::av)) from F) (List.perm_append_comm (l₁:= [a5]) (l₂:=(au::a9::a7::av)));have bk:=F;refine As.c_draw_head (ini:=d3) (sup:=cc) (als:= [3,7,8,9]) (s0:=⟨H,fun _=>none⟩) (L:= [a5]) (N:=480) (E:= kc) 10 [FcV (pB q),FcV (.pointer (some ⟨cm,1,none⟩)),FcV (iV x.a),fun s v=> ∃ L',s.ax 3=some L'/\v=(.agg (wA Z))/\HM q p jf bs h L',FcV (pB q),FcV (.pointer (some ⟨cm,2,none⟩)),FcV (iV x.b),fun s v=> ∃ L',s.ax 7=some L'/\v=(.agg (wA a0))/\HM q p a8 bs h L'/\(s.ax 3).isSome=true,fun s v=> ∃ b,s.ax 8=some [(eO b 34 #[(iV 0),(iV 0),(.string (⟨#[]⟩)),(.bool false)])]/\v=.pointer (some ⟨b,0,none⟩),fun s v=> ∃ b,s.ax 9=some [(eO b 34 #[(iV 0),(iV 0),(.string (⟨#[]⟩)),(.bool false)])]/\v=.pointer (some ⟨b,0,none⟩)] mixed j1 j1 j1 (by repeat' (first | exact As.Monos.nil | refine As.Monos.cons ?_ ?_ |(intro _ _ _ hl h;exact h) |(rintro _ _ _ hl ⟨A,c,h,hr⟩;exact⟨A,c,h,hr.mono hl.le⟩) |(rintro _ _ _ hl ⟨b,h,dz⟩;exact⟨b,h,hl.le _ _ dz⟩) | exact fun _ _ _ hl ⟨L',h,e,bf,C4⟩=>⟨L',hl.get h,e,bf,hl.some C4⟩ | exact fun _ _ _ hl ⟨L',h,e,bf⟩=>⟨L',hl.get h,e,bf⟩ | exact fun _ _ _ hl ⟨b,h,e⟩=>⟨b,hl.get h,e⟩)) (fun _=>rfl) (show Step w0 H L w H (((au::a9::a7::av)++([]++([]++([]++ []))))++ [a5]) from by simpa only [List.nil_append,List.append_nil,List.cons_append,List.append_assoc] using F) (C.pk J) (As.QuietsI.c4 ?_ ?_ ?_ ?_ (As.QuietsI.c4 ?_ ?_ ?_ ?_ (As.QuietsI.c2 ?_ ?_ (As.QuietsI.nil)))) (fun bh a w b6 V F C a1=>?_)
        ·refine As.Qx J fun a w M G Y T F C O V=>?_;have I:=F;exact ak C J J fun a C=>As.ql C I
        ·refine As.Qx J fun a w M G Y T F C O V=>?_;have I:=F;exact ac (f:=1) (o2:=1) T67 T3 J J J J C J J fun a C=>As.ql C I
        ·refine As.Qx1 1 J fun a w M G Y T F C O V=>?_;have I:=F;have F:=Step.dropN _ _ F;exact af (v:=(iV x.a)) T3 J C J (F.blkL 0 J) J J fun a C=>As.ql C I
        ·refine As.Qx1 0 J fun a w M G Y T F C O V=>?_;obtain⟨_,C,rfl⟩:=O.g C 2 J;have rr: G 7=none:=O.late 2 7 j1;have bc: As.aents d3 cc [3,7] G=((au::a9::a7::av)):=by
          unfold As.aents;simp only [List.flatMap_cons,List.flatMap_nil,As.conE,show cc 3=some 7 from rfl,show cc 7=none from rfl,show d3 3=(au::a9::a7::av) from rfl,show d3 7= [] from rfl,T,rr,Option.isSome_some,Option.isSome_none,Option.getD_some,Option.getD_none,cond_true,cond_false,List.append_nil,List.nil_append]
         have F: Step w0 H L w M (((au::a9::a7::av))++_):=As.opn (s:=⟨M,G⟩) [] [3,7] [8,9] ((au::a9::a7::av)) J bc F;have F:=Step.perm F (List.perm_append_comm (l₁:=(au::a9::a7::av)) (l₂:=_));have zb:=bY (F.tail (_)) xk j0 j0 fl;refine id (Co func73 C J (zb) ?_);rintro e w ⟨hn,rfl,xl,yg⟩;refine⟨_,rfl,fun a C=>?_⟩;have F:=F.frameR (_) yg;have F:=Step.perm F (List.perm_append_comm (l₁:=_) (l₂:=hn));have c9: As.aents d3 cc [3,7] (As.upd G 3 (hn))=(hn):=by
          unfold As.aents;simp only [List.flatMap_cons,List.flatMap_nil,As.conE,show cc 3=some 7 from rfl,show cc 7=none from rfl,show d3 3=(au::a9::a7::av) from rfl,show d3 7= [] from rfl,As.upd_at,show As.upd G 3 (hn) 7=G 7 from rfl,rr,Option.isSome_some,Option.isSome_none,Option.getD_some,Option.getD_none,cond_true,cond_false,List.append_nil,List.nil_append]
         exact As.qown (i:=3) (dst:=some 322) (s:=⟨M,G⟩) (E:=(hn)) [] [3,7] [8,9] J J T (Le.refl _) C.dfr (As.has_at C) F (.inl c9) ⟨hn,rfl,rfl,xl⟩
        ·refine As.Qx J fun a w M G Y T F C O V=>?_;have I:=F;exact ak C J J fun a C=>As.ql C I
        ·refine As.Qx J fun a w M G Y T F C O V=>?_;have I:=F;exact ac (f:=2) (o2:=2) T67 T3 J J J J C J J fun a C=>As.ql C I
        ·refine As.Qx1 5 J fun a w M G Y T F C O V=>?_;have I:=F;have F:=Step.dropN _ _ F;exact af (v:=(iV x.b)) T3 J C J (F.blkL 0 J) J J fun a C=>As.ql C I
        ·refine As.Qx1 4 J fun a w M G Y T F C O V=>?_;obtain⟨_,C,rfl⟩:=O.g C 6 J;obtain⟨_,C,g9,eu,rfl,r5⟩:=O.g C 3 J;have eu: G 3=some g9:=eu;have bc: As.aents d3 cc [3,7] G=(g9):=by
          unfold As.aents;simp only [List.flatMap_cons,List.flatMap_nil,As.conE,show cc 3=some 7 from rfl,show cc 7=none from rfl,show d3 3=(au::a9::a7::av) from rfl,show d3 7= [] from rfl,T,eu,Option.isSome_some,Option.isSome_none,Option.getD_some,Option.getD_none,cond_true,cond_false,List.append_nil,List.nil_append]
         have F: Step w0 H L w M ((g9)++_):=As.opn (s:=⟨M,G⟩) [] [3,7] [8,9] (g9) J bc F;have F:=Step.perm F (List.perm_append_comm (l₁:=g9) (l₂:=_));have zc:=bY (F.tail (_)) r5 j0 j0 fo;refine id (Co func73 C J (zc) ?_);rintro e w ⟨hp,rfl,xm,yh⟩;refine⟨_,rfl,fun a C=>?_⟩;have F:=F.frameR (_) yh;have F:=Step.perm F (List.perm_append_comm (l₁:=_) (l₂:=hp));have c9: As.aents d3 cc [3,7] (As.upd G 7 (hp))=(hp):=by
          unfold As.aents;simp only [List.flatMap_cons,List.flatMap_nil,As.conE,show cc 3=some 7 from rfl,show cc 7=none from rfl,show d3 3=(au::a9::a7::av) from rfl,show d3 7= [] from rfl,As.upd_at,show As.upd G 7 (hp) 3=G 3 from rfl,eu,Option.isSome_some,Option.isSome_none,Option.getD_some,Option.getD_none,cond_true,cond_false,List.append_nil,List.nil_append]
         exact As.qown (i:=7) (dst:=some 326) (s:=⟨M,G⟩) (E:=(hp)) [] [3,7] [8,9] J J T (Le.refl _) C.dfr (As.has_at C) F (.inl c9) ⟨hp,rfl,rfl,xm,(congrArg Option.isSome eu)⟩
        ·refine As.Qx J fun a w M G Y T F C O V=>?_;have F: Step w0 H L w M (_):=As.opn (s:=⟨M,G⟩) [3,7] [8] [9] [] J (As.con0 T J) F;refine aF (cs:= #[(iV 0),(iV 0),(.string (⟨#[]⟩)),(.bool false)]) T34 F C J J fun ce a w F C=>?_;exact As.qown (i:=8) (dst:=some 23) (s:=⟨M,G⟩) (E:= [(eO ce 34 #[(iV 0),(iV 0),(.string (⟨#[]⟩)),(.bool false)])]) [3,7] [8] [9] J J T (Le.refl _) C.dfr (As.has_at C) F As.con1 ⟨ce,rfl,rfl⟩
        ·refine As.Qx J fun a w M G Y T F C O V=>?_;have F: Step w0 H L w M (_):=As.opn (s:=⟨M,G⟩) [3,7,8] [9] [] [] J (As.con0 T J) F;refine aF (cs:= #[(iV 0),(iV 0),(.string (⟨#[]⟩)),(.bool false)]) T34 F C J J fun cr a w F C=>?_;exact As.qown (i:=9) (dst:=some 24) (s:=⟨M,G⟩) (E:= [(eO cr 34 #[(iV 0),(iV 0),(.string (⟨#[]⟩)),(.bool false)])]) [3,7,8] [9] [] J J T (Le.refl _) C.dfr (As.has_at C) F As.con1 ⟨cr,rfl,rfl⟩
        obtain⟨g4,G⟩:=b6;have Fh: Le H g4:=V.le;dsimp only at a1 F;obtain⟨_,C,g9,eu,rfl,r5⟩:=As.Dd C a1 3 J;have eu: G 3=some (g9):=eu;obtain⟨_,C,mf,p1,rfl,xd,G8⟩:=As.Dd C a1 7 J;have p1: G 7=some (mf):=p1;obtain⟨_,C,ce,oz,rfl⟩:=As.Dd C a1 8 J;have oz: G 8=some [(eO ce 34 #[(iV 0),(iV 0),(.string (⟨#[]⟩)),(.bool false)])]:=oz;obtain⟨_,C,cr,p0,rfl⟩:=As.Dd C a1 9 J;have p0: G 9=some [(eO cr 34 #[(iV 0),(iV 0),(.string (⟨#[]⟩)),(.bool false)])]:=p0;have F: Step w0 H L w g4 (mf++ [(eO ce 34 #[(iV 0),(iV 0),(.string (⟨#[]⟩)),(.bool false)]),(eO cr 34 #[(iV 0),(iV 0),(.string (⟨#[]⟩)),(.bool false)]),a5]):=by
         have X:=F;unfold As.aents at X;simp only [List.flatMap_cons,List.flatMap_nil,As.conE,show cc 3=some 7 from rfl,show cc 7=none from rfl,show cc 8=none from rfl,show cc 9=none from rfl,eu,p1,oz,p0,List.append_assoc,Option.isSome_some,Option.getD_some,cond_true,cond_false,List.cons_append,List.nil_append,List.append_nil] at X;exact X
        have F:=Step.perm F (List.perm_append_comm (l₁:=mf) (l₂:= [(eO ce 34 #[(iV 0),(iV 0),(.string (⟨#[]⟩)),(.bool false)]),(eO cr 34 #[(iV 0),(iV 0),(.string (⟨#[]⟩)),(.bool false)]),a5]));refine any1 (i:=10) j1 J J (an (cs':=(wA Z)) T34 F (i:=0) J C J J J J J J fun a w F C=>?_);refine any1 (i:=11) j1 J J (an (cs':=(wA a0)) T34 F (i:=1) J C J J J J J J fun a w F C=>?_);refine any0 j1 ?_;refine aa (wp_seq ?_);obtain⟨_,e8,rfl,⟨cg,cn,db,dc,bn,bu,rfl,i7,h8⟩,x3⟩:=xd;have Em:=Row.cap i7;have Eb:=Row.cap h8
        let p8:=(As.il [(5,e8)])
        let lu:=(As.sl [])
        let m3:List Ent:=[(eO ce 34 (wA Z)),(eO cr 34 (wA a0)),a5,(eO q 70 (hA p cg a8.length cn db bs.length dc)),bn,bu];have F: Step w0 H L w g4 (e8++ m3):=Step.perm (show Step w0 H L w g4 (m3++e8) from F) (List.perm_append_comm (l₁:= m3) (l₂:=e8));have bk:=F;let q2:List Ent:=[(eO ce 34 (wA Z)),(eO cr 34 (wA a0)),a5,(eO q 70 (hA p cg a8.length cn db bs.length dc)),bn,bu];refine As.c_draw_head (ini:=p8) (sup:=lu) (als:= [5]) (s0:=⟨g4,fun _=>none⟩) (L:= q2) (N:=480) (E:= [(0,(pB q)),(3,(pB cm)),(23,(pB ce)),(24,(pB cr))]) 12 [FcV (pB q),FcV (pB q),FcV (pB q),FcV (pB p),FcV (.agg (wA Z)),fun s v=> ∃(A: Option Addr) (c: Nat) (en: Ent) (L': List Ent),s.ax 5=some (en::L')/\v=(.tuple #[(.string ((partsS (HS.S h) Z).1)),(.slice A (((partsS (HS.S h) Z).2.1).length) c),(iV ((partsS (HS.S h) Z).2.2))])/\Row (.slice A ((partsS (HS.S h) Z).2.1).length c) en 34 4 ((partsS (HS.S h) Z).2.1).length (gfl Wd.cells ((partsS (HS.S h) Z).2.1))/\HK p h L',fun s v=> ∃(A: Option Addr) (c: Nat) (en: Ent) (L': List Ent),s.ax 5=some (en::L')/\v=(.tuple #[(.string ((partsS (HS.S h) Z).1)),(.slice A (((partsS (HS.S h) Z).2.1).length) c),(iV ((partsS (HS.S h) Z).2.2))])/\Row (.slice A ((partsS (HS.S h) Z).2.1).length c) en 34 4 ((partsS (HS.S h) Z).2.1).length (gfl Wd.cells ((partsS (HS.S h) Z).2.1)),FcV (.string ((partsS (HS.S h) Z).1)),fun s v=> ∃(A: Option Addr) (c: Nat) (en: Ent) (L': List Ent),s.ax 5=some (en::L')/\v=(.slice A (((partsS (HS.S h) Z).2.1).length) c)/\Row (.slice A ((partsS (HS.S h) Z).2.1).length c) en 34 4 ((partsS (HS.S h) Z).2.1).length (gfl Wd.cells ((partsS (HS.S h) Z).2.1)),FcV (iV ((partsS (HS.S h) Z).2.2)),FcV (.string ((partsS (HS.S h) Z).1)),fun s v=> ∃(A: Option Addr) (c: Nat) (en: Ent) (L': List Ent),s.ax 5=some (en::L')/\v=(.slice A (((partsS (HS.S h) Z).2.1).length) c)/\Row (.slice A ((partsS (HS.S h) Z).2.1).length c) en 34 4 ((partsS (HS.S h) Z).2.1).length (gfl Wd.cells ((partsS (HS.S h) Z).2.1))] mixed j1 j1 j1 j8 (fun _=>rfl) (show Step w0 H L w g4 ((e8++ [])++ q2) from by simpa only [List.nil_append,List.append_nil,List.cons_append,List.append_assoc] using F) (C.pk J) (As.QuietsI.c4 ?_ ?_ ?_ ?_ (As.QuietsI.c4 ?_ ?_ ?_ ?_ (As.QuietsI.c4 ?_ ?_ ?_ ?_ (As.QuietsI.nil)))) (fun bh a w b6 V F C a1=>?_)
        ·refine As.Qx J fun a w M G Y T F C O V=>?_;have I:=F;exact ak C J J fun a C=>As.ql C I
        ·refine As.Qx1 0 J fun a w M G Y T F C O V=>?_;have I:=F;exact aB C J J fun a C=>As.ql C I
        ·refine As.Qx1 1 J fun a w M G Y T F C O V=>?_;have I:=F;exact ac (f:=0) (o2:=0) T70 T24 J J J J C J J fun a C=>As.ql C I
        ·refine As.Qx1 2 J fun a w M G Y T F C O V=>?_;have I:=F;have F:=Step.dropN _ _ F;exact af (v:=(pB p)) T24 J C J (F.blkL 3 J) J J fun a C=>As.ql C I
        ·refine As.Qx J fun a w M G Y T F C O V=>?_;have I:=F;have F:=Step.dropN _ _ F;exact am (vs:=(wL Z)) T34 J C J (F.blkL 0 J) J (ah J) J fun a C=>As.ql C I
        ·refine As.Qx1 3 J fun a w M G Y T F C O V=>?_;obtain⟨_,C,rfl⟩:=O.g C 4 J;have bc: As.aents p8 lu [5] G=(e8):=by
          unfold As.aents;simp only [List.flatMap_cons,List.flatMap_nil,As.conE,show lu 5=none from rfl,show p8 5=e8 from rfl,T,Option.isSome_some,Option.isSome_none,Option.getD_some,Option.getD_none,cond_true,cond_false,List.append_nil,List.nil_append]
         have F: Step w0 H L w M ((e8)++_):=As.opn (s:=⟨M,G⟩) [] [5] [] (e8) J bc F;have F:=Step.perm F (List.perm_append_comm (l₁:=e8) (l₂:=_));have zd:=c_Parts (F.tail (_)) x3 hdi.ok (x:=Z);refine id (Co func77 C J (zd) ?_);rintro e w ⟨Cl,m8,dq,du,bm,rfl,di,x4,rm⟩;refine⟨_,rfl,fun a C=>?_⟩;have F:=Step.perm (F.frameR (_) rm) List.perm_middle;have F:=Step.perm F (List.Perm.cons _ (List.perm_append_comm (l₁:=_) (l₂:=m8)))
         skip
         exact As.qown (i:=5) (dst:=some 333) (s:=⟨M,G⟩) (E:=(bm::m8)) [] [5] [] J J T rm.le C.dfr (As.has_at C) F As.con1 ⟨dq,du,bm,m8,rfl,rfl,di,x4⟩
        ·refine As.Qx J fun a w M G Y T F C O V=>?_;obtain⟨_,C,dq,du,bm,bx,fw,rfl,di,ir⟩:=O.g C 5 J;have fw: G 5=some (bm::bx):=fw;have ep:=fw;have I:=F;refine id (ak C J J fun a C=>?_);exact As.qdone (s:=⟨M,G⟩) (Le.refl _) C I ⟨_,_,_,_,ep,rfl,di⟩
        ·refine As.Qx J fun a w M G Y T F C O V=>?_;obtain⟨_,C,dq,du,lg,k5,ep,rfl,di⟩:=O.g C 6 J;have I:=F;exact ae (v:=(.string ((partsS (HS.S h) Z).1))) C J J J fun a C=>As.ql C I
        ·refine As.Qx J fun a w M G Y T F C O V=>?_;obtain⟨_,C,dq,du,lg,k5,ep,rfl,di⟩:=O.g C 6 J;have I:=F;refine id (ae (v:=(.slice dq (((partsS (HS.S h) Z).2.1).length) du)) C J J J fun a C=>?_);exact As.qdone (s:=⟨M,G⟩) (Le.refl _) C I ⟨_,_,_,_,ep,rfl,di⟩
        ·refine As.Qx J fun a w M G Y T F C O V=>?_;obtain⟨_,C,dq,du,lg,k5,ep,rfl,di⟩:=O.g C 6 J;have I:=F;exact ae (v:=(iV ((partsS (HS.S h) Z).2.2))) C J J J fun a C=>As.ql C I
        ·refine As.Qx1 7 J fun a w M G Y T F C O V=>?_;have I:=F;exact aG C J J fun a C=>As.ql C I
        ·refine As.Qx J fun a w M G Y T F C O V=>?_;obtain⟨_,C,dq,du,lg,k5,ep,rfl,di⟩:=O.g C 8 J;have I:=F;refine id (aG C J J fun a C=>?_);exact As.qdone (s:=⟨M,G⟩) (Le.refl _) C I ⟨_,_,_,_,ep,rfl,di⟩
        obtain⟨cv,G⟩:=b6;have Fi: Le g4 cv:=V.le;dsimp only at a1 F;obtain⟨_,c7,dq,du,bm,bx,fw,rfl,di,ir⟩:=a1 5 _ _ J J;have fw: G 5=some (bm::bx):=fw;obtain⟨_,C,rfl⟩:=As.Dd C a1 9 J;obtain⟨_,C,rfl⟩:=As.Dd C a1 10 J;obtain⟨_,C,dq,du,lg,k5,ep,rfl,di⟩:=As.Dd C a1 11 J;have em:=Option.some.inj (ep.symm.trans fw);rw [(List.cons.inj em).1] at di;have F: Step w0 H L w cv (bm::bx++ [(eO ce 34 (wA Z)),(eO cr 34 (wA a0)),a5,(eO q 70 (hA p cg a8.length cn db bs.length dc)),bn,bu]):=by
         have X:=F;unfold As.aents at X;simp only [List.flatMap_cons,List.flatMap_nil,As.conE,show lu 5=none from rfl,fw,List.append_assoc,Option.isSome_some,Option.getD_some,cond_true,cond_false,List.cons_append,List.nil_append,List.append_nil] at X;exact X
        have F:=Step.perm F (List.Perm.cons _ (List.perm_append_comm (l₁:=bx) (l₂:= [(eO ce 34 (wA Z)),(eO cr 34 (wA a0)),a5,(eO q 70 (hA p cg a8.length cn db bs.length dc)),bn,bu])));refine any1 (i:=12) j1 J J (aG C J J fun a C=>?_);refine any0 j1 ?_;refine aa (wp_seq (wp_seq ?_));have Aq:=parts_len lj Z;refine ab (lin J (ac (f:=0) (o2:=0) T34 T3 J J J J C J J fun a C=>?_));refine lin J (af (v:=(iV Z.tag)) T3 J C J (F.blkL 1 J) J J fun a C=>?_);refine lin J (bC (i:=Z.tag) (j:=6) C J J J fun a C=>?_);refine Lm J C fun a C=>?_;let K:=(eO q 70 (hA p cg a8.length cn db bs.length dc));let k6:Array Value:=#[(iV Z.tag),(iV Z.n),(.string Z.s),(.bool Z.one),(iV a0.tag),(iV a0.n),(.string a0.s),(.bool a0.one)];let P:=(eO cr 34 (wA a0));let c3:=(eO ce 34 (wA Z));let k8:List (Nat×Value):=[(0,(.agg (wA Z))),(1,(.agg (wA a0)))];let k7:List (Nat×Value):=[(0,(pB q)),(23,(pB ce)),(24,(pB cr))];refine aM (t:=340) C J (fun vv C=>?_) (fun vv C=>?_)
        ·refine Lf J C J J fun a C=>?_;refine Lf J C J J fun a C=>?_;refine lin J (ao C J J J fun a C=>?_);refine Lm J C fun a C=>?_;refine Lf J C J J fun a C=>?_;refine Lf J C J J fun a C=>?_;refine Lf J C J J fun a C=>?_;refine lin J (ao C J J J fun a C=>?_);refine wpList_nil (aa (ap C J (wp_seq ?_)));have F:=F.front 5 J
         let B2:=(As.il [(8, [bn])])
         let s4:=(As.sl [])
         have bk:=F;refine As.c_draw_head (ini:=B2) (sup:=s4) (als:= [8]) (s0:=⟨cv,fun _=>none⟩) (L:=(bm::c3::P::a5::K::bu::bx)) (N:=480) (E:= k7) 9 [FcV (pB q),FcV (pB q),FcV (pB q),FcV (.pointer (some ⟨q,1,none⟩)),FcV (.slice cg a8.length cn),FcV (.agg (wA Z)),FcV (.agg (wA a0)),As.lf (fun H v=> ∃ b,v=.slice (some ⟨b,0,none⟩) 2 2/\H b=some (.cells k6 34 (0,0))),fun s v=> ∃(A: Option Addr) (c: Nat) (en: Ent),s.ax 8=some [en]/\v=.slice A ((a8++([Z,a0]: List Wd)).length) c/\Row (.slice A ((a8++([Z,a0]: List Wd)).length) c) en 34 4 ((a8++([Z,a0]: List Wd)).length) (gfl Wd.cells (a8++([Z,a0]: List Wd)))] mixed j1 j1 j1 j6 (fun _=>rfl) F (C.pk J) (As.QuietsI.c4 ?_ ?_ ?_ ?_ (As.QuietsI.c4 ?_ ?_ ?_ ?_ (As.QuietsI.cons ?_ (As.QuietsI.nil)))) (fun bh a w b6 V F C a1=>?_)
         ·refine As.Qx J fun a w M G Y T F C O V=>?_;have I:=F;exact ak C J J fun a C=>As.ql C I
         ·refine As.Qx J fun a w M G Y T F C O V=>?_;have I:=F;exact ak C J J fun a C=>As.ql C I
         ·refine As.Qx1 1 J fun a w M G Y T F C O V=>?_;have I:=F;exact aB C J J fun a C=>As.ql C I
         ·refine As.Qx1 2 J fun a w M G Y T F C O V=>?_;have I:=F;exact ac (f:=1) (o2:=1) T70 T29 J J J J C J J fun a C=>As.ql C I
         ·refine As.Qx1 3 J fun a w M G Y T F C O V=>?_;have I:=F;have F:=Step.dropN _ _ F;exact af (v:=(.slice cg a8.length cn)) T29 J C J (F.blkL 4 J) J J fun a C=>As.ql C I
         ·refine As.Qx J fun a w M G Y T F C O V=>?_;have I:=F;have F:=Step.dropN _ _ F;exact am (vs:=(wL Z)) T34 J C J (F.blkL 1 J) J (ah J) J fun a C=>As.ql C I
         ·refine As.Qx J fun a w M G Y T F C O V=>?_;have I:=F;have F:=Step.dropN _ _ F;exact am (vs:=(wL a0)) T34 J C J (F.blkL 2 J) J (ah J) J fun a C=>As.ql C I
         ·refine As.Qx1 5 J fun a w M G Y T F C O V=>?_;obtain⟨_,C,rfl⟩:=O.g C 6 J;have I:=F;have bv:=Step.dropN _ _ F;refine id (aY (vs:= k8) (cells:= [(iV Z.tag),(iV Z.n),(.string Z.s),(.bool Z.one),(iV a0.tag),(iV a0.n),(.string a0.s),(.bool a0.one)]) T29.und T34 F C (C.evp J) J J J J fun su a w F C=>?_);obtain⟨Cm,F,A9,nj⟩:=F.give;exact As.qdone (s:=⟨M,G⟩) A9 C F ⟨_,rfl,nj⟩
         ·refine As.Qx1 4 J fun a w M G Y T F C O V=>?_;obtain⟨_,C,su,rfl,nj⟩:=O.g C 7 J;have F: Step w0 H L w M (bn::_):=As.opn (s:=⟨M,G⟩) [] [8] [] [bn] J (As.con0s T J) F;obtain⟨th,Bp,ut,u6,vd,qo,wc⟩:=(RowG.of_lit Wd.len ([Z,a0]: List Wd) nj j3 J).2.2;refine id (aK (news:=(gfl Wd.cells ([Z,a0]: List Wd))) (xs:=(gfl Wd.cells a8)) T29.und T34 J J F i7 C J J (aA Wd.len _) (fun b5=>⟨th,Bp,ut,u6,vd,(qo (fun X=>b5 (by rw [X];rfl))).1,F.blkH (qo (fun X=>b5 (by rw [X];rfl))).2,fun j u b9=>bi Wd.len j4 wc b9⟩) (aV Wd.one' _) j0 J J fun Gj l2 a w gu F C=>?_);rw [<- aH] at gu;obtain⟨jo,km,rfl⟩:=gu.slice;have b0:(a8.length+2)=(a8++([Z,a0]: List Wd)).length:=by have X:=gu.1;rw [aA Wd.len] at X;omega
          rw [show Value.slice jo (a8.length+2) km=Value.slice jo (a8++([Z,a0]: List Wd)).length km from by rw [b0]] at C;rw [b0] at gu;exact As.qown (i:=8) (dst:=some 357) (s:=⟨M,G⟩) (E:= [l2]) [] [8] [] J J T (Le.refl _) C.dfr (As.has_at C) F As.con1 ⟨_,_,_,rfl,rfl,gu⟩
         obtain⟨pm,G⟩:=b6;have Fj: Le cv pm:=V.le;dsimp only at a1 F;obtain⟨_,C,rfl⟩:=As.Dd C a1 0 J;obtain⟨_,C,jo,km,l2,oj,rfl,gu⟩:=As.Dd C a1 8 J;have oj: G 8=some [l2]:=oj;have F: Step w0 H L w pm (l2::bm::c3::P::a5::K::bu::bx):=by
          have X:=F;unfold As.aents at X;simp only [List.flatMap_cons,List.flatMap_nil,As.conE,show s4 8=none from rfl,oj,Option.isSome_some,Option.getD_some,cond_true,cond_false,List.cons_append,List.nil_append,List.append_nil] at X;exact X
         refine any1 (i:=9) j1 J J (aB C J J fun a C=>?_);refine any1 (i:=10) j1 J J (ac (f:=1) (o2:=1) T70 T29 J J J J C J J fun a C=>?_);refine any1 (i:=11) j1 J J (an (cs':=(hA p jo ((a8++([Z,a0]: List Wd)).length) km db bs.length dc)) T29 F (i:=5) J C J J J J J J fun a w F C=>?_);refine any0 j1 ?_;refine aa (wp_ret (ag (aw (ret0r J C ?_))));have F:=F.fd [2,0,2,0,2,0,2,0,3,2,3] J;exact⟨_,_,_,_,_,SR.back2 fl fo,by first | omega |(simp only [List.length_append,List.length_cons,List.length_nil];omega),by first | omega |(simp only [List.length_append,List.length_cons,List.length_nil];omega),⟨_,_,rfl,⟨_,_,_,_,_,_,rfl,gu,h8⟩,ir⟩,rfl,F⟩
        ·refine ad J C J J J (ak C J J fun a C=>?_);refine ad J C J J J (bC (i:=((partsS (HS.S h) Z).2.2)) (j:=0) C J J J fun a C=>?_);refine lin J (aj C J J J fun a C=>?_);refine Lm J C fun a C=>?_;refine aM (t:=344) C J (fun vw C=>?_) (fun vw C=>?_)
         ·refine Lf J C J J fun a C=>?_;refine Lf J C J J fun a C=>?_;refine Lf J C J J fun a C=>?_;refine lin J (ao C J J J fun a C=>?_);refine wpList_nil (aa (ap C J (wp_seq ?_)));have F:=F.front 5 J
          let B3:=(As.il [(8, [bn])])
          let s5:=(As.sl [])
          have bk:=F;refine As.c_draw_head (ini:=B3) (sup:=s5) (als:= [8]) (s0:=⟨cv,fun _=>none⟩) (L:=(bm::c3::P::a5::K::bu::bx)) (N:=480) (E:= k7) 9 [FcV (pB q),FcV (pB q),FcV (pB q),FcV (.pointer (some ⟨q,1,none⟩)),FcV (.slice cg a8.length cn),FcV (.agg (wA Z)),FcV (.agg (wA a0)),As.lf (fun H v=> ∃ b,v=.slice (some ⟨b,0,none⟩) 2 2/\H b=some (.cells k6 34 (0,0))),fun s v=> ∃(A: Option Addr) (c: Nat) (en: Ent),s.ax 8=some [en]/\v=.slice A ((a8++([Z,a0]: List Wd)).length) c/\Row (.slice A ((a8++([Z,a0]: List Wd)).length) c) en 34 4 ((a8++([Z,a0]: List Wd)).length) (gfl Wd.cells (a8++([Z,a0]: List Wd)))] mixed j1 j1 j1 j6 (fun _=>rfl) F (C.pk J) (As.QuietsI.c4 ?_ ?_ ?_ ?_ (As.QuietsI.c4 ?_ ?_ ?_ ?_ (As.QuietsI.cons ?_ (As.QuietsI.nil)))) (fun bh a w b6 V F C a1=>?_)
          ·refine As.Qx J fun a w M G Y T F C O V=>?_;have I:=F;exact ak C J J fun a C=>As.ql C I
          ·refine As.Qx J fun a w M G Y T F C O V=>?_;have I:=F;exact ak C J J fun a C=>As.ql C I
          ·refine As.Qx1 1 J fun a w M G Y T F C O V=>?_;have I:=F;exact aB C J J fun a C=>As.ql C I
          ·refine As.Qx1 2 J fun a w M G Y T F C O V=>?_;have I:=F;exact ac (f:=1) (o2:=1) T70 T29 J J J J C J J fun a C=>As.ql C I
          ·refine As.Qx1 3 J fun a w M G Y T F C O V=>?_;have I:=F;have F:=Step.dropN _ _ F;exact af (v:=(.slice cg a8.length cn)) T29 J C J (F.blkL 4 J) J J fun a C=>As.ql C I
          ·refine As.Qx J fun a w M G Y T F C O V=>?_;have I:=F;have F:=Step.dropN _ _ F;exact am (vs:=(wL Z)) T34 J C J (F.blkL 1 J) J (ah J) J fun a C=>As.ql C I
          ·refine As.Qx J fun a w M G Y T F C O V=>?_;have I:=F;have F:=Step.dropN _ _ F;exact am (vs:=(wL a0)) T34 J C J (F.blkL 2 J) J (ah J) J fun a C=>As.ql C I
          ·refine As.Qx1 5 J fun a w M G Y T F C O V=>?_;obtain⟨_,C,rfl⟩:=O.g C 6 J;have I:=F;have bv:=Step.dropN _ _ F;refine id (aY (vs:= k8) (cells:= [(iV Z.tag),(iV Z.n),(.string Z.s),(.bool Z.one),(iV a0.tag),(iV a0.n),(.string a0.s),(.bool a0.one)]) T29.und T34 F C (C.evp J) J J J J fun sv a w F C=>?_);obtain⟨Cn,F,Aa,nk⟩:=F.give;exact As.qdone (s:=⟨M,G⟩) Aa C F ⟨_,rfl,nk⟩
          ·refine As.Qx1 4 J fun a w M G Y T F C O V=>?_;obtain⟨_,C,sv,rfl,nk⟩:=O.g C 7 J;have F: Step w0 H L w M (bn::_):=As.opn (s:=⟨M,G⟩) [] [8] [] [bn] J (As.con0s T J) F;obtain⟨tj,Br,uv,u8,vf,qq,we⟩:=(RowG.of_lit Wd.len ([Z,a0]: List Wd) nk j3 J).2.2;refine id (aK (news:=(gfl Wd.cells ([Z,a0]: List Wd))) (xs:=(gfl Wd.cells a8)) T29.und T34 J J F i7 C J J (aA Wd.len _) (fun b5=>⟨tj,Br,uv,u8,vf,(qq (fun X=>b5 (by rw [X];rfl))).1,F.blkH (qq (fun X=>b5 (by rw [X];rfl))).2,fun j u b9=>bi Wd.len j4 we b9⟩) (aV Wd.one' _) j0 J J fun Gk l3 a w gv F C=>?_);rw [<- aH] at gv;obtain⟨jp,kn,rfl⟩:=gv.slice;have b0:(a8.length+2)=(a8++([Z,a0]: List Wd)).length:=by have X:=gv.1;rw [aA Wd.len] at X;omega
           rw [show Value.slice jp (a8.length+2) kn=Value.slice jp (a8++([Z,a0]: List Wd)).length kn from by rw [b0]] at C;rw [b0] at gv;exact As.qown (i:=8) (dst:=some 357) (s:=⟨M,G⟩) (E:= [l3]) [] [8] [] J J T (Le.refl _) C.dfr (As.has_at C) F As.con1 ⟨_,_,_,rfl,rfl,gv⟩
          obtain⟨pn,G⟩:=b6;have Fk: Le cv pn:=V.le;dsimp only at a1 F;obtain⟨_,C,rfl⟩:=As.Dd C a1 0 J;obtain⟨_,C,jp,kn,l3,ol,rfl,gv⟩:=As.Dd C a1 8 J;have ol: G 8=some [l3]:=ol;have F: Step w0 H L w pn (l3::bm::c3::P::a5::K::bu::bx):=by
           have X:=F;unfold As.aents at X;simp only [List.flatMap_cons,List.flatMap_nil,As.conE,show s5 8=none from rfl,ol,Option.isSome_some,Option.getD_some,cond_true,cond_false,List.cons_append,List.nil_append,List.append_nil] at X;exact X
          refine any1 (i:=9) j1 J J (aB C J J fun a C=>?_);refine any1 (i:=10) j1 J J (ac (f:=1) (o2:=1) T70 T29 J J J J C J J fun a C=>?_);refine any1 (i:=11) j1 J J (an (cs':=(hA p jp ((a8++([Z,a0]: List Wd)).length) kn db bs.length dc)) T29 F (i:=5) J C J J J J J J fun a w F C=>?_);refine any0 j1 ?_;refine aa (wp_ret (ag (aw (ret0r J C ?_))));have F:=F.fd [2,0,2,0,2,0,2,0,3,2,3] J;exact⟨_,_,_,_,_,SR.back2 fl fo,by first | omega |(simp only [List.length_append,List.length_cons,List.length_nil];omega),by first | omega |(simp only [List.length_append,List.length_cons,List.length_nil];omega),⟨_,_,rfl,⟨_,_,_,_,_,_,rfl,gv,h8⟩,ir⟩,rfl,F⟩
         ·refine ad J C J J J (ak C J J fun a C=>?_);refine ad J C J J J (aJ T29.und C J J fun a C=>?_);refine ad J C J J J (aW (i:=((((partsS (HS.S h) Z).2.1).length: Nat): Int)) (j:=0) C J J J fun a C=>?_);refine lin J (aj C J J J fun a C=>?_);refine wpList_nil (aa (al (t:=348) C J (fun vx C=>?_) (fun vx C=>?_)))
          ·refine ap C J (wp_seq ?_);have F:=F.front 5 J
           let B5:=(As.il [(8, [bn])])
           let s6:=(As.sl [])
           have bk:=F;refine As.c_draw_head (ini:=B5) (sup:=s6) (als:= [8]) (s0:=⟨cv,fun _=>none⟩) (L:=(bm::c3::P::a5::K::bu::bx)) (N:=480) (E:= k7) 9 [FcV (pB q),FcV (pB q),FcV (pB q),FcV (.pointer (some ⟨q,1,none⟩)),FcV (.slice cg a8.length cn),FcV (.agg (wA Z)),FcV (.agg (wA a0)),As.lf (fun H v=> ∃ b,v=.slice (some ⟨b,0,none⟩) 2 2/\H b=some (.cells k6 34 (0,0))),fun s v=> ∃(A: Option Addr) (c: Nat) (en: Ent),s.ax 8=some [en]/\v=.slice A ((a8++([Z,a0]: List Wd)).length) c/\Row (.slice A ((a8++([Z,a0]: List Wd)).length) c) en 34 4 ((a8++([Z,a0]: List Wd)).length) (gfl Wd.cells (a8++([Z,a0]: List Wd)))] mixed j1 j1 j1 j6 (fun _=>rfl) F (C.pk J) (As.QuietsI.c4 ?_ ?_ ?_ ?_ (As.QuietsI.c4 ?_ ?_ ?_ ?_ (As.QuietsI.cons ?_ (As.QuietsI.nil)))) (fun bh a w b6 V F C a1=>?_)
           ·refine As.Qx J fun a w M G Y T F C O V=>?_;have I:=F;exact ak C J J fun a C=>As.ql C I
           ·refine As.Qx J fun a w M G Y T F C O V=>?_;have I:=F;exact ak C J J fun a C=>As.ql C I
           ·refine As.Qx1 1 J fun a w M G Y T F C O V=>?_;have I:=F;exact aB C J J fun a C=>As.ql C I
           ·refine As.Qx1 2 J fun a w M G Y T F C O V=>?_;have I:=F;exact ac (f:=1) (o2:=1) T70 T29 J J J J C J J fun a C=>As.ql C I
           ·refine As.Qx1 3 J fun a w M G Y T F C O V=>?_;have I:=F;have F:=Step.dropN _ _ F;exact af (v:=(.slice cg a8.length cn)) T29 J C J (F.blkL 4 J) J J fun a C=>As.ql C I
           ·refine As.Qx J fun a w M G Y T F C O V=>?_;have I:=F;have F:=Step.dropN _ _ F;exact am (vs:=(wL Z)) T34 J C J (F.blkL 1 J) J (ah J) J fun a C=>As.ql C I
           ·refine As.Qx J fun a w M G Y T F C O V=>?_;have I:=F;have F:=Step.dropN _ _ F;exact am (vs:=(wL a0)) T34 J C J (F.blkL 2 J) J (ah J) J fun a C=>As.ql C I
           ·refine As.Qx1 5 J fun a w M G Y T F C O V=>?_;obtain⟨_,C,rfl⟩:=O.g C 6 J;have I:=F;have bv:=Step.dropN _ _ F;refine id (aY (vs:= k8) (cells:= [(iV Z.tag),(iV Z.n),(.string Z.s),(.bool Z.one),(iV a0.tag),(iV a0.n),(.string a0.s),(.bool a0.one)]) T29.und T34 F C (C.evp J) J J J J fun sw a w F C=>?_);obtain⟨Cp,F,Ab,nl⟩:=F.give;exact As.qdone (s:=⟨M,G⟩) Ab C F ⟨_,rfl,nl⟩
           ·refine As.Qx1 4 J fun a w M G Y T F C O V=>?_;obtain⟨_,C,sw,rfl,nl⟩:=O.g C 7 J;have F: Step w0 H L w M (bn::_):=As.opn (s:=⟨M,G⟩) [] [8] [] [bn] J (As.con0s T J) F;obtain⟨tk,Bs,uw,u9,vg,qr,wf⟩:=(RowG.of_lit Wd.len ([Z,a0]: List Wd) nl j3 J).2.2;refine id (aK (news:=(gfl Wd.cells ([Z,a0]: List Wd))) (xs:=(gfl Wd.cells a8)) T29.und T34 J J F i7 C J J (aA Wd.len _) (fun b5=>⟨tk,Bs,uw,u9,vg,(qr (fun X=>b5 (by rw [X];rfl))).1,F.blkH (qr (fun X=>b5 (by rw [X];rfl))).2,fun j u b9=>bi Wd.len j4 wf b9⟩) (aV Wd.one' _) j0 J J fun Gl l4 a w gw F C=>?_);rw [<- aH] at gw;obtain⟨jq,ko,rfl⟩:=gw.slice;have b0:(a8.length+2)=(a8++([Z,a0]: List Wd)).length:=by have X:=gw.1;rw [aA Wd.len] at X;omega
            rw [show Value.slice jq (a8.length+2) ko=Value.slice jq (a8++([Z,a0]: List Wd)).length ko from by rw [b0]] at C;rw [b0] at gw;exact As.qown (i:=8) (dst:=some 357) (s:=⟨M,G⟩) (E:= [l4]) [] [8] [] J J T (Le.refl _) C.dfr (As.has_at C) F As.con1 ⟨_,_,_,rfl,rfl,gw⟩
           obtain⟨po,G⟩:=b6;have Fl: Le cv po:=V.le;dsimp only at a1 F;obtain⟨_,C,rfl⟩:=As.Dd C a1 0 J;obtain⟨_,C,jq,ko,l4,om,rfl,gw⟩:=As.Dd C a1 8 J;have om: G 8=some [l4]:=om;have F: Step w0 H L w po (l4::bm::c3::P::a5::K::bu::bx):=by
            have X:=F;unfold As.aents at X;simp only [List.flatMap_cons,List.flatMap_nil,As.conE,show s6 8=none from rfl,om,Option.isSome_some,Option.getD_some,cond_true,cond_false,List.cons_append,List.nil_append,List.append_nil] at X;exact X
           refine any1 (i:=9) j1 J J (aB C J J fun a C=>?_);refine any1 (i:=10) j1 J J (ac (f:=1) (o2:=1) T70 T29 J J J J C J J fun a C=>?_);refine any1 (i:=11) j1 J J (an (cs':=(hA p jq ((a8++([Z,a0]: List Wd)).length) ko db bs.length dc)) T29 F (i:=5) J C J J J J J J fun a w F C=>?_);refine any0 j1 ?_;refine aa (wp_ret (ag (aw (ret0r J C ?_))));have F:=F.fd [2,0,2,0,2,0,2,0,3,2,3] J;exact⟨_,_,_,_,_,SR.back2 fl fo,by first | omega |(simp only [List.length_append,List.length_cons,List.length_nil];omega),by first | omega |(simp only [List.length_append,List.length_cons,List.length_nil];omega),⟨_,_,rfl,⟨_,_,_,_,_,_,rfl,gw,h8⟩,ir⟩,rfl,F⟩
          ·refine ai C J (wp_skip (aa (wp_seq ?_)));obtain⟨a2,o7,z6⟩:=cI (k:=x.c) (n:=(((partsS (HS.S h) Z).2.1).length: Int)) (m:=((partsS (HS.S h) Z).2.1).length) J j0
           let p9:=(As.il [(11,bx)])
           let g0:=(As.sl [(17,19),(18,20)])
           have F: Step w0 H L w cv (bx++ [bm,c3,P,a5,K,bn,bu]):=Step.perm (show Step w0 H L w cv ([bm,c3,P,a5,K,bn,bu]++bx) from F) (List.perm_append_comm (l₁:= [bm,c3,P,a5,K,bn,bu]) (l₂:=bx));have bk:=F;let z:Array Value:=#[(.agg (wA ((h.update Z ((a2: Nat): Int) a0).2.1))),(.agg (wA ((h.update Z ((a2: Nat): Int) a0).2.2.1))),(.bool ((h.update Z ((a2: Nat): Int) a0).2.2.2.1)),(iV ((h.update Z ((a2: Nat): Int) a0).2.2.2.2))];refine As.c_draw_head (ini:=p9) (sup:=g0) (als:= [11,17,19,18,20]) (s0:=⟨cv,fun _=>none⟩) (L:= [bm,c3,P,a5,K,bn,bu]) (N:=480) (E:= [(0,(pB q)),(3,(pB cm)),(23,(pB ce)),(24,(pB cr)),(26,(.slice dq (((partsS (HS.S h) Z).2.1).length) du))]) 22 [FcV (pB q),FcV (pB q),FcV (pB q),FcV (pB p),FcV (.agg (wA Z)),FcV (.pointer (some ⟨cm,3,none⟩)),FcV (iV x.c),FcV (.slice dq (((partsS (HS.S h) Z).2.1).length) du),FcV (iV ((((partsS (HS.S h) Z).2.1).length: Nat): Int)),FcV (iV ((a2: Nat): Int)),FcV (.agg (wA a0)),fun s v=> ∃ L',s.ax 11=some L'/\v=(.tuple z)/\HK p (h.update Z ((a2: Nat): Int) a0).1 L',FcV (.tuple z),FcV (.agg (wA ((h.update Z ((a2: Nat): Int) a0).2.1))),FcV (.agg (wA ((h.update Z ((a2: Nat): Int) a0).2.2.1))),FcV (.bool ((h.update Z ((a2: Nat): Int) a0).2.2.2.1)),FcV (iV ((h.update Z ((a2: Nat): Int) a0).2.2.2.2)),fun s v=> ∃ b,s.ax 17=some [(eO b 34 #[(iV 0),(iV 0),(.string (⟨#[]⟩)),(.bool false)])]/\v=.pointer (some ⟨b,0,none⟩),fun s v=> ∃ b,s.ax 18=some [(eO b 34 #[(iV 0),(iV 0),(.string (⟨#[]⟩)),(.bool false)])]/\v=.pointer (some ⟨b,0,none⟩),fun s _=> ∃(b: Nat),s.ax 17=some [(eO b 34 #[(iV 0),(iV 0),(.string (⟨#[]⟩)),(.bool false)])]/\s.ax 19=some [(eO b 34 (wA ((h.update Z ((a2: Nat): Int) a0).2.1)))],fun s _=> ∃(b: Nat),s.ax 18=some [(eO b 34 #[(iV 0),(iV 0),(.string (⟨#[]⟩)),(.bool false)])]/\s.ax 20=some [(eO b 34 (wA ((h.update Z ((a2: Nat): Int) a0).2.2.1)))],FcV (.bool ((h.update Z ((a2: Nat): Int) a0).2.2.2.1))] mixed j1 j1 j1 (by repeat' (first | exact As.Monos.nil | refine As.Monos.cons ?_ ?_ |(intro _ _ _ hl h;exact h) |(rintro _ _ _ hl ⟨A,c,h,hr⟩;exact⟨A,c,h,hr.mono hl.le⟩) |(rintro _ _ _ hl ⟨b,h,dz⟩;exact⟨b,h,hl.le _ _ dz⟩) | exact fun _ _ _ hl ⟨A,c,en,L',h,e,y8⟩=>⟨A,c,en,L',hl.get h,e,y8⟩ | exact fun _ _ _ hl ⟨L',h,e,bf⟩=>⟨L',hl.get h,e,bf⟩ | exact fun _ _ _ hl ⟨b,h,e⟩=>⟨b,hl.get h,e⟩ | exact fun _ _ _ hl ⟨b,h1,h2⟩=>⟨b,hl.get h1,hl.get h2⟩)) (fun _=>rfl) (show Step w0 H L w cv ((bx++([]++([]++([]++([]++ [])))))++ [bm,c3,P,a5,K,bn,bu]) from by simpa only [List.nil_append,List.append_nil,List.cons_append,List.append_assoc] using F) (C.pk J) (As.QuietsI.c4 ?_ ?_ ?_ ?_ (As.QuietsI.c4 ?_ ?_ ?_ ?_ (As.QuietsI.c4 ?_ ?_ ?_ ?_ (As.QuietsI.c4 ?_ ?_ ?_ ?_ (As.QuietsI.c4 ?_ ?_ ?_ ?_ (As.QuietsI.c2 ?_ ?_ (As.QuietsI.nil))))))) (fun bh a w b6 V F C a1=>?_)
           ·refine As.Qx J fun a w M G Y T F C O V=>?_;have I:=F;exact ak C J J fun a C=>As.ql C I
           ·refine As.Qx1 0 J fun a w M G Y T F C O V=>?_;have I:=F;exact aB C J J fun a C=>As.ql C I
           ·refine As.Qx1 1 J fun a w M G Y T F C O V=>?_;have I:=F;exact ac (f:=0) (o2:=0) T70 T24 J J J J C J J fun a C=>As.ql C I
           ·refine As.Qx1 2 J fun a w M G Y T F C O V=>?_;have I:=F;have F:=Step.dropN _ _ F;exact af (v:=(pB p)) T24 J C J (F.blkL 4 J) J J fun a C=>As.ql C I
           ·refine As.Qx J fun a w M G Y T F C O V=>?_;have I:=F;have F:=Step.dropN _ _ F;exact am (vs:=(wL Z)) T34 J C J (F.blkL 1 J) J (ah J) J fun a C=>As.ql C I
           ·refine As.Qx J fun a w M G Y T F C O V=>?_;have I:=F;exact ac (f:=3) (o2:=3) T67 T3 J J J J C J J fun a C=>As.ql C I
           ·refine As.Qx1 5 J fun a w M G Y T F C O V=>?_;have I:=F;have F:=Step.dropN _ _ F;exact af (v:=(iV x.c)) T3 J C J (F.blkL 3 J) J J fun a C=>As.ql C I
           ·refine As.Qx J fun a w M G Y T F C O V=>?_;have I:=F;exact ak C J J fun a C=>As.ql C I
           ·refine As.Qx1 7 J fun a w M G Y T F C O V=>?_;have I:=F;have bv:=Step.dropN _ _ F;exact aJ T29.und C J J fun a C=>As.ql C F
           ·refine As.Qx1 6 J fun a w M G Y T F C O V=>?_;obtain⟨_,C,rfl⟩:=O.g C 8 J;have I:=F;have bv:=Step.dropN _ _ F;have rn:=cG (k:=x.c) (n:=((((partsS (HS.S h) Z).2.1).length: Nat): Int)) F.inv.nil j0;rw [o7] at rn;exact Cs func11 C J (rn) F fun a w C F=>As.ql C F
           ·refine As.Qx J fun a w M G Y T F C O V=>?_;have I:=F;have F:=Step.dropN _ _ F;exact am (vs:=(wL a0)) T34 J C J (F.blkL 2 J) J (ah J) J fun a C=>As.ql C I
           ·refine As.Qx1 3 J fun a w M G Y T F C O V=>?_;obtain⟨_,C,rfl⟩:=O.g C 4 J;obtain⟨_,C,rfl⟩:=O.g C 9 J;obtain⟨_,C,rfl⟩:=O.g C 10 J;have bc: As.aents p9 g0 [11] G=(bx):=by
             unfold As.aents;simp only [List.flatMap_cons,List.flatMap_nil,As.conE,show g0 11=none from rfl,show p9 11=bx from rfl,T,Option.isSome_some,Option.isSome_none,Option.getD_some,Option.getD_none,cond_true,cond_false,List.append_nil,List.nil_append]
            have F: Step w0 H L w M ((bx)++_):=As.opn (s:=⟨M,G⟩) [] [11] [17,19,18,20] (bx) J bc F;have F:=Step.perm F (List.perm_append_comm (l₁:=bx) (l₂:=_));have zf:=c_Update (F.tail (_)) ir hdi.ok (x:=Z) (i:=((a2: Nat): Int)) (y:=a0);refine id (Co func21 C J (zf) ?_);rintro e w ⟨m9,rfl,x5,yi⟩;refine⟨_,rfl,fun a C=>?_⟩;have F:=F.frameR (_) yi;have E5: HS.Ok ((h.update Z ((a2: Nat): Int) a0).1):=HS.Ok.update hdi.ok _ _ _;have F:=Step.perm F (List.perm_append_comm (l₁:=_) (l₂:=m9))
            skip
            exact As.qown (i:=11) (dst:=some 372) (s:=⟨M,G⟩) (E:=(m9)) [] [11] [17,19,18,20] J J T (Le.refl _) C.dfr (As.has_at C) F As.con1 ⟨m9,rfl,rfl,x5⟩
           ·refine As.Qx J fun a w M G Y T F C O V=>?_;obtain⟨_,C,ea,ls,rfl,it⟩:=O.g C 11 J;have I:=F;exact ak C J J fun a C=>As.ql C I
           ·refine As.Qx1 12 J fun a w M G Y T F C O V=>?_;have I:=F;exact ae (v:=(.agg (wA ((h.update Z ((a2: Nat): Int) a0).2.1)))) C J J J fun a C=>As.ql C I
           ·refine As.Qx1 12 J fun a w M G Y T F C O V=>?_;have I:=F;exact ae (v:=(.agg (wA ((h.update Z ((a2: Nat): Int) a0).2.2.1)))) C J J J fun a C=>As.ql C I
           ·refine As.Qx1 12 J fun a w M G Y T F C O V=>?_;have I:=F;exact ae (v:=(.bool ((h.update Z ((a2: Nat): Int) a0).2.2.2.1))) C J J J fun a C=>As.ql C I
           ·refine As.Qx1 12 J fun a w M G Y T F C O V=>?_;have I:=F;exact ae (v:=(iV ((h.update Z ((a2: Nat): Int) a0).2.2.2.2))) C J J J fun a C=>As.ql C I
           ·refine As.Qx J fun a w M G Y T F C O V=>?_;have F: Step w0 H L w M (_):=As.opn (s:=⟨M,G⟩) [11] [17] [19,18,20] [] J (As.con0 T J) F;refine aF (cs:= #[(iV 0),(iV 0),(.string (⟨#[]⟩)),(.bool false)]) T34 F C J J fun ck a w F C=>?_;exact As.qown (i:=17) (dst:=some 28) (s:=⟨M,G⟩) (E:= [(eO ck 34 #[(iV 0),(iV 0),(.string (⟨#[]⟩)),(.bool false)])]) [11] [17] [19,18,20] J J T (Le.refl _) C.dfr (As.has_at C) F As.con1 ⟨ck,rfl,rfl⟩
           ·refine As.Qx J fun a w M G Y T F C O V=>?_;have F: Step w0 H L w M (_):=As.opn (s:=⟨M,G⟩) [11,17,19] [18] [20] [] J (As.con0 T J) F;refine aF (cs:= #[(iV 0),(iV 0),(.string (⟨#[]⟩)),(.bool false)]) T34 F C J J fun cl a w F C=>?_;exact As.qown (i:=18) (dst:=some 29) (s:=⟨M,G⟩) (E:= [(eO cl 34 #[(iV 0),(iV 0),(.string (⟨#[]⟩)),(.bool false)])]) [11,17,19] [18] [20] J J T (Le.refl _) C.dfr (As.has_at C) F As.con1 ⟨cl,rfl,rfl⟩
           ·refine As.Qx J fun a w M G Y T F C O V=>?_;obtain⟨_,C,ck,er,rfl⟩:=O.g C 17 J;have er: G 17=some [(eO ck 34 #[(iV 0),(iV 0),(.string (⟨#[]⟩)),(.bool false)])]:=er;obtain⟨_,C,rfl⟩:=O.g C 13 J;have F: Step w0 H L w M ((eO ck 34 #[(iV 0),(iV 0),(.string (⟨#[]⟩)),(.bool false)])::_):=As.opn (s:=⟨M,G⟩) [11] [17,19] [18,20] [(eO ck 34 #[(iV 0),(iV 0),(.string (⟨#[]⟩)),(.bool false)])] J (As.con2 J J J er T) F;refine id (an (cs':=(wA ((h.update Z ((a2: Nat): Int) a0).2.1))) T34 F (i:=0) J C J J J J J J fun a w F C=>?_);exact As.qown (i:=19) (dst:=none) (s:=⟨M,G⟩) (E:= [(eO ck 34 (wA ((h.update Z ((a2: Nat): Int) a0).2.1)))]) [11] [17,19] [18,20] J J T (Le.refl _) C.dfr (v:=undef) (fun _ h=>by cases h) F (.inl (As.con2' J J)) ⟨ck,er,rfl⟩
           ·refine As.Qx J fun a w M G Y T F C O V=>?_;obtain⟨_,C,cl,es,rfl⟩:=O.g C 18 J;have es: G 18=some [(eO cl 34 #[(iV 0),(iV 0),(.string (⟨#[]⟩)),(.bool false)])]:=es;obtain⟨_,C,rfl⟩:=O.g C 14 J;have F: Step w0 H L w M ((eO cl 34 #[(iV 0),(iV 0),(.string (⟨#[]⟩)),(.bool false)])::_):=As.opn (s:=⟨M,G⟩) [11,17,19] [18,20] [] [(eO cl 34 #[(iV 0),(iV 0),(.string (⟨#[]⟩)),(.bool false)])] J (As.con2 J J J es T) F;refine id (an (cs':=(wA ((h.update Z ((a2: Nat): Int) a0).2.2.1))) T34 F (i:=0) J C J J J J J J fun a w F C=>?_);exact As.qown (i:=20) (dst:=none) (s:=⟨M,G⟩) (E:= [(eO cl 34 (wA ((h.update Z ((a2: Nat): Int) a0).2.2.1)))]) [11,17,19] [18,20] [] J J T (Le.refl _) C.dfr (v:=undef) (fun _ h=>by cases h) F (.inl (As.con2' J J)) ⟨cl,es,rfl⟩
           ·refine As.Qx1 15 J fun a w M G Y T F C O V=>?_;have I:=F;exact aG C J J fun a C=>As.ql C I
           obtain⟨hm,G⟩:=b6;have Fm: Le cv hm:=V.le;dsimp only at a1 F;obtain⟨_,c7,ea,ls,rfl,it⟩:=a1 11 _ _ J J;have ls: G 11=some (ea):=ls;obtain⟨_,C,rfl⟩:=As.Dd C a1 16 J;obtain⟨_,C,ck,er,rfl⟩:=As.Dd C a1 17 J;have er: G 17=some [(eO ck 34 #[(iV 0),(iV 0),(.string (⟨#[]⟩)),(.bool false)])]:=er;obtain⟨_,C,cl,es,rfl⟩:=As.Dd C a1 18 J;have es: G 18=some [(eO cl 34 #[(iV 0),(iV 0),(.string (⟨#[]⟩)),(.bool false)])]:=es;obtain⟨_,c7,rv,At,p3⟩:=a1 19 _ _ J J;have p3: G 19=some [(eO rv 34 (wA ((h.update Z ((a2: Nat): Int) a0).2.1)))]:=p3;obtain rfl: ck=rv:=by have X:=(er).symm.trans At;simpa using X
           obtain⟨_,c7,rx,Au,p4⟩:=a1 20 _ _ J J;have p4: G 20=some [(eO rx 34 (wA ((h.update Z ((a2: Nat): Int) a0).2.2.1)))]:=p4;obtain rfl: cl=rx:=by have X:=(es).symm.trans Au;simpa using X
           obtain⟨_,C,rfl⟩:=As.Dd C a1 21 J;have F: Step w0 H L w hm (ea++ [(eO ck 34 (wA ((h.update Z ((a2: Nat): Int) a0).2.1))),(eO cl 34 (wA ((h.update Z ((a2: Nat): Int) a0).2.2.1))),bm,c3,P,a5,K,bn,bu]):=by
            have X:=F;unfold As.aents at X;simp only [List.flatMap_cons,List.flatMap_nil,As.conE,show g0 11=none from rfl,show g0 17=some 19 from rfl,show g0 19=none from rfl,show g0 18=some 20 from rfl,show g0 20=none from rfl,ls,er,es,p3,p4,List.append_assoc,Option.isSome_some,Option.getD_some,cond_true,cond_false,List.cons_append,List.nil_append,List.append_nil] at X;exact X
           have F:=Step.perm F (List.perm_append_comm (l₁:=ea) (l₂:= [(eO ck 34 (wA ((h.update Z ((a2: Nat): Int) a0).2.1))),(eO cl 34 (wA ((h.update Z ((a2: Nat): Int) a0).2.2.1))),bm,c3,P,a5,K,bn,bu]));have E6: HS.Ok ((h.update Z ((a2: Nat): Int) a0).1):=HS.Ok.update hdi.ok _ _ _;refine any1 (i:=22) j1 J J (aG C J J fun a C=>?_);refine any0 j1 ?_;refine aa (wp_seq (wp_seq (ab (Lm J C fun a C=>?_))));refine lin J (bC (i:=((h.update Z ((a2: Nat): Int) a0).2.2.2.2)) (j:=0) C J J J fun a C=>?_);let D:=(wA ((h.update Z ((a2: Nat): Int) a0).2.1));let m4:=(wA ((h.update Z ((a2: Nat): Int) a0).2.2.1));let hy:=(eO cl 34 m4);let hx:=(eO ck 34 D);refine wpList_nil (aa (aM (t:=378) C J (fun r2 C=>?_) (fun r2 C=>?_)))
           ·refine ap C J (wp_seq ?_);have F:=F.front 7 J
            let B6:=(As.il [(8, [bn])])
            let s7:=(As.sl [])
            have bk:=F;refine As.c_draw_head (ini:=B6) (sup:=s7) (als:= [8]) (s0:=⟨hm,fun _=>none⟩) (L:=(hx::hy::bm::c3::P::a5::K::bu::ea)) (N:=480) (E:= k7) 9 [FcV (pB q),FcV (pB q),FcV (pB q),FcV (.pointer (some ⟨q,1,none⟩)),FcV (.slice cg a8.length cn),FcV (.agg (wA Z)),FcV (.agg (wA a0)),As.lf (fun H v=> ∃ b,v=.slice (some ⟨b,0,none⟩) 2 2/\H b=some (.cells k6 34 (0,0))),fun s v=> ∃(A: Option Addr) (c: Nat) (en: Ent),s.ax 8=some [en]/\v=.slice A ((a8++([Z,a0]: List Wd)).length) c/\Row (.slice A ((a8++([Z,a0]: List Wd)).length) c) en 34 4 ((a8++([Z,a0]: List Wd)).length) (gfl Wd.cells (a8++([Z,a0]: List Wd)))] mixed j1 j1 j1 j6 (fun _=>rfl) F (C.pk J) (As.QuietsI.c4 ?_ ?_ ?_ ?_ (As.QuietsI.c4 ?_ ?_ ?_ ?_ (As.QuietsI.cons ?_ (As.QuietsI.nil)))) (fun bh a w b6 V F C a1=>?_)
            ·refine As.Qx J fun a w M G Y T F C O V=>?_;have I:=F;exact ak C J J fun a C=>As.ql C I
            ·refine As.Qx J fun a w M G Y T F C O V=>?_;have I:=F;exact ak C J J fun a C=>As.ql C I
            ·refine As.Qx1 1 J fun a w M G Y T F C O V=>?_;have I:=F;exact aB C J J fun a C=>As.ql C I
            ·refine As.Qx1 2 J fun a w M G Y T F C O V=>?_;have I:=F;exact ac (f:=1) (o2:=1) T70 T29 J J J J C J J fun a C=>As.ql C I
            ·refine As.Qx1 3 J fun a w M G Y T F C O V=>?_;have I:=F;have F:=Step.dropN _ _ F;exact af (v:=(.slice cg a8.length cn)) T29 J C J (F.blkL 6 J) J J fun a C=>As.ql C I
            ·refine As.Qx J fun a w M G Y T F C O V=>?_;have I:=F;have F:=Step.dropN _ _ F;exact am (vs:=(wL Z)) T34 J C J (F.blkL 3 J) J (ah J) J fun a C=>As.ql C I
            ·refine As.Qx J fun a w M G Y T F C O V=>?_;have I:=F;have F:=Step.dropN _ _ F;exact am (vs:=(wL a0)) T34 J C J (F.blkL 4 J) J (ah J) J fun a C=>As.ql C I
            ·refine As.Qx1 5 J fun a w M G Y T F C O V=>?_;obtain⟨_,C,rfl⟩:=O.g C 6 J;have I:=F;have bv:=Step.dropN _ _ F;refine id (aY (vs:= k8) (cells:= [(iV Z.tag),(iV Z.n),(.string Z.s),(.bool Z.one),(iV a0.tag),(iV a0.n),(.string a0.s),(.bool a0.one)]) T29.und T34 F C (C.evp J) J J J J fun sx a w F C=>?_);obtain⟨Cq,F,Ad,nm⟩:=F.give;exact As.qdone (s:=⟨M,G⟩) Ad C F ⟨_,rfl,nm⟩
            ·refine As.Qx1 4 J fun a w M G Y T F C O V=>?_;obtain⟨_,C,sx,rfl,nm⟩:=O.g C 7 J;have F: Step w0 H L w M (bn::_):=As.opn (s:=⟨M,G⟩) [] [8] [] [bn] J (As.con0s T J) F;obtain⟨tl,Bt,ux,ua,vh,qs,wg⟩:=(RowG.of_lit Wd.len ([Z,a0]: List Wd) nm j3 J).2.2;refine id (aK (news:=(gfl Wd.cells ([Z,a0]: List Wd))) (xs:=(gfl Wd.cells a8)) T29.und T34 J J F i7 C J J (aA Wd.len _) (fun b5=>⟨tl,Bt,ux,ua,vh,(qs (fun X=>b5 (by rw [X];rfl))).1,F.blkH (qs (fun X=>b5 (by rw [X];rfl))).2,fun j u b9=>bi Wd.len j4 wg b9⟩) (aV Wd.one' _) j0 J J fun Gm l5 a w gx F C=>?_);rw [<- aH] at gx;obtain⟨jr,kp,rfl⟩:=gx.slice;have b0:(a8.length+2)=(a8++([Z,a0]: List Wd)).length:=by have X:=gx.1;rw [aA Wd.len] at X;omega
             rw [show Value.slice jr (a8.length+2) kp=Value.slice jr (a8++([Z,a0]: List Wd)).length kp from by rw [b0]] at C;rw [b0] at gx;exact As.qown (i:=8) (dst:=some 387) (s:=⟨M,G⟩) (E:= [l5]) [] [8] [] J J T (Le.refl _) C.dfr (As.has_at C) F As.con1 ⟨_,_,_,rfl,rfl,gx⟩
            obtain⟨pp,G⟩:=b6;have Fn: Le hm pp:=V.le;dsimp only at a1 F;obtain⟨_,C,rfl⟩:=As.Dd C a1 0 J;obtain⟨_,C,jr,kp,l5,oo,rfl,gx⟩:=As.Dd C a1 8 J;have oo: G 8=some [l5]:=oo;have F: Step w0 H L w pp (l5::hx::hy::bm::c3::P::a5::K::bu::ea):=by
             have X:=F;unfold As.aents at X;simp only [List.flatMap_cons,List.flatMap_nil,As.conE,show s7 8=none from rfl,oo,Option.isSome_some,Option.getD_some,cond_true,cond_false,List.cons_append,List.nil_append,List.append_nil] at X;exact X
            refine any1 (i:=9) j1 J J (aB C J J fun a C=>?_);refine any1 (i:=10) j1 J J (ac (f:=1) (o2:=1) T70 T29 J J J J C J J fun a C=>?_);refine any1 (i:=11) j1 J J (an (cs':=(hA p jr ((a8++([Z,a0]: List Wd)).length) kp db bs.length dc)) T29 F (i:=7) J C J J J J J J fun a w F C=>?_);refine any0 j1 ?_;refine aa (wp_ret (ag (aw (ret0r J C ?_))));have F:=F.fd [2,0,2,0,2,0,2,0,2,0,2,0,3,2,3] J;rw [update_no r2] at it;exact⟨_,_,_,_,_,SR.back2 fl fo,by first | omega |(simp only [List.length_append,List.length_cons,List.length_nil];omega),by first | omega |(simp only [List.length_append,List.length_cons,List.length_nil];omega),⟨_,_,rfl,⟨_,_,_,_,_,_,rfl,gx,h8⟩,it⟩,rfl,F⟩
           ·refine ai C J (wp_skip (aa (wp_seq ?_)));have F:=F.front 7 J
            let B7:=(As.il [(8, [bn])])
            let s8:=(As.sl [])
            have bk:=F;refine As.c_draw_head (ini:=B7) (sup:=s8) (als:= [8]) (s0:=⟨hm,fun _=>none⟩) (L:=(hx::hy::bm::c3::P::a5::K::bu::ea)) (N:=480) (E:= [(0,(pB q)),(23,(pB ce)),(28,(pB ck)),(29,(pB cl)),(30,(.bool ((h.update Z ((a2: Nat): Int) a0).2.2.2.1)))]) 9 [FcV (pB q),FcV (pB q),FcV (pB q),FcV (.pointer (some ⟨q,1,none⟩)),FcV (.slice cg a8.length cn),FcV (.agg D),FcV (.agg m4),As.lf (fun H v=> ∃ b,v=.slice (some ⟨b,0,none⟩) 2 2/\H b=some (.cells #[(iV ((((h.update Z ((a2: Nat): Int) a0).2.1)).tag)),(iV ((((h.update Z ((a2: Nat): Int) a0).2.1)).n)),(.string ((((h.update Z ((a2: Nat): Int) a0).2.1)).s)),(.bool ((((h.update Z ((a2: Nat): Int) a0).2.1)).one)),(iV ((((h.update Z ((a2: Nat): Int) a0).2.2.1)).tag)),(iV ((((h.update Z ((a2: Nat): Int) a0).2.2.1)).n)),(.string ((((h.update Z ((a2: Nat): Int) a0).2.2.1)).s)),(.bool ((((h.update Z ((a2: Nat): Int) a0).2.2.1)).one))] 34 (0,0))),fun s v=> ∃(A: Option Addr) (c: Nat) (en: Ent),s.ax 8=some [en]/\v=.slice A ((a8++([((h.update Z ((a2: Nat): Int) a0).2.1),((h.update Z ((a2: Nat): Int) a0).2.2.1)]: List Wd)).length) c/\Row (.slice A ((a8++([((h.update Z ((a2: Nat): Int) a0).2.1),((h.update Z ((a2: Nat): Int) a0).2.2.1)]: List Wd)).length) c) en 34 4 ((a8++([((h.update Z ((a2: Nat): Int) a0).2.1),((h.update Z ((a2: Nat): Int) a0).2.2.1)]: List Wd)).length) (gfl Wd.cells (a8++([((h.update Z ((a2: Nat): Int) a0).2.1),((h.update Z ((a2: Nat): Int) a0).2.2.1)]: List Wd)))] mixed j1 j1 j1 j6 (fun _=>rfl) F (C.pk J) (As.QuietsI.c4 ?_ ?_ ?_ ?_ (As.QuietsI.c4 ?_ ?_ ?_ ?_ (As.QuietsI.cons ?_ (As.QuietsI.nil)))) (fun bh a w b6 V F C a1=>?_)
            ·refine As.Qx J fun a w M G Y T F C O V=>?_;have I:=F;exact ak C J J fun a C=>As.ql C I
            ·refine As.Qx J fun a w M G Y T F C O V=>?_;have I:=F;exact ak C J J fun a C=>As.ql C I
            ·refine As.Qx1 1 J fun a w M G Y T F C O V=>?_;have I:=F;exact aB C J J fun a C=>As.ql C I
            ·refine As.Qx1 2 J fun a w M G Y T F C O V=>?_;have I:=F;exact ac (f:=1) (o2:=1) T70 T29 J J J J C J J fun a C=>As.ql C I
            ·refine As.Qx1 3 J fun a w M G Y T F C O V=>?_;have I:=F;have F:=Step.dropN _ _ F;exact af (v:=(.slice cg a8.length cn)) T29 J C J (F.blkL 6 J) J J fun a C=>As.ql C I
            ·refine As.Qx J fun a w M G Y T F C O V=>?_;have I:=F;have F:=Step.dropN _ _ F;exact am (vs:=(wL ((h.update Z ((a2: Nat): Int) a0).2.1))) T34 J C J (F.blkL 0 J) J (ah J) J fun a C=>As.ql C I
            ·refine As.Qx J fun a w M G Y T F C O V=>?_;have I:=F;have F:=Step.dropN _ _ F;exact am (vs:=(wL ((h.update Z ((a2: Nat): Int) a0).2.2.1))) T34 J C J (F.blkL 1 J) J (ah J) J fun a C=>As.ql C I
            ·refine As.Qx1 5 J fun a w M G Y T F C O V=>?_;obtain⟨_,C,rfl⟩:=O.g C 6 J;have I:=F;have bv:=Step.dropN _ _ F;refine id (aY (vs:= [(0,(.agg D)),(1,(.agg m4))]) (cells:= [(iV ((((h.update Z ((a2: Nat): Int) a0).2.1)).tag)),(iV ((((h.update Z ((a2: Nat): Int) a0).2.1)).n)),(.string ((((h.update Z ((a2: Nat): Int) a0).2.1)).s)),(.bool ((((h.update Z ((a2: Nat): Int) a0).2.1)).one)),(iV ((((h.update Z ((a2: Nat): Int) a0).2.2.1)).tag)),(iV ((((h.update Z ((a2: Nat): Int) a0).2.2.1)).n)),(.string ((((h.update Z ((a2: Nat): Int) a0).2.2.1)).s)),(.bool ((((h.update Z ((a2: Nat): Int) a0).2.2.1)).one))]) T29.und T34 F C (C.evp J) J J J J fun sy a w F C=>?_);obtain⟨Cr,F,Ae,nn⟩:=F.give;exact As.qdone (s:=⟨M,G⟩) Ae C F ⟨_,rfl,nn⟩
            ·refine As.Qx1 4 J fun a w M G Y T F C O V=>?_;obtain⟨_,C,sy,rfl,nn⟩:=O.g C 7 J;have F: Step w0 H L w M (bn::_):=As.opn (s:=⟨M,G⟩) [] [8] [] [bn] J (As.con0s T J) F;obtain⟨tm,Bu,uy,ub,vi,qt,wh⟩:=(RowG.of_lit Wd.len ([((h.update Z ((a2: Nat): Int) a0).2.1),((h.update Z ((a2: Nat): Int) a0).2.2.1)]: List Wd) nn j3 J).2.2;refine id (aK (news:=(gfl Wd.cells ([((h.update Z ((a2: Nat): Int) a0).2.1),((h.update Z ((a2: Nat): Int) a0).2.2.1)]: List Wd))) (xs:=(gfl Wd.cells a8)) T29.und T34 J J F i7 C J J (aA Wd.len _) (fun b5=>⟨tm,Bu,uy,ub,vi,(qt (fun X=>b5 (by rw [X];rfl))).1,F.blkH (qt (fun X=>b5 (by rw [X];rfl))).2,fun j u b9=>bi Wd.len j4 wh b9⟩) (aV Wd.one' _) j0 J J fun Gn gm a w fk F C=>?_);rw [<- aH] at fk;obtain⟨g1,gh,rfl⟩:=fk.slice;have b0:(a8.length+2)=(a8++([((h.update Z ((a2: Nat): Int) a0).2.1),((h.update Z ((a2: Nat): Int) a0).2.2.1)]: List Wd)).length:=by have X:=fk.1;rw [aA Wd.len] at X;omega
             rw [show Value.slice g1 (a8.length+2) gh=Value.slice g1 (a8++([((h.update Z ((a2: Nat): Int) a0).2.1),((h.update Z ((a2: Nat): Int) a0).2.2.1)]: List Wd)).length gh from by rw [b0]] at C;rw [b0] at fk;exact As.qown (i:=8) (dst:=some 398) (s:=⟨M,G⟩) (E:= [gm]) [] [8] [] J J T (Le.refl _) C.dfr (As.has_at C) F As.con1 ⟨_,_,_,rfl,rfl,fk⟩
            obtain⟨k0,G⟩:=b6;have Fo: Le hm k0:=V.le;dsimp only at a1 F;obtain⟨_,C,rfl⟩:=As.Dd C a1 0 J;obtain⟨_,C,g1,gh,gm,op,rfl,fk⟩:=As.Dd C a1 8 J;have op: G 8=some [gm]:=op;have F: Step w0 H L w k0 (gm::hx::hy::bm::c3::P::a5::K::bu::ea):=by
             have X:=F;unfold As.aents at X;simp only [List.flatMap_cons,List.flatMap_nil,As.conE,show s8 8=none from rfl,op,Option.isSome_some,Option.getD_some,cond_true,cond_false,List.cons_append,List.nil_append,List.append_nil] at X;exact X
            refine any1 (i:=9) j1 J J (aB C J J fun a C=>?_);refine any1 (i:=10) j1 J J (ac (f:=1) (o2:=1) T70 T29 J J J J C J J fun a C=>?_);refine any1 (i:=11) j1 J J (an (cs':=(hA p g1 ((a8++([((h.update Z ((a2: Nat): Int) a0).2.1),((h.update Z ((a2: Nat): Int) a0).2.2.1)]: List Wd)).length) gh db bs.length dc)) T29 F (i:=7) J C J J J J J J fun a w F C=>?_);refine any0 j1 ?_;refine aa (wp_seq (ab (Lm J C fun a C=>?_)));refine lin J (aQ C J J fun a C=>?_);let q1:=(eO q 70 (hA p g1 ((a8++([((h.update Z ((a2: Nat): Int) a0).2.1),((h.update Z ((a2: Nat): Int) a0).2.2.1)]: List Wd)).length) gh db bs.length dc));refine wpList_nil (aa (ar (t:=402) C J (fun mw C=>?_) (fun mw C=>?_)))
            ·refine ap C J ?_;have F9:(a8++([((h.update Z ((a2: Nat): Int) a0).2.1),((h.update Z ((a2: Nat): Int) a0).2.2.1)]: List Wd)).length=a8.length+2:=by simp
             let B8:=(As.il [(7, [gm])])
             let s9:=(As.sl [])
             have bk:=F;refine As.c_draw_head (ini:=B8) (sup:=s9) (als:= [7]) (s0:=⟨k0,fun _=>none⟩) (L:=(hx::hy::bm::c3::P::a5::q1::bu::ea)) (N:=480) (E:= [(0,(pB q)),(23,(pB ce))]) 8 [FcV (pB q),FcV (pB q),FcV (pB q),FcV (.pointer (some ⟨q,1,none⟩)),FcV (.slice g1 ((a8++([((h.update Z ((a2: Nat): Int) a0).2.1),((h.update Z ((a2: Nat): Int) a0).2.2.1)]: List Wd)).length) gh),FcV (.agg (wA Z)),As.lf (fun H v=> ∃ b,v=.slice (some ⟨b,0,none⟩) 1 1/\H b=some (.cells (wA Z) 34 (0,0))),fun s v=> ∃(A: Option Addr) (c: Nat) (en: Ent),s.ax 7=some [en]/\v=.slice A (((a8++([((h.update Z ((a2: Nat): Int) a0).2.1),((h.update Z ((a2: Nat): Int) a0).2.2.1)]: List Wd))++([Z]: List Wd)).length) c/\Row (.slice A (((a8++([((h.update Z ((a2: Nat): Int) a0).2.1),((h.update Z ((a2: Nat): Int) a0).2.2.1)]: List Wd))++([Z]: List Wd)).length) c) en 34 4 (((a8++([((h.update Z ((a2: Nat): Int) a0).2.1),((h.update Z ((a2: Nat): Int) a0).2.2.1)]: List Wd))++([Z]: List Wd)).length) (gfl Wd.cells ((a8++([((h.update Z ((a2: Nat): Int) a0).2.1),((h.update Z ((a2: Nat): Int) a0).2.2.1)]: List Wd))++([Z]: List Wd)))] mixed j1 j1 j1 j6 (fun _=>rfl) F (C.pk J) (As.QuietsI.c4 ?_ ?_ ?_ ?_ (As.QuietsI.c4 ?_ ?_ ?_ ?_ (As.QuietsI.nil))) (fun bh a w b6 V F C a1=>?_)
             ·refine As.Qx J fun a w M G Y T F C O V=>?_;have I:=F;exact ak C J J fun a C=>As.ql C I
             ·refine As.Qx J fun a w M G Y T F C O V=>?_;have I:=F;exact ak C J J fun a C=>As.ql C I
             ·refine As.Qx1 1 J fun a w M G Y T F C O V=>?_;have I:=F;exact aB C J J fun a C=>As.ql C I
             ·refine As.Qx1 2 J fun a w M G Y T F C O V=>?_;have I:=F;exact ac (f:=1) (o2:=1) T70 T29 J J J J C J J fun a C=>As.ql C I
             ·refine As.Qx1 3 J fun a w M G Y T F C O V=>?_;have I:=F;have F:=Step.dropN _ _ F;exact af (v:=(.slice g1 ((a8++([((h.update Z ((a2: Nat): Int) a0).2.1),((h.update Z ((a2: Nat): Int) a0).2.2.1)]: List Wd)).length) gh)) T29 J C J (F.blkL 6 J) J J fun a C=>As.ql C I
             ·refine As.Qx J fun a w M G Y T F C O V=>?_;have I:=F;have F:=Step.dropN _ _ F;exact am (vs:=(wL Z)) T34 J C J (F.blkL 3 J) J (ah J) J fun a C=>As.ql C I
             ·refine As.Qx1 5 J fun a w M G Y T F C O V=>?_;have I:=F;have bv:=Step.dropN _ _ F;refine id (aY (vs:= [(0,(.agg (wA Z)))]) (cells:=(wL Z)) T29.und T34 F C (C.evp J) J J J J fun t0 a w F C=>?_);obtain⟨Ct,F,Af,no⟩:=F.give;exact As.qdone (s:=⟨M,G⟩) Af C F ⟨_,rfl,no⟩
             ·refine As.Qx1 4 J fun a w M G Y T F C O V=>?_;obtain⟨_,C,t0,rfl,no⟩:=O.g C 6 J;have F: Step w0 H L w M (gm::_):=As.opn (s:=⟨M,G⟩) [] [7] [] [gm] J (As.con0s T J) F;obtain⟨tn,Bv,uz,uc,vj,qu,wi⟩:=(RowG.of_lit Wd.len ([Z]: List Wd) no j3 J).2.2;refine id (aK (news:=(gfl Wd.cells ([Z]: List Wd))) (xs:=(gfl Wd.cells (a8++([((h.update Z ((a2: Nat): Int) a0).2.1),((h.update Z ((a2: Nat): Int) a0).2.2.1)]: List Wd)))) T29.und T34 J J F fk C J J (aA Wd.len _) (fun b5=>⟨tn,Bv,uz,uc,vj,(qu (fun X=>b5 (by rw [X];rfl))).1,F.blkH (qu (fun X=>b5 (by rw [X];rfl))).2,fun j u b9=>bi Wd.len j4 wi b9⟩) (aV Wd.one' _) j0 J J fun Go l6 a w gy F C=>?_);rw [<- aH] at gy;obtain⟨jt,kq,rfl⟩:=gy.slice;have b0:((a8++([((h.update Z ((a2: Nat): Int) a0).2.1),((h.update Z ((a2: Nat): Int) a0).2.2.1)]: List Wd)).length+1)=((a8++([((h.update Z ((a2: Nat): Int) a0).2.1),((h.update Z ((a2: Nat): Int) a0).2.2.1)]: List Wd))++([Z]: List Wd)).length:=by have X:=gy.1;rw [aA Wd.len] at X;omega
              rw [show Value.slice jt ((a8++([((h.update Z ((a2: Nat): Int) a0).2.1),((h.update Z ((a2: Nat): Int) a0).2.2.1)]: List Wd)).length+1) kq=Value.slice jt ((a8++([((h.update Z ((a2: Nat): Int) a0).2.1),((h.update Z ((a2: Nat): Int) a0).2.2.1)]: List Wd))++([Z]: List Wd)).length kq from by rw [b0]] at C;rw [b0] at gy;exact As.qown (i:=7) (dst:=some 410) (s:=⟨M,G⟩) (E:= [l6]) [] [7] [] J J T (Le.refl _) C.dfr (As.has_at C) F As.con1 ⟨_,_,_,rfl,rfl,gy⟩
             obtain⟨pq,G⟩:=b6;have Fp: Le k0 pq:=V.le;dsimp only at a1 F;obtain⟨_,C,rfl⟩:=As.Dd C a1 0 J;obtain⟨_,C,jt,kq,l6,oq,rfl,gy⟩:=As.Dd C a1 7 J;have oq: G 7=some [l6]:=oq;have F: Step w0 H L w pq (l6::hx::hy::bm::c3::P::a5::q1::bu::ea):=by
              have X:=F;unfold As.aents at X;simp only [List.flatMap_cons,List.flatMap_nil,As.conE,show s9 7=none from rfl,oq,Option.isSome_some,Option.getD_some,cond_true,cond_false,List.cons_append,List.nil_append,List.append_nil] at X;exact X
             refine any1 (i:=8) j1 J J (aB C J J fun a C=>?_);refine any1 (i:=9) j1 J J (ac (f:=1) (o2:=1) T70 T29 J J J J C J J fun a C=>?_);refine any1 (i:=10) j1 J J (an (cs':=(hA p jt (((a8++([((h.update Z ((a2: Nat): Int) a0).2.1),((h.update Z ((a2: Nat): Int) a0).2.2.1)]: List Wd))++([Z]: List Wd)).length) kq db bs.length dc)) T29 F (i:=7) J C J J J J J J fun a w F C=>?_);refine any0 j1 ?_;refine aq (ret0 J C ?_);have F:=F.fd [2,0,2,0,2,0,2,0,2,0,2,0,3,2,3] J;exact⟨_,_,_,_,_,SR.updc fl fo j0 j0 J j0 j0 (by simpa using mw),by first | omega |(simp only [List.length_append,List.length_cons,List.length_nil];omega),by first | omega |(simp only [List.length_append,List.length_cons,List.length_nil];omega),⟨_,_,rfl,⟨_,_,_,_,_,_,rfl,gy,h8⟩,it⟩,rfl,F⟩
            ·refine ai C J (wp_skip (aq (ret0 J C ?_)));have F:=F.fd [2,0,2,0,2,0,2,0,2,0,2,0,3,2,3] J;exact⟨_,_,_,_,_,SR.updi (lq.trans qg) fl fo j0 j0 J j0 j0 (by simpa using mw),by first | omega |(simp only [List.length_append,List.length_cons,List.length_nil];omega),by first | omega |(simp only [List.length_append,List.length_cons,List.length_nil];omega),⟨_,_,rfl,⟨_,_,_,_,_,_,rfl,fk,h8⟩,it⟩,rfl,F⟩
       ·refine ai C J (wp_seq (ab (lin J (aW (i:=kk) (j:=7) C J J J fun a C=>?_))));refine Ls J C fun a C=>?_;refine wpList_nil (aa (al (t:=413) C J (fun vz C=>?_) (fun vz C=>?_)))
        ·refine ap C J (ab (Lm J C fun a C=>?_));refine lin J (ac (f:=1) (o2:=1) T67 T3 J J J J C J J fun a C=>?_);refine lin J (af (v:=(iV x.a)) T3 J C J (F.blkL 0 J) J J fun a C=>?_);have xn: HM q p ws bs h (au::a9::a7::av):=⟨[au,a9,a7],av,rfl,⟨_,_,_,_,_,_,rfl,d2,cu⟩,bf⟩;obtain⟨⟨Gy,C6⟩,o0⟩: ∃ bl,shareP ws x.a=bl:=⟨_,rfl⟩;have F1: C6.length<=ws.length:=by have X:=shareP_len ws x.a;rw [o0] at X;first | exact X | exact Nat.le_of_eq X
         have zg:=c_mshared (F.tail [a5]) xn j0 j0 o0;refine lin J (Co func74 C J (zg) ?_);rintro e w ⟨D8,rfl,xo,yj⟩;refine⟨_,rfl,fun a C=>?_⟩;have F:=F.frameR [a5] yj;obtain⟨_,Dg,rfl,⟨Ca,Do,C7,Dl,E0,Ds,rfl,ri,rd⟩,x6⟩:=xo;have En:=Row.cap ri;have Ec:=Row.cap rd;refine wpList_nil (aq (ret0 J C ?_));have F:=F.drop;have Aw:=o0;exact⟨_,_,_,_,_,(by have X:=SR.shr (x:=x) (h:=h) (ws:=ws) (bs:=bs);rw [Aw] at X;exact X),by first | omega |(simp only [List.length_append,List.length_cons,List.length_nil];omega),by first | omega |(simp only [List.length_append,List.length_cons,List.length_nil];omega),⟨_,_,rfl,⟨_,_,_,_,_,_,rfl,ri,rd⟩,x6⟩,rfl,F⟩
        ·refine ai C J (wp_seq (ab (lin J (aW (i:=kk) (j:=8) C J J J fun a C=>?_))));refine Ls J C fun a C=>?_;refine wpList_nil (aa (al (t:=419) C J (fun w1 C=>?_) (fun w1 C=>?_)))
         ·refine ap C J (wp_seq (ab (Lm J C fun a C=>?_)));refine lin J (ac (f:=1) (o2:=1) T67 T3 J J J J C J J fun a C=>?_);refine lin J (af (v:=(iV x.a)) T3 J C J (F.blkL 0 J) J J fun a C=>?_);have xp: HM q p ws bs h (au::a9::a7::av):=⟨[au,a9,a7],av,rfl,⟨_,_,_,_,_,_,rfl,d2,cu⟩,bf⟩;obtain⟨⟨a4,ay⟩,fp⟩: ∃ bl,takeP ws x.a=bl:=⟨_,rfl⟩;have F3: ay.length<=ws.length:=by have X:=bz ws x.a;rw [fp] at X;first | exact X | exact Nat.le_of_eq X
          have zh:=bY (F.tail [a5]) xp j0 j0 fp;refine lin J (Co func73 C J (zh) ?_);rintro e w ⟨D9,rfl,xq,yk⟩;refine⟨_,rfl,fun a C=>?_⟩;have F:=F.frameR [a5] yk;obtain⟨_,bw,rfl,⟨ch,co,e3,eb,bq,c0,rfl,ha,h9⟩,i5⟩:=xq;have Eo:=Row.cap ha;have Ed:=Row.cap h9;refine lin J (aF (cs:= #[(iV 0),(iV 0),(.string (⟨#[]⟩)),(.bool false)]) T34 F C J J fun hz a w F C=>?_);refine lin J (an (cs':=(wA a4)) T34 F (i:=0) J C J J J J J J fun a w F C=>?_);refine wpList_nil (aa (wp_seq (wp_seq ?_)))
          let jc:=(As.il [])
          let hh:=(As.sl [(9,10)])
          have bk:=F;let B:List Ent:=[(eO hz 34 (wA a4)),a5,(eO q 70 (hA p ch ay.length co e3 bs.length eb)),bq,c0];let k9:=(wA ((valueS (HS.S h) a4).1));refine As.c_draw_head (ini:=jc) (sup:=hh) (als:= [9,10]) (s0:=⟨H,fun _=>none⟩) (L:=((eO hz 34 (wA a4))::a5::(eO q 70 (hA p ch ay.length co e3 bs.length eb))::bq::c0::bw)) (N:=480) (E:= [(0,(pB q)),(31,(pB hz))]) 11 [FcV (pB q),FcV (pB q),FcV (pB q),FcV (pB p),FcV (.agg (wA a4)),FcV (.tuple #[(.agg k9),(iV ((valueS (HS.S h) a4).2))]),FcV (.tuple #[(.agg k9),(iV ((valueS (HS.S h) a4).2))]),FcV (.agg k9),FcV (iV ((valueS (HS.S h) a4).2)),fun s v=> ∃ b,s.ax 9=some [(eO b 34 #[(iV 0),(iV 0),(.string (⟨#[]⟩)),(.bool false)])]/\v=.pointer (some ⟨b,0,none⟩),fun s _=> ∃(b: Nat),s.ax 9=some [(eO b 34 #[(iV 0),(iV 0),(.string (⟨#[]⟩)),(.bool false)])]/\s.ax 10=some [(eO b 34 k9)]] mixed j1 j1 j1 (by repeat' (first | exact As.Monos.nil | refine As.Monos.cons ?_ ?_ |(intro _ _ _ hl h;exact h) |(rintro _ _ _ hl ⟨A,c,h,hr⟩;exact⟨A,c,h,hr.mono hl.le⟩) |(rintro _ _ _ hl ⟨b,h,dz⟩;exact⟨b,h,hl.le _ _ dz⟩) | exact fun _ _ _ hl ⟨b,h,e⟩=>⟨b,hl.get h,e⟩ | exact fun _ _ _ hl ⟨b,h1,h2⟩=>⟨b,hl.get h1,hl.get h2⟩)) (fun _=>rfl) F (C.pk J) (As.QuietsI.c4 ?_ ?_ ?_ ?_ (As.QuietsI.c4 ?_ ?_ ?_ ?_ (As.QuietsI.c2 ?_ ?_ (As.QuietsI.cons ?_ (As.QuietsI.nil))))) (fun bh a w b6 V F C a1=>?_)
          ·refine As.Qx J fun a w M G Y T F C O V=>?_;have I:=F;exact ak C J J fun a C=>As.ql C I
          ·refine As.Qx1 0 J fun a w M G Y T F C O V=>?_;have I:=F;exact aB C J J fun a C=>As.ql C I
          ·refine As.Qx1 1 J fun a w M G Y T F C O V=>?_;have I:=F;exact ac (f:=0) (o2:=0) T70 T24 J J J J C J J fun a C=>As.ql C I
          ·refine As.Qx1 2 J fun a w M G Y T F C O V=>?_;have I:=F;have F:=Step.dropN _ _ F;exact af (v:=(pB p)) T24 J C J (F.blkL 2 J) J J fun a C=>As.ql C I
          ·refine As.Qx J fun a w M G Y T F C O V=>?_;have I:=F;have F:=Step.dropN _ _ F;exact am (vs:=(wL a4)) T34 J C J (F.blkL 0 J) J (ah J) J fun a C=>As.ql C I
          ·refine As.Qx1 3 J fun a w M G Y T F C O V=>?_;obtain⟨_,C,rfl⟩:=O.g C 4 J;have I:=F;have bv:=Step.dropN _ _ F;have F:=Step.perm F (List.Perm.of_eq (List.append_assoc (As.aents jc hh [9,10] G) B bw).symm);have zi:=c_Deref (F.tail ((As.aents jc hh [9,10] G)++ B)) i5 (x:=a4);refine id (Co func40 C J (zi) ?_);rintro e w ⟨rfl,yl⟩;refine⟨_,rfl,fun a C=>?_⟩;have F:=F.frameR ((As.aents jc hh [9,10] G)++ B) yl;have F:=Step.perm F (List.Perm.of_eq (List.append_assoc (As.aents jc hh [9,10] G) B bw));exact As.qdone (s:=⟨M,G⟩) (Le.refl _) C F J
          ·refine As.Qx1 5 J fun a w M G Y T F C O V=>?_;have I:=F;exact ak C J J fun a C=>As.ql C I
          ·refine As.Qx1 6 J fun a w M G Y T F C O V=>?_;have I:=F;exact ae (v:=(.agg (wA ((valueS (HS.S h) a4).1)))) C J J J fun a C=>As.ql C I
          ·refine As.Qx1 6 J fun a w M G Y T F C O V=>?_;have I:=F;exact ae (v:=(iV ((valueS (HS.S h) a4).2))) C J J J fun a C=>As.ql C I
          ·refine As.Qx J fun a w M G Y T F C O V=>?_;have F: Step w0 H L w M (_):=As.opn (s:=⟨M,G⟩) [] [9] [10] [] J (As.con0 T J) F;refine aF (cs:= #[(iV 0),(iV 0),(.string (⟨#[]⟩)),(.bool false)]) T34 F C J J fun cw a w F C=>?_;exact As.qown (i:=9) (dst:=some 32) (s:=⟨M,G⟩) (E:= [(eO cw 34 #[(iV 0),(iV 0),(.string (⟨#[]⟩)),(.bool false)])]) [] [9] [10] J J T (Le.refl _) C.dfr (As.has_at C) F As.con1 ⟨cw,rfl,rfl⟩
          ·refine As.Qx J fun a w M G Y T F C O V=>?_;obtain⟨_,C,cw,et,rfl⟩:=O.g C 9 J;have et: G 9=some [(eO cw 34 #[(iV 0),(iV 0),(.string (⟨#[]⟩)),(.bool false)])]:=et;obtain⟨_,C,rfl⟩:=O.g C 7 J;have F: Step w0 H L w M ((eO cw 34 #[(iV 0),(iV 0),(.string (⟨#[]⟩)),(.bool false)])::_):=As.opn (s:=⟨M,G⟩) [] [9,10] [] [(eO cw 34 #[(iV 0),(iV 0),(.string (⟨#[]⟩)),(.bool false)])] J (As.con2 J J J et T) F;refine id (an (cs':=(wA ((valueS (HS.S h) a4).1))) T34 F (i:=0) J C J J J J J J fun a w F C=>?_);exact As.qown (i:=10) (dst:=none) (s:=⟨M,G⟩) (E:= [(eO cw 34 (wA ((valueS (HS.S h) a4).1)))]) [] [9,10] [] J J T (Le.refl _) C.dfr (v:=undef) (fun _ h=>by cases h) F (.inl (As.con2' J J)) ⟨cw,et,rfl⟩
          obtain⟨ci,G⟩:=b6;have Fq: Le H ci:=V.le;dsimp only at a1 F;obtain⟨_,C,rfl⟩:=As.Dd C a1 8 J;obtain⟨_,C,cw,et,rfl⟩:=As.Dd C a1 9 J;have et: G 9=some [(eO cw 34 #[(iV 0),(iV 0),(.string (⟨#[]⟩)),(.bool false)])]:=et;obtain⟨_,c7,ry,Av,p5⟩:=a1 10 _ _ J J;have p5: G 10=some [(eO ry 34 (wA ((valueS (HS.S h) a4).1)))]:=p5;obtain rfl: cw=ry:=by have X:=(et).symm.trans Av;simpa using X
          have F: Step w0 H L w ci ((eO cw 34 (wA ((valueS (HS.S h) a4).1)))::(eO hz 34 (wA a4))::a5::(eO q 70 (hA p ch ay.length co e3 bs.length eb))::bq::c0::bw):=by
           have X:=F;unfold As.aents at X;simp only [List.flatMap_cons,List.flatMap_nil,As.conE,show hh 9=some 10 from rfl,show hh 10=none from rfl,et,p5,Option.isSome_some,Option.getD_some,cond_true,cond_false,List.cons_append,List.nil_append,List.append_nil] at X;exact X
          refine any1 (i:=11) j1 J J (aG C J J fun a C=>?_);refine any0 j1 ?_;refine aa (wp_seq (ab (lin J (ac (f:=0) (o2:=0) T34 T3 J J J J C J J fun a C=>?_))));refine lin J (af (v:=(iV a4.tag)) T3 J C J (F.blkL 1 J) J J fun a C=>?_);refine lin J (aW (i:=a4.tag) (j:=4) C J J J fun a C=>?_);refine Lm J C fun a C=>?_;let W:=(eO cw 34 (wA ((valueS (HS.S h) a4).1)));let U:=(eO q 70 (hA p ch ay.length co e3 bs.length eb));let c8:=(eO hz 34 (wA a4));let hw:List (Nat×Value):=[(0,(pB q)),(31,(pB hz))];let ii:List (Nat×Value):=[(0,(.agg (wA a4)))];refine al (t:=437) C J (fun w2 C=>?_) (fun w2 C=>?_)
          ·refine ad J C J J J (ac (f:=3) (o2:=3) T34 T4 J J J J C J J fun a C=>?_);refine ad J C J J J (af (v:=(.bool a4.one)) T4 J C J (F.blkL 1 J) J J fun a C=>?_);refine lin J (ao C J J J fun a C=>?_);refine Lm J C fun a C=>?_;refine ar (t:=441) C J (fun w3 C=>?_) (fun w3 C=>?_)
           ·refine ad J C J J J (ak C J J fun a C=>?_);refine ad J C J J J (aW (i:=((valueS (HS.S h) a4).2)) (j:=0) C J J J fun a C=>?_);refine lin J (ao C J J J fun a C=>?_);refine Lm J C fun a C=>?_;refine al (t:=445) C J (fun w4 C=>?_) (fun w4 C=>?_)
            ·refine ad J C J J J (am (vs:=(wL ((valueS (HS.S h) a4).1))) T34 J C J (F.blkL 0 J) J (ah J) J fun a C=>?_);refine ad J C J J J (am (vs:=(wL a4)) T34 J C J (F.blkL 1 J) J (ah J) J fun a C=>?_);refine ad J C J J J (fm (x1:=((valueS (HS.S h) a4).1)) (y1:=a4) C J J J fun a C=>?_);refine lin J (ao C J J J fun a C=>?_);refine wpList_nil (aa (aM (t:=449) C J (fun w5 C=>?_) (fun w5 C=>?_)))
             ·refine ap C J (wp_seq ?_)
              let pa:=(As.il [(5,bw)])
              let lv:=(As.sl [])
              have F: Step w0 H L w ci (bw++ [W,c8,a5,U,bq,c0]):=Step.perm (show Step w0 H L w ci ([W,c8,a5,U,bq,c0]++bw) from F) (List.perm_append_comm (l₁:= [W,c8,a5,U,bq,c0]) (l₂:=bw));have bk:=F;refine As.c_draw_head (ini:=pa) (sup:=lv) (als:= [5]) (s0:=⟨ci,fun _=>none⟩) (L:= [W,c8,a5,U,bq,c0]) (N:=480) (E:= hw) 10 [FcV (pB q),FcV (pB q),FcV (pB q),FcV (pB p),FcV (.agg (wA a4)),fun s v=> ∃(A: Option Addr) (c: Nat) (en: Ent) (L': List Ent),s.ax 5=some (en::L')/\v=(.tuple #[(.slice A (((h.free a4).2.1).length) c),(iV ((h.free a4).2.2))])/\Row (.slice A ((h.free a4).2.1).length c) en 34 4 ((h.free a4).2.1).length (gfl Wd.cells ((h.free a4).2.1))/\HK p ((h.free a4).1) L',fun s v=> ∃(A: Option Addr) (c: Nat) (en: Ent) (L': List Ent),s.ax 5=some (en::L')/\v=(.tuple #[(.slice A (((h.free a4).2.1).length) c),(iV ((h.free a4).2.2))])/\Row (.slice A ((h.free a4).2.1).length c) en 34 4 ((h.free a4).2.1).length (gfl Wd.cells ((h.free a4).2.1)),fun s v=> ∃(A: Option Addr) (c: Nat) (en: Ent) (L': List Ent),s.ax 5=some (en::L')/\v=(.slice A (((h.free a4).2.1).length) c)/\Row (.slice A ((h.free a4).2.1).length c) en 34 4 ((h.free a4).2.1).length (gfl Wd.cells ((h.free a4).2.1)),FcV (iV ((h.free a4).2.2)),fun s v=> ∃(A: Option Addr) (c: Nat) (en: Ent) (L': List Ent),s.ax 5=some (en::L')/\v=(.slice A (((h.free a4).2.1).length) c)/\Row (.slice A ((h.free a4).2.1).length c) en 34 4 ((h.free a4).2.1).length (gfl Wd.cells ((h.free a4).2.1))] mixed j1 j1 j1 j8 (fun _=>rfl) (show Step w0 H L w ci ((bw++ [])++ [W,c8,a5,U,bq,c0]) from by simpa only [List.nil_append,List.append_nil,List.cons_append,List.append_assoc] using F) (C.pk J) (As.QuietsI.c4 ?_ ?_ ?_ ?_ (As.QuietsI.c4 ?_ ?_ ?_ ?_ (As.QuietsI.c2 ?_ ?_ (As.QuietsI.nil)))) (fun bh a w b6 V F C a1=>?_)
              ·refine As.Qx J fun a w M G Y T F C O V=>?_;have I:=F;exact ak C J J fun a C=>As.ql C I
              ·refine As.Qx1 0 J fun a w M G Y T F C O V=>?_;have I:=F;exact aB C J J fun a C=>As.ql C I
              ·refine As.Qx1 1 J fun a w M G Y T F C O V=>?_;have I:=F;exact ac (f:=0) (o2:=0) T70 T24 J J J J C J J fun a C=>As.ql C I
              ·refine As.Qx1 2 J fun a w M G Y T F C O V=>?_;have I:=F;have F:=Step.dropN _ _ F;exact af (v:=(pB p)) T24 J C J (F.blkL 3 J) J J fun a C=>As.ql C I
              ·refine As.Qx J fun a w M G Y T F C O V=>?_;have I:=F;have F:=Step.dropN _ _ F;exact am (vs:=(wL a4)) T34 J C J (F.blkL 1 J) J (ah J) J fun a C=>As.ql C I
              ·refine As.Qx1 3 J fun a w M G Y T F C O V=>?_;obtain⟨_,C,rfl⟩:=O.g C 4 J;have bc: As.aents pa lv [5] G=(bw):=by
                unfold As.aents;simp only [List.flatMap_cons,List.flatMap_nil,As.conE,show lv 5=none from rfl,show pa 5=bw from rfl,T,Option.isSome_some,Option.isSome_none,Option.getD_some,Option.getD_none,cond_true,cond_false,List.append_nil,List.nil_append]
               have F: Step w0 H L w M ((bw)++_):=As.opn (s:=⟨M,G⟩) [] [5] [] (bw) J bc F;have F:=Step.perm F (List.perm_append_comm (l₁:=bw) (l₂:=_));have zj:=gc (F.tail (_)) i5 hdi.ok (x:=a4);refine id (Co func12 C J (zj) ?_);rintro e w ⟨ma,ez,fc,ej,rfl,d0,x7,yn⟩;refine⟨_,rfl,fun a C=>?_⟩;have F:=Step.perm (F.frameR (_) yn) List.perm_middle;have F:=Step.perm F (List.Perm.cons _ (List.perm_append_comm (l₁:=_) (l₂:=ma)))
               skip
               exact As.qown (i:=5) (dst:=some 456) (s:=⟨M,G⟩) (E:=(ej::ma)) [] [5] [] J J T (Le.refl _) C.dfr (As.has_at C) F As.con1 ⟨ez,fc,ej,ma,rfl,rfl,d0,x7⟩
              ·refine As.Qx J fun a w M G Y T F C O V=>?_;obtain⟨_,C,ez,fc,ej,ga,fx,rfl,d0,lh⟩:=O.g C 5 J;have fx: G 5=some (ej::ga):=fx;have fr:=fx;have I:=F;refine id (ak C J J fun a C=>?_);exact As.qdone (s:=⟨M,G⟩) (Le.refl _) C I ⟨_,_,_,_,fr,rfl,d0⟩
              ·refine As.Qx J fun a w M G Y T F C O V=>?_;obtain⟨_,C,ez,fc,ms,mg,fr,rfl,d0⟩:=O.g C 6 J;have I:=F;refine id (ae (v:=(.slice ez (((h.free a4).2.1).length) fc)) C J J J fun a C=>?_);exact As.qdone (s:=⟨M,G⟩) (Le.refl _) C I ⟨_,_,_,_,fr,rfl,d0⟩
              ·refine As.Qx J fun a w M G Y T F C O V=>?_;obtain⟨_,C,ez,fc,ms,mg,fr,rfl,d0⟩:=O.g C 6 J;have I:=F;exact ae (v:=(iV ((h.free a4).2.2))) C J J J fun a C=>As.ql C I
              ·refine As.Qx J fun a w M G Y T F C O V=>?_;obtain⟨_,C,ez,fc,ms,mg,fr,rfl,d0⟩:=O.g C 7 J;have I:=F;refine id (aG C J J fun a C=>?_);exact As.qdone (s:=⟨M,G⟩) (Le.refl _) C I ⟨_,_,_,_,fr,rfl,d0⟩
              obtain⟨k1,G⟩:=b6;have Fr: Le ci k1:=V.le;dsimp only at a1 F;obtain⟨_,c7,ez,fc,ej,ga,fx,rfl,d0,lh⟩:=a1 5 _ _ J J;have fx: G 5=some (ej::ga):=fx;obtain⟨_,C,rfl⟩:=As.Dd C a1 8 J;obtain⟨_,C,ez,fc,ms,mg,fr,rfl,d0⟩:=As.Dd C a1 9 J;have em:=Option.some.inj (fr.symm.trans fx);rw [(List.cons.inj em).1] at d0;have F: Step w0 H L w k1 (ej::ga++ [W,c8,a5,U,bq,c0]):=by
               have X:=F;unfold As.aents at X;simp only [List.flatMap_cons,List.flatMap_nil,As.conE,show lv 5=none from rfl,fx,List.append_assoc,Option.isSome_some,Option.getD_some,cond_true,cond_false,List.cons_append,List.nil_append,List.append_nil] at X;exact X
              have F:=Step.perm F (List.Perm.cons _ (List.perm_append_comm (l₁:=ga) (l₂:= [W,c8,a5,U,bq,c0])));refine any1 (i:=10) j1 J J (aG C J J fun a C=>?_);refine any0 j1 ?_;refine aa (wp_seq (ab (Lm J C fun a C=>?_)));refine lin J (aW (i:=((h.free a4).2.2)) (j:=0) C J J J fun a C=>?_);refine wpList_nil (aa (al (t:=460) C J (fun mx C=>?_) (fun mx C=>?_)))
              ·refine ap C J (wp_seq ?_);have z4:=free_len lj a4;refine ab (Lm J C fun a C=>?_);refine Lm J C fun a C=>?_;refine lin J (aB C J J fun a C=>?_);refine lin J (ac (f:=1) (o2:=1) T70 T29 J J J J C J J fun a C=>?_);refine lin J (af (v:=(.slice ch ay.length co)) T29 J C J (F.blkL 4 J) J J fun a C=>?_);refine Lm J C fun a C=>?_;have F:=F.front 5 J;refine lin J (aK (news:=(gfl Wd.cells ((h.free a4).2.1))) (xs:=(gfl Wd.cells ay)) T29.und T34 J J F ha C J J (d0.1) (eU (i:=1) F.inv J d0) (aV Wd.one' _) j0 J J fun Gp Dw a w iw F C=>?_);rw [<- aH] at iw;obtain⟨m1,mq,rfl⟩:=iw.slice;have b0:(ay.length+((h.free a4).2.1).length)=(ay++((h.free a4).2.1)).length:=by have X:=iw.1;rw [aA Wd.len] at X;omega
               rw [show Value.slice m1 (ay.length+((h.free a4).2.1).length) mq=Value.slice m1 (ay++((h.free a4).2.1)).length mq from by rw [b0]] at C;rw [b0] at iw;refine lin J (aB C J J fun a C=>?_);refine lin J (ac (f:=1) (o2:=1) T70 T29 J J J J C J J fun a C=>?_);refine lin J (an (cs':=(hA p m1 ((ay++((h.free a4).2.1)).length) mq e3 bs.length eb)) T29 F (i:=5) J C J J J J J J fun a w F C=>?_);refine wpList_nil (aa (wp_ret (ag (aw (ret0r J C ?_)))));have F:=F.fd [2,0,2,0,2,0,2,0,3,2,3] J;exact⟨_,_,_,_,_,SR.free x.a fp mx,by first | omega |(simp only [List.length_append,List.length_cons,List.length_nil];omega),by first | omega |(simp only [List.length_append,List.length_cons,List.length_nil];omega),⟨_,_,rfl,⟨_,_,_,_,_,_,rfl,iw,h9⟩,lh⟩,rfl,F⟩
              ·refine ai C J (wp_skip (aa (?_)));have F:=F.front 5 J
               let B9:=(As.il [(7, [bq])])
               let sa:=(As.sl [])
               have bk:=F;refine As.c_draw_head (ini:=B9) (sup:=sa) (als:= [7]) (s0:=⟨k1,fun _=>none⟩) (L:=(ej::W::c8::a5::U::c0::ga)) (N:=480) (E:= hw) 8 [FcV (pB q),FcV (pB q),FcV (pB q),FcV (.pointer (some ⟨q,1,none⟩)),FcV (.slice ch ay.length co),FcV (.agg (wA a4)),As.lf (fun H v=> ∃ b,v=.slice (some ⟨b,0,none⟩) 1 1/\H b=some (.cells (wA a4) 34 (0,0))),fun s v=> ∃(A: Option Addr) (c: Nat) (en: Ent),s.ax 7=some [en]/\v=.slice A ((ay++([a4]: List Wd)).length) c/\Row (.slice A ((ay++([a4]: List Wd)).length) c) en 34 4 ((ay++([a4]: List Wd)).length) (gfl Wd.cells (ay++([a4]: List Wd)))] mixed j1 j1 j1 j6 (fun _=>rfl) F (C.pk J) (As.QuietsI.c4 ?_ ?_ ?_ ?_ (As.QuietsI.c4 ?_ ?_ ?_ ?_ (As.QuietsI.nil))) (fun bh a w b6 V F C a1=>?_)
               ·refine As.Qx J fun a w M G Y T F C O V=>?_;have I:=F;exact ak C J J fun a C=>As.ql C I
               ·refine As.Qx J fun a w M G Y T F C O V=>?_;have I:=F;exact ak C J J fun a C=>As.ql C I
               ·refine As.Qx1 1 J fun a w M G Y T F C O V=>?_;have I:=F;exact aB C J J fun a C=>As.ql C I
               ·refine As.Qx1 2 J fun a w M G Y T F C O V=>?_;have I:=F;exact ac (f:=1) (o2:=1) T70 T29 J J J J C J J fun a C=>As.ql C I
               ·refine As.Qx1 3 J fun a w M G Y T F C O V=>?_;have I:=F;have F:=Step.dropN _ _ F;exact af (v:=(.slice ch ay.length co)) T29 J C J (F.blkL 4 J) J J fun a C=>As.ql C I
               ·refine As.Qx J fun a w M G Y T F C O V=>?_;have I:=F;have F:=Step.dropN _ _ F;exact am (vs:=(wL a4)) T34 J C J (F.blkL 2 J) J (ah J) J fun a C=>As.ql C I
               ·refine As.Qx1 5 J fun a w M G Y T F C O V=>?_;have I:=F;have bv:=Step.dropN _ _ F;refine id (aY (vs:= ii) (cells:=(wL a4)) T29.und T34 F C (C.evp J) J J J J fun t1 a w F C=>?_);obtain⟨Cu,F,Ag,np⟩:=F.give;exact As.qdone (s:=⟨M,G⟩) Ag C F ⟨_,rfl,np⟩
               ·refine As.Qx1 4 J fun a w M G Y T F C O V=>?_;obtain⟨_,C,t1,rfl,np⟩:=O.g C 6 J;have F: Step w0 H L w M (bq::_):=As.opn (s:=⟨M,G⟩) [] [7] [] [bq] J (As.con0s T J) F;obtain⟨to,Bw,v0,ud,vk,qv,wj⟩:=(RowG.of_lit Wd.len ([a4]: List Wd) np j3 J).2.2;refine id (aK (news:=(gfl Wd.cells ([a4]: List Wd))) (xs:=(gfl Wd.cells ay)) T29.und T34 J J F ha C J J (aA Wd.len _) (fun b5=>⟨to,Bw,v0,ud,vk,(qv (fun X=>b5 (by rw [X];rfl))).1,F.blkH (qv (fun X=>b5 (by rw [X];rfl))).2,fun j u b9=>bi Wd.len j4 wj b9⟩) (aV Wd.one' _) j0 J J fun Gq l7 a w gz F C=>?_);rw [<- aH] at gz;obtain⟨ju,kr,rfl⟩:=gz.slice;have b0:(ay.length+1)=(ay++([a4]: List Wd)).length:=by have X:=gz.1;rw [aA Wd.len] at X;omega
                rw [show Value.slice ju (ay.length+1) kr=Value.slice ju (ay++([a4]: List Wd)).length kr from by rw [b0]] at C;rw [b0] at gz;exact As.qown (i:=7) (dst:=some 477) (s:=⟨M,G⟩) (E:= [l7]) [] [7] [] J J T (Le.refl _) C.dfr (As.has_at C) F As.con1 ⟨_,_,_,rfl,rfl,gz⟩
               obtain⟨pr,G⟩:=b6;have Fs: Le k1 pr:=V.le;dsimp only at a1 F;obtain⟨_,C,rfl⟩:=As.Dd C a1 0 J;obtain⟨_,C,ju,kr,l7,os,rfl,gz⟩:=As.Dd C a1 7 J;have os: G 7=some [l7]:=os;have F: Step w0 H L w pr (l7::ej::W::c8::a5::U::c0::ga):=by
                have X:=F;unfold As.aents at X;simp only [List.flatMap_cons,List.flatMap_nil,As.conE,show sa 7=none from rfl,os,Option.isSome_some,Option.getD_some,cond_true,cond_false,List.cons_append,List.nil_append,List.append_nil] at X;exact X
               refine any1 (i:=8) j1 J J (aB C J J fun a C=>?_);refine any1 (i:=9) j1 J J (ac (f:=1) (o2:=1) T70 T29 J J J J C J J fun a C=>?_);refine any1 (i:=10) j1 J J (an (cs':=(hA p ju ((ay++([a4]: List Wd)).length) kr e3 bs.length eb)) T29 F (i:=5) J C J J J J J J fun a w F C=>?_);refine any0 j1 ?_;refine aq (ret0 J C ?_);have F:=F.fd [2,0,2,0,2,0,2,0,3,2,3] J;rw [free_no mx] at lh;exact⟨_,_,_,_,_,SR.back x.a fp,by first | omega |(simp only [List.length_append,List.length_cons,List.length_nil];omega),by first | omega |(simp only [List.length_append,List.length_cons,List.length_nil];omega),⟨_,_,rfl,⟨_,_,_,_,_,_,rfl,gz,h9⟩,lh⟩,rfl,F⟩
             ·refine ai C J (wp_skip (aa (?_)));have F:=F.front 4 J
              let Ba:=(As.il [(7, [bq])])
              let sb:=(As.sl [])
              have bk:=F;refine As.c_draw_head (ini:=Ba) (sup:=sb) (als:= [7]) (s0:=⟨ci,fun _=>none⟩) (L:=(W::c8::a5::U::c0::bw)) (N:=480) (E:= hw) 8 [FcV (pB q),FcV (pB q),FcV (pB q),FcV (.pointer (some ⟨q,1,none⟩)),FcV (.slice ch ay.length co),FcV (.agg (wA a4)),As.lf (fun H v=> ∃ b,v=.slice (some ⟨b,0,none⟩) 1 1/\H b=some (.cells (wA a4) 34 (0,0))),fun s v=> ∃(A: Option Addr) (c: Nat) (en: Ent),s.ax 7=some [en]/\v=.slice A ((ay++([a4]: List Wd)).length) c/\Row (.slice A ((ay++([a4]: List Wd)).length) c) en 34 4 ((ay++([a4]: List Wd)).length) (gfl Wd.cells (ay++([a4]: List Wd)))] mixed j1 j1 j1 j6 (fun _=>rfl) F (C.pk J) (As.QuietsI.c4 ?_ ?_ ?_ ?_ (As.QuietsI.c4 ?_ ?_ ?_ ?_ (As.QuietsI.nil))) (fun bh a w b6 V F C a1=>?_)
              ·refine As.Qx J fun a w M G Y T F C O V=>?_;have I:=F;exact ak C J J fun a C=>As.ql C I
              ·refine As.Qx J fun a w M G Y T F C O V=>?_;have I:=F;exact ak C J J fun a C=>As.ql C I
              ·refine As.Qx1 1 J fun a w M G Y T F C O V=>?_;have I:=F;exact aB C J J fun a C=>As.ql C I
              ·refine As.Qx1 2 J fun a w M G Y T F C O V=>?_;have I:=F;exact ac (f:=1) (o2:=1) T70 T29 J J J J C J J fun a C=>As.ql C I
              ·refine As.Qx1 3 J fun a w M G Y T F C O V=>?_;have I:=F;have F:=Step.dropN _ _ F;exact af (v:=(.slice ch ay.length co)) T29 J C J (F.blkL 3 J) J J fun a C=>As.ql C I
              ·refine As.Qx J fun a w M G Y T F C O V=>?_;have I:=F;have F:=Step.dropN _ _ F;exact am (vs:=(wL a4)) T34 J C J (F.blkL 1 J) J (ah J) J fun a C=>As.ql C I
              ·refine As.Qx1 5 J fun a w M G Y T F C O V=>?_;have I:=F;have bv:=Step.dropN _ _ F;refine id (aY (vs:= ii) (cells:=(wL a4)) T29.und T34 F C (C.evp J) J J J J fun t2 a w F C=>?_);obtain⟨Cv,F,Ah,nq⟩:=F.give;exact As.qdone (s:=⟨M,G⟩) Ah C F ⟨_,rfl,nq⟩
              ·refine As.Qx1 4 J fun a w M G Y T F C O V=>?_;obtain⟨_,C,t2,rfl,nq⟩:=O.g C 6 J;have F: Step w0 H L w M (bq::_):=As.opn (s:=⟨M,G⟩) [] [7] [] [bq] J (As.con0s T J) F;obtain⟨tp,Bx,v1,ue,vl,qw,wk⟩:=(RowG.of_lit Wd.len ([a4]: List Wd) nq j3 J).2.2;refine id (aK (news:=(gfl Wd.cells ([a4]: List Wd))) (xs:=(gfl Wd.cells ay)) T29.und T34 J J F ha C J J (aA Wd.len _) (fun b5=>⟨tp,Bx,v1,ue,vl,(qw (fun X=>b5 (by rw [X];rfl))).1,F.blkH (qw (fun X=>b5 (by rw [X];rfl))).2,fun j u b9=>bi Wd.len j4 wk b9⟩) (aV Wd.one' _) j0 J J fun Gr l8 a w h0 F C=>?_);rw [<- aH] at h0;obtain⟨jv,ks,rfl⟩:=h0.slice;have b0:(ay.length+1)=(ay++([a4]: List Wd)).length:=by have X:=h0.1;rw [aA Wd.len] at X;omega
               rw [show Value.slice jv (ay.length+1) ks=Value.slice jv (ay++([a4]: List Wd)).length ks from by rw [b0]] at C;rw [b0] at h0;exact As.qown (i:=7) (dst:=some 477) (s:=⟨M,G⟩) (E:= [l8]) [] [7] [] J J T (Le.refl _) C.dfr (As.has_at C) F As.con1 ⟨_,_,_,rfl,rfl,h0⟩
              obtain⟨pt,G⟩:=b6;have Ft: Le ci pt:=V.le;dsimp only at a1 F;obtain⟨_,C,rfl⟩:=As.Dd C a1 0 J;obtain⟨_,C,jv,ks,l8,ot,rfl,h0⟩:=As.Dd C a1 7 J;have ot: G 7=some [l8]:=ot;have F: Step w0 H L w pt (l8::W::c8::a5::U::c0::bw):=by
               have X:=F;unfold As.aents at X;simp only [List.flatMap_cons,List.flatMap_nil,As.conE,show sb 7=none from rfl,ot,Option.isSome_some,Option.getD_some,cond_true,cond_false,List.cons_append,List.nil_append,List.append_nil] at X;exact X
              refine any1 (i:=8) j1 J J (aB C J J fun a C=>?_);refine any1 (i:=9) j1 J J (ac (f:=1) (o2:=1) T70 T29 J J J J C J J fun a C=>?_);refine any1 (i:=10) j1 J J (an (cs':=(hA p jv ((ay++([a4]: List Wd)).length) ks e3 bs.length eb)) T29 F (i:=4) J C J J J J J J fun a w F C=>?_);refine any0 j1 ?_;refine aq (ret0 J C ?_);have F:=F.fd [2,0,2,0,2,0,3,2,3] J;exact⟨_,_,_,_,_,SR.back x.a fp,by first | omega |(simp only [List.length_append,List.length_cons,List.length_nil];omega),by first | omega |(simp only [List.length_append,List.length_cons,List.length_nil];omega),⟨_,_,rfl,⟨_,_,_,_,_,_,rfl,h0,h9⟩,i5⟩,rfl,F⟩
            ·refine Lf J C J J fun a C=>?_;refine Lf J C J J fun a C=>?_;refine Lf J C J J fun a C=>?_;refine lin J (aj C J J J fun a C=>?_);refine wpList_nil (aa (ai C J (wp_skip (aa (?_)))));have F:=F.front 4 J
             let Bb:=(As.il [(7, [bq])])
             let sc:=(As.sl [])
             have bk:=F;refine As.c_draw_head (ini:=Bb) (sup:=sc) (als:= [7]) (s0:=⟨ci,fun _=>none⟩) (L:=(W::c8::a5::U::c0::bw)) (N:=480) (E:= hw) 8 [FcV (pB q),FcV (pB q),FcV (pB q),FcV (.pointer (some ⟨q,1,none⟩)),FcV (.slice ch ay.length co),FcV (.agg (wA a4)),As.lf (fun H v=> ∃ b,v=.slice (some ⟨b,0,none⟩) 1 1/\H b=some (.cells (wA a4) 34 (0,0))),fun s v=> ∃(A: Option Addr) (c: Nat) (en: Ent),s.ax 7=some [en]/\v=.slice A ((ay++([a4]: List Wd)).length) c/\Row (.slice A ((ay++([a4]: List Wd)).length) c) en 34 4 ((ay++([a4]: List Wd)).length) (gfl Wd.cells (ay++([a4]: List Wd)))] mixed j1 j1 j1 j6 (fun _=>rfl) F (C.pk J) (As.QuietsI.c4 ?_ ?_ ?_ ?_ (As.QuietsI.c4 ?_ ?_ ?_ ?_ (As.QuietsI.nil))) (fun bh a w b6 V F C a1=>?_)
             ·refine As.Qx J fun a w M G Y T F C O V=>?_;have I:=F;exact ak C J J fun a C=>As.ql C I
             ·refine As.Qx J fun a w M G Y T F C O V=>?_;have I:=F;exact ak C J J fun a C=>As.ql C I
             ·refine As.Qx1 1 J fun a w M G Y T F C O V=>?_;have I:=F;exact aB C J J fun a C=>As.ql C I
             ·refine As.Qx1 2 J fun a w M G Y T F C O V=>?_;have I:=F;exact ac (f:=1) (o2:=1) T70 T29 J J J J C J J fun a C=>As.ql C I
             ·refine As.Qx1 3 J fun a w M G Y T F C O V=>?_;have I:=F;have F:=Step.dropN _ _ F;exact af (v:=(.slice ch ay.length co)) T29 J C J (F.blkL 3 J) J J fun a C=>As.ql C I
             ·refine As.Qx J fun a w M G Y T F C O V=>?_;have I:=F;have F:=Step.dropN _ _ F;exact am (vs:=(wL a4)) T34 J C J (F.blkL 1 J) J (ah J) J fun a C=>As.ql C I
             ·refine As.Qx1 5 J fun a w M G Y T F C O V=>?_;have I:=F;have bv:=Step.dropN _ _ F;refine id (aY (vs:= ii) (cells:=(wL a4)) T29.und T34 F C (C.evp J) J J J J fun t3 a w F C=>?_);obtain⟨Cw,F,Ai,nr⟩:=F.give;exact As.qdone (s:=⟨M,G⟩) Ai C F ⟨_,rfl,nr⟩
             ·refine As.Qx1 4 J fun a w M G Y T F C O V=>?_;obtain⟨_,C,t3,rfl,nr⟩:=O.g C 6 J;have F: Step w0 H L w M (bq::_):=As.opn (s:=⟨M,G⟩) [] [7] [] [bq] J (As.con0s T J) F;obtain⟨tq,By,v2,uf,vm,qx,wl⟩:=(RowG.of_lit Wd.len ([a4]: List Wd) nr j3 J).2.2;refine id (aK (news:=(gfl Wd.cells ([a4]: List Wd))) (xs:=(gfl Wd.cells ay)) T29.und T34 J J F ha C J J (aA Wd.len _) (fun b5=>⟨tq,By,v2,uf,vm,(qx (fun X=>b5 (by rw [X];rfl))).1,F.blkH (qx (fun X=>b5 (by rw [X];rfl))).2,fun j u b9=>bi Wd.len j4 wl b9⟩) (aV Wd.one' _) j0 J J fun Gs l9 a w h3 F C=>?_);rw [<- aH] at h3;obtain⟨jw,kt,rfl⟩:=h3.slice;have b0:(ay.length+1)=(ay++([a4]: List Wd)).length:=by have X:=h3.1;rw [aA Wd.len] at X;omega
              rw [show Value.slice jw (ay.length+1) kt=Value.slice jw (ay++([a4]: List Wd)).length kt from by rw [b0]] at C;rw [b0] at h3;exact As.qown (i:=7) (dst:=some 477) (s:=⟨M,G⟩) (E:= [l9]) [] [7] [] J J T (Le.refl _) C.dfr (As.has_at C) F As.con1 ⟨_,_,_,rfl,rfl,h3⟩
             obtain⟨pu,G⟩:=b6;have Fu: Le ci pu:=V.le;dsimp only at a1 F;obtain⟨_,C,rfl⟩:=As.Dd C a1 0 J;obtain⟨_,C,jw,kt,l9,ou,rfl,h3⟩:=As.Dd C a1 7 J;have ou: G 7=some [l9]:=ou;have F: Step w0 H L w pu (l9::W::c8::a5::U::c0::bw):=by
              have X:=F;unfold As.aents at X;simp only [List.flatMap_cons,List.flatMap_nil,As.conE,show sc 7=none from rfl,ou,Option.isSome_some,Option.getD_some,cond_true,cond_false,List.cons_append,List.nil_append,List.append_nil] at X;exact X
             refine any1 (i:=8) j1 J J (aB C J J fun a C=>?_);refine any1 (i:=9) j1 J J (ac (f:=1) (o2:=1) T70 T29 J J J J C J J fun a C=>?_);refine any1 (i:=10) j1 J J (an (cs':=(hA p jw ((ay++([a4]: List Wd)).length) kt e3 bs.length eb)) T29 F (i:=4) J C J J J J J J fun a w F C=>?_);refine any0 j1 ?_;refine aq (ret0 J C ?_);have F:=F.fd [2,0,2,0,2,0,3,2,3] J;exact⟨_,_,_,_,_,SR.back x.a fp,by first | omega |(simp only [List.length_append,List.length_cons,List.length_nil];omega),by first | omega |(simp only [List.length_append,List.length_cons,List.length_nil];omega),⟨_,_,rfl,⟨_,_,_,_,_,_,rfl,h3,h9⟩,i5⟩,rfl,F⟩
           ·refine Lf J C J J fun a C=>?_;refine Lf J C J J fun a C=>?_;refine lin J (aj C J J J fun a C=>?_);refine Lm J C fun a C=>?_;refine Lf J C J J fun a C=>?_;refine Lf J C J J fun a C=>?_;refine Lf J C J J fun a C=>?_;refine lin J (aj C J J J fun a C=>?_);refine wpList_nil (aa (ai C J (wp_skip (aa (?_)))));have F:=F.front 4 J
            let Bc:=(As.il [(7, [bq])])
            let sd:=(As.sl [])
            have bk:=F;refine As.c_draw_head (ini:=Bc) (sup:=sd) (als:= [7]) (s0:=⟨ci,fun _=>none⟩) (L:=(W::c8::a5::U::c0::bw)) (N:=480) (E:= hw) 8 [FcV (pB q),FcV (pB q),FcV (pB q),FcV (.pointer (some ⟨q,1,none⟩)),FcV (.slice ch ay.length co),FcV (.agg (wA a4)),As.lf (fun H v=> ∃ b,v=.slice (some ⟨b,0,none⟩) 1 1/\H b=some (.cells (wA a4) 34 (0,0))),fun s v=> ∃(A: Option Addr) (c: Nat) (en: Ent),s.ax 7=some [en]/\v=.slice A ((ay++([a4]: List Wd)).length) c/\Row (.slice A ((ay++([a4]: List Wd)).length) c) en 34 4 ((ay++([a4]: List Wd)).length) (gfl Wd.cells (ay++([a4]: List Wd)))] mixed j1 j1 j1 j6 (fun _=>rfl) F (C.pk J) (As.QuietsI.c4 ?_ ?_ ?_ ?_ (As.QuietsI.c4 ?_ ?_ ?_ ?_ (As.QuietsI.nil))) (fun bh a w b6 V F C a1=>?_)
            ·refine As.Qx J fun a w M G Y T F C O V=>?_;have I:=F;exact ak C J J fun a C=>As.ql C I
            ·refine As.Qx J fun a w M G Y T F C O V=>?_;have I:=F;exact ak C J J fun a C=>As.ql C I
            ·refine As.Qx1 1 J fun a w M G Y T F C O V=>?_;have I:=F;exact aB C J J fun a C=>As.ql C I
            ·refine As.Qx1 2 J fun a w M G Y T F C O V=>?_;have I:=F;exact ac (f:=1) (o2:=1) T70 T29 J J J J C J J fun a C=>As.ql C I
            ·refine As.Qx1 3 J fun a w M G Y T F C O V=>?_;have I:=F;have F:=Step.dropN _ _ F;exact af (v:=(.slice ch ay.length co)) T29 J C J (F.blkL 3 J) J J fun a C=>As.ql C I
            ·refine As.Qx J fun a w M G Y T F C O V=>?_;have I:=F;have F:=Step.dropN _ _ F;exact am (vs:=(wL a4)) T34 J C J (F.blkL 1 J) J (ah J) J fun a C=>As.ql C I
            ·refine As.Qx1 5 J fun a w M G Y T F C O V=>?_;have I:=F;have bv:=Step.dropN _ _ F;refine id (aY (vs:= ii) (cells:=(wL a4)) T29.und T34 F C (C.evp J) J J J J fun t5 a w F C=>?_);obtain⟨Cy,F,Ak,nt⟩:=F.give;exact As.qdone (s:=⟨M,G⟩) Ak C F ⟨_,rfl,nt⟩
            ·refine As.Qx1 4 J fun a w M G Y T F C O V=>?_;obtain⟨_,C,t5,rfl,nt⟩:=O.g C 6 J;have F: Step w0 H L w M (bq::_):=As.opn (s:=⟨M,G⟩) [] [7] [] [bq] J (As.con0s T J) F;obtain⟨tr,Bz,v3,ug,vn,qy,wm⟩:=(RowG.of_lit Wd.len ([a4]: List Wd) nt j3 J).2.2;refine id (aK (news:=(gfl Wd.cells ([a4]: List Wd))) (xs:=(gfl Wd.cells ay)) T29.und T34 J J F ha C J J (aA Wd.len _) (fun b5=>⟨tr,Bz,v3,ug,vn,(qy (fun X=>b5 (by rw [X];rfl))).1,F.blkH (qy (fun X=>b5 (by rw [X];rfl))).2,fun j u b9=>bi Wd.len j4 wm b9⟩) (aV Wd.one' _) j0 J J fun Gt la a w h4 F C=>?_);rw [<- aH] at h4;obtain⟨jx,ku,rfl⟩:=h4.slice;have b0:(ay.length+1)=(ay++([a4]: List Wd)).length:=by have X:=h4.1;rw [aA Wd.len] at X;omega
             rw [show Value.slice jx (ay.length+1) ku=Value.slice jx (ay++([a4]: List Wd)).length ku from by rw [b0]] at C;rw [b0] at h4;exact As.qown (i:=7) (dst:=some 477) (s:=⟨M,G⟩) (E:= [la]) [] [7] [] J J T (Le.refl _) C.dfr (As.has_at C) F As.con1 ⟨_,_,_,rfl,rfl,h4⟩
            obtain⟨pv,G⟩:=b6;have Fv: Le ci pv:=V.le;dsimp only at a1 F;obtain⟨_,C,rfl⟩:=As.Dd C a1 0 J;obtain⟨_,C,jx,ku,la,ov,rfl,h4⟩:=As.Dd C a1 7 J;have ov: G 7=some [la]:=ov;have F: Step w0 H L w pv (la::W::c8::a5::U::c0::bw):=by
             have X:=F;unfold As.aents at X;simp only [List.flatMap_cons,List.flatMap_nil,As.conE,show sd 7=none from rfl,ov,Option.isSome_some,Option.getD_some,cond_true,cond_false,List.cons_append,List.nil_append,List.append_nil] at X;exact X
            refine any1 (i:=8) j1 J J (aB C J J fun a C=>?_);refine any1 (i:=9) j1 J J (ac (f:=1) (o2:=1) T70 T29 J J J J C J J fun a C=>?_);refine any1 (i:=10) j1 J J (an (cs':=(hA p jx ((ay++([a4]: List Wd)).length) ku e3 bs.length eb)) T29 F (i:=4) J C J J J J J J fun a w F C=>?_);refine any0 j1 ?_;refine aq (ret0 J C ?_);have F:=F.fd [2,0,2,0,2,0,3,2,3] J;exact⟨_,_,_,_,_,SR.back x.a fp,by first | omega |(simp only [List.length_append,List.length_cons,List.length_nil];omega),by first | omega |(simp only [List.length_append,List.length_cons,List.length_nil];omega),⟨_,_,rfl,⟨_,_,_,_,_,_,rfl,h4,h9⟩,i5⟩,rfl,F⟩
          ·refine Lf J C J J fun a C=>?_;refine Lf J C J J fun a C=>?_;refine lin J (aj C J J J fun a C=>?_);refine Lm J C fun a C=>?_;refine Lf J C J J fun a C=>?_;refine Lf J C J J fun a C=>?_;refine lin J (aj C J J J fun a C=>?_);refine Lm J C fun a C=>?_;refine Lf J C J J fun a C=>?_;refine Lf J C J J fun a C=>?_;refine Lf J C J J fun a C=>?_;refine lin J (aj C J J J fun a C=>?_);refine wpList_nil (aa (ai C J (wp_skip (aa (?_)))));have F:=F.front 4 J
           let Bd:=(As.il [(7, [bq])])
           let se:=(As.sl [])
           have bk:=F;refine As.c_draw_head (ini:=Bd) (sup:=se) (als:= [7]) (s0:=⟨ci,fun _=>none⟩) (L:=(W::c8::a5::U::c0::bw)) (N:=480) (E:= hw) 8 [FcV (pB q),FcV (pB q),FcV (pB q),FcV (.pointer (some ⟨q,1,none⟩)),FcV (.slice ch ay.length co),FcV (.agg (wA a4)),As.lf (fun H v=> ∃ b,v=.slice (some ⟨b,0,none⟩) 1 1/\H b=some (.cells (wA a4) 34 (0,0))),fun s v=> ∃(A: Option Addr) (c: Nat) (en: Ent),s.ax 7=some [en]/\v=.slice A ((ay++([a4]: List Wd)).length) c/\Row (.slice A ((ay++([a4]: List Wd)).length) c) en 34 4 ((ay++([a4]: List Wd)).length) (gfl Wd.cells (ay++([a4]: List Wd)))] mixed j1 j1 j1 j6 (fun _=>rfl) F (C.pk J) (As.QuietsI.c4 ?_ ?_ ?_ ?_ (As.QuietsI.c4 ?_ ?_ ?_ ?_ (As.QuietsI.nil))) (fun bh a w b6 V F C a1=>?_)
           ·refine As.Qx J fun a w M G Y T F C O V=>?_;have I:=F;exact ak C J J fun a C=>As.ql C I
           ·refine As.Qx J fun a w M G Y T F C O V=>?_;have I:=F;exact ak C J J fun a C=>As.ql C I
           ·refine As.Qx1 1 J fun a w M G Y T F C O V=>?_;have I:=F;exact aB C J J fun a C=>As.ql C I
           ·refine As.Qx1 2 J fun a w M G Y T F C O V=>?_;have I:=F;exact ac (f:=1) (o2:=1) T70 T29 J J J J C J J fun a C=>As.ql C I
           ·refine As.Qx1 3 J fun a w M G Y T F C O V=>?_;have I:=F;have F:=Step.dropN _ _ F;exact af (v:=(.slice ch ay.length co)) T29 J C J (F.blkL 3 J) J J fun a C=>As.ql C I
           ·refine As.Qx J fun a w M G Y T F C O V=>?_;have I:=F;have F:=Step.dropN _ _ F;exact am (vs:=(wL a4)) T34 J C J (F.blkL 1 J) J (ah J) J fun a C=>As.ql C I
           ·refine As.Qx1 5 J fun a w M G Y T F C O V=>?_;have I:=F;have bv:=Step.dropN _ _ F;refine id (aY (vs:= ii) (cells:=(wL a4)) T29.und T34 F C (C.evp J) J J J J fun t6 a w F C=>?_);obtain⟨Cz,F,Al,nu⟩:=F.give;exact As.qdone (s:=⟨M,G⟩) Al C F ⟨_,rfl,nu⟩
           ·refine As.Qx1 4 J fun a w M G Y T F C O V=>?_;obtain⟨_,C,t6,rfl,nu⟩:=O.g C 6 J;have F: Step w0 H L w M (bq::_):=As.opn (s:=⟨M,G⟩) [] [7] [] [bq] J (As.con0s T J) F;obtain⟨tt,C0,v4,uh,vo,qz,wn⟩:=(RowG.of_lit Wd.len ([a4]: List Wd) nu j3 J).2.2;refine id (aK (news:=(gfl Wd.cells ([a4]: List Wd))) (xs:=(gfl Wd.cells ay)) T29.und T34 J J F ha C J J (aA Wd.len _) (fun b5=>⟨tt,C0,v4,uh,vo,(qz (fun X=>b5 (by rw [X];rfl))).1,F.blkH (qz (fun X=>b5 (by rw [X];rfl))).2,fun j u b9=>bi Wd.len j4 wn b9⟩) (aV Wd.one' _) j0 J J fun Gu lb a w h5 F C=>?_);rw [<- aH] at h5;obtain⟨jy,kv,rfl⟩:=h5.slice;have b0:(ay.length+1)=(ay++([a4]: List Wd)).length:=by have X:=h5.1;rw [aA Wd.len] at X;omega
            rw [show Value.slice jy (ay.length+1) kv=Value.slice jy (ay++([a4]: List Wd)).length kv from by rw [b0]] at C;rw [b0] at h5;exact As.qown (i:=7) (dst:=some 477) (s:=⟨M,G⟩) (E:= [lb]) [] [7] [] J J T (Le.refl _) C.dfr (As.has_at C) F As.con1 ⟨_,_,_,rfl,rfl,h5⟩
           obtain⟨pw,G⟩:=b6;have Fw: Le ci pw:=V.le;dsimp only at a1 F;obtain⟨_,C,rfl⟩:=As.Dd C a1 0 J;obtain⟨_,C,jy,kv,lb,ow,rfl,h5⟩:=As.Dd C a1 7 J;have ow: G 7=some [lb]:=ow;have F: Step w0 H L w pw (lb::W::c8::a5::U::c0::bw):=by
            have X:=F;unfold As.aents at X;simp only [List.flatMap_cons,List.flatMap_nil,As.conE,show se 7=none from rfl,ow,Option.isSome_some,Option.getD_some,cond_true,cond_false,List.cons_append,List.nil_append,List.append_nil] at X;exact X
           refine any1 (i:=8) j1 J J (aB C J J fun a C=>?_);refine any1 (i:=9) j1 J J (ac (f:=1) (o2:=1) T70 T29 J J J J C J J fun a C=>?_);refine any1 (i:=10) j1 J J (an (cs':=(hA p jy ((ay++([a4]: List Wd)).length) kv e3 bs.length eb)) T29 F (i:=4) J C J J J J J J fun a w F C=>?_);refine any0 j1 ?_;refine aq (ret0 J C ?_);have F:=F.fd [2,0,2,0,2,0,3,2,3] J;exact⟨_,_,_,_,_,SR.back x.a fp,by first | omega |(simp only [List.length_append,List.length_cons,List.length_nil];omega),by first | omega |(simp only [List.length_append,List.length_cons,List.length_nil];omega),⟨_,_,rfl,⟨_,_,_,_,_,_,rfl,h5,h9⟩,i5⟩,rfl,F⟩
         ·refine ai C J (wp_skip (aq (ret0 J C ?_)));have F:=F.drop;exact⟨_,_,_,_,_,SR.same,by first | omega |(simp only [List.length_append,List.length_cons,List.length_nil];omega),by first | omega |(simp only [List.length_append,List.length_cons,List.length_nil];omega),⟨_,_,rfl,⟨_,_,_,_,_,_,rfl,d2,cu⟩,bf⟩,rfl,F⟩
end Go.Vk.Try
namespace Go.Vk.Try
open Go.RowKit
theorem c_mall {w0: World} {H: PHeap} {q p: Nat} {ws bs: List Wd} {h: HS} {L: List Ent} (hI: Inv w0 H L) (hM: HM q p ws bs h L) (hlw: ws.length<=100000) (hlb: bs.length<=100000): Calls prog 34 #[(pB q)] w0 (fun e w'=> ∃ H' A c,e=.returned (.slice A (ws++bs).length c)/\RowG 4 Wd.cells H' A c (ws++bs)/\Step w0 H L w' H' L):=by
 obtain⟨_,a7,rfl,⟨Y,a0,X,Z,ad,a9,rfl,a4,a3⟩,aw⟩:=hM;have F:=Step.refl hI;have b0:=Row.cap a4;have az:=Row.cap a3;refine enter [(pB q)] func34 J ntmps34 J fun a C=>?_;refine wp_seq (ab (Ls J C fun a C=>?_));refine wpList_nil (aa (wp_seq ?_));have ax:=F;refine As.c_draw_head (ini:=(As.il [])) (sup:=(As.sl [])) (als:= []) (s0:=⟨H,fun _=>none⟩) (L:=((eO q 70 (hA p Y ws.length a0 X bs.length Z))::ad::a9::a7)) (N:=13) (E:= [(0,(pB q))]) 9 [FcV (pB q),FcV (pB q),FcV (.pointer (some ⟨q,1,none⟩)),FcV (.slice Y ws.length a0),FcV (pB q),FcV (pB q),FcV (.pointer (some ⟨q,2,none⟩)),FcV (.slice X bs.length Z),fun am v=>(fun H v=> ∃ b,v=.slice (some ⟨b,0,none⟩) 2 2/\H b=some (.cells #[(.slice Y ws.length a0),(.slice X bs.length Z)] 29 (0,0))) am.H v] mixed J J J (As.M1 (As.M1 (As.M1 (As.M1 (As.M1 (As.M1 (As.M1 (As.M1 (As.Monos.cons (fun _ _ v hl al=>(fun _ _ _ hl ⟨b,h,ag⟩=>⟨b,h,hl _ _ ag⟩: ∀(H H': PHeap) (v: Value),Le H H'->(fun H v=> ∃ b,v=.slice (some ⟨b,0,none⟩) 2 2/\H b=some (.cells #[(.slice Y ws.length a0),(.slice X bs.length Z)] 29 (0,0))) H v->(fun H v=> ∃ b,v=.slice (some ⟨b,0,none⟩) 2 2/\H b=some (.cells #[(.slice Y ws.length a0),(.slice X bs.length Z)] 29 (0,0))) H' v) _ _ _ hl.le al) (As.Monos.nil)))))))))) (fun _=>rfl) F (C.pk J) (As.QuietsI.c4 ?_ ?_ ?_ ?_ (As.QuietsI.c4 ?_ ?_ ?_ ?_ (As.QuietsI.cons ?_ (As.QuietsI.nil)))) (fun av a w an M F C a5=>?_)
 ·refine As.Qx J fun a w O I V a1 F C T M=>?_;have G:=F;exact ak C J J fun a C=>As.ql C G
 ·refine As.Qx1 0 J fun a w O I V a1 F C T M=>?_;have G:=F;exact aB C J J fun a C=>As.ql C G
 ·refine As.Qx1 1 J fun a w O I V a1 F C T M=>?_;have G:=F;exact ac (f:=1) (o2:=1) T70 T29 J J J J C J J fun a C=>As.ql C G
 ·refine As.Qx1 2 J fun a w O I V a1 F C T M=>?_;have G:=F;have F:=Step.dropN _ _ F;exact af (v:=(.slice Y ws.length a0)) T29 J C J (F.blkL 0 J) J J fun a C=>As.ql C G
 ·refine As.Qx J fun a w O I V a1 F C T M=>?_;have G:=F;exact ak C J J fun a C=>As.ql C G
 ·refine As.Qx1 4 J fun a w O I V a1 F C T M=>?_;have G:=F;exact aB C J J fun a C=>As.ql C G
 ·refine As.Qx1 5 J fun a w O I V a1 F C T M=>?_;have G:=F;exact ac (f:=2) (o2:=2) T70 T29 J J J J C J J fun a C=>As.ql C G
 ·refine As.Qx1 6 J fun a w O I V a1 F C T M=>?_;have G:=F;have F:=Step.dropN _ _ F;exact af (v:=(.slice X bs.length Z)) T29 J C J (F.blkL 0 J) J J fun a C=>As.ql C G
 ·refine As.Qx1 3 J fun a w O I V a1 F C T M=>?_;obtain⟨_,C,rfl⟩:=T.g C 7 J;have G:=F;have ay:=Step.dropN _ _ F;refine id (aY (vs:= [(0,(.slice Y ws.length a0)),(1,(.slice X bs.length Z))]) (cells:= [(.slice Y ws.length a0),(.slice X bs.length Z)]) T166.und T29 F C (C.evp J) J J J J fun a8 a w F C=>?_);obtain⟨ap,F,aj,a2⟩:=F.give;exact As.qdone (s:=⟨O,I⟩) aj C F ⟨_,rfl,a2⟩
 obtain⟨a6,I⟩:=an;have b1: Le H a6:=M.le;dsimp only at a5 F;obtain⟨_,C,a8,rfl,a2⟩:=As.Dd C a5 8 J;have ai:=c_ConcatW F.inv.nil a2 (RdG.of_mem Wd.len j4 F.inv (List.mem_of_getElem? (i:=1) J) a4 j0) (RdG.of_mem Wd.len j4 F.inv (List.mem_of_getElem? (i:=2) J) a3 j0);refine any1 (i:=9) j1 J J (Co func83 C J (ai) ?_);rintro e w ⟨ao,ar,au,rfl,ae,ah⟩;refine⟨_,rfl,fun a C=>?_⟩;have F:=F.call_own ah;refine any1 (i:=10) j1 J J (aG C J J fun a C=>?_);refine any0 j1 ?_;refine aa (wp_ret (ret1 J C J ?_));obtain⟨aq,F,V,hG⟩:=rowW_release ae F (by rw [List.length_append];omega);exact⟨_,_,_,rfl,hG,F⟩
theorem c_begun {w0: World} {H: PHeap} (hI: Inv w0 H []) {n: Int} (hn: 16<=n/\n<=65536): Calls prog 31 #[(iV n)] w0 (fun e w'=> ∃ q p L',e=.returned (pB q)/\HM q p [] [] (HS.new (Int.toNat n)) L'/\Step w0 H [] w' H L'):=by
 have F:=Step.refl hI;refine enter [(iV n)] func31 J ntmps31 J fun a C=>?_;refine wp_seq (ab (Ls J C fun a C=>?_));refine wpList_nil (aa (wp_seq (ab (Lm J C fun a C=>?_))));have T:=c_hNew (n:=n) F.inv.nil;refine lin J (Co func10 C J (T) ?_);rintro e w M;obtain⟨G,L1,rfl,I,O⟩:=newR_ok M j0;refine⟨_,rfl,fun a C=>?_⟩;have F:=(Step.frame (Lc:= []) (R:= []) F O).perm List.perm_append_comm;refine Lm J C fun a C=>?_;refine lin J (ae (v:=(pB G)) C J J J fun a C=>?_);refine lin J (ae (v:=(iV 0)) C J J J fun a C=>?_);refine Ls J C fun a C=>?_;refine Ls J C fun a C=>?_;refine wpList_nil (aa (wp_seq (wp_seq (ab (Lm J C fun a C=>?_)))));refine lin J (bC (i:=0) (j:=0) C J J J fun a C=>?_);refine Lm J C fun a C=>?_;refine ad J C J J J (ak C J J fun a C=>?_);refine ad J C J J J (bg T24.und T88 C J J J fun a C=>?_);refine lin J (aj C J J J fun a C=>?_);refine wpList_nil (aa (ai C J (wp_skip (aa (wp_seq (ab (Lm J C fun a C=>?_)))))));refine lin J (aI (vs:= [(0,(pB G)),(3,(.bool true))]) (cells:= [(pB G),(.slice none 0 0),(.slice none 0 0),(.bool true)]) T70 PL70 C (C.evp J) J J fun a C=>?_);refine lin J (aP (cs:=(hA G none 0 0 none 0 0)) F C J J J fun V a w F C=>?_);refine Ls J C fun a C=>?_;refine wpList_nil (aa (wp_ret (ret1 J C J ?_)));have F:=F.cons_none (en:=noEnt) J;have F:=F.cons_none (en:=noEnt) J;have F:=Step.perm F (List.Perm.trans (List.Perm.cons _ (List.Perm.swap _ _ _)) (List.Perm.swap _ _ _));exact⟨_,_,_,rfl,⟨[_,noEnt,noEnt],L1,rfl,⟨none,0,none,0,noEnt,noEnt,rfl,Row.nil _ _,Row.nil _ _⟩,I⟩,F⟩
end Go.Vk.Try
namespace Go.Vk.Try
open Go.RowKit
end Go.Vk.Try
namespace Go.Vk.Try
open Go.RowKit
theorem c_R1Check {w0: World} {H: PHeap} (hI: Inv w0 H []) {t: Tm} {A: Option Addr} {c: Nat} (hr: RowT H A c t.l) (hz: t.sz<=1000000000000) (hb: strB t=true): Calls prog 24 #[(tv t A c)] w0 (Rs w0 H (iV (if isR t then 0 else 3))):=by
 have C:=Step.refl hI;refine enter [(tv t A c)] func24 J ntmps24 J fun a q=>?_;refine wp_seq (ab (lin J (aP (cs:=(tA t A c)) C q J J J fun M a w C q=>?_)));refine Ls J q fun a q=>?_;refine wpList_nil (aa (wp_seq (ab (lin J (am (vs:=(tL t A c)) T46 J q J (C.blkL 0 J) J (ah J) J fun a q=>?_)))));refine lin J (aE func63 J J (q.evs J) q J (c_RIs C.inv.nil hr hz hb) ?_);rintro e w ⟨rfl,I⟩;refine⟨_,rfl,fun a q=>?_⟩;have C:=C.call I;refine Ls J q fun a q=>?_;refine wpList_nil (aa (wp_seq (wp_seq (ab (Lm J q fun a q=>?_)))));refine lin J (aQ q J J fun a q=>?_);refine wpList_nil (aa (ar (t:=7) q J (fun G q=>?_) (fun G q=>?_)))
 ·refine ap q J (wp_seq (ab (Ls J q fun a q=>?_)));refine wpList_nil (aa (wp_ret (ag (ret1 J q J ?_))));refine⟨congrArg _ (congrArg _ ?_),C.plain.drop_all⟩;have F:=G;simp only [Bool.not_eq_true',Bool.not_eq_false'] at F;rw [F];rfl
 ·refine ai q J (wp_skip (aa (wp_seq (ab (Ls J q fun a q=>?_)))));refine wpList_nil (aa (wp_ret (ret1 J q J ?_)));refine⟨congrArg _ (congrArg _ ?_),C.plain.drop_all⟩;have F:=G;simp only [Bool.not_eq_true',Bool.not_eq_false'] at F;rw [F];rfl
end Go.Vk.Try
namespace Go.Vk.Try
open Go.RowKit
end Go.Vk.Try
namespace Go.Vk.Try
open Go.RowKit
end Go.Vk.Try
namespace Go.Vk.Try
open Go.RowKit
end Go.Vk.Try
namespace Go.Vk.Try
open Go.RowKit
end Go.Vk.Try
namespace Go.Vk.Try
open Go.RowKit
end Go.Vk.Try
namespace Go.Vk.Try
open Go.RowKit
theorem c_sameTerms {w0: World} {H: PHeap} (hI: Inv w0 H []) {ta tb: Tm} {A A': Option Addr} {c c': Nat} (hr: RowT H A c ta.l) (hr': RowT H A' c' tb.l): Calls prog 22 #[(tv ta A c),(tv tb A' c')] w0 (Rs w0 H (.bool (eqT ta tb))):=by
 have C:=Step.refl hI;refine enter [(tv ta A c),(tv tb A' c')] func22 J ntmps22 J fun a q=>?_;refine wp_seq (ab (lin J (aP (cs:=(tA ta A c)) C q J J J fun G a w C q=>?_)));refine lin J (aP (cs:=(tA tb A' c')) C q J J J fun I a w C q=>?_);refine Ls J q fun a q=>?_;refine wpList_nil (aa (wp_seq (ab (lin J (am (vs:=(tL ta A c)) T46 J q J (C.blkL 1 J) J (ah J) J fun a q=>?_)))));refine lin J (am (vs:=(tL tb A' c')) T46 J q J (C.blkL 0 J) J (ah J) J fun a q=>?_);refine lin J (aE func44 J J (q.evs J) q J (ge ta tb _ _ _ _ _ _ hr hr' C.inv.nil) ?_);rintro e w ⟨rfl,F⟩;refine⟨_,rfl,fun a q=>?_⟩;have C:=C.call F;refine Ls J q fun a q=>?_;refine wpList_nil (aa (wp_ret (ret1 J q J ?_)));refine⟨congrArg _ ?_,C.plain.drop_all⟩;rfl
end Go.Vk.Try
namespace Go.Vk.Try
open Go.RowKit
end Go.Vk.Try
namespace Go.Vk.Try
open Go.RowKit
theorem c_R1Free {w0: World} {H: PHeap} (hI: Inv w0 H []) {t: Tm} {A: Option Addr} {c: Nat} (hr: RowT H A c t.l): Calls prog 104 #[(tv t A c)] w0 (Rs w0 H (.bool (freeB t))):=by
 have C:=Step.refl hI;refine enter [(tv t A c)] func104 J ntmps104 J fun a q=>?_;refine wp_seq (ab (lin J (aP (cs:=(tA t A c)) C q J J J fun M a w C q=>?_)));refine Ls J q fun a q=>?_;refine wpList_nil (aa (wp_seq (bI (D:= []) (N:=22) (E:= [(1,(pB M)),(2,(.bool ((((decide (t.kind=0))&&(decide (t.n=0)))&&(decide (t.s=⟨#[]⟩)))&&(decide (((t.l.length: Nat): Int)=0)))))]) (fun a q=>?_) ?_)));rotate_left
 ·refine lin J (ac (f:=0) (o2:=0) T46 T3 J J J J q J J fun a q=>?_);refine lin J (af (v:=(iV t.kind)) T3 J q J (C.blkL 0 J) J J fun a q=>?_);refine lin J (aW (i:=t.kind) (j:=0) q J J J fun a q=>?_);refine Lm J q fun a q=>?_;refine al (t:=6) q J (fun F q=>?_) (fun F q=>?_)
  ·refine ad J q J J J (ac (f:=1) (o2:=1) T46 T3 J J J J q J J fun a q=>?_);refine ad J q J J J (af (v:=(iV t.n)) T3 J q J (C.blkL 0 J) J J fun a q=>?_);refine ad J q J J J (aW (i:=t.n) (j:=0) q J J J fun a q=>?_);refine lin J (ao q J J J fun a q=>?_);refine Lm J q fun a q=>?_;refine al (t:=11) q J (fun G q=>?_) (fun G q=>?_)
   ·refine ad J q J J J (ac (f:=2) (o2:=2) T46 T9 J J J J q J J fun a q=>?_);refine ad J q J J J (af (v:=(.string t.s)) T9 J q J (C.blkL 0 J) J J fun a q=>?_);refine ad J q J J J (fk q J J J fun a q=>?_);refine lin J (ao q J J J fun a q=>?_);refine Lm J q fun a q=>?_;refine al (t:=16) q J (fun I q=>?_) (fun I q=>?_)
    ·refine ad J q J J J (ac (f:=3) (o2:=3) T46 T44 J J J J q J J fun a q=>?_);refine ad J q J J J (af (v:=(.slice A t.l.length c)) T44 J q J (C.blkL 0 J) J J fun a q=>?_);refine ad J q J J J (aJ T44.und q J J fun a q=>?_);refine ad J q J J J (aW (i:=((t.l.length: Nat): Int)) (j:=0) q J J J fun a q=>?_);refine lin J (ao q J J J fun a q=>?_);refine Ls J q fun a q=>?_;exact wpList_nil ⟨rfl,rfl,Has.cons q J (Has.cons q (by simp [lk,Nat.beq,F,G,I]) (q.nil))⟩
    ·refine Lf J q J J fun a q=>?_;refine Lf J q J J fun a q=>?_;refine Lf J q J J fun a q=>?_;refine Lf J q J J fun a q=>?_;refine lin J (aj q J J J fun a q=>?_);refine Ls J q fun a q=>?_;exact wpList_nil ⟨rfl,rfl,Has.cons q J (Has.cons q (by simp [lk,Nat.beq,F,G,I]) (q.nil))⟩
   ·refine Lf J q J J fun a q=>?_;refine Lf J q J J fun a q=>?_;refine Lf J q J J fun a q=>?_;refine lin J (aj q J J J fun a q=>?_);refine Lm J q fun a q=>?_;refine Lf J q J J fun a q=>?_;refine Lf J q J J fun a q=>?_;refine Lf J q J J fun a q=>?_;refine Lf J q J J fun a q=>?_;refine lin J (aj q J J J fun a q=>?_);refine Ls J q fun a q=>?_;exact wpList_nil ⟨rfl,rfl,Has.cons q J (Has.cons q (by simp [lk,Nat.beq,F,G]) (q.nil))⟩
  ·refine Lf J q J J fun a q=>?_;refine Lf J q J J fun a q=>?_;refine Lf J q J J fun a q=>?_;refine lin J (aj q J J J fun a q=>?_);refine Lm J q fun a q=>?_;refine Lf J q J J fun a q=>?_;refine Lf J q J J fun a q=>?_;refine Lf J q J J fun a q=>?_;refine lin J (aj q J J J fun a q=>?_);refine Lm J q fun a q=>?_;refine Lf J q J J fun a q=>?_;refine Lf J q J J fun a q=>?_;refine Lf J q J J fun a q=>?_;refine Lf J q J J fun a q=>?_;refine lin J (aj q J J J fun a q=>?_);refine Ls J q fun a q=>?_;exact wpList_nil ⟨rfl,rfl,Has.cons q J (Has.cons q (by simp [lk,Nat.beq,F]) (q.nil))⟩
 refine aa (wp_ret (ret1 J q J ?_));refine⟨congrArg _ ?_,C.plain.drop_all⟩;rfl
end Go.Vk.Try
namespace Go.Vk.Try
open Go.RowKit
end Go.Vk.Try
namespace Go.Vk
theorem cX {S: PS} {w: Wd} {T: Tm}: readS S w=(T,0)↔wordS S w=true/\∃ r,rdS S 600 4000 w=(r,some T):=by
 unfold readS
 constructor
 ·intro h
  split at h
  ·cases h
  ·rename_i hw
   split at h
   ·rename_i t ht
    injection h with h1 _
    subst h1;exact⟨by simpa using hw,(rdS S 600 4000 w).1,Prod.ext J ht⟩
   ·cases h
 ·rintro⟨hw,r,h⟩;rw [if_neg (by rw [hw];simp),h]
theorem read_ext {S S': PS} {w: Wd} {T: Tm} (he: Ext S S') (h: readS S w=(T,0)): readS S' w=(T,0):=by
 obtain⟨hw,r,hr⟩:=cX.1 h;exact cX.2 ⟨ef he hw,r,fW he _ _ _ _ _ hr⟩
theorem co {S S': PS} {w: Wd} {T T': Tm} (he: Ext S S'\/Ext S' S) (h: readS S w=(T,0)) (h': readS S' w=(T',0)): T'=T:=by
 rcases he with he | he
 ·have:=read_ext he h;rw [h'] at this;exact(Prod.mk.inj this).1
 ·have:=read_ext he h';rw [h] at this;exact(Prod.mk.inj this).1.symm
def NoR (a: Nat) (w: Wd): Prop:=refB w=true->w.n≠(a: Int)
theorem dT {S: PS} {a: Nat} {o: Option PB} {w: Wd} (h: NoR a w): atS (S.set a o) w=atS S w:=by
 by_cases hr: refB w=true
 ·have hn:=h hr
  by_cases h0: w.n < 0
  ·exact(ck (l:=S.set a o) (tg:=PB.tag) (.inl h0)).trans (ck (l:=S) (tg:=PB.tag) (.inl h0)).symm
  ·exact dU j0
 ·have key: ∀ S': PS,atS S' w=none:=fun S'=>by
   cases hb: atS S' w with
   | none=>rfl
   | some b=>exact absurd (gb hb) hr
  rw [key,key]
theorem nor_nxt {a: Nat} {w x: Wd} (h: NoR a x): NoR a (nxtW w x):=by
 unfold nxtW
 split
 ·exact h
 ·exact h
theorem fol_nor {S: PS} {a: Nat} {o: Option PB} (hr: ∀ z ∈ refsOf S,NoR a z): ∀(k: Nat) (w: Wd),NoR a w->folS (S.set a o) k w=folS S k w/\NoR a (folS S k w).1
 | 0,w,_=>⟨rfl,fun h=>by cases h⟩
 | k+1,w,hw=>by
  rw [folS,folS,dT hw]
  cases hb: atS S w with
  | none=>exact ⟨rfl,hw⟩
  | some b =>
   cases b with
   | fn s l=>exact ⟨rfl,hw⟩
   | vec l=>exact ⟨rfl,hw⟩
   | var to hk =>
    cases to with
    | nil=>exact ⟨rfl,hw⟩
    | cons x xs=>exact fol_nor hr k _ (nor_nxt (hr x (ch.2 ⟨_,_,(ay hb).2.2.2.1,List.mem_cons_self⟩)))
theorem cP {f g: Int->Wd->Int × Option Tm}: ∀ {ws: List Wd},(∀ w ∈ ws,∀ l,f l w=g l w)->∀ l,rdL f l ws=rdL g l ws
 | [],_,l=>rfl
 | w::ws,h,l=>by
  rw [rdL,rdL,h w List.mem_cons_self];dsimp only;rw [cP (fun x hx=>h x (List.mem_cons_of_mem _ hx))]
theorem gq {S: PS} {a: Nat} {o: Option PB} (hr: ∀ z ∈ refsOf S,NoR a z): ∀(d: Nat) (l: Int) (w: Wd),NoR a w->rdS (S.set a o) d l w=rdS S d l w
 | 0,l,w,_=>rfl
 | d+1,l,w,hw=>by
  obtain⟨h1,h2⟩:=fol_nor (o:=o) hr (S.length+1) w hw;have hf: followS (S.set a o) w=followS S w:=by
   unfold followS;rw [List.length_set];exact h1
  have h2: NoR a (followS S w).1:=h2;unfold rdS;dsimp only;rw [hf,dT h2]
  cases hb: atS S (followS S w).1 with
  | none=>rfl
  | some b =>
   have hm: ∀ z ∈ b.words,z ∈ refsOf S:=fun z hz=>ch.2 ⟨_,_,(ay hb).2.2.2.1,hz⟩
   cases b with
   | var to hk=>rfl
   | fn s ws =>
    dsimp only;rw [cP (ws:=ws) (f:=rdS (S.set a o) d) (g:=rdS S d) (fun x hx l=>gq hr d l x (hr x (hm x hx)))]
   | vec ws =>
    dsimp only;rw [cP (ws:=ws) (f:=rdS (S.set a o) d) (g:=rdS S d) (fun x hx l=>gq hr d l x (hr x (hm x hx)))]
theorem word_nor {S: PS} {a: Nat} {o: Option PB} {w: Wd} (h: NoR a w): wordS (S.set a o) w=wordS S w:=by
 unfold wordS;rw [dT h]
theorem read_nor {S: PS} {a: Nat} {o: Option PB} {w: Wd} (hr: ∀ z ∈ refsOf S,NoR a z) (hw: NoR a w): readS (S.set a o) w=readS S w:=by
 unfold readS;rw [word_nor hw,gq hr 600 4000 w hw]
theorem fol_sh {S: PS}: ∀(k: Nat) (w: Wd),(folS S k (shW w)).2=(folS S k w).2/\shW (folS S k (shW w)).1=shW (folS S k w).1
 | 0,w=>⟨rfl,rfl⟩
 | k+1,w=>by
  rw [folS,folS,show atS S (shW w)=atS S w from rfl]
  cases hb: atS S w with
  | none=>exact ⟨rfl,rfl⟩
  | some b =>
   cases b with
   | fn s l=>exact ⟨rfl,rfl⟩
   | vec l=>exact ⟨rfl,rfl⟩
   | var to hk =>
    cases to with
    | nil=>exact ⟨rfl,rfl⟩
    | cons x xs =>
     dsimp only
     by_cases hx: refB x=true
     ·have e: nxtW (shW w) x=shW (nxtW w x):=by
       unfold nxtW;rw [if_pos hx,if_pos hx]
       show (⟨x.tag,x.n,x.s,x.one&&false⟩: Wd)=⟨x.tag,x.n,x.s,false⟩
       rw [Bool.and_false]
      rw [e];exact fol_sh k _
     ·have e: nxtW (shW w) x=nxtW w x:=by
       unfold nxtW;rw [if_neg hx,if_neg hx]
      rw [e];exact⟨rfl,rfl⟩
theorem rd_sh {S: PS} (d: Nat) (l: Int) (w: Wd): rdS S d l (shW w)=rdS S d l w:=by
 cases d with
 | zero=>rfl
 | succ d =>
  obtain⟨h1,h2⟩:=fol_sh (S:=S) (S.length+1) w;have h1:(followS S (shW w)).2=(followS S w).2:=h1;have h2: shW (followS S (shW w)).1=shW (followS S w).1:=h2;have ht:(followS S (shW w)).1.tag=(followS S w).1.tag:=by have e:=congrArg Wd.tag h2;exact e
  have hn:(followS S (shW w)).1.n=(followS S w).1.n:=by have e:=congrArg Wd.n h2;exact e
  have hs:(followS S (shW w)).1.s=(followS S w).1.s:=by have e:=congrArg Wd.s h2;exact e
  have ha: atS S (followS S (shW w)).1=atS S (followS S w).1:=by
   show atS S (shW (followS S (shW w)).1)=atS S (shW (followS S w).1)
   rw [h2]
  unfold rdS;dsimp only;rw [h1,ht,hn,hs,ha]
theorem fol_shB {S: PS} {a: Nat} {l: List Wd} (hj: S[a]? =some (some (.vec l))): ∀(k: Nat) (w: Wd),folS (S.set a (some (.vec (l.map shW)))) k w=folS S k w
 | 0,w=>rfl
 | k+1,w=>by
  rw [folS,folS];have hlt:=(List.getElem?_eq_some_iff.1 hj).1
  by_cases hw: NoR a w
  ·rw [dT hw]
   cases hb: atS S w with
   | none=>rfl
   | some b =>
    cases b with
    | fn s l=>rfl
    | vec l=>rfl
    | var to hk =>
     cases to with
     | nil=>rfl
     | cons x xs=>exact fol_shB hj k _
  ·have hr: refB w=true:=Classical.byContradiction fun h=>hw fun h'=>absurd h' h;have hn: w.n=(a: Int):=Classical.byContradiction fun h=>hw fun _=>h;have e1: ∀ b,atS S w=some b->b=.vec l:=fun b hb=>by
    have:=(ay hb).2.2.2.1;rw [hn,Int.toNat_natCast,hj] at this;exact(Option.some.inj (Option.some.inj this)).symm
   have e2: ∀ b,atS (S.set a (some (.vec (l.map shW)))) w=some b->b=.vec (l.map shW):=fun b hb=>by
    have:=(ay hb).2.2.2.1;rw [hn,Int.toNat_natCast,List.getElem?_set,if_pos J,if_pos hlt] at this;exact(Option.some.inj (Option.some.inj this)).symm
   cases hb: atS S w with
   | none =>
    cases hc: atS (S.set a (some (.vec (l.map shW)))) w with
    | none=>rfl
    | some c=>rw [e2 c hc]
   | some b =>
    rw [e1 b hb]
    cases hc: atS (S.set a (some (.vec (l.map shW)))) w with
    | none=>rfl
    | some c=>rw [e2 c hc]
theorem rdL_sh {f g: Int->Wd->Int × Option Tm}: ∀ {ws: List Wd},(∀ w ∈ ws,∀ l,f l (shW w)=g l w)->∀ l,rdL f l (ws.map shW)=rdL g l ws
 | [],_,l=>rfl
 | w::ws,h,l=>by
  rw [List.map_cons,rdL,rdL,h w List.mem_cons_self];dsimp only;rw [rdL_sh (fun x hx=>h x (List.mem_cons_of_mem _ hx))]
theorem fX {S: PS} {a: Nat} {l: List Wd} (hj: S[a]? =some (some (.vec l))): ∀(d: Nat) (left: Int) (w: Wd),rdS (S.set a (some (.vec (l.map shW)))) d left w=rdS S d left w
 | 0,left,w=>rfl
 | d+1,left,w=>by
  have hlt:=(List.getElem?_eq_some_iff.1 hj).1;have hf: followS (S.set a (some (.vec (l.map shW)))) w=followS S w:=by
   unfold followS;rw [List.length_set];exact fol_shB hj _ w
  unfold rdS;dsimp only;rw [hf]
  generalize hx:(followS S w).1=x
  by_cases hw: NoR a x
  ·rw [dT hw]
   cases hb: atS S x with
   | none=>rfl
   | some b =>
    cases b with
    | var to hk=>rfl
    | fn s ws =>
     dsimp only;rw [cP (f:=rdS (S.set a (some (.vec (l.map shW)))) d) (g:=rdS S d) (fun x _ l=>fX hj d l x)]
    | vec ws =>
     dsimp only;rw [cP (f:=rdS (S.set a (some (.vec (l.map shW)))) d) (g:=rdS S d) (fun x _ l=>fX hj d l x)]
  ·have hn: x.n=(a: Int):=Classical.byContradiction fun h=>hw fun _=>h
   by_cases hok: x.s=⟨#[]⟩/\x.tag=6
   ·have h1: atS S x=some (.vec l):=(bU (tg:=PB.tag) (b:=.vec l) j0 j0 hok.1 (by rw [hn,Int.toNat_natCast];exact hj)).trans (if_pos (show x.tag=PB.tag (.vec l) from hok.2));have h2: atS (S.set a (some (.vec (l.map shW)))) x=some (.vec (l.map shW)):=(bU (tg:=PB.tag) (b:=.vec (l.map shW)) j0 (by rw [List.length_set];omega) hok.1 (by rw [hn,Int.toNat_natCast,List.getElem?_set,if_pos J,if_pos hlt])).trans (if_pos (show x.tag=PB.tag (.vec (l.map shW)) from hok.2));rw [h1,h2];dsimp only;rw [rdL_sh (f:=rdS (S.set a (some (.vec (l.map shW)))) d) (g:=rdS S d) (fun x _ l=>by rw [fX hj d l (shW x),rd_sh])]
   ·have none_: ∀(S': PS) (c: PB),S'[a]? =some (some c)->c.tag=6->atS S' x=none:=fun S' c hc ht=>by
     cases hb: atS S' x with
     | none=>rfl
     | some b =>
      have hg:=ay hb;have h3:=hg.2.2.2.1;rw [hn,Int.toNat_natCast,hc] at h3;obtain rfl:=Option.some.inj (Option.some.inj h3);exact absurd ⟨hg.2.2.1,hg.2.2.2.2.trans ht⟩ hok
    rw [none_ S _ hj J,none_ (S.set a (some (.vec (l.map shW)))) (.vec (l.map shW)) (by rw [List.getElem?_set,if_pos J,if_pos hlt]) J]
theorem read_shB {S: PS} {a: Nat} {l: List Wd} (hj: S[a]? =some (some (.vec l))) (w: Wd) (hw: wordS S w=true): readS (S.set a (some (.vec (l.map shW)))) w=readS S w:=by
 unfold readS;rw [fX hj,hw,cF (c:=.vec (l.map shW)) hj J hw]
theorem ext_del {S: PS} (a: Nat): Ext (S.set a none) S:=by
 refine⟨by rw [List.length_set],fun j b hj=>?_⟩
 rcases bp hj with ⟨_,e⟩ |⟨_,h⟩
 ·cases e
 ·exact h
theorem ext_fill {S: PS} (a: Nat) (o: Option PB): Ext (S.set a none) (S.set a o):=by
 refine⟨by rw [List.length_set,List.length_set],fun j b hj=>?_⟩
 rcases bp hj with ⟨_,e⟩ |⟨hne,h⟩
 ·cases e
 ·rw [List.getElem?_set,if_neg (fun e=>hne e.symm)];exact h
section
variable {h h': HS} {ws ws' bs bs' pool: List Wd} {w v x y u: Wd}
theorem DI.nor (hd: DI h (y::pool) bs) (ho: y.one=true) {b: PB} (hb: atS h.S y=some b) (hnv: ∀ hk,b≠.var [] hk):(∀ z ∈ refsOf h.S,NoR y.n.toNat z)/\(∀ z ∈ pool++bs,NoR y.n.toNat z):=by
 have h0:=(ay hb).1;have honly:=hd.only ho (gb hb);refine⟨fun z hz hr e=>honly z (List.mem_append_right _ hz) hr j0,fun z hz hr e=>?_⟩
 rcases List.mem_append.1 hz with hz | hz
 ·exact honly z (List.mem_append_left _ hz) hr j0
 ·exact unb_ne (hd.bv z hz) hb hnv j0
end
theorem take_mem {ws ws1: List Wd} {k: Int} {y: Wd} (e: takeP ws k=(y,ws1)) {w: Wd} (hw: w ∈ ws): w=y\/w ∈ ws1:=by
 have hne: ws≠[]:=fun h=>by subst h;cases hw
 have hl: 0 < ws.length:=List.length_pos_iff.2 hne;obtain⟨i,h1,h2⟩:=cI (k:=k) (n:=(ws.length: Int)) (m:=ws.length) J hl;rw [fB h1 (List.getElem?_eq_getElem h2)] at e;injection e with e1 e2
 have:=(bB h2).mem_iff.2 hw;rw [e1,e2] at this;exact List.mem_cons.1 this
end Go.Vk
namespace Go.Vk
section
variable {h h': HS} {ws ws' bs bs' pool: List Wd} {w v x y u: Wd}
theorem fun_ext (hO: h.Ok) (s: ByteArray) (l: List Wd): Ext h.S (h.fun_ s l).1.S:=by
 unfold HS.fun_
 repeat' split
 all_goals first | exact Ext.refl _ | exact cg hO _
theorem vec_ext (hO: h.Ok) (l: List Wd): Ext h.S (h.vec l).1.S:=by
 unfold HS.vec
 repeat' split
 all_goals first | exact Ext.refl _ | exact cg hO _
theorem clear_ext (a: Nat): Ext (h.clear a).S h.S:=by
 unfold HS.clear
 split
 ·exact ext_del a
 ·exact Ext.refl _
theorem free_ext (w: Wd): Ext (h.free w).1.S h.S:=by
 unfold HS.free
 split
 ·exact Ext.refl _
 ·split
  ·exact Ext.refl _
  ·split
   ·exact Ext.refl _
   ·exact clear_ext _
theorem ext_set {S S': PS} (he: Ext S S') (a: Nat) (o: Option PB): Ext (S.set a o) (S'.set a o):=by
 refine⟨by rw [List.length_set,List.length_set,he.len],fun j b hj=>?_⟩;have hl:=he.len
 by_cases e: a=j
 ·subst e;have hlt:=(List.getElem?_eq_some_iff.1 hj).1;rw [List.length_set] at hlt;rw [List.getElem?_set,if_pos J,if_pos hlt] at hj;rw [List.getElem?_set,if_pos J,if_pos j0,hj]
 ·rw [List.getElem?_set,if_neg e] at hj;rw [List.getElem?_set,if_neg e];exact he.keep j b hj
theorem update_copy {l: List Wd} {i: Int} (hb: atS h.S w=some (.vec l)) (ho: w.one=false) (hi: 0<=i/\i < l.length) (hy: wordS h.S y=true) (e:(h.update w i y).2.2.2.2=0): ∃ b2,(h.update w i y).1=(h.place b2).1.setB w.n.toNat (.vec (l.map shW)):=by
 unfold HS.update at e ⊢;rw [hb] at e ⊢;dsimp only at e ⊢;rw [if_neg j0,if_neg (by rw [hy];simp),if_neg (by rw [ho];simp)] at e ⊢
 split at e
 ·cases e
 ·rename_i hp
  rw [if_neg hp];exact⟨_,rfl⟩
theorem DI.put_read {b: PB} {T T': Tm} (hd: DI h (y::pool) bs) (ho: y.one=true) (hb: atS h.S y=some b) (hnv: ∀ hk,b≠.var [] hk) (c: Option PB) (hw: w ∈ pool++bs) (h1: readS h.S w=(T,0)) (h2: readS (h.S.set y.n.toNat c) w=(T',0)): T'=T:=by
 obtain⟨n1,n2⟩:=hd.nor ho hb hnv;have h3: readS (h.S.set y.n.toNat none) w=(T,0):=by rw [read_nor n1 (n2 w hw)];exact h1
 exact co (.inl (ext_fill y.n.toNat c)) h3 h2
end
theorem SR.read {x: StV} {h h': HS} {ws ws' bs bs': List Wd} {w: Wd} {T T': Tm} (hs: SR x (h,ws,bs) (h',ws',bs')) (hd: DI h ws bs) (hw: w ∈ ws++bs) (hnr: ¬((ixZ x.kd 9=5\/ixZ x.kd 9=6)/\w.one=true/\(w.tag=5\/w.tag=6))) (h1: readS h.S w=(T,0)) (h2: readS h'.S w=(T',0)): T'=T\/(ixZ x.kd 9=3/\∃(y v: Wd) (ws1: List Wd) (i: Nat),takeP ws x.b=(y,ws1)/\bs[i]? =some v/\insP h.S v y=false/\h'=(h.bind v y).1):=by
 have same: readS h.S w=(T',0)->T'=T:=fun h3=>co (.inl (Ext.refl _)) h1 h3;have left_: ∀ {y: Wd} {ws1: List Wd} {k: Int},takeP ws k=(y,ws1)->w=y\/w ∈ ws1++bs:=fun e=>by
  rcases List.mem_append.1 hw with hw | hw
  ·rcases take_mem e hw with h | h
   ·exact .inl h
   ·exact .inr (List.mem_append_left _ h)
  ·exact .inr (List.mem_append_right _ hw)
 cases hs with
 | bnd hk' e1 hv hi=>exact .inr ⟨hk',_,_,_,_,e1,hv,hi,rfl⟩
 | var e=>exact .inl (co (.inl (cg hd.ok _)) h1 h2)
 | var0 e=>exact .inl (co (.inl (cg hd.ok _)) h1 h2)
 | fn e1 e2=>exact .inl (co (.inl (fun_ext hd.ok _ _)) h1 h2)
 | vec e1 e2 e3=>exact .inl (co (.inl (vec_ext hd.ok _)) h1 h2)
 | same=>exact .inl (same h2)
 | ins e1 hv=>exact .inl (same h2)
 | free k e1 e=>exact .inl (co (.inr (free_ext _)) h1 h2)
 | back k e1=>exact .inl (same h2)
 | back2 e1 e2=>exact .inl (same h2)
 | shr=>exact .inl (same h2)
 | reuse ks hk' k e1 ht ho hp hl hn =>
  rename_i ws1 l y
  obtain⟨s0,ha⟩:=fu ht hp;have hr:=hd.reuse_ok e1 ht ho hp hl hn;have e:(h.reuse y gS (takeK ws1 ks).1).1=h.setB y.n.toNat (.fn gS (takeK ws1 ks).1):=by
   unfold HS.reuse at hr ⊢;rw [ha] at hr ⊢;dsimp only at hr ⊢
   repeat' split at hr
   all_goals try (exfalso;have:=(Prod.mk.inj hr).2;omega)
   rename_i q1 q2 q3 q4
   rw [if_neg q1,if_neg q2,if_neg q3,if_neg q4]
  rw [e] at h2
  rcases left_ e1 with rfl | hm
  ·exact absurd ⟨.inl hk',ho,.inl ht⟩ hnr
  ·exact .inl <|(hd.tk e1).put_read ho ha (fun _ e=>by cases e) _ hm h1 h2
 | updi hk' e1 e2 ht hp hl hi e h1' =>
  rename_i ws1 ws2 l y z i
  have ha:=dC ht hp;rw [hl] at ha;have h3: DI h (y::z::ws2) bs:=by
   have h4: DI h (ws1++ [y]) bs:=(hd.tk e1).snoc;have h5:=h4.take x.b;rw [e2] at h5;exact h5.perm ((List.Perm.cons _ (List.perm_append_comm (l₁:=ws2) (l₂:= [y]))).trans (List.Perm.swap _ _ _))
  cases ho: y.one with
  | true =>
   obtain⟨g,hb,hg,_⟩:=h3.update1 ha ho hi;rw [hb] at h2;have h2: readS g.S w=(T',0):=h2;rw [hg] at h2
   rcases left_ e1 with rfl | hm
   ·exact absurd ⟨.inr hk',ho,.inr ht⟩ hnr
   ·exact .inl <|(hd.tk e1).put_read ho ha (fun _ e=>by cases e) _ hm h1 h2
  | false =>
   have:=((h3.update2 ha ho hi).1 e).1;rw [this] at h1';cases h1'
 | updc e1 e2 ht hp hl hi e h1' =>
  rename_i ws1 ws2 l y z i
  have ha:=dC ht hp;rw [hl] at ha;have h3: DI h (y::z::ws2) bs:=by
   have h4: DI h (ws1++ [y]) bs:=(hd.tk e1).snoc;have h5:=h4.take x.b;rw [e2] at h5;exact h5.perm ((List.Perm.cons _ (List.perm_append_comm (l₁:=ws2) (l₂:= [y]))).trans (List.Perm.swap _ _ _))
  cases ho: y.one with
  | true =>
   obtain⟨g,hb,_,_⟩:=h3.update1 ha ho hi;rw [hb] at h1';cases h1'
  | false =>
   obtain⟨b2,hb2⟩:=update_copy ha ho hi (h3.wv z (List.mem_cons_of_mem _ List.mem_cons_self)) e;rw [hb2] at h2;have h4: readS (h.S.set y.n.toNat (some (.vec (l.map shW)))) w=(T,0):=by
    rw [read_shB (ay ha).2.2.2.1 w (cX.1 h1).1];exact h1
   exact .inl <| co (.inl (ext_set (cg hd.ok b2) _ _)) h4 h2
end Go.Vk
namespace Go.Vk
section
variable (a: Int) (U: Tm)
mutual
def sbT: Tm->Tm
 | .mk k n s l=>if k=1/\n=a then U else .mk k n s (sbL l)
def sbL: List Tm->List Tm
 | []=> []
 | t::ts=>sbT t::sbL ts
end
end
inductive Fol (S: PS): Wd->Wd->Prop
 | stop {w: Wd} (h: ∀ z zs hk,atS S w≠some (.var (z::zs) hk)): Fol S w w
 | next {w z x: Wd} {zs: List Wd} {hk: List Int} (h: atS S w=some (.var (z::zs) hk)) (hf: Fol S (nxtW w z) x): Fol S w x
theorem Fol.det {S: PS} {w x y: Wd} (h: Fol S w x) (h': Fol S w y): x=y:=by
 induction h with
 | stop h =>
  cases h' with
  | stop _=>rfl
  | next h2 _=>exact absurd h2 (h _ _ _)
 | next h hf ih =>
  cases h' with
  | stop h2=>exact absurd h (h2 _ _ _)
  | next h2 hf2 =>
   rw [h] at h2;injection Option.some.inj h2 with e1 e2
   injection e1 with e3 e4
   subst e3;exact ih hf2
theorem fol_of {S: PS}: ∀(k: Nat) (w x: Wd),folS S k w=(x,true)->Fol S w x
 | 0,w,x,h=>by rw [folS] at h;cases h
 | k+1,w,x,h=>by
  rw [folS] at h
  split at h
  ·rename_i z zs hk hb
   exact .next hb (fol_of k _ x h)
  ·rename_i hn
   injection h with h1 _
   subst h1;exact .stop fun z zs hk e=>hn z zs hk e
theorem Fol.end_ {S: PS} {w x: Wd} (h: Fol S w x): ∀ z zs hk,atS S x≠some (.var (z::zs) hk):=by
 induction h with
 | stop h=>exact h
 | next _ _ ih=>exact ih
theorem Fol.trans {S: PS} {w x y: Wd} (h: Fol S w x) (hx: Fol S x y): Fol S w y:=by
 induction h with
 | stop _=>exact hx
 | next h _ ih=>exact .next h (ih hx)
inductive RdE (S: PS): Nat->Wd->Tm->Prop
 | int {d: Nat} {w x: Wd} (hf: Fol S w x) (h: x.tag=1): RdE S (d+1) w (.mk 2 x.n ⟨#[]⟩ [])
 | atom {d: Nat} {w x: Wd} (hf: Fol S w x) (h: x.tag=2): RdE S (d+1) w (.mk 3 0 x.s [])
 | str {d: Nat} {w x: Wd} (hf: Fol S w x) (h: x.tag=3): RdE S (d+1) w (.mk 4 0 x.s [])
 | var {d: Nat} {w x: Wd} {hk: List Int} (hf: Fol S w x) (h: atS S x=some (.var [] hk)): RdE S (d+1) w (.mk 1 x.n ⟨#[]⟩ [])
 | fn {d: Nat} {w x: Wd} {s: ByteArray} {ws: List Wd} {Ts: List Tm} (hf: Fol S w x) (h: atS S x=some (.fn s ws)) (hl: ws.length=Ts.length) (hr: ∀(i: Nat) z T,ws[i]? =some z->Ts[i]? =some T->RdE S d z T): RdE S (d+1) w (.mk 5 0 s Ts)
 | vec {d: Nat} {w x: Wd} {ws: List Wd} {Ts: List Tm} (hf: Fol S w x) (h: atS S x=some (.vec ws)) (hl: ws.length=Ts.length) (hr: ∀(i: Nat) z T,ws[i]? =some z->Ts[i]? =some T->RdE S d z T): RdE S (d+1) w (.mk 6 0 ⟨#[]⟩ Ts)
theorem fU {f: Int->Wd->Int × Option Tm} {P: Wd->Tm->Prop}: ∀ {ws: List Wd} {l r: Int} {Ts: List Tm},(∀ w ∈ ws,∀ l r T,f l w=(r,some T)->P w T)->rdL f l ws=(r,some Ts)->ws.length=Ts.length/\∀(i: Nat) z T,ws[i]? =some z->Ts[i]? =some T->P z T
 | [],l,r,Ts,_,h=>by
  rw [rdL] at h;injection h with _ h
  obtain rfl:=Option.some.inj h;exact⟨rfl,fun i z T hz=>by simp at hz⟩
 | w::ws,l,r,Ts,hf,h=>by
  rw [rdL] at h;dsimp only at h
  cases hq: f l w with
  | mk r1 o =>
   rw [hq] at h
   cases o with
   | none=>cases h
   | some T1 =>
    dsimp only at h
    cases hq2: rdL f r1 ws with
    | mk r2 o2 =>
     rw [hq2] at h
     cases o2 with
     | none=>cases h
     | some Us =>
      injection h with _ h
      obtain rfl:=Option.some.inj h;obtain⟨h1,h2⟩:=fU (fun x hx=>hf x (List.mem_cons_of_mem _ hx)) hq2;refine⟨by simp [h1],fun i z T hz hT=>?_⟩
      cases i with
      | zero =>
       obtain rfl: w=z:=by simpa using hz
       obtain rfl: T1=T:=by simpa using hT
       exact hf _ List.mem_cons_self _ _ _ hq
      | succ i=>exact h2 i z T (by simpa using hz) (by simpa using hT)
theorem gu {S: PS}: ∀(d: Nat) (l r: Int) (w: Wd) (T: Tm),rdS S d l w=(r,some T)->RdE S d w T
 | 0,l,r,w,T,h=>by rw [rdS] at h;cases h
 | d+1,l,r,w,T,h=>by
  rw [rdS] at h;dsimp only at h
  split at h
  ·cases h
  ·rename_i hn
   have hf2:(followS S w).2=true:=by
    cases e:(followS S w).2 with
    | true=>rfl
    | false=>exact absurd (.inl e) hn
   have hF: Fol S w (followS S w).1:=fol_of _ _ _ (Prod.ext J hf2)
   split at h
   ·rename_i h1
    injection h with _ h
    obtain rfl:=Option.some.inj h;exact .int hF h1
   ·split at h
    ·rename_i h1
     injection h with _ h
     obtain rfl:=Option.some.inj h;exact .atom hF h1
    ·split at h
     ·rename_i h1
      injection h with _ h
      obtain rfl:=Option.some.inj h;exact .str hF h1
     ·split at h
      ·cases h
      ·rename_i to hk hb
       injection h with _ h
       obtain rfl:=Option.some.inj h
       cases to with
       | nil=>exact .var hF hb
       | cons z zs=>exact absurd hb (hF.end_ _ _ _)
      ·rename_i s ws hb
       cases hq: rdL (rdS S d) (l - 1) ws with
       | mk r2 o2 =>
        rw [hq] at h
        cases o2 with
        | none=>cases h
        | some Ts =>
         injection h with _ h
         obtain rfl:=Option.some.inj h;obtain⟨g1,g2⟩:=fU (P:=RdE S d) (fun w _ l r T hw=>gu d l r w T hw) hq;exact .fn hF hb g1 g2
      ·rename_i ws hb
       cases hq: rdL (rdS S d) (l - 1) ws with
       | mk r2 o2 =>
        rw [hq] at h
        cases o2 with
        | none=>cases h
        | some Ts =>
         injection h with _ h
         obtain rfl:=Option.some.inj h;obtain⟨g1,g2⟩:=fU (P:=RdE S d) (fun w _ l r T hw=>gu d l r w T hw) hq;exact .vec hF hb g1 g2
inductive Stp (S: PS): Wd->Wd->Prop
 | refl {w: Wd}: Stp S w w
 | step {w z v: Wd} {zs: List Wd} {hk: List Int} (h: atS S w=some (.var (z::zs) hk)) (hs: Stp S (nxtW w z) v): Stp S w v
theorem Stp.trans {S: PS} {w v u: Wd} (h: Stp S w v) (h': Stp S v u): Stp S w u:=by
 induction h with
 | refl=>exact h'
 | step h _ ih=>exact .step h (ih h')
theorem Stp.rest {S: PS} {w v x: Wd} (h: Stp S w v) (hf: Fol S w x): Fol S v x:=by
 induction h with
 | refl=>exact hf
 | step h _ ih =>
  cases hf with
  | stop h2=>exact absurd h (h2 _ _ _)
  | next h2 hf2 =>
   rw [h] at h2;injection Option.some.inj h2 with e1 e2
   injection e1 with e3 e4
   subst e3;exact ih hf2
theorem ga {S: PS} {w w': Wd} (h: shW w=shW w'): atS S w=atS S w':=by
 show atS S (shW w)=atS S (shW w')
 rw [h]
theorem sh_nxt {w w' z: Wd}: shW (nxtW w z)=shW (nxtW w' z):=by
 unfold nxtW
 split <;> rfl
theorem sh_nxt0 {w z: Wd}: shW (nxtW w z)=shW z:=by
 unfold nxtW
 split <;> rfl
theorem Fol.sim {S: PS} {w x: Wd} (h: Fol S w x): ∀ {w': Wd},shW w=shW w'->∃ x',Fol S w' x'/\shW x=shW x':=by
 induction h with
 | stop h=>exact fun {w'} e=>⟨w',.stop (by rw [<- ga e];exact h),e⟩
 | next h _ ih =>
  intro w' e;obtain⟨x',h1,h2⟩:=ih (w':=nxtW w' _) sh_nxt;exact⟨x',.next (by rw [<- ga e];exact h) h1,h2⟩
theorem RdE.sim {S: PS} {d: Nat} {w w': Wd} {T: Tm} (h: RdE S d w T) (e: shW w=shW w'): RdE S d w' T:=by
 cases h with
 | int hf h =>
  rename_i d x
  obtain⟨x',h1,h2⟩:=hf.sim e;have:=RdE.int (d:=d) h1 (by have e2:=congrArg Wd.tag h2;exact e2.symm.trans h);rw [show x'.n=x.n from by have e2:=congrArg Wd.n h2;exact e2.symm] at this;exact this
 | atom hf h =>
  rename_i d x
  obtain⟨x',h1,h2⟩:=hf.sim e;have:=RdE.atom (d:=d) h1 (by have e2:=congrArg Wd.tag h2;exact e2.symm.trans h);rw [show x'.s=x.s from by have e2:=congrArg Wd.s h2;exact e2.symm] at this;exact this
 | str hf h =>
  rename_i d x
  obtain⟨x',h1,h2⟩:=hf.sim e;have:=RdE.str (d:=d) h1 (by have e2:=congrArg Wd.tag h2;exact e2.symm.trans h);rw [show x'.s=x.s from by have e2:=congrArg Wd.s h2;exact e2.symm] at this;exact this
 | var hf h =>
  rename_i d x hk
  obtain⟨x',h1,h2⟩:=hf.sim e;have:=RdE.var (d:=d) h1 ((ga h2).symm.trans h);rw [show x'.n=x.n from by have e2:=congrArg Wd.n h2;exact e2.symm] at this;exact this
 | fn hf h hl hr =>
  obtain⟨x',h1,h2⟩:=hf.sim e;exact RdE.fn h1 ((ga h2).symm.trans h) hl hr
 | vec hf h hl hr =>
  obtain⟨x',h1,h2⟩:=hf.sim e;exact RdE.vec h1 ((ga h2).symm.trans h) hl hr
theorem RdE.on {S: PS} {d: Nat} {w v: Wd} {T: Tm} (h: RdE S d w T) (hs: Stp S w v): RdE S d v T:=by
 cases h with
 | int hf h=>exact .int (hs.rest hf) h
 | atom hf h=>exact .atom (hs.rest hf) h
 | str hf h=>exact .str (hs.rest hf) h
 | var hf h=>exact .var (hs.rest hf) h
 | fn hf h hl hr=>exact .fn (hs.rest hf) h hl hr
 | vec hf h hl hr=>exact .vec (hs.rest hf) h hl hr
theorem ndsL_anyV (p: Tm->Bool): ∀ ts: List Tm,(ndsL ts).any p=ts.any fun t=>(nds t).any p
 | []=>by rw [ndsL];rfl
 | t::ts=>by rw [ndsL,List.any_append,List.any_cons,ndsL_anyV p ts]
theorem d8 (n: Int) (t: Tm): occV n t=((decide (t.kind=1)&&decide (t.n=n))||t.l.any (occV n)):=by
 unfold occV;rw [gm,List.any_cons,ndsL_anyV]
mutual
theorem fA {a: Int} {U: Tm}: ∀ t: Tm,occV a t=false->sbT a U t=t
 | .mk k n s l,h=>by
  rw [d8,Bool.or_eq_false_iff] at h;have h1: ¬(k=1/\n=a):=by
   rintro⟨rfl,rfl⟩;have:=h.1;simp [Tm.kind,Tm.n] at this
  rw [sbT,if_neg h1,sbL_free l (fun t ht=>by
   have:=List.any_eq_false.1 h.2 t ht;simpa using this)]
theorem sbL_free {a: Int} {U: Tm}: ∀ ts: List Tm,(∀ t ∈ ts,occV a t=false)->sbL a U ts=ts
 | [],_=>by rw [sbL]
 | t::ts,h=>by rw [sbL,fA t (h t List.mem_cons_self),sbL_free ts (fun u hu=>h u (List.mem_cons_of_mem _ hu))]
end
section
variable {S: PS} {a: Nat} {y: Wd} {hk0: List Int}
theorem eM (h0: S[a]? =some (some (.var [] hk0))) (w: Wd):(atS S w=some (.var [] hk0)/\atS (S.set a (some (.var [y] []))) w=some (.var [y] [])/\w.n=(a: Int))\/(atS (S.set a (some (.var [y] []))) w=atS S w/\∀ b,atS S w=some b->w.n≠(a: Int)):=by
 have hlt:=(List.getElem?_eq_some_iff.1 h0).1
 by_cases hn: w.n=(a: Int)
 ·by_cases hok: w.s=⟨#[]⟩/\w.tag=4
  ·left
   refine⟨(bU (tg:=PB.tag) (b:=.var [] hk0) j0 j0 hok.1 (by rw [hn,Int.toNat_natCast];exact h0)).trans (if_pos (show w.tag=PB.tag (.var [] hk0) from hok.2)),(bU (tg:=PB.tag) (b:=.var [y] []) j0 (by rw [List.length_set];omega) hok.1 (by rw [hn,Int.toNat_natCast,List.getElem?_set,if_pos J,if_pos hlt])).trans (if_pos (show w.tag=PB.tag (.var [y] []) from hok.2)),hn⟩
  ·right
   have none_: ∀(S': PS) (c: PB),S'[a]? =some (some c)->c.tag=4->atS S' w=none:=fun S' c hc ht=>by
    cases hb: atS S' w with
    | none=>rfl
    | some b =>
     have hg:=ay hb;have h3:=hg.2.2.2.1;rw [hn,Int.toNat_natCast,hc] at h3;obtain rfl:=Option.some.inj (Option.some.inj h3);exact absurd ⟨hg.2.2.1,hg.2.2.2.2.trans ht⟩ hok
   have e1:=none_ S _ h0 J;have e2:=none_ (S.set a (some (.var [y] []))) (.var [y] []) (by rw [List.getElem?_set,if_pos J,if_pos hlt]) J;exact⟨e2.trans e1.symm,fun b hb=>by rw [e1] at hb;cases hb⟩
 ·right
  refine⟨?_,fun b _=>hn⟩
  by_cases hw: w.n < 0
  ·exact(ck (l:=S.set a _) (tg:=PB.tag) (.inl hw)).trans (ck (l:=S) (tg:=PB.tag) (.inl hw)).symm
  ·exact dU j0
theorem fol_bind (h0: S[a]? =some (some (.var [] hk0))) {w x: Wd} (h: Fol S w x): Stp (S.set a (some (.var [y] []))) w x/\(atS S x≠some (.var [] hk0)\/x.n≠(a: Int)->Fol (S.set a (some (.var [y] []))) w x):=by
 induction h with
 | stop h =>
  rename_i w
  refine⟨.refl,fun hne=>.stop fun z zs hk e=>?_⟩
  rcases eM (y:=y) h0 w with ⟨h1,_,h3⟩ |⟨h1,_⟩
  ·rcases hne with hne | hne
   ·exact hne h1
   ·exact hne h3
  ·rw [h1] at e;exact h z zs hk e
 | next h _ ih =>
  rename_i w z x zs hk _
  rcases eM (y:=y) h0 w with ⟨h1,_,_⟩ |⟨h1,_⟩
  ·rw [h] at h1;injection Option.some.inj h1 with e1 _
   cases e1
  ·exact⟨.step (h1.trans h) ih.1,fun hne=>.next (h1.trans h) (ih.2 hne)⟩
theorem gr (U: Tm): ∀ {Ts Ts': List Tm},Ts.length=Ts'.length->(∀(i: Nat) T T',Ts[i]? =some T->Ts'[i]? =some T'->T'=sbT a U T)->Ts'=sbL a U Ts
 | [], [],_,_=>by rw [sbL]
 | [],_::_,h,_=>by cases h
 | _::_, [],h,_=>by cases h
 | T::Ts,T'::Ts',h,hp=>by
  rw [sbL,hp 0 T T' J J,<- gr U (Ts:=Ts) (Ts':=Ts') (by simpa using h) (fun i A B hA hB=>hp (i+1) A B (by simpa using hA) (by simpa using hB))]
theorem bind_read (h0: S[a]? =some (some (.var [] hk0))) {U: Tm}: ∀(d: Nat) (w: Wd) (T: Tm) (d': Nat) (T': Tm),RdE S d w T->(occV a T=true->∀ d T,RdE (S.set a (some (.var [y] []))) d y T->T=U)->RdE (S.set a (some (.var [y] []))) d' w T'->T'=sbT a U T:=by
 intro d
 induction d with
 | zero=>intro w T d' T' h;cases h
 | succ d ih =>
  intro w T d' T' h hy h';have key: ∀ {x x': Wd},Fol S w x->Fol (S.set a (some (.var [y] []))) w x'->(atS S x≠some (.var [] hk0)\/x.n≠(a: Int))->x'=x/\atS (S.set a (some (.var [y] []))) x=atS S x:=fun {x x'} hf hf' hne=>by
   have h1:=((fol_bind (y:=y) h0 hf).2 hne).det hf';refine⟨h1.symm,?_⟩
   rcases eM (y:=y) h0 x with ⟨g1,_,g3⟩ |⟨g1,_⟩
   ·rcases hne with hne | hne
    ·exact absurd g1 hne
    ·exact absurd g3 hne
   ·exact g1
  have lit: ∀ {x: Wd} {b: PB},atS S x=some b->x.tag=b.tag:=fun h=>(ay h).2.2.2.2;have lit': ∀ {x: Wd} {b: PB},atS (S.set a (some (.var [y] []))) x=some b->x.tag=b.tag:=fun h=>(ay h).2.2.2.2;have nol: ∀ {x: Wd},(x.tag=1\/x.tag=2\/x.tag=3)->(atS S x≠some (.var [] hk0)\/x.n≠(a: Int)):=fun h=>.inl fun e=>by
   have:=lit e;simp only [PB.tag] at this;omega
  cases h with
  | int hf ht =>
   cases h' with
   | int hf' ht'=>obtain ⟨rfl,_⟩:=key hf hf' (nol (.inl ht));rw [sbT,if_neg j0,sbL]
   | atom hf' ht'=>obtain ⟨rfl,_⟩:=key hf hf' (nol (.inl ht));omega
   | str hf' ht'=>obtain ⟨rfl,_⟩:=key hf hf' (nol (.inl ht));omega
   | var hf' ht'=>obtain ⟨rfl,_⟩:=key hf hf' (nol (.inl ht));have:=lit' ht';simp only [PB.tag] at this;omega
   | fn hf' ht' _ _=>obtain ⟨rfl,_⟩:=key hf hf' (nol (.inl ht));have:=lit' ht';simp only [PB.tag] at this;omega
   | vec hf' ht' _ _=>obtain ⟨rfl,_⟩:=key hf hf' (nol (.inl ht));have:=lit' ht';simp only [PB.tag] at this;omega
  | atom hf ht =>
   cases h' with
   | int hf' ht'=>obtain ⟨rfl,_⟩:=key hf hf' (nol (.inr (.inl ht)));omega
   | atom hf' ht'=>obtain ⟨rfl,_⟩:=key hf hf' (nol (.inr (.inl ht)));rw [sbT,if_neg j0,sbL]
   | str hf' ht'=>obtain ⟨rfl,_⟩:=key hf hf' (nol (.inr (.inl ht)));omega
   | var hf' ht'=>obtain ⟨rfl,_⟩:=key hf hf' (nol (.inr (.inl ht)));have:=lit' ht';simp only [PB.tag] at this;omega
   | fn hf' ht' _ _=>obtain ⟨rfl,_⟩:=key hf hf' (nol (.inr (.inl ht)));have:=lit' ht';simp only [PB.tag] at this;omega
   | vec hf' ht' _ _=>obtain ⟨rfl,_⟩:=key hf hf' (nol (.inr (.inl ht)));have:=lit' ht';simp only [PB.tag] at this;omega
  | str hf ht =>
   cases h' with
   | int hf' ht'=>obtain ⟨rfl,_⟩:=key hf hf' (nol (.inr (.inr ht)));omega
   | atom hf' ht'=>obtain ⟨rfl,_⟩:=key hf hf' (nol (.inr (.inr ht)));omega
   | str hf' ht'=>obtain ⟨rfl,_⟩:=key hf hf' (nol (.inr (.inr ht)));rw [sbT,if_neg j0,sbL]
   | var hf' ht'=>obtain ⟨rfl,_⟩:=key hf hf' (nol (.inr (.inr ht)));have:=lit' ht';simp only [PB.tag] at this;omega
   | fn hf' ht' _ _=>obtain ⟨rfl,_⟩:=key hf hf' (nol (.inr (.inr ht)));have:=lit' ht';simp only [PB.tag] at this;omega
   | vec hf' ht' _ _=>obtain ⟨rfl,_⟩:=key hf hf' (nol (.inr (.inr ht)));have:=lit' ht';simp only [PB.tag] at this;omega
  | var hf ht =>
   rename_i x hk
   by_cases hx: x.n=(a: Int)
   ·rcases eM (y:=y) h0 x with ⟨g1,g2,_⟩ |⟨_,g2⟩
    ·have hstp: Stp (S.set a (some (.var [y] []))) w (nxtW x y):=(fol_bind (y:=y) h0 hf).1.trans (.step g2 .refl);have h3:=(h'.on hstp).sim (sh_nxt0 (w:=x) (z:=y));rw [sbT,if_pos ⟨rfl,hx⟩];exact hy (by rw [d8];simp [Tm.kind,Tm.n,hx]) _ _ h3
    ·exact absurd hx (g2 _ ht)
   ·cases h' with
    | int hf' ht'=>obtain ⟨rfl,_⟩:=key hf hf' (.inr hx);have:=lit ht;simp only [PB.tag] at this;omega
    | atom hf' ht'=>obtain ⟨rfl,_⟩:=key hf hf' (.inr hx);have:=lit ht;simp only [PB.tag] at this;omega
    | str hf' ht'=>obtain ⟨rfl,_⟩:=key hf hf' (.inr hx);have:=lit ht;simp only [PB.tag] at this;omega
    | var hf' ht'=>obtain ⟨rfl,_⟩:=key hf hf' (.inr hx);rw [sbT,if_neg (by rintro⟨_,h⟩;exact hx h),sbL]
    | fn hf' ht' _ _=>obtain ⟨rfl,e⟩:=key hf hf' (.inr hx);rw [e,ht] at ht';cases ht'
    | vec hf' ht' _ _=>obtain ⟨rfl,e⟩:=key hf hf' (.inr hx);rw [e,ht] at ht';cases ht'
  | fn hf ht hl hr =>
   have hne: ∀ {x: Wd} {s: ByteArray} {ws: List Wd},atS S x=some (.fn s ws)->(atS S x≠some (.var [] hk0)\/x.n≠(a: Int)):=fun h=>.inl fun e=>by rw [h] at e;cases e
   cases h' with
   | int hf' ht'=>obtain ⟨rfl,_⟩:=key hf hf' (hne ht);have:=lit ht;simp only [PB.tag] at this;omega
   | atom hf' ht'=>obtain ⟨rfl,_⟩:=key hf hf' (hne ht);have:=lit ht;simp only [PB.tag] at this;omega
   | str hf' ht'=>obtain ⟨rfl,_⟩:=key hf hf' (hne ht);have:=lit ht;simp only [PB.tag] at this;omega
   | var hf' ht'=>obtain ⟨rfl,e⟩:=key hf hf' (hne ht);rw [e,ht] at ht';cases ht'
   | vec hf' ht' _ _=>obtain ⟨rfl,e⟩:=key hf hf' (hne ht);rw [e,ht] at ht';cases ht'
   | fn hf' ht' hl' hr' =>
    obtain⟨rfl,e⟩:=key hf hf' (hne ht);rw [e,ht] at ht';injection Option.some.inj ht' with e1 e2
    subst e1 e2;rw [sbT,if_neg j0,<- gr (a:=a) U (hl.symm.trans hl') (fun i A B hA hB=>by
     obtain⟨z,hz⟩: ∃ z,(_: List Wd)[i]? =some z:=⟨_,List.getElem?_eq_getElem (by rw [hl];exact(List.getElem?_eq_some_iff.1 hA).1)⟩;exact ih z A _ B (hr i z A hz hA) (fun ho=>hy (by rw [d8,Bool.or_eq_true];exact .inr (List.any_eq_true.2 ⟨A,List.mem_of_getElem? hA,ho⟩))) (hr' i z B hz hB))]
  | vec hf ht hl hr =>
   have hne: ∀ {x: Wd} {ws: List Wd},atS S x=some (.vec ws)->(atS S x≠some (.var [] hk0)\/x.n≠(a: Int)):=fun h=>.inl fun e=>by rw [h] at e;cases e
   cases h' with
   | int hf' ht'=>obtain ⟨rfl,_⟩:=key hf hf' (hne ht);have:=lit ht;simp only [PB.tag] at this;omega
   | atom hf' ht'=>obtain ⟨rfl,_⟩:=key hf hf' (hne ht);have:=lit ht;simp only [PB.tag] at this;omega
   | str hf' ht'=>obtain ⟨rfl,_⟩:=key hf hf' (hne ht);have:=lit ht;simp only [PB.tag] at this;omega
   | var hf' ht'=>obtain ⟨rfl,e⟩:=key hf hf' (hne ht);rw [e,ht] at ht';cases ht'
   | fn hf' ht' _ _=>obtain ⟨rfl,e⟩:=key hf hf' (hne ht);rw [e,ht] at ht';cases ht'
   | vec hf' ht' hl' hr' =>
    obtain⟨rfl,e⟩:=key hf hf' (hne ht);rw [e,ht] at ht';injection Option.some.inj ht' with e1
    subst e1;rw [sbT,if_neg j0,<- gr (a:=a) U (hl.symm.trans hl') (fun i A B hA hB=>by
     obtain⟨z,hz⟩: ∃ z,(_: List Wd)[i]? =some z:=⟨_,List.getElem?_eq_getElem (by rw [hl];exact(List.getElem?_eq_some_iff.1 hA).1)⟩;exact ih z A _ B (hr i z A hz hA) (fun ho=>hy (by rw [d8,Bool.or_eq_true];exact .inr (List.any_eq_true.2 ⟨A,List.mem_of_getElem? hA,ho⟩))) (hr' i z B hz hB))]
end
theorem SR.inst {x: StV} {h h': HS} {ws ws' bs bs': List Wd} {w: Wd} {T T': Tm} (hs: SR x (h,ws,bs) (h',ws',bs')) (hd: DI h ws bs) (hw: w ∈ ws++bs) (hnr: ¬((ixZ x.kd 9=5\/ixZ x.kd 9=6)/\w.one=true/\(w.tag=5\/w.tag=6))) (h1: readS h.S w=(T,0)) (h2: readS h'.S w=(T',0)): T'=T\/(ixZ x.kd 9=3/\∃(a: Int) (U: Tm) (y: Wd),T'=sbT a U T/\readS h.S y=(U,0)):=by
 rcases hs.read hd hw hnr h1 h2 with h3 |⟨hk,y,v,ws1,i,e1,hv,hi,rfl⟩
 ·exact .inl h3
 ·right
  refine⟨hk,v.n,(readS h.S y).1,y,?_,Prod.ext J (gj hi).1⟩;obtain⟨hr,ho⟩:=gj hi;have hd2:=dV (hd.tk e1) hv;have hu:=hd2.bv v List.mem_cons_self;have hrv:=fx hu (cB hu.2.2);rw [hrv] at ho;have ho: occV v.n (readS h.S y).1=false:=ho;obtain⟨g,hb,hg,_⟩:=hd2.bind (T:=(readS h.S y).1) (Prod.ext J hr) (fun hk hn=>by
   unfold occV at ho;rw [List.any_eq_false] at ho;refine ho (readS h.S y).1 (by cases (readS h.S y).1;rw [nds];exact List.mem_cons_self) ?_;rw [Bool.and_eq_true,decide_eq_true_eq,decide_eq_true_eq];exact⟨hk,hn⟩)
  rw [hb] at h2;have h2: readS g.S w=(T',0):=h2;rw [hg] at h2;obtain⟨g1,g2,g3,g4,g5⟩:=ay hu.2.2;have ea:((v.n.toNat: Nat): Int)=v.n:=by omega
  obtain⟨_,r1,q1⟩:=cX.1 h1;obtain⟨_,r2,q2⟩:=cX.1 h2;obtain⟨_,r3,q3⟩:=cX.1 (show readS h.S y=((readS h.S y).1,0) from Prod.ext J hr);have key:=bind_read (y:=y) g4 (U:=(readS h.S y).1) 600 w T 600 T' (gu _ _ _ _ _ q1) (fun _ d T2 h4=>by
   have h5:=bind_read (y:=y) g4 (U:=Tm.zero) 600 y _ d T2 (gu _ _ _ _ _ q3) (fun hoc=>by rw [ea,ho] at hoc;cases hoc) h4;rw [h5,fA _ (by rw [ea];exact ho)]) (gu _ _ _ _ _ q2)
  rw [ea] at key;exact key
end Go.Vk
namespace Go.Vk
def FO (S: PS): Prop:= ∀(j: Nat) s l,S[j]? =some (some (.fn s l))->nmB s=true/\1<=l.length/\l.length<=16
def FOb (b: PB): Prop:= ∀ s l,b=.fn s l->nmB s=true/\1<=l.length/\l.length<=16
theorem FO.new (n: Nat): FO (HS.new n).S:=fun j s l hj=>by
 simp only [HS.new,List.getElem?_replicate] at hj
 split at hj <;> cases hj
theorem FO.set {S: PS} {a: Nat} {c: PB} (h: FO S) (hc: FOb c): FO (S.set a (some c)):=fun j s l hj=>by
 rcases bp hj with ⟨_,e⟩ |⟨_,h4⟩
 ·exact hc s l (Option.some.inj e).symm
 ·exact h j s l h4
theorem FO.del {S: PS} {a: Nat} (h: FO S): FO (S.set a none):=fun j s l hj=>by
 rcases bp hj with ⟨_,e⟩ |⟨_,h4⟩
 ·cases e
 ·exact h j s l h4
theorem FO.place {h: HS} {b: PB} (hf: FO h.S) (hb: FOb b): FO (h.place b).1.S:=by
 unfold HS.place;dsimp only
 split
 ·exact hf
 ·exact hf.set hb
theorem FO.clear {h: HS} {a: Nat} (hf: FO h.S): FO (h.clear a).S:=by
 unfold HS.clear
 split
 ·exact hf.del
 ·exact hf
theorem dY (to: List Wd) (hk: List Int): FOb (.var to hk):=fun _ _ e=>by cases e
theorem eR (l: List Wd): FOb (.vec l):=fun _ _ e=>by cases e
section
variable {h: HS}
theorem FO.fun_ {s: ByteArray} {l: List Wd} (hf: FO h.S): FO (h.fun_ s l).1.S:=by
 unfold HS.fun_
 split
 ·exact hf
 ·rename_i h1
  split
  ·exact hf
  ·split
   ·exact hf
   ·rename_i h3
    exact hf.place fun s' l' e=>by
     injection e with e1 e2
     subst e1 e2;exact⟨by simpa using h1,by omega,by omega⟩
theorem FO.vec {l: List Wd} (hf: FO h.S): FO (h.vec l).1.S:=by
 unfold HS.vec
 repeat' split
 all_goals first | exact hf | exact hf.place (eR _)
theorem FO.free {w: Wd} (hf: FO h.S): FO (h.free w).1.S:=by
 unfold HS.free
 repeat' split
 all_goals first | exact hf | exact hf.clear
theorem FO.bind {v x: Wd} (hf: FO h.S): FO (h.bind v x).1.S:=by
 unfold HS.bind;dsimp only
 repeat' split
 all_goals first | exact hf | exact hf.set (dY _ _) | exact(hf.set (dY _ _)).set (dY _ _)
theorem FO.update {w x: Wd} {i: Int} (hf: FO h.S): FO (h.update w i x).1.S:=by
 unfold HS.update;dsimp only
 repeat' split
 all_goals first | exact hf | exact hf.set (eR _) | exact(hf.place (eR _)).set (eR _)
theorem FO.reuse {w: Wd} {s: ByteArray} {l: List Wd} (hf: FO h.S): FO (h.reuse w s l).1.S:=by
 unfold HS.reuse
 split
 ·rename_i s0 l0 hb
  have h0:=hf _ _ _ (ay hb).2.2.2.1
  split
  ·exact hf
  ·split
   ·exact hf
   ·rename_i h2
    split
    ·exact hf
    ·split
     ·exact hf
     ·rename_i h4
      exact hf.set fun s' l' e=>by
       injection e with e1 e2
       subst e1 e2;exact⟨by simpa using h2,by omega,by omega⟩
 ·exact hf
end
theorem SR.fo {x: StV} {h h': HS} {ws ws' bs bs': List Wd} (hs: SR x (h,ws,bs) (h',ws',bs')) (hf: FO h.S): FO h'.S:=by
 cases hs with
 | var e=>exact hf.place (dY _ _)
 | var0 e=>exact hf.place (dY _ _)
 | fn e1 e2=>exact hf.fun_
 | vec e1 e2 e3=>exact hf.vec
 | same=>exact hf
 | ins e1 hv=>exact hf
 | bnd hk' e1 hv hi=>exact hf.bind
 | free k e1 e=>exact hf.free
 | back k e1=>exact hf
 | back2 e1 e2=>exact hf
 | shr=>exact hf
 | reuse ks hk' k e1 ht ho hp hl hn=>exact hf.reuse
 | updi hk' e1 e2 ht hp hl hi e h1'=>exact hf.update
 | updc e1 e2 ht hp hl hi e h1'=>exact hf.update
theorem nxt_word {S: PS} {w z: Wd} (hz: wordS S z=true): wordS S (nxtW w z)=true:=by
 unfold nxtW
 split
 ·rename_i hrf
  unfold wordS at hz ⊢;unfold refB at hrf;simp only [Bool.or_eq_true,decide_eq_true_eq] at hrf;rw [if_neg j0,if_neg j0,if_neg j0] at hz;rw [if_neg (by show ¬ z.tag=1;omega),if_neg (by show ¬ z.tag=2;omega),if_neg (by show ¬ z.tag=3;omega)];exact hz
 ·exact hz
end Go.Vk
